/- The contract of the law's function. -/
import Derived.Test.YthhjcfejgoddlaaGreatDoorJb
import Derived.Test.YthhjcfejgoddlaaGreatDoorKb
import Derived.Test.YthhjcfejgoddlaaGreatDoorJc
import Derived.Test.YthhjcfejgoddlaaGreatDoorJa
import Derived.OwnWalkIn
import Derived.TacticsInMore
import Derived.LoopNIn
import Derived.LoopIn
section
set_option linter.unusedSimpArgs false
set_option linter.unusedVariables false
set_option maxRecDepth 100000
namespace Go.Proofs.YthhjcfejgoddlaaGreatDoor
open Go Go.Abs

/-- Results as pairs: the integer and the error. -/
def limP (z : Int) : Int × Int := if lenZ z ≤ 40 then (z, 0) else (0, 2)
def GP (p : Int × Int) : AV := GZ p.1 p.2
def okP (p : Int × Int) : Prop := lenZ p.1 ≤ 40
theorem lenZ_0 : lenZ 0 ≤ 40 := by unfold lenZ; rw [Int.natAbs_zero, D_zero]; exact Nat.zero_le _
theorem limR_P (z : Int) : limR z = .tup [Z (limP z).1, I (limP z).2] := by
  unfold limR limP
  split
  · rfl
  · show _ = AV.tup [Z 0, I 2]
    rw [Z_zero]
theorem limP_ok (z : Int) : okP (limP z) := by
  unfold limP okP
  split
  · assumption
  · exact lenZ_0
theorem gotP (p : Int × Int) : PC Tryz.prog 24 [Z p.1, I p.2] (GP p) := got_pc _ _ _
theorem got_lim (z : Int) : PC Tryz.prog 24 [Z (limP z).1, I (limP z).2] (GP (limP z)) := gotP _
theorem valP (x : Int) : PC Tryz.prog 21 [Z x] (GP (x, 0)) := val_pc _ _
def sumP (p q : Int × Int) : Int × Int := if p.2 = 0 ∧ q.2 = 0 then limP (p.1 + q.1) else (0, 2)
def timesP (p q : Int × Int) : Int × Int := if p.2 = 0 ∧ q.2 = 0 then limP (p.1 * q.1) else (0, 2)
theorem sumP_ok (p q : Int × Int) : okP (sumP p q) := by unfold sumP; split; exact limP_ok _; exact lenZ_0
theorem timesP_ok (p q : Int × Int) : okP (timesP p q) := by unfold timesP; split; exact limP_ok _; exact lenZ_0
theorem GP_02 : GP (0, 2) = .agg [B false, L [], I 2] := by
  show Gr (decide ((0 : Int) < 0)) (D (Int.natAbs 0)) 2 = _
  rw [Int.natAbs_zero, D_zero]; rfl
theorem PC.weak {f : FuncId} {args : List AV} {r r' : AV} (h : PC Tryz.prog f args r) (k : ∀ A w v, RV φ0 0 A w r v → RV φ0 0 A w r' v) : PC Tryz.prog f args r' :=
  ⟨h.1, fun w A vs hg hl hv => (h.2 w A vs hg hl hv).mono fun e w' ⟨v, he, hb, hrv⟩ => ⟨v, he, hb, k _ _ _ hrv⟩⟩
theorem RV_nilL {A : Nat → Nat → Prop} {w : World} {x y : AV} {v : Value} (h : RV φ0 0 A w (.agg [x, .nil, y]) v) : RV φ0 0 A w (.agg [x, L [], y]) v := by
  cases h with
  | agg _ vs hl h h1 =>
    refine .agg _ vs hl (fun j z hz => ?_) h1
    rcases j with _ | _ | _ | j
    · exact h 0 _ hz
    · have h2 := h 1 _ rfl
      obtain rfl := Option.some.inj hz
      cases hv : vs.getD 1 undef
      all_goals rw [hv] at h2; cases h2
      exact .dat _ _ (.emp _ _)
    · exact h 2 _ hz
    · simp at hz
theorem sum_P (p q : Int × Int) (hp : okP p) (hq : okP q) : PC Tryz.prog 28 [GP p, GP q] (GP (sumP p q)) := by
  obtain ⟨x, e⟩ := p
  obtain ⟨y, f⟩ := q
  have h := Add_ok x y hp hq
  rw [limR_P] at h
  have g := got_lim (x + y)
  unfold sumP
  by_cases h1 : e = 0 <;> by_cases h2 : f = 0
  · subst h1; subst h2
    rw [if_pos ⟨rfl, rfl⟩]
    simp only [GP, GZ, Gr] at g ⊢
    refine PCr.pc (PCr.of tab_ok Tryz.func28 rfl rfl rfl fun c hc hm => ?_)
    rw [show Tryz.f28.ntmps = _ from Tryz.ntmps28] at hc
    simp only [Tryz.f28]
    repeat' first
      | (refine AWp.seq fun K hK => ?_)
      | ((first | refine AWp.region (by rw [hc]; rfl) ?_ | refine AWp.skip ?_ | refine AWp.exit ?_ | refine AWp.label ?_ | refine AWp.ret ?_ | refine appK_g ?_); simp -implicitDefEqProofs (maxSteps := 1000000) (disch := omega) only [go_sem, wrap64, Int.tdiv_eq_ediv_of_nonneg, Int.tmod_eq_emod_of_nonneg, Nat.reduceAdd, Nat.reduceMul, Nat.reduceEqDiff, Nat.reduceLT, Nat.reduceLeDiff, Int.reduceEq, Int.reduceNeg, Int.reduceToNat, reduceCtorEq, eq_self, Bool.false_eq_true, Bool.true_eq_false, ↓reduceIte, Int.reduceBNe])
      | (refine hK _ ?_; clear hK)
      | (clear hK; refine hK _ ?_; clear hK)
      | (clear hK; clear hK; refine hK _ ?_; clear hK)
      | (clear hK; clear hK; clear hK; refine hK _ ?_; clear hK)
      | (refine AWp.cond ?_; simp -implicitDefEqProofs (maxSteps := 1000000) (disch := omega) only [go_sem, wrap64, Int.tdiv_eq_ediv_of_nonneg, Int.tmod_eq_emod_of_nonneg, Nat.reduceAdd, Nat.reduceMul, Nat.reduceEqDiff, Nat.reduceLT, Nat.reduceLeDiff, Int.reduceEq, Int.reduceNeg, Int.reduceToNat, reduceCtorEq, eq_self, Bool.false_eq_true, Bool.true_eq_false, ↓reduceIte, Int.reduceBNe]; try (refine ⟨fun hlt => ?_, fun hlt => ?_⟩ <;> (try simp only [decide_eq_true_eq, decide_eq_false_iff_not, beq_iff_eq, bne_iff_ne, ne_eq, beq_eq_false_iff_ne, bne_eq_false_iff_eq, Bool.true_eq_false, Bool.false_eq_true, Int.not_lt, Int.not_le, Decidable.not_not, gt_iff_lt, ge_iff_le, reduceCtorEq] at hlt) <;> (try exact hlt.elim)))
      | (refine AWp.block ?_)
      | ((first | refine gdO_split (fun hlt => ?_) (fun hlt => ?_) | refine tkO_split (fun hlt => ?_) (fun hlt => ?_) | refine opO_split (fun hlt => ?_) (fun hlt => ?_)) <;> have hgd := hlt <;> (try simp only [decide_eq_true_eq, decide_eq_false_iff_not, beq_iff_eq, bne_iff_ne, ne_eq, beq_eq_false_iff_ne, bne_eq_false_iff_eq, Bool.not_eq_true, Bool.not_eq_false, Bool.not_eq_eq_eq_not, Int.not_lt, Int.not_le, Decidable.not_not, gt_iff_lt, ge_iff_le] at hlt) <;> (simp -implicitDefEqProofs (maxSteps := 1000000) (disch := omega) only [go_sem, wrap64, Int.tdiv_eq_ediv_of_nonneg, Int.tmod_eq_emod_of_nonneg, Nat.reduceAdd, Nat.reduceMul, Nat.reduceEqDiff, Nat.reduceLT, Nat.reduceLeDiff, Int.reduceEq, Int.reduceNeg, Int.reduceToNat, reduceCtorEq, eq_self, Bool.false_eq_true, Bool.true_eq_false, ↓reduceIte, Int.reduceBNe, hgd]) <;> clear hgd)
      | (with_reducible refine And.intro ?_ ?_; · first | omega | assumption | exact ⟨_, _, rfl, rfl⟩)
      | ((first | refine ⟨_, h, ?_⟩ | refine ⟨_, g, ?_⟩); simp -implicitDefEqProofs (maxSteps := 1000000) (disch := omega) only [go_sem, wrap64, Int.tdiv_eq_ediv_of_nonneg, Int.tmod_eq_emod_of_nonneg, Nat.reduceAdd, Nat.reduceMul, Nat.reduceEqDiff, Nat.reduceLT, Nat.reduceLeDiff, Int.reduceEq, Int.reduceNeg, Int.reduceToNat, reduceCtorEq, eq_self, Bool.false_eq_true, Bool.true_eq_false, ↓reduceIte, Int.reduceBNe])
      | fail
  all_goals
    rw [if_neg (by simp only [h1, h2]; decide), GP_02]
    simp only [GP, GZ, Gr]
    refine PCr.pc (PCr.of tab_ok Tryz.func28 rfl rfl rfl fun c hc hm => ?_)
    rw [show Tryz.f28.ntmps = _ from Tryz.ntmps28] at hc
    simp only [Tryz.f28]
    repeat' first
      | (refine AWp.seq fun K hK => ?_)
      | ((first | refine AWp.region (by rw [hc]; rfl) ?_ | refine AWp.skip ?_ | refine AWp.exit ?_ | refine AWp.label ?_ | refine AWp.ret ?_ | refine appK_g ?_); simp -implicitDefEqProofs (maxSteps := 1000000) (disch := omega) only [go_sem, wrap64, Int.tdiv_eq_ediv_of_nonneg, Int.tmod_eq_emod_of_nonneg, Nat.reduceAdd, Nat.reduceMul, Nat.reduceEqDiff, Nat.reduceLT, Nat.reduceLeDiff, Int.reduceEq, Int.reduceNeg, Int.reduceToNat, reduceCtorEq, eq_self, Bool.false_eq_true, Bool.true_eq_false, ↓reduceIte, Int.reduceBNe])
      | (refine hK _ ?_; clear hK)
      | (clear hK; refine hK _ ?_; clear hK)
      | (clear hK; clear hK; refine hK _ ?_; clear hK)
      | (clear hK; clear hK; clear hK; refine hK _ ?_; clear hK)
      | (refine AWp.cond ?_; simp -implicitDefEqProofs (maxSteps := 1000000) (disch := omega) only [go_sem, wrap64, Int.tdiv_eq_ediv_of_nonneg, Int.tmod_eq_emod_of_nonneg, Nat.reduceAdd, Nat.reduceMul, Nat.reduceEqDiff, Nat.reduceLT, Nat.reduceLeDiff, Int.reduceEq, Int.reduceNeg, Int.reduceToNat, reduceCtorEq, eq_self, Bool.false_eq_true, Bool.true_eq_false, ↓reduceIte, Int.reduceBNe]; try (refine ⟨fun hlt => ?_, fun hlt => ?_⟩ <;> (try simp only [decide_eq_true_eq, decide_eq_false_iff_not, beq_iff_eq, bne_iff_ne, ne_eq, beq_eq_false_iff_ne, bne_eq_false_iff_eq, Bool.true_eq_false, Bool.false_eq_true, Int.not_lt, Int.not_le, Decidable.not_not, gt_iff_lt, ge_iff_le, reduceCtorEq] at hlt) <;> (try exact hlt.elim)))
      | (refine AWp.block ?_)
      | ((first | refine gdO_split (fun hlt => ?_) (fun hlt => ?_) | refine tkO_split (fun hlt => ?_) (fun hlt => ?_) | refine opO_split (fun hlt => ?_) (fun hlt => ?_)) <;> have hgd := hlt <;> (try simp only [decide_eq_true_eq, decide_eq_false_iff_not, beq_iff_eq, bne_iff_ne, ne_eq, beq_eq_false_iff_ne, bne_eq_false_iff_eq, Bool.not_eq_true, Bool.not_eq_false, Bool.not_eq_eq_eq_not, Int.not_lt, Int.not_le, Decidable.not_not, gt_iff_lt, ge_iff_le] at hlt) <;> (simp -implicitDefEqProofs (maxSteps := 1000000) (disch := omega) only [go_sem, wrap64, Int.tdiv_eq_ediv_of_nonneg, Int.tmod_eq_emod_of_nonneg, Nat.reduceAdd, Nat.reduceMul, Nat.reduceEqDiff, Nat.reduceLT, Nat.reduceLeDiff, Int.reduceEq, Int.reduceNeg, Int.reduceToNat, reduceCtorEq, eq_self, Bool.false_eq_true, Bool.true_eq_false, ↓reduceIte, Int.reduceBNe, hgd]) <;> clear hgd)
      | (with_reducible refine And.intro ?_ ?_; · first | omega | assumption | exact ⟨_, _, rfl, rfl⟩)
      | fail
    all_goals first | rfl | contradiction
theorem times_P (p q : Int × Int) (hp : okP p) (hq : okP q) : PC Tryz.prog 20 [GP p, GP q] (GP (timesP p q)) := by
  obtain ⟨x, e⟩ := p
  obtain ⟨y, f⟩ := q
  have h := Mul_ok x y hp hq
  rw [limR_P] at h
  have g := got_lim (x * y)
  unfold timesP
  by_cases h1 : e = 0 <;> by_cases h2 : f = 0
  · subst h1; subst h2
    rw [if_pos ⟨rfl, rfl⟩]
    simp only [GP, GZ, Gr] at g ⊢
    refine PCr.pc (PCr.of tab_ok Tryz.func20 rfl rfl rfl fun c hc hm => ?_)
    rw [show Tryz.f20.ntmps = _ from Tryz.ntmps20] at hc
    simp only [Tryz.f20]
    repeat' first
      | (refine AWp.seq fun K hK => ?_)
      | ((first | refine AWp.region (by rw [hc]; rfl) ?_ | refine AWp.skip ?_ | refine AWp.exit ?_ | refine AWp.label ?_ | refine AWp.ret ?_ | refine appK_g ?_); simp -implicitDefEqProofs (maxSteps := 1000000) (disch := omega) only [go_sem, wrap64, Int.tdiv_eq_ediv_of_nonneg, Int.tmod_eq_emod_of_nonneg, Nat.reduceAdd, Nat.reduceMul, Nat.reduceEqDiff, Nat.reduceLT, Nat.reduceLeDiff, Int.reduceEq, Int.reduceNeg, Int.reduceToNat, reduceCtorEq, eq_self, Bool.false_eq_true, Bool.true_eq_false, ↓reduceIte, Int.reduceBNe])
      | (refine hK _ ?_; clear hK)
      | (clear hK; refine hK _ ?_; clear hK)
      | (clear hK; clear hK; refine hK _ ?_; clear hK)
      | (clear hK; clear hK; clear hK; refine hK _ ?_; clear hK)
      | (refine AWp.cond ?_; simp -implicitDefEqProofs (maxSteps := 1000000) (disch := omega) only [go_sem, wrap64, Int.tdiv_eq_ediv_of_nonneg, Int.tmod_eq_emod_of_nonneg, Nat.reduceAdd, Nat.reduceMul, Nat.reduceEqDiff, Nat.reduceLT, Nat.reduceLeDiff, Int.reduceEq, Int.reduceNeg, Int.reduceToNat, reduceCtorEq, eq_self, Bool.false_eq_true, Bool.true_eq_false, ↓reduceIte, Int.reduceBNe]; try (refine ⟨fun hlt => ?_, fun hlt => ?_⟩ <;> (try simp only [decide_eq_true_eq, decide_eq_false_iff_not, beq_iff_eq, bne_iff_ne, ne_eq, beq_eq_false_iff_ne, bne_eq_false_iff_eq, Bool.true_eq_false, Bool.false_eq_true, Int.not_lt, Int.not_le, Decidable.not_not, gt_iff_lt, ge_iff_le, reduceCtorEq] at hlt) <;> (try exact hlt.elim)))
      | (refine AWp.block ?_)
      | ((first | refine gdO_split (fun hlt => ?_) (fun hlt => ?_) | refine tkO_split (fun hlt => ?_) (fun hlt => ?_) | refine opO_split (fun hlt => ?_) (fun hlt => ?_)) <;> have hgd := hlt <;> (try simp only [decide_eq_true_eq, decide_eq_false_iff_not, beq_iff_eq, bne_iff_ne, ne_eq, beq_eq_false_iff_ne, bne_eq_false_iff_eq, Bool.not_eq_true, Bool.not_eq_false, Bool.not_eq_eq_eq_not, Int.not_lt, Int.not_le, Decidable.not_not, gt_iff_lt, ge_iff_le] at hlt) <;> (simp -implicitDefEqProofs (maxSteps := 1000000) (disch := omega) only [go_sem, wrap64, Int.tdiv_eq_ediv_of_nonneg, Int.tmod_eq_emod_of_nonneg, Nat.reduceAdd, Nat.reduceMul, Nat.reduceEqDiff, Nat.reduceLT, Nat.reduceLeDiff, Int.reduceEq, Int.reduceNeg, Int.reduceToNat, reduceCtorEq, eq_self, Bool.false_eq_true, Bool.true_eq_false, ↓reduceIte, Int.reduceBNe, hgd]) <;> clear hgd)
      | (with_reducible refine And.intro ?_ ?_; · first | omega | assumption | exact ⟨_, _, rfl, rfl⟩)
      | ((first | refine ⟨_, h, ?_⟩ | refine ⟨_, g, ?_⟩); simp -implicitDefEqProofs (maxSteps := 1000000) (disch := omega) only [go_sem, wrap64, Int.tdiv_eq_ediv_of_nonneg, Int.tmod_eq_emod_of_nonneg, Nat.reduceAdd, Nat.reduceMul, Nat.reduceEqDiff, Nat.reduceLT, Nat.reduceLeDiff, Int.reduceEq, Int.reduceNeg, Int.reduceToNat, reduceCtorEq, eq_self, Bool.false_eq_true, Bool.true_eq_false, ↓reduceIte, Int.reduceBNe])
      | fail
  all_goals
    rw [if_neg (by simp only [h1, h2]; decide), GP_02]
    simp only [GP, GZ, Gr]
    refine PCr.pc (PCr.of tab_ok Tryz.func20 rfl rfl rfl fun c hc hm => ?_)
    rw [show Tryz.f20.ntmps = _ from Tryz.ntmps20] at hc
    simp only [Tryz.f20]
    repeat' first
      | (refine AWp.seq fun K hK => ?_)
      | ((first | refine AWp.region (by rw [hc]; rfl) ?_ | refine AWp.skip ?_ | refine AWp.exit ?_ | refine AWp.label ?_ | refine AWp.ret ?_ | refine appK_g ?_); simp -implicitDefEqProofs (maxSteps := 1000000) (disch := omega) only [go_sem, wrap64, Int.tdiv_eq_ediv_of_nonneg, Int.tmod_eq_emod_of_nonneg, Nat.reduceAdd, Nat.reduceMul, Nat.reduceEqDiff, Nat.reduceLT, Nat.reduceLeDiff, Int.reduceEq, Int.reduceNeg, Int.reduceToNat, reduceCtorEq, eq_self, Bool.false_eq_true, Bool.true_eq_false, ↓reduceIte, Int.reduceBNe])
      | (refine hK _ ?_; clear hK)
      | (clear hK; refine hK _ ?_; clear hK)
      | (clear hK; clear hK; refine hK _ ?_; clear hK)
      | (clear hK; clear hK; clear hK; refine hK _ ?_; clear hK)
      | (refine AWp.cond ?_; simp -implicitDefEqProofs (maxSteps := 1000000) (disch := omega) only [go_sem, wrap64, Int.tdiv_eq_ediv_of_nonneg, Int.tmod_eq_emod_of_nonneg, Nat.reduceAdd, Nat.reduceMul, Nat.reduceEqDiff, Nat.reduceLT, Nat.reduceLeDiff, Int.reduceEq, Int.reduceNeg, Int.reduceToNat, reduceCtorEq, eq_self, Bool.false_eq_true, Bool.true_eq_false, ↓reduceIte, Int.reduceBNe]; try (refine ⟨fun hlt => ?_, fun hlt => ?_⟩ <;> (try simp only [decide_eq_true_eq, decide_eq_false_iff_not, beq_iff_eq, bne_iff_ne, ne_eq, beq_eq_false_iff_ne, bne_eq_false_iff_eq, Bool.true_eq_false, Bool.false_eq_true, Int.not_lt, Int.not_le, Decidable.not_not, gt_iff_lt, ge_iff_le, reduceCtorEq] at hlt) <;> (try exact hlt.elim)))
      | (refine AWp.block ?_)
      | ((first | refine gdO_split (fun hlt => ?_) (fun hlt => ?_) | refine tkO_split (fun hlt => ?_) (fun hlt => ?_) | refine opO_split (fun hlt => ?_) (fun hlt => ?_)) <;> have hgd := hlt <;> (try simp only [decide_eq_true_eq, decide_eq_false_iff_not, beq_iff_eq, bne_iff_ne, ne_eq, beq_eq_false_iff_ne, bne_eq_false_iff_eq, Bool.not_eq_true, Bool.not_eq_false, Bool.not_eq_eq_eq_not, Int.not_lt, Int.not_le, Decidable.not_not, gt_iff_lt, ge_iff_le] at hlt) <;> (simp -implicitDefEqProofs (maxSteps := 1000000) (disch := omega) only [go_sem, wrap64, Int.tdiv_eq_ediv_of_nonneg, Int.tmod_eq_emod_of_nonneg, Nat.reduceAdd, Nat.reduceMul, Nat.reduceEqDiff, Nat.reduceLT, Nat.reduceLeDiff, Int.reduceEq, Int.reduceNeg, Int.reduceToNat, reduceCtorEq, eq_self, Bool.false_eq_true, Bool.true_eq_false, ↓reduceIte, Int.reduceBNe, hgd]) <;> clear hgd)
      | (with_reducible refine And.intro ?_ ?_; · first | omega | assumption | exact ⟨_, _, rfl, rfl⟩)
      | fail
    all_goals first | rfl | contradiction
theorem same_P (p q : Int × Int) (hp : okP p) (hq : okP q) : PC Tryz.prog 26 [GP p, GP q] (B (decide (p = q))) := by
  have h := same_Z p.1 q.1 p.2 q.2 (Nat.le_trans hp (by decide)) (Nat.le_trans hq (by decide))
  rwa [show decide (p.2 = q.2 ∧ p.1 = q.1) = decide (p = q) by rw [decide_eq_decide, Prod.ext_iff]; exact And.comm] at h
theorem agree_P (p q : Int × Int) (hp : okP p) (hq : okP q) : PC Tryz.prog 31 [GP p, GP q] (B (decide (p.2 = 0 ∧ q.2 = 0 → p.1 = q.1))) := by
  obtain ⟨x, e⟩ := p
  obtain ⟨y, f⟩ := q
  have h := Same_Z x y (Nat.le_trans hp (by decide)) (Nat.le_trans hq (by decide))
  simp only [GP, GZ, Gr]
  refine PCr.pc (PCr.of tab_ok Tryz.func31 rfl rfl rfl fun c hc hm => ?_)
  rw [show Tryz.f31.ntmps = _ from Tryz.ntmps31] at hc
  simp only [Tryz.f31]
  repeat' first
    | (refine AWp.seq fun K hK => ?_)
    | ((first | refine AWp.region (by rw [hc]; rfl) ?_ | refine AWp.skip ?_ | refine AWp.exit ?_ | refine AWp.label ?_ | refine AWp.ret ?_ | refine appK_g ?_); simp -implicitDefEqProofs (maxSteps := 1000000) (disch := omega) only [go_sem, wrap64, Int.tdiv_eq_ediv_of_nonneg, Int.tmod_eq_emod_of_nonneg, Nat.reduceAdd, Nat.reduceMul, Nat.reduceEqDiff, Nat.reduceLT, Nat.reduceLeDiff, Int.reduceEq, Int.reduceNeg, Int.reduceToNat, reduceCtorEq, eq_self, Bool.false_eq_true, Bool.true_eq_false, ↓reduceIte, Int.reduceBNe])
    | (refine hK _ ?_; clear hK)
    | (clear hK; refine hK _ ?_; clear hK)
    | (clear hK; clear hK; refine hK _ ?_; clear hK)
    | (clear hK; clear hK; clear hK; refine hK _ ?_; clear hK)
    | (refine AWp.cond ?_; simp -implicitDefEqProofs (maxSteps := 1000000) (disch := omega) only [go_sem, wrap64, Int.tdiv_eq_ediv_of_nonneg, Int.tmod_eq_emod_of_nonneg, Nat.reduceAdd, Nat.reduceMul, Nat.reduceEqDiff, Nat.reduceLT, Nat.reduceLeDiff, Int.reduceEq, Int.reduceNeg, Int.reduceToNat, reduceCtorEq, eq_self, Bool.false_eq_true, Bool.true_eq_false, ↓reduceIte, Int.reduceBNe]; try (refine ⟨fun hlt => ?_, fun hlt => ?_⟩ <;> (try simp only [decide_eq_true_eq, decide_eq_false_iff_not, beq_iff_eq, bne_iff_ne, ne_eq, beq_eq_false_iff_ne, bne_eq_false_iff_eq, Bool.true_eq_false, Bool.false_eq_true, Int.not_lt, Int.not_le, Decidable.not_not, gt_iff_lt, ge_iff_le, reduceCtorEq] at hlt) <;> (try exact hlt.elim)))
    | (refine AWp.block ?_)
    | ((first | refine gdO_split (fun hlt => ?_) (fun hlt => ?_) | refine tkO_split (fun hlt => ?_) (fun hlt => ?_) | refine opO_split (fun hlt => ?_) (fun hlt => ?_)) <;> have hgd := hlt <;> (try simp only [decide_eq_true_eq, decide_eq_false_iff_not, beq_iff_eq, bne_iff_ne, ne_eq, beq_eq_false_iff_ne, bne_eq_false_iff_eq, Bool.not_eq_true, Bool.not_eq_false, Bool.not_eq_eq_eq_not, Int.not_lt, Int.not_le, Decidable.not_not, gt_iff_lt, ge_iff_le] at hlt) <;> (simp -implicitDefEqProofs (maxSteps := 1000000) (disch := omega) only [go_sem, wrap64, Int.tdiv_eq_ediv_of_nonneg, Int.tmod_eq_emod_of_nonneg, Nat.reduceAdd, Nat.reduceMul, Nat.reduceEqDiff, Nat.reduceLT, Nat.reduceLeDiff, Int.reduceEq, Int.reduceNeg, Int.reduceToNat, reduceCtorEq, eq_self, Bool.false_eq_true, Bool.true_eq_false, ↓reduceIte, Int.reduceBNe, hgd]) <;> clear hgd)
    | (with_reducible refine And.intro ?_ ?_; · first | omega | assumption | exact ⟨_, _, rfl, rfl⟩)
    | ((first | refine ⟨_, h, ?_⟩); simp -implicitDefEqProofs (maxSteps := 1000000) (disch := omega) only [go_sem, wrap64, Int.tdiv_eq_ediv_of_nonneg, Int.tmod_eq_emod_of_nonneg, Nat.reduceAdd, Nat.reduceMul, Nat.reduceEqDiff, Nat.reduceLT, Nat.reduceLeDiff, Int.reduceEq, Int.reduceNeg, Int.reduceToNat, reduceCtorEq, eq_self, Bool.false_eq_true, Bool.true_eq_false, ↓reduceIte, Int.reduceBNe])
    | fail
  all_goals first
    | (refine (decide_eq_true ?_).symm; rintro ⟨h1, h2⟩; contradiction)
    | (rw [decide_eq_decide]; exact ⟨fun h _ => h, fun h => h ⟨by assumption, by assumption⟩⟩)
theorem smaller_Z (x y : Int) (lx : lenZ x ≤ 1000000) (ly : lenZ y ≤ 1000000) : PC Tryz.prog 35 [Z x, Z y] (B (decide (x.natAbs < y.natAbs))) := by
  have h := Compare_Z x.natAbs y.natAbs (by unfold lenZ at *; rwa [Int.natAbs_natCast]) (by unfold lenZ at *; rwa [Int.natAbs_natCast])
  have e : ∀ n : Nat, Z (n : Int) = Zr false (D n) := fun n => by
    show Zr (decide ((n : Int) < 0)) (D (n : Int).natAbs) = _
    rw [Int.natAbs_natCast, decide_eq_false (by omega)]
  rw [e, e] at h
  refine PCr.pc (PCr.of tab_ok Tryz.func35 rfl rfl rfl fun c hc hm => ?_)
  rw [show Tryz.f35.ntmps = _ from Tryz.ntmps35] at hc
  simp only [Tryz.f35]
  repeat' first
    | (refine AWp.seq fun K hK => ?_)
    | ((first | refine AWp.region (by rw [hc]; rfl) ?_ | refine AWp.skip ?_ | refine AWp.exit ?_ | refine AWp.label ?_ | refine AWp.ret ?_ | refine appK_g ?_); simp -implicitDefEqProofs (maxSteps := 1000000) (disch := omega) only [go_sem, wrap64, Int.tdiv_eq_ediv_of_nonneg, Int.tmod_eq_emod_of_nonneg, Nat.reduceAdd, Nat.reduceMul, Nat.reduceEqDiff, Nat.reduceLT, Nat.reduceLeDiff, Int.reduceEq, Int.reduceNeg, Int.reduceToNat, reduceCtorEq, eq_self, Bool.false_eq_true, Bool.true_eq_false, ↓reduceIte])
    | (refine hK _ ?_; clear hK)
    | (clear hK; refine hK _ ?_; clear hK)
    | (clear hK; clear hK; refine hK _ ?_; clear hK)
    | (clear hK; clear hK; clear hK; refine hK _ ?_; clear hK)
    | (refine AWp.cond ?_; simp -implicitDefEqProofs (maxSteps := 1000000) (disch := omega) only [go_sem, wrap64, Int.tdiv_eq_ediv_of_nonneg, Int.tmod_eq_emod_of_nonneg, Nat.reduceAdd, Nat.reduceMul, Nat.reduceEqDiff, Nat.reduceLT, Nat.reduceLeDiff, Int.reduceEq, Int.reduceNeg, Int.reduceToNat, reduceCtorEq, eq_self, Bool.false_eq_true, Bool.true_eq_false, ↓reduceIte]; try (refine ⟨fun hlt => ?_, fun hlt => ?_⟩ <;> (try simp only [decide_eq_true_eq, decide_eq_false_iff_not, beq_iff_eq, bne_iff_ne, ne_eq, beq_eq_false_iff_ne, bne_eq_false_iff_eq, Bool.true_eq_false, Bool.false_eq_true, Int.not_lt, Int.not_le, Decidable.not_not, gt_iff_lt, ge_iff_le, reduceCtorEq] at hlt) <;> (try exact hlt.elim)))
    | (refine AWp.block ?_)
    | ((first | refine gdO_split (fun hlt => ?_) (fun hlt => ?_) | refine tkO_split (fun hlt => ?_) (fun hlt => ?_) | refine opO_split (fun hlt => ?_) (fun hlt => ?_)) <;> have hgd := hlt <;> (try simp only [decide_eq_true_eq, decide_eq_false_iff_not, beq_iff_eq, bne_iff_ne, ne_eq, beq_eq_false_iff_ne, bne_eq_false_iff_eq, Bool.not_eq_true, Bool.not_eq_false, Bool.not_eq_eq_eq_not, Int.not_lt, Int.not_le, Decidable.not_not, gt_iff_lt, ge_iff_le] at hlt) <;> (simp -implicitDefEqProofs (maxSteps := 1000000) (disch := omega) only [go_sem, wrap64, Int.tdiv_eq_ediv_of_nonneg, Int.tmod_eq_emod_of_nonneg, Nat.reduceAdd, Nat.reduceMul, Nat.reduceEqDiff, Nat.reduceLT, Nat.reduceLeDiff, Int.reduceEq, Int.reduceNeg, Int.reduceToNat, reduceCtorEq, eq_self, Bool.false_eq_true, Bool.true_eq_false, ↓reduceIte, hgd]) <;> clear hgd)
    | (with_reducible refine And.intro ?_ ?_; · first | omega | assumption | exact ⟨_, _, rfl, rfl⟩)
    | ((first | refine ⟨_, h, ?_⟩); simp -implicitDefEqProofs (maxSteps := 1000000) (disch := omega) only [go_sem, wrap64, Int.tdiv_eq_ediv_of_nonneg, Int.tmod_eq_emod_of_nonneg, Nat.reduceAdd, Nat.reduceMul, Nat.reduceEqDiff, Nat.reduceLT, Nat.reduceLeDiff, Int.reduceEq, Int.reduceNeg, Int.reduceToNat, reduceCtorEq, eq_self, Bool.false_eq_true, Bool.true_eq_false, ↓reduceIte])
    | fail
  rw [decide_eq_decide]
  simp only [cmpI]; (repeat' split) <;> omega
end Go.Proofs.YthhjcfejgoddlaaGreatDoor
end

section
set_option linter.unusedSimpArgs false
set_option linter.unusedVariables false
set_option maxRecDepth 100000
namespace Go.Proofs.YthhjcfejgoddlaaGreatDoor
open Go Go.Abs

theorem okI_def (neg : Bool) (d : List Int) : okI neg d ↔ d.length ≤ 40 ∧ (d.length = 0 → neg = false) ∧ (0 < d.length → d.getD (d.length - 1) 0 ≠ 0) ∧ ∀ j, j < d.length → 0 ≤ d.getD j 0 ∧ d.getD j 0 < 1000000000 := by
  rw [okI_iff]
  have e : ((d.any fun x => decide (x < 0 ∨ 1000000000 ≤ x)) = false) ↔ ∀ j, j < d.length → 0 ≤ d.getD j 0 ∧ d.getD j 0 < 1000000000 := by
    rw [List.any_eq_false]
    constructor
    · intro h j hj
      have h1 := h (d.getD j 0) (by simp [hj])
      simp only [decide_eq_true_eq] at h1; omega
    · intro h x hx
      obtain ⟨j, hj, rfl⟩ := List.getElem_of_mem hx
      have h1 := h j hj
      simp only [List.getD, List.getElem?_eq_getElem hj, Option.getD_some] at h1
      simp only [decide_eq_true_eq]; omega
  rw [e]
def F77 (neg : Bool) (d : List Int) (i : Nat) : St := ⟨[(1, .ptr 0 0), (3, I d.length), (4, I i)], [(0, .box [B neg, L d] false)], 1, 0⟩
theorem Is_f (d : List Int) : PC Tryz.prog 77 [Zr false d] (B (decide (okI false d))) := by
  refine PCr.pc (PCr.of tab_ok Tryz.func77 rfl rfl rfl fun c hc hm => ?_)
  rw [show Tryz.f77.ntmps = _ from Tryz.ntmps77] at hc
  simp only [Tryz.f77]
  repeat' first
    | (refine AWp.seq fun K hK => ?_)
    | ((first | refine AWp.region (by rw [hc]; rfl) ?_ | refine AWp.skip ?_ | refine AWp.exit ?_ | refine AWp.label ?_ | refine AWp.ret ?_ | refine appK_g ?_); simp -implicitDefEqProofs (maxSteps := 1000000) (disch := omega) only [go_sem, wrap64, Int.tdiv_eq_ediv_of_nonneg, Int.tmod_eq_emod_of_nonneg, Nat.reduceAdd, Nat.reduceMul, Nat.reduceEqDiff, Nat.reduceLT, Nat.reduceLeDiff, Int.reduceEq, Int.reduceNeg, Int.reduceToNat, reduceCtorEq, eq_self, Bool.false_eq_true, Bool.true_eq_false, ↓reduceIte])
    | (refine hK _ ?_; clear hK)
    | (clear hK; refine hK _ ?_; clear hK)
    | (clear hK; clear hK; refine hK _ ?_; clear hK)
    | (clear hK; clear hK; clear hK; refine hK _ ?_; clear hK)
    | (refine AWp.cond ?_; simp -implicitDefEqProofs (maxSteps := 1000000) (disch := omega) only [go_sem, wrap64, Int.tdiv_eq_ediv_of_nonneg, Int.tmod_eq_emod_of_nonneg, Nat.reduceAdd, Nat.reduceMul, Nat.reduceEqDiff, Nat.reduceLT, Nat.reduceLeDiff, Int.reduceEq, Int.reduceNeg, Int.reduceToNat, reduceCtorEq, eq_self, Bool.false_eq_true, Bool.true_eq_false, ↓reduceIte]; try (refine ⟨fun hlt => ?_, fun hlt => ?_⟩ <;> (try simp only [decide_eq_true_eq, decide_eq_false_iff_not, beq_iff_eq, bne_iff_ne, ne_eq, beq_eq_false_iff_ne, bne_eq_false_iff_eq, Bool.true_eq_false, Bool.false_eq_true, Int.not_lt, Int.not_le, Decidable.not_not, gt_iff_lt, ge_iff_le, reduceCtorEq] at hlt) <;> (try exact hlt.elim)))
    | (refine AWp.block ?_)
    | ((first | refine gdO_split (fun hlt => ?_) (fun hlt => ?_) | refine tkO_split (fun hlt => ?_) (fun hlt => ?_) | refine opO_split (fun hlt => ?_) (fun hlt => ?_)) <;> have hgd := hlt <;> (try simp only [decide_eq_true_eq, decide_eq_false_iff_not, beq_iff_eq, bne_iff_ne, ne_eq, beq_eq_false_iff_ne, bne_eq_false_iff_eq, Bool.not_eq_true, Bool.not_eq_false, Bool.not_eq_eq_eq_not, Int.not_lt, Int.not_le, Decidable.not_not, gt_iff_lt, ge_iff_le] at hlt) <;> (simp -implicitDefEqProofs (maxSteps := 1000000) (disch := omega) only [go_sem, wrap64, Int.tdiv_eq_ediv_of_nonneg, Int.tmod_eq_emod_of_nonneg, Nat.reduceAdd, Nat.reduceMul, Nat.reduceEqDiff, Nat.reduceLT, Nat.reduceLeDiff, Int.reduceEq, Int.reduceNeg, Int.reduceToNat, reduceCtorEq, eq_self, Bool.false_eq_true, Bool.true_eq_false, ↓reduceIte, hgd]) <;> clear hgd)
    | (with_reducible refine And.intro ?_ ?_; · first | omega | assumption | exact ⟨_, _, rfl, rfl⟩)
    | fail
  all_goals try (exfalso; omega)
  all_goals try contradiction
  all_goals try (refine (decide_eq_false ?_).symm; rw [okI_def]; rintro ⟨h1, h2, h3, h4⟩; first | omega | (exact h3 (by omega) (by assumption)) | (exact absurd (h2 (by omega)) (by decide)))
  all_goals
    refine AWp.loopInv (F77 false d) (fun i => d.length - i) (fun i => i ≤ d.length ∧ ∀ j, j < i → 0 ≤ d.getD j 0 ∧ d.getD j 0 < 1000000000) 0 ⟨Nat.zero_le _, fun j h => absurd h (Nat.not_lt_zero _)⟩ (Sub.of0 hm id rfl ?_ ?_ (fun _ _ _ _ h => h)) ?_
    all_goals (try dsimp only)
    all_goals (first | omega | (simp -implicitDefEqProofs (maxSteps := 1000000) (disch := omega) only [F77, id, go_sem, Nat.blt_eq, Nat.reduceAdd, Nat.reduceSub, Nat.reduceEqDiff, Nat.reduceLT, ↓reduceIte, and_true, true_and, AV.dat.injEq, DV.int.injEq, DV.bool.injEq, DV.lst.injEq, eq_self_iff_true]; first | done | omega | (simp; done) | (simp; omega)) | (simp; done) | (simp; omega) | skip)
    rintro i ⟨h1, h2⟩ ih
    simp only [F77]
    repeat' first
      | (refine AWp.seq fun K hK => ?_)
      | ((first | refine AWp.region (by rw [hc]; rfl) ?_ | refine AWp.skip ?_ | refine AWp.exit ?_ | refine AWp.label ?_ | refine AWp.ret ?_ | refine appK_g ?_); simp -implicitDefEqProofs (maxSteps := 1000000) (disch := omega) only [go_sem, wrap64, Int.tdiv_eq_ediv_of_nonneg, Int.tmod_eq_emod_of_nonneg, Nat.reduceAdd, Nat.reduceMul, Nat.reduceEqDiff, Nat.reduceLT, Nat.reduceLeDiff, Int.reduceEq, Int.reduceNeg, Int.reduceToNat, reduceCtorEq, eq_self, Bool.false_eq_true, Bool.true_eq_false, ↓reduceIte])
      | (refine hK _ ?_; clear hK)
      | (clear hK; refine hK _ ?_; clear hK)
      | (clear hK; clear hK; refine hK _ ?_; clear hK)
      | (clear hK; clear hK; clear hK; refine hK _ ?_; clear hK)
      | (refine AWp.cond ?_; simp -implicitDefEqProofs (maxSteps := 1000000) (disch := omega) only [go_sem, wrap64, Int.tdiv_eq_ediv_of_nonneg, Int.tmod_eq_emod_of_nonneg, Nat.reduceAdd, Nat.reduceMul, Nat.reduceEqDiff, Nat.reduceLT, Nat.reduceLeDiff, Int.reduceEq, Int.reduceNeg, Int.reduceToNat, reduceCtorEq, eq_self, Bool.false_eq_true, Bool.true_eq_false, ↓reduceIte]; try (refine ⟨fun hlt => ?_, fun hlt => ?_⟩ <;> (try simp only [decide_eq_true_eq, decide_eq_false_iff_not, beq_iff_eq, bne_iff_ne, ne_eq, beq_eq_false_iff_ne, bne_eq_false_iff_eq, Bool.true_eq_false, Bool.false_eq_true, Int.not_lt, Int.not_le, Decidable.not_not, gt_iff_lt, ge_iff_le, reduceCtorEq] at hlt) <;> (try exact hlt.elim)))
      | (refine AWp.block ?_)
      | ((first | refine gdO_split (fun hlt => ?_) (fun hlt => ?_) | refine tkO_split (fun hlt => ?_) (fun hlt => ?_) | refine opO_split (fun hlt => ?_) (fun hlt => ?_)) <;> have hgd := hlt <;> (try simp only [decide_eq_true_eq, decide_eq_false_iff_not, beq_iff_eq, bne_iff_ne, ne_eq, beq_eq_false_iff_ne, bne_eq_false_iff_eq, Bool.not_eq_true, Bool.not_eq_false, Bool.not_eq_eq_eq_not, Int.not_lt, Int.not_le, Decidable.not_not, gt_iff_lt, ge_iff_le] at hlt) <;> (simp -implicitDefEqProofs (maxSteps := 1000000) (disch := omega) only [go_sem, wrap64, Int.tdiv_eq_ediv_of_nonneg, Int.tmod_eq_emod_of_nonneg, Nat.reduceAdd, Nat.reduceMul, Nat.reduceEqDiff, Nat.reduceLT, Nat.reduceLeDiff, Int.reduceEq, Int.reduceNeg, Int.reduceToNat, reduceCtorEq, eq_self, Bool.false_eq_true, Bool.true_eq_false, ↓reduceIte, hgd]) <;> clear hgd)
      | (with_reducible refine And.intro ?_ ?_; · first | omega | assumption | exact ⟨_, _, rfl, rfl⟩)
      | fail
    all_goals try (exfalso; omega)
    all_goals try (refine (decide_eq_false ?_).symm; rw [okI_def]; rintro ⟨k1, k2, k3, k4⟩; have := k4 i (by omega); omega)
    all_goals try (refine (decide_eq_true ?_).symm; rw [okI_def]; exact ⟨by omega, fun _ => by first | rfl | omega, fun _ => by first | assumption | omega, fun j hj => h2 j (by omega)⟩)
    all_goals
      refine ih (i + 1) _ ⟨by omega, fun j hj => ?_⟩ (by omega) (Sub.of0 hm id rfl ?_ ?_ (fun _ _ _ _ h => h))
      · by_cases h : j = i
        · subst h; exact ⟨by assumption, by assumption⟩
        · exact h2 j (by omega)
      all_goals (try dsimp only)
      all_goals (first | omega | (simp -implicitDefEqProofs (maxSteps := 1000000) (disch := omega) only [F77, id, go_sem, Nat.blt_eq, Nat.reduceAdd, Nat.reduceSub, Nat.reduceEqDiff, Nat.reduceLT, ↓reduceIte, and_true, true_and, AV.dat.injEq, DV.int.injEq, DV.bool.injEq, DV.lst.injEq, eq_self_iff_true]; first | done | omega | (simp; done) | (simp; omega)) | (simp; done) | (simp; omega) | skip)
theorem Is_t (d : List Int) : PC Tryz.prog 77 [Zr true d] (B (decide (okI true d))) := by
  refine PCr.pc (PCr.of tab_ok Tryz.func77 rfl rfl rfl fun c hc hm => ?_)
  rw [show Tryz.f77.ntmps = _ from Tryz.ntmps77] at hc
  simp only [Tryz.f77]
  repeat' first
    | (refine AWp.seq fun K hK => ?_)
    | ((first | refine AWp.region (by rw [hc]; rfl) ?_ | refine AWp.skip ?_ | refine AWp.exit ?_ | refine AWp.label ?_ | refine AWp.ret ?_ | refine appK_g ?_); simp -implicitDefEqProofs (maxSteps := 1000000) (disch := omega) only [go_sem, wrap64, Int.tdiv_eq_ediv_of_nonneg, Int.tmod_eq_emod_of_nonneg, Nat.reduceAdd, Nat.reduceMul, Nat.reduceEqDiff, Nat.reduceLT, Nat.reduceLeDiff, Int.reduceEq, Int.reduceNeg, Int.reduceToNat, reduceCtorEq, eq_self, Bool.false_eq_true, Bool.true_eq_false, ↓reduceIte])
    | (refine hK _ ?_; clear hK)
    | (clear hK; refine hK _ ?_; clear hK)
    | (clear hK; clear hK; refine hK _ ?_; clear hK)
    | (clear hK; clear hK; clear hK; refine hK _ ?_; clear hK)
    | (refine AWp.cond ?_; simp -implicitDefEqProofs (maxSteps := 1000000) (disch := omega) only [go_sem, wrap64, Int.tdiv_eq_ediv_of_nonneg, Int.tmod_eq_emod_of_nonneg, Nat.reduceAdd, Nat.reduceMul, Nat.reduceEqDiff, Nat.reduceLT, Nat.reduceLeDiff, Int.reduceEq, Int.reduceNeg, Int.reduceToNat, reduceCtorEq, eq_self, Bool.false_eq_true, Bool.true_eq_false, ↓reduceIte]; try (refine ⟨fun hlt => ?_, fun hlt => ?_⟩ <;> (try simp only [decide_eq_true_eq, decide_eq_false_iff_not, beq_iff_eq, bne_iff_ne, ne_eq, beq_eq_false_iff_ne, bne_eq_false_iff_eq, Bool.true_eq_false, Bool.false_eq_true, Int.not_lt, Int.not_le, Decidable.not_not, gt_iff_lt, ge_iff_le, reduceCtorEq] at hlt) <;> (try exact hlt.elim)))
    | (refine AWp.block ?_)
    | ((first | refine gdO_split (fun hlt => ?_) (fun hlt => ?_) | refine tkO_split (fun hlt => ?_) (fun hlt => ?_) | refine opO_split (fun hlt => ?_) (fun hlt => ?_)) <;> have hgd := hlt <;> (try simp only [decide_eq_true_eq, decide_eq_false_iff_not, beq_iff_eq, bne_iff_ne, ne_eq, beq_eq_false_iff_ne, bne_eq_false_iff_eq, Bool.not_eq_true, Bool.not_eq_false, Bool.not_eq_eq_eq_not, Int.not_lt, Int.not_le, Decidable.not_not, gt_iff_lt, ge_iff_le] at hlt) <;> (simp -implicitDefEqProofs (maxSteps := 1000000) (disch := omega) only [go_sem, wrap64, Int.tdiv_eq_ediv_of_nonneg, Int.tmod_eq_emod_of_nonneg, Nat.reduceAdd, Nat.reduceMul, Nat.reduceEqDiff, Nat.reduceLT, Nat.reduceLeDiff, Int.reduceEq, Int.reduceNeg, Int.reduceToNat, reduceCtorEq, eq_self, Bool.false_eq_true, Bool.true_eq_false, ↓reduceIte, hgd]) <;> clear hgd)
    | (with_reducible refine And.intro ?_ ?_; · first | omega | assumption | exact ⟨_, _, rfl, rfl⟩)
    | fail
  all_goals try (exfalso; omega)
  all_goals try contradiction
  all_goals try (refine (decide_eq_false ?_).symm; rw [okI_def]; rintro ⟨h1, h2, h3, h4⟩; first | omega | (exact h3 (by omega) (by assumption)) | (exact absurd (h2 (by omega)) (by decide)))
  all_goals
    refine AWp.loopInv (F77 true d) (fun i => d.length - i) (fun i => i ≤ d.length ∧ ∀ j, j < i → 0 ≤ d.getD j 0 ∧ d.getD j 0 < 1000000000) 0 ⟨Nat.zero_le _, fun j h => absurd h (Nat.not_lt_zero _)⟩ (Sub.of0 hm id rfl ?_ ?_ (fun _ _ _ _ h => h)) ?_
    all_goals (try dsimp only)
    all_goals (first | omega | (simp -implicitDefEqProofs (maxSteps := 1000000) (disch := omega) only [F77, id, go_sem, Nat.blt_eq, Nat.reduceAdd, Nat.reduceSub, Nat.reduceEqDiff, Nat.reduceLT, ↓reduceIte, and_true, true_and, AV.dat.injEq, DV.int.injEq, DV.bool.injEq, DV.lst.injEq, eq_self_iff_true]; first | done | omega | (simp; done) | (simp; omega)) | (simp; done) | (simp; omega) | skip)
    rintro i ⟨h1, h2⟩ ih
    simp only [F77]
    repeat' first
      | (refine AWp.seq fun K hK => ?_)
      | ((first | refine AWp.region (by rw [hc]; rfl) ?_ | refine AWp.skip ?_ | refine AWp.exit ?_ | refine AWp.label ?_ | refine AWp.ret ?_ | refine appK_g ?_); simp -implicitDefEqProofs (maxSteps := 1000000) (disch := omega) only [go_sem, wrap64, Int.tdiv_eq_ediv_of_nonneg, Int.tmod_eq_emod_of_nonneg, Nat.reduceAdd, Nat.reduceMul, Nat.reduceEqDiff, Nat.reduceLT, Nat.reduceLeDiff, Int.reduceEq, Int.reduceNeg, Int.reduceToNat, reduceCtorEq, eq_self, Bool.false_eq_true, Bool.true_eq_false, ↓reduceIte])
      | (refine hK _ ?_; clear hK)
      | (clear hK; refine hK _ ?_; clear hK)
      | (clear hK; clear hK; refine hK _ ?_; clear hK)
      | (clear hK; clear hK; clear hK; refine hK _ ?_; clear hK)
      | (refine AWp.cond ?_; simp -implicitDefEqProofs (maxSteps := 1000000) (disch := omega) only [go_sem, wrap64, Int.tdiv_eq_ediv_of_nonneg, Int.tmod_eq_emod_of_nonneg, Nat.reduceAdd, Nat.reduceMul, Nat.reduceEqDiff, Nat.reduceLT, Nat.reduceLeDiff, Int.reduceEq, Int.reduceNeg, Int.reduceToNat, reduceCtorEq, eq_self, Bool.false_eq_true, Bool.true_eq_false, ↓reduceIte]; try (refine ⟨fun hlt => ?_, fun hlt => ?_⟩ <;> (try simp only [decide_eq_true_eq, decide_eq_false_iff_not, beq_iff_eq, bne_iff_ne, ne_eq, beq_eq_false_iff_ne, bne_eq_false_iff_eq, Bool.true_eq_false, Bool.false_eq_true, Int.not_lt, Int.not_le, Decidable.not_not, gt_iff_lt, ge_iff_le, reduceCtorEq] at hlt) <;> (try exact hlt.elim)))
      | (refine AWp.block ?_)
      | ((first | refine gdO_split (fun hlt => ?_) (fun hlt => ?_) | refine tkO_split (fun hlt => ?_) (fun hlt => ?_) | refine opO_split (fun hlt => ?_) (fun hlt => ?_)) <;> have hgd := hlt <;> (try simp only [decide_eq_true_eq, decide_eq_false_iff_not, beq_iff_eq, bne_iff_ne, ne_eq, beq_eq_false_iff_ne, bne_eq_false_iff_eq, Bool.not_eq_true, Bool.not_eq_false, Bool.not_eq_eq_eq_not, Int.not_lt, Int.not_le, Decidable.not_not, gt_iff_lt, ge_iff_le] at hlt) <;> (simp -implicitDefEqProofs (maxSteps := 1000000) (disch := omega) only [go_sem, wrap64, Int.tdiv_eq_ediv_of_nonneg, Int.tmod_eq_emod_of_nonneg, Nat.reduceAdd, Nat.reduceMul, Nat.reduceEqDiff, Nat.reduceLT, Nat.reduceLeDiff, Int.reduceEq, Int.reduceNeg, Int.reduceToNat, reduceCtorEq, eq_self, Bool.false_eq_true, Bool.true_eq_false, ↓reduceIte, hgd]) <;> clear hgd)
      | (with_reducible refine And.intro ?_ ?_; · first | omega | assumption | exact ⟨_, _, rfl, rfl⟩)
      | fail
    all_goals try (exfalso; omega)
    all_goals try (refine (decide_eq_false ?_).symm; rw [okI_def]; rintro ⟨k1, k2, k3, k4⟩; have := k4 i (by omega); omega)
    all_goals try (refine (decide_eq_true ?_).symm; rw [okI_def]; exact ⟨by omega, fun _ => by first | rfl | omega, fun _ => by first | assumption | omega, fun j hj => h2 j (by omega)⟩)
    all_goals
      refine ih (i + 1) _ ⟨by omega, fun j hj => ?_⟩ (by omega) (Sub.of0 hm id rfl ?_ ?_ (fun _ _ _ _ h => h))
      · by_cases h : j = i
        · subst h; exact ⟨by assumption, by assumption⟩
        · exact h2 j (by omega)
      all_goals (try dsimp only)
      all_goals (first | omega | (simp -implicitDefEqProofs (maxSteps := 1000000) (disch := omega) only [F77, id, go_sem, Nat.blt_eq, Nat.reduceAdd, Nat.reduceSub, Nat.reduceEqDiff, Nat.reduceLT, ↓reduceIte, and_true, true_and, AV.dat.injEq, DV.int.injEq, DV.bool.injEq, DV.lst.injEq, eq_self_iff_true]; first | done | omega | (simp; done) | (simp; omega)) | (simp; done) | (simp; omega) | skip)
theorem Is_pc (neg : Bool) (d : List Int) : PC Tryz.prog 77 [Zr neg d] (B (decide (okI neg d))) := by
  cases neg
  · exact Is_f d
  · exact Is_t d

theorem right1_pc (neg : Bool) (d : List Int) : PC Tryz.prog 76 [Zr neg d] (B (!decide (okI neg d))) := by
  have h := Is_pc neg d
  refine PCr.pc (PCr.of tab_ok Tryz.func76 rfl rfl rfl fun c hc hm => ?_)
  rw [show Tryz.f76.ntmps = _ from Tryz.ntmps76] at hc
  simp only [Tryz.f76]
  repeat' first
    | (refine AWp.seq fun K hK => ?_)
    | ((first | refine AWp.region (by rw [hc]; rfl) ?_ | refine AWp.skip ?_ | refine AWp.exit ?_ | refine AWp.label ?_ | refine AWp.ret ?_ | refine appK_g ?_); simp -implicitDefEqProofs (maxSteps := 1000000) (disch := omega) only [go_sem, wrap64, Int.tdiv_eq_ediv_of_nonneg, Int.tmod_eq_emod_of_nonneg, Nat.reduceAdd, Nat.reduceMul, Nat.reduceEqDiff, Nat.reduceLT, Nat.reduceLeDiff, Int.reduceEq, Int.reduceNeg, Int.reduceToNat, reduceCtorEq, eq_self, Bool.false_eq_true, Bool.true_eq_false, ↓reduceIte])
    | (refine hK _ ?_; clear hK)
    | (clear hK; refine hK _ ?_; clear hK)
    | (clear hK; clear hK; refine hK _ ?_; clear hK)
    | (clear hK; clear hK; clear hK; refine hK _ ?_; clear hK)
    | (refine AWp.cond ?_; simp -implicitDefEqProofs (maxSteps := 1000000) (disch := omega) only [go_sem, wrap64, Int.tdiv_eq_ediv_of_nonneg, Int.tmod_eq_emod_of_nonneg, Nat.reduceAdd, Nat.reduceMul, Nat.reduceEqDiff, Nat.reduceLT, Nat.reduceLeDiff, Int.reduceEq, Int.reduceNeg, Int.reduceToNat, reduceCtorEq, eq_self, Bool.false_eq_true, Bool.true_eq_false, ↓reduceIte]; try (refine ⟨fun hlt => ?_, fun hlt => ?_⟩ <;> (try simp only [decide_eq_true_eq, decide_eq_false_iff_not, beq_iff_eq, bne_iff_ne, ne_eq, beq_eq_false_iff_ne, bne_eq_false_iff_eq, Bool.true_eq_false, Bool.false_eq_true, Int.not_lt, Int.not_le, Decidable.not_not, gt_iff_lt, ge_iff_le, reduceCtorEq] at hlt) <;> (try exact hlt.elim)))
    | (refine AWp.block ?_)
    | ((first | refine gdO_split (fun hlt => ?_) (fun hlt => ?_) | refine tkO_split (fun hlt => ?_) (fun hlt => ?_) | refine opO_split (fun hlt => ?_) (fun hlt => ?_)) <;> have hgd := hlt <;> (try simp only [decide_eq_true_eq, decide_eq_false_iff_not, beq_iff_eq, bne_iff_ne, ne_eq, beq_eq_false_iff_ne, bne_eq_false_iff_eq, Bool.not_eq_true, Bool.not_eq_false, Bool.not_eq_eq_eq_not, Int.not_lt, Int.not_le, Decidable.not_not, gt_iff_lt, ge_iff_le] at hlt) <;> (simp -implicitDefEqProofs (maxSteps := 1000000) (disch := omega) only [go_sem, wrap64, Int.tdiv_eq_ediv_of_nonneg, Int.tmod_eq_emod_of_nonneg, Nat.reduceAdd, Nat.reduceMul, Nat.reduceEqDiff, Nat.reduceLT, Nat.reduceLeDiff, Int.reduceEq, Int.reduceNeg, Int.reduceToNat, reduceCtorEq, eq_self, Bool.false_eq_true, Bool.true_eq_false, ↓reduceIte, hgd]) <;> clear hgd)
    | (with_reducible refine And.intro ?_ ?_; · first | omega | assumption | exact ⟨_, _, rfl, rfl⟩)
    | ((first | refine ⟨_, h, ?_⟩); simp -implicitDefEqProofs (maxSteps := 1000000) (disch := omega) only [go_sem, wrap64, Int.tdiv_eq_ediv_of_nonneg, Int.tmod_eq_emod_of_nonneg, Nat.reduceAdd, Nat.reduceMul, Nat.reduceEqDiff, Nat.reduceLT, Nat.reduceLeDiff, Int.reduceEq, Int.reduceNeg, Int.reduceToNat, reduceCtorEq, eq_self, Bool.false_eq_true, Bool.true_eq_false, ↓reduceIte])
    | fail
  all_goals try rfl
  rw [decide_eq_false (fun h => by have := h.1; omega)]; rfl

def F122 (zs : List (Bool × List Int)) (f : FuncId) (i : Nat) : St := ⟨[(0, LZ zs), (1, .dat (.fn f [])), (7, I zs.length), (8, I i)], [], 0, 0⟩
theorem idxZ_pc (zs : List (Bool × List Int)) (f : FuncId) (p : Bool × List Int → Bool) (lz : zs.length ≤ 1000000) (hp : ∀ z, PC Tryz.prog f [Zr z.1 z.2] (B (p z))) : PC Tryz.prog 122 [LZ zs, .dat (.fn f [])] (I (idx p zs)) := by
  refine PCr.pc (PCr.of tab_ok Tryz.func122 rfl rfl rfl fun c hc hm => ?_)
  rw [show Tryz.f122.ntmps = _ from Tryz.ntmps122] at hc
  simp only [Tryz.f122]
  repeat' first
    | (refine AWp.seq fun K hK => ?_)
    | ((first | refine AWp.region (by rw [hc]; rfl) ?_ | refine AWp.skip ?_ | refine AWp.exit ?_ | refine AWp.label ?_ | refine AWp.ret ?_ | refine appK_g ?_); simp -implicitDefEqProofs (maxSteps := 1000000) (disch := omega) only [go_sem, wrap64, Int.tdiv_eq_ediv_of_nonneg, Int.tmod_eq_emod_of_nonneg, Nat.reduceAdd, Nat.reduceMul, Nat.reduceEqDiff, Nat.reduceLT, Nat.reduceLeDiff, Int.reduceEq, Int.reduceNeg, Int.reduceToNat, reduceCtorEq, eq_self, Bool.false_eq_true, Bool.true_eq_false, ↓reduceIte])
    | (refine hK _ ?_; clear hK)
    | (clear hK; refine hK _ ?_; clear hK)
    | (clear hK; clear hK; refine hK _ ?_; clear hK)
    | (clear hK; clear hK; clear hK; refine hK _ ?_; clear hK)
    | (refine AWp.cond ?_; simp -implicitDefEqProofs (maxSteps := 1000000) (disch := omega) only [go_sem, wrap64, Int.tdiv_eq_ediv_of_nonneg, Int.tmod_eq_emod_of_nonneg, Nat.reduceAdd, Nat.reduceMul, Nat.reduceEqDiff, Nat.reduceLT, Nat.reduceLeDiff, Int.reduceEq, Int.reduceNeg, Int.reduceToNat, reduceCtorEq, eq_self, Bool.false_eq_true, Bool.true_eq_false, ↓reduceIte]; try (refine ⟨fun hlt => ?_, fun hlt => ?_⟩ <;> (try simp only [decide_eq_true_eq, decide_eq_false_iff_not, beq_iff_eq, bne_iff_ne, ne_eq, beq_eq_false_iff_ne, bne_eq_false_iff_eq, Bool.true_eq_false, Bool.false_eq_true, Int.not_lt, Int.not_le, Decidable.not_not, gt_iff_lt, ge_iff_le, reduceCtorEq] at hlt) <;> (try exact hlt.elim)))
    | (refine AWp.block ?_)
    | ((first | refine gdO_split (fun hlt => ?_) (fun hlt => ?_) | refine tkO_split (fun hlt => ?_) (fun hlt => ?_) | refine opO_split (fun hlt => ?_) (fun hlt => ?_)) <;> have hgd := hlt <;> (try simp only [decide_eq_true_eq, decide_eq_false_iff_not, beq_iff_eq, bne_iff_ne, ne_eq, beq_eq_false_iff_ne, bne_eq_false_iff_eq, Bool.not_eq_true, Bool.not_eq_false, Bool.not_eq_eq_eq_not, Int.not_lt, Int.not_le, Decidable.not_not, gt_iff_lt, ge_iff_le] at hlt) <;> (simp -implicitDefEqProofs (maxSteps := 1000000) (disch := omega) only [go_sem, wrap64, Int.tdiv_eq_ediv_of_nonneg, Int.tmod_eq_emod_of_nonneg, Nat.reduceAdd, Nat.reduceMul, Nat.reduceEqDiff, Nat.reduceLT, Nat.reduceLeDiff, Int.reduceEq, Int.reduceNeg, Int.reduceToNat, reduceCtorEq, eq_self, Bool.false_eq_true, Bool.true_eq_false, ↓reduceIte, hgd]) <;> clear hgd)
    | (with_reducible refine And.intro ?_ ?_; · first | omega | assumption | exact ⟨_, _, rfl, rfl⟩)
    | fail
  refine AWp.loopInv (F122 zs f) (fun i => zs.length - i) (fun i => i ≤ zs.length ∧ ∀ j, j < i → p (zs.getD j (false, [])) = false) 0 ⟨Nat.zero_le _, fun j h => absurd h (Nat.not_lt_zero _)⟩ (Sub.of0 hm id rfl ?_ ?_ (fun _ _ _ _ h => h)) ?_
  all_goals (try dsimp only)
  all_goals (first | omega | (simp -implicitDefEqProofs (maxSteps := 1000000) (disch := omega) only [F122, id, go_sem, Nat.blt_eq, Nat.reduceAdd, Nat.reduceSub, Nat.reduceEqDiff, Nat.reduceLT, ↓reduceIte, and_true, true_and, AV.dat.injEq, DV.int.injEq, DV.bool.injEq, DV.lst.injEq, eq_self_iff_true]; first | done | omega | (simp; done) | (simp; omega)) | (simp; done) | (simp; omega) | skip)
  rintro i ⟨h1, h2⟩ ih
  simp only [F122]
  generalize hz : zs.getD i (false, []) = z at *
  have hpi := hp z
  repeat' first
    | (refine AWp.seq fun K hK => ?_)
    | ((first | refine AWp.region (by rw [hc]; rfl) ?_ | refine AWp.skip ?_ | refine AWp.exit ?_ | refine AWp.label ?_ | refine AWp.ret ?_ | refine appK_g ?_); simp -implicitDefEqProofs (maxSteps := 1000000) (disch := omega) only [go_sem, wrap64, Int.tdiv_eq_ediv_of_nonneg, Int.tmod_eq_emod_of_nonneg, Nat.reduceAdd, Nat.reduceMul, Nat.reduceEqDiff, Nat.reduceLT, Nat.reduceLeDiff, Int.reduceEq, Int.reduceNeg, Int.reduceToNat, reduceCtorEq, eq_self, Bool.false_eq_true, Bool.true_eq_false, ↓reduceIte, hz])
    | (refine hK _ ?_; clear hK)
    | (clear hK; refine hK _ ?_; clear hK)
    | (clear hK; clear hK; refine hK _ ?_; clear hK)
    | (clear hK; clear hK; clear hK; refine hK _ ?_; clear hK)
    | (refine AWp.cond ?_; simp -implicitDefEqProofs (maxSteps := 1000000) (disch := omega) only [go_sem, wrap64, Int.tdiv_eq_ediv_of_nonneg, Int.tmod_eq_emod_of_nonneg, Nat.reduceAdd, Nat.reduceMul, Nat.reduceEqDiff, Nat.reduceLT, Nat.reduceLeDiff, Int.reduceEq, Int.reduceNeg, Int.reduceToNat, reduceCtorEq, eq_self, Bool.false_eq_true, Bool.true_eq_false, ↓reduceIte, hz]; try (refine ⟨fun hlt => ?_, fun hlt => ?_⟩ <;> (try simp only [decide_eq_true_eq, decide_eq_false_iff_not, beq_iff_eq, bne_iff_ne, ne_eq, beq_eq_false_iff_ne, bne_eq_false_iff_eq, Bool.true_eq_false, Bool.false_eq_true, Int.not_lt, Int.not_le, Decidable.not_not, gt_iff_lt, ge_iff_le, reduceCtorEq] at hlt) <;> (try exact hlt.elim)))
    | (refine AWp.block ?_)
    | ((first | refine gdO_split (fun hlt => ?_) (fun hlt => ?_) | refine tkO_split (fun hlt => ?_) (fun hlt => ?_) | refine opO_split (fun hlt => ?_) (fun hlt => ?_)) <;> have hgd := hlt <;> (try simp only [decide_eq_true_eq, decide_eq_false_iff_not, beq_iff_eq, bne_iff_ne, ne_eq, beq_eq_false_iff_ne, bne_eq_false_iff_eq, Bool.not_eq_true, Bool.not_eq_false, Bool.not_eq_eq_eq_not, Int.not_lt, Int.not_le, Decidable.not_not, gt_iff_lt, ge_iff_le] at hlt) <;> (simp -implicitDefEqProofs (maxSteps := 1000000) (disch := omega) only [go_sem, wrap64, Int.tdiv_eq_ediv_of_nonneg, Int.tmod_eq_emod_of_nonneg, Nat.reduceAdd, Nat.reduceMul, Nat.reduceEqDiff, Nat.reduceLT, Nat.reduceLeDiff, Int.reduceEq, Int.reduceNeg, Int.reduceToNat, reduceCtorEq, eq_self, Bool.false_eq_true, Bool.true_eq_false, ↓reduceIte, hz, hgd]) <;> clear hgd)
    | (with_reducible refine And.intro ?_ ?_; · first | omega | assumption | exact ⟨_, _, rfl, rfl⟩)
    | (refine ⟨_, hpi, ?_⟩; simp -implicitDefEqProofs (maxSteps := 1000000) (disch := omega) only [go_sem, wrap64, Int.tdiv_eq_ediv_of_nonneg, Int.tmod_eq_emod_of_nonneg, Nat.reduceAdd, Nat.reduceMul, Nat.reduceEqDiff, Nat.reduceLT, Nat.reduceLeDiff, Int.reduceEq, Int.reduceNeg, Int.reduceToNat, reduceCtorEq, eq_self, Bool.false_eq_true, Bool.true_eq_false, ↓reduceIte])
    | fail
  · have hi : i < zs.length := by omega
    have e : ∀ j (hj : j < zs.length), zs.getD j (false, []) = zs[j] := fun j hj => by simp [hj]
    rw [idx_some p zs i hi (by rw [← e, hz]; exact hlt) (fun j hj => by rw [← e]; exact h2 j hj)]
  · refine ih (i + 1) _ ⟨by omega, fun j hj => ?_⟩ (by omega) (Sub.of0 hm id rfl ?_ ?_ (fun _ _ _ _ h => h))
    · by_cases h : j = i
      · subst h; rw [hz]; assumption
      · exact h2 j (by omega)
    all_goals (try dsimp only)
    all_goals (first | omega | (simp -implicitDefEqProofs (maxSteps := 1000000) (disch := omega) only [F122, id, go_sem, Nat.blt_eq, Nat.reduceAdd, Nat.reduceSub, Nat.reduceEqDiff, Nat.reduceLT, ↓reduceIte, and_true, true_and, AV.dat.injEq, DV.int.injEq, DV.bool.injEq, DV.lst.injEq, eq_self_iff_true]; first | done | omega | (simp; done) | (simp; omega)) | (simp; done) | (simp; omega) | skip)
  · rw [idx_none p zs (fun j hj => by have := h2 j (by omega); simpa [hj] using this)]
theorem hasZ_pc (zs : List (Bool × List Int)) (f : FuncId) (p : Bool × List Int → Bool) (lz : zs.length ≤ 1000000) (hp : ∀ z, PC Tryz.prog f [Zr z.1 z.2] (B (p z))) : PC Tryz.prog 75 [LZ zs, .dat (.fn f [])] (B (zs.any p)) := by
  have hi := idxZ_pc zs f p lz hp
  rw [← idx_ge]
  refine PCr.pc (PCr.of tab_ok Tryz.func75 rfl rfl rfl fun c hc hm => ?_)
  rw [show Tryz.f75.ntmps = _ from Tryz.ntmps75] at hc
  simp only [Tryz.f75]
  repeat' first
    | (refine AWp.seq fun K hK => ?_)
    | ((first | refine AWp.region (by rw [hc]; rfl) ?_ | refine AWp.skip ?_ | refine AWp.exit ?_ | refine AWp.label ?_ | refine AWp.ret ?_ | refine appK_g ?_); simp -implicitDefEqProofs (maxSteps := 1000000) (disch := omega) only [go_sem, wrap64, Int.tdiv_eq_ediv_of_nonneg, Int.tmod_eq_emod_of_nonneg, Nat.reduceAdd, Nat.reduceMul, Nat.reduceEqDiff, Nat.reduceLT, Nat.reduceLeDiff, Int.reduceEq, Int.reduceNeg, Int.reduceToNat, reduceCtorEq, eq_self, Bool.false_eq_true, Bool.true_eq_false, ↓reduceIte])
    | (refine hK _ ?_; clear hK)
    | (clear hK; refine hK _ ?_; clear hK)
    | (clear hK; clear hK; refine hK _ ?_; clear hK)
    | (clear hK; clear hK; clear hK; refine hK _ ?_; clear hK)
    | (refine AWp.cond ?_; simp -implicitDefEqProofs (maxSteps := 1000000) (disch := omega) only [go_sem, wrap64, Int.tdiv_eq_ediv_of_nonneg, Int.tmod_eq_emod_of_nonneg, Nat.reduceAdd, Nat.reduceMul, Nat.reduceEqDiff, Nat.reduceLT, Nat.reduceLeDiff, Int.reduceEq, Int.reduceNeg, Int.reduceToNat, reduceCtorEq, eq_self, Bool.false_eq_true, Bool.true_eq_false, ↓reduceIte]; try (refine ⟨fun hlt => ?_, fun hlt => ?_⟩ <;> (try simp only [decide_eq_true_eq, decide_eq_false_iff_not, beq_iff_eq, bne_iff_ne, ne_eq, beq_eq_false_iff_ne, bne_eq_false_iff_eq, Bool.true_eq_false, Bool.false_eq_true, Int.not_lt, Int.not_le, Decidable.not_not, gt_iff_lt, ge_iff_le, reduceCtorEq] at hlt) <;> (try exact hlt.elim)))
    | (refine AWp.block ?_)
    | ((first | refine gdO_split (fun hlt => ?_) (fun hlt => ?_) | refine tkO_split (fun hlt => ?_) (fun hlt => ?_) | refine opO_split (fun hlt => ?_) (fun hlt => ?_)) <;> have hgd := hlt <;> (try simp only [decide_eq_true_eq, decide_eq_false_iff_not, beq_iff_eq, bne_iff_ne, ne_eq, beq_eq_false_iff_ne, bne_eq_false_iff_eq, Bool.not_eq_true, Bool.not_eq_false, Bool.not_eq_eq_eq_not, Int.not_lt, Int.not_le, Decidable.not_not, gt_iff_lt, ge_iff_le] at hlt) <;> (simp -implicitDefEqProofs (maxSteps := 1000000) (disch := omega) only [go_sem, wrap64, Int.tdiv_eq_ediv_of_nonneg, Int.tmod_eq_emod_of_nonneg, Nat.reduceAdd, Nat.reduceMul, Nat.reduceEqDiff, Nat.reduceLT, Nat.reduceLeDiff, Int.reduceEq, Int.reduceNeg, Int.reduceToNat, reduceCtorEq, eq_self, Bool.false_eq_true, Bool.true_eq_false, ↓reduceIte, hgd]) <;> clear hgd)
    | (with_reducible refine And.intro ?_ ?_; · first | omega | assumption | exact ⟨_, _, rfl, rfl⟩)
    | ((first | refine ⟨_, hi, ?_⟩); simp -implicitDefEqProofs (maxSteps := 1000000) (disch := omega) only [go_sem, wrap64, Int.tdiv_eq_ediv_of_nonneg, Int.tmod_eq_emod_of_nonneg, Nat.reduceAdd, Nat.reduceMul, Nat.reduceEqDiff, Nat.reduceLT, Nat.reduceLeDiff, Int.reduceEq, Int.reduceNeg, Int.reduceToNat, reduceCtorEq, eq_self, Bool.false_eq_true, Bool.true_eq_false, ↓reduceIte])
    | fail
theorem right_pc (zs : List (Bool × List Int)) (lz : zs.length ≤ 1000000) : PC Tryz.prog 17 [LZ zs] (B (zs.all fun z => decide (okI z.1 z.2))) := by
  have h := hasZ_pc zs 76 (fun z => !decide (okI z.1 z.2)) lz (fun z => right1_pc z.1 z.2)
  rw [show (zs.all fun z => decide (okI z.1 z.2)) = !(zs.any fun z => !decide (okI z.1 z.2)) by rw [List.all_eq_not_any_not]]
  refine PCr.pc (PCr.of tab_ok Tryz.func17 rfl rfl rfl fun c hc hm => ?_)
  rw [show Tryz.f17.ntmps = _ from Tryz.ntmps17] at hc
  simp only [Tryz.f17]
  repeat' first
    | (refine AWp.seq fun K hK => ?_)
    | ((first | refine AWp.region (by rw [hc]; rfl) ?_ | refine AWp.skip ?_ | refine AWp.exit ?_ | refine AWp.label ?_ | refine AWp.ret ?_ | refine appK_g ?_); simp -implicitDefEqProofs (maxSteps := 1000000) (disch := omega) only [go_sem, wrap64, Int.tdiv_eq_ediv_of_nonneg, Int.tmod_eq_emod_of_nonneg, Nat.reduceAdd, Nat.reduceMul, Nat.reduceEqDiff, Nat.reduceLT, Nat.reduceLeDiff, Int.reduceEq, Int.reduceNeg, Int.reduceToNat, reduceCtorEq, eq_self, Bool.false_eq_true, Bool.true_eq_false, ↓reduceIte])
    | (refine hK _ ?_; clear hK)
    | (clear hK; refine hK _ ?_; clear hK)
    | (clear hK; clear hK; refine hK _ ?_; clear hK)
    | (clear hK; clear hK; clear hK; refine hK _ ?_; clear hK)
    | (refine AWp.cond ?_; simp -implicitDefEqProofs (maxSteps := 1000000) (disch := omega) only [go_sem, wrap64, Int.tdiv_eq_ediv_of_nonneg, Int.tmod_eq_emod_of_nonneg, Nat.reduceAdd, Nat.reduceMul, Nat.reduceEqDiff, Nat.reduceLT, Nat.reduceLeDiff, Int.reduceEq, Int.reduceNeg, Int.reduceToNat, reduceCtorEq, eq_self, Bool.false_eq_true, Bool.true_eq_false, ↓reduceIte]; try (refine ⟨fun hlt => ?_, fun hlt => ?_⟩ <;> (try simp only [decide_eq_true_eq, decide_eq_false_iff_not, beq_iff_eq, bne_iff_ne, ne_eq, beq_eq_false_iff_ne, bne_eq_false_iff_eq, Bool.true_eq_false, Bool.false_eq_true, Int.not_lt, Int.not_le, Decidable.not_not, gt_iff_lt, ge_iff_le, reduceCtorEq] at hlt) <;> (try exact hlt.elim)))
    | (refine AWp.block ?_)
    | ((first | refine gdO_split (fun hlt => ?_) (fun hlt => ?_) | refine tkO_split (fun hlt => ?_) (fun hlt => ?_) | refine opO_split (fun hlt => ?_) (fun hlt => ?_)) <;> have hgd := hlt <;> (try simp only [decide_eq_true_eq, decide_eq_false_iff_not, beq_iff_eq, bne_iff_ne, ne_eq, beq_eq_false_iff_ne, bne_eq_false_iff_eq, Bool.not_eq_true, Bool.not_eq_false, Bool.not_eq_eq_eq_not, Int.not_lt, Int.not_le, Decidable.not_not, gt_iff_lt, ge_iff_le] at hlt) <;> (simp -implicitDefEqProofs (maxSteps := 1000000) (disch := omega) only [go_sem, wrap64, Int.tdiv_eq_ediv_of_nonneg, Int.tmod_eq_emod_of_nonneg, Nat.reduceAdd, Nat.reduceMul, Nat.reduceEqDiff, Nat.reduceLT, Nat.reduceLeDiff, Int.reduceEq, Int.reduceNeg, Int.reduceToNat, reduceCtorEq, eq_self, Bool.false_eq_true, Bool.true_eq_false, ↓reduceIte, hgd]) <;> clear hgd)
    | (with_reducible refine And.intro ?_ ?_; · first | omega | assumption | exact ⟨_, _, rfl, rfl⟩)
    | ((first | refine ⟨_, h, ?_⟩); simp -implicitDefEqProofs (maxSteps := 1000000) (disch := omega) only [go_sem, wrap64, Int.tdiv_eq_ediv_of_nonneg, Int.tmod_eq_emod_of_nonneg, Nat.reduceAdd, Nat.reduceMul, Nat.reduceEqDiff, Nat.reduceLT, Nat.reduceLeDiff, Int.reduceEq, Int.reduceNeg, Int.reduceToNat, reduceCtorEq, eq_self, Bool.false_eq_true, Bool.true_eq_false, ↓reduceIte])
    | fail
end Go.Proofs.YthhjcfejgoddlaaGreatDoor
end

section
/- Where the simplifier need not look: what follows a step is looked at when the walk gets there. -/
namespace Go.Abs
variable {P : Program} {T : Tab} {c : Ctx} {ro : Option Nat}

@[congr] theorem runO_cg {ops l : List Oper} {σ σ' : St} {K : St → Prop} (h : σ = σ') : runO P T ops l σ K = runO P T ops l σ' K := by rw [h]
@[congr] theorem gdO_cg {ops rest : List Oper} {o : Oper} {want : Bool} {σ : St} {K : St → Prop} {q q' : AV} (h : q = q') : gdO P T ops o rest want σ K q = gdO P T ops o rest want σ K q' := by rw [h]
@[congr] theorem stepK_cg {o : Oper} {σ σ' : St} {K : St → Prop} (h : σ = σ') : stepK P T o σ K = stepK P T o σ' K := by rw [h]
@[congr] theorem planK_cg {ops : Array Oper} {l : List Pl} {σ σ' : St} {X : St → Prop} (h : σ = σ') : planK P T ops l σ X = planK P T ops l σ' X := by rw [h]
@[congr] theorem takeQ_cg {ops : Array Oper} {i : Nat} {σ σ' : St} {X : St → Prop} (h : σ = σ') : takeQ P T ops i σ X = takeQ P T ops i σ' X := by rw [h]
@[congr] theorem opQ_cg {ops : Array Oper} {i : Nat} {σ σ' : St} {X : St → Prop} (h : σ = σ') : opQ P T ops i σ X = opQ P T ops i σ' X := by rw [h]
@[congr] theorem tkO_cg {o : Oper} {want : Bool} {σ : St} {X : St → Prop} {q q' : AV} (h : q = q') : tkO P T o want σ X q = tkO P T o want σ X q' := by rw [h]
@[congr] theorem opO_cg {o : Oper} {want : Bool} {σ : St} {X : St → Prop} {q q' : AV} (h : q = q') : opO P T o want σ X q = opO P T o want σ X q' := by rw [h]
@[congr] theorem treeK_cg {ops : Array Oper} {t : Tr} {σ σ' : St} {X : St → Prop} (h : σ = σ') : treeK P T ops t σ X = treeK P T ops t σ' X := by rw [h]
@[congr] theorem takesK_cg {ops : Array Oper} {t : Tr} {l : List Nat} {σ σ' : St} {X : St → Prop} (h : σ = σ') : takesK P T ops t l σ X = takesK P T ops t l σ' X := by rw [h]
@[congr] theorem loadK_cg {s s' : Sto} {t : TypeId} {x x' : AV} {K : AV → Prop} (h : s = s') (h' : x = x') : loadK s T t x K = loadK s' T t x' K := by rw [h, h']
@[congr] theorem storeK_cg {s s' : Sto} {t : TypeId} {x x' y y' : AV} {K : Sto → Prop} (h : s = s') (h' : x = x') (h'' : y = y') : storeK T t x y s K = storeK T t x' y' s' K := by rw [h, h', h'']
@[congr] theorem faddrK_cg {t : TypeId} {f : Nat} {x x' : AV} {K : AV → Prop} (h : x = x') : faddrK T t f x K = faddrK T t f x' K := by rw [h]
@[congr] theorem iaddrK_cg {s s' : Sto} {t : TypeId} {x x' y y' : AV} {K : AV → Prop} (h : s = s') (h' : x = x') (h'' : y = y') : iaddrK s T t x y K = iaddrK s' T t x' y' K := by rw [h, h', h'']
@[congr] theorem binC_cg {op : BinOp} {t : TypeId} {yo : Operand} {x x' y y' : AV} {K : AV → Prop} (h : x = x') (h' : y = y') : binC T op t yo x y K = binC T op t yo x' y' K := by rw [h, h']
@[congr] theorem binK_cg {op : BinOp} {t : TypeId} {x x' y y' : AV} {K : AV → Prop} (h : x = x') (h' : y = y') : binK T op t x y K = binK T op t x' y' K := by rw [h, h']
@[congr] theorem unK_cg {op : UnOp} {x x' : AV} {K : AV → Prop} (h : x = x') : unK op x K = unK op x' K := by rw [h]
@[congr] theorem extK_cg {x x' : AV} {i : Nat} {K : AV → Prop} (h : x = x') : extK x i K = extK x' i K := by rw [h]
@[congr] theorem lenK_cg {s s' : Sto} {t : TypeId} {x x' : AV} {K : AV → Prop} (h : s = s') (h' : x = x') : lenK s T t x K = lenK s' T t x' K := by rw [h, h']
@[congr] theorem pickK_cg {q q' x x' y y' : AV} {K : AV → Prop} (h : q = q') (h' : x = x') (h'' : y = y') : pickK q x y K = pickK q' x' y' K := by rw [h, h', h'']
@[congr] theorem callQ_cg {f f' : AV} {xs xs' : List AV} {K : AV → Prop} (h : f = f') (h' : xs = xs') : callQ P f xs K = callQ P f' xs' K := by rw [h, h']
@[congr] theorem calleeK_cg {s s' : Sto} {f f' : AV} {xs xs' : List AV} {K : AV → Sto → Prop} (h : s = s') (h' : f = f') (h'' : xs = xs') : calleeK P s f xs K = calleeK P s' f' xs' K := by rw [h, h', h'']
@[congr] theorem sliceK_cg {t : TypeId} {len : Nat} {ps ps' : List (Nat × AV)} {s s' : Sto} {n : Nat} {K : AV → Sto → Nat → Prop} (h : ps = ps') (h' : s = s') : sliceK T t len ps s n K = sliceK T t len ps' s' n K := by rw [h, h']
@[congr] theorem rowK_cg {t : TypeId} {len : Nat} {ps ps' : List (Nat × AV)} {K : AV → Prop} (h : ps = ps') : rowK T t len ps K = rowK T t len ps' K := by rw [h]
@[congr] theorem structK_cg {t : TypeId} {ps ps' : List (Nat × AV)} {K : AV → Prop} (h : ps = ps') : structK T t ps K = structK T t ps' K := by rw [h]
@[congr] theorem allocK_cg {t : TypeId} {s s' : Sto} {n n' : Nat} {K : AV → Sto → Nat → Prop} (h : s = s') (h' : n = n') : allocK T t s n K = allocK T t s' n' K := by rw [h, h']
@[congr] theorem boxK_cg {x x' : AV} {s s' : Sto} {n n' : Nat} {K : AV → Sto → Nat → Prop} (h : s = s') (h' : n = n') (h'' : x = x') : boxK x s n K = boxK x' s' n' K := by rw [h, h', h'']
@[congr] theorem condK_cg {q q' : AV} {X Y : Prop} (h : q = q') : condK q X Y = condK q' X Y := by rw [h]
@[congr] theorem AWp_cg {code : Code} {σ σ' : St} {Q : Exit → St → Prop} (h : σ = σ') : AWp P T c ro code σ Q = AWp P T c ro code σ' Q := by rw [h]
@[congr] theorem LoopAt_cg {code : Code} {σ σ' : St} {Q : Exit → St → Prop} (h : σ = σ') : LoopAt P T c ro code σ Q = LoopAt P T c ro code σ' Q := by rw [h]
end Go.Abs
end

section
set_option linter.unusedSimpArgs false
set_option linter.unusedVariables false
set_option maxRecDepth 100000
namespace Go.Proofs.YthhjcfejgoddlaaGreatDoor
open Go Go.Abs

theorem limP_one {z : Int} (h : lenZ z ≤ 40) : limP z = (z, 0) := if_pos h
theorem limP_1 {z : Int} (h : (limP z).2 = 0) : (limP z).1 = z := by
  unfold limP at h ⊢
  split
  · rfl
  · rename_i g; rw [if_neg g] at h; exact absurd h (by decide)
theorem sumP_1 {p q : Int × Int} (h : (sumP p q).2 = 0) : p.2 = 0 ∧ q.2 = 0 ∧ (sumP p q).1 = p.1 + q.1 := by
  unfold sumP at h ⊢
  split
  · rename_i g; rw [if_pos g] at h; exact ⟨g.1, g.2, limP_1 h⟩
  · rename_i g; rw [if_neg g] at h; exact absurd h (by decide)
theorem timesP_1 {p q : Int × Int} (h : (timesP p q).2 = 0) : p.2 = 0 ∧ q.2 = 0 ∧ (timesP p q).1 = p.1 * q.1 := by
  unfold timesP at h ⊢
  split
  · rename_i g; rw [if_pos g] at h; exact ⟨g.1, g.2, limP_1 h⟩
  · rename_i g; rw [if_neg g] at h; exact absurd h (by decide)
theorem sumP_comm (p q : Int × Int) : sumP p q = sumP q p := by
  unfold sumP; simp only [And.comm, Int.add_comm]
theorem timesP_comm (p q : Int × Int) : timesP p q = timesP q p := by
  unfold timesP; simp only [And.comm, Int.mul_comm]
theorem sumP_assoc (p q r : Int × Int) : (sumP (sumP p q) r).2 = 0 ∧ (sumP p (sumP q r)).2 = 0 → (sumP (sumP p q) r).1 = (sumP p (sumP q r)).1 := by
  rintro ⟨h1, h2⟩
  obtain ⟨a1, a2, a3⟩ := sumP_1 h1
  obtain ⟨b1, b2, b3⟩ := sumP_1 a1
  obtain ⟨c1, c2, c3⟩ := sumP_1 h2
  obtain ⟨d1, d2, d3⟩ := sumP_1 c2
  rw [a3, b3, c3, d3, Int.add_assoc]
theorem timesP_assoc (p q r : Int × Int) : (timesP (timesP p q) r).2 = 0 ∧ (timesP p (timesP q r)).2 = 0 → (timesP (timesP p q) r).1 = (timesP p (timesP q r)).1 := by
  rintro ⟨h1, h2⟩
  obtain ⟨a1, a2, a3⟩ := timesP_1 h1
  obtain ⟨b1, b2, b3⟩ := timesP_1 a1
  obtain ⟨c1, c2, c3⟩ := timesP_1 h2
  obtain ⟨d1, d2, d3⟩ := timesP_1 c2
  rw [a3, b3, c3, d3, Int.mul_assoc]
theorem P_distr (p q r : Int × Int) : (timesP p (sumP q r)).2 = 0 ∧ (sumP (timesP p q) (timesP p r)).2 = 0 → (timesP p (sumP q r)).1 = (sumP (timesP p q) (timesP p r)).1 := by
  rintro ⟨h1, h2⟩
  obtain ⟨a1, a2, a3⟩ := timesP_1 h1
  obtain ⟨b1, b2, b3⟩ := sumP_1 a2
  obtain ⟨c1, c2, c3⟩ := sumP_1 h2
  obtain ⟨d1, d2, d3⟩ := timesP_1 c1
  obtain ⟨e1, e2, e3⟩ := timesP_1 c2
  rw [a3, b3, c3, d3, e3, Int.mul_add]
/-- agree, where it answers true. -/
theorem agree_T (p q : Int × Int) (hp : okP p) (hq : okP q) (h : p.2 = 0 ∧ q.2 = 0 → p.1 = q.1) : PC Tryz.prog 31 [GP p, GP q] (B true) := by
  have := agree_P p q hp hq
  rwa [decide_eq_true h] at this
theorem same_T (p q : Int × Int) (hp : okP p) (hq : okP q) (h : p = q) : PC Tryz.prog 26 [GP p, GP q] (B true) := by
  have := same_P p q hp hq
  rwa [decide_eq_true h] at this
/-- An integer, as a number. -/
theorem okI_ex {neg : Bool} {d : List Int} (h : okI neg d) : ∃ x : Int, Zr neg d = Z x ∧ lenZ x ≤ 40 :=
  ⟨_, (okI_Z h).1, (okI_Z h).2.1⟩
theorem LZ3 (na nb nc : Bool) (a b c : List Int) : LZ [(na, a), (nb, b), (nc, c)] = .dat (.lst [[.bool na, .lst (a.map eI)], [.bool nb, .lst (b.map eI)], [.bool nc, .lst (c.map eI)]]) := rfl
theorem LZ1 (na : Bool) (a : List Int) : LZ [(na, a)] = .dat (.lst [[.bool na, .lst (a.map eI)]]) := rfl
theorem rightZ3 (a b c : Int) (la : lenZ a ≤ 40) (lb : lenZ b ≤ 40) (lc : lenZ c ≤ 40) : PC Tryz.prog 17 [LZ [(decide (a < 0), D a.natAbs), (decide (b < 0), D b.natAbs), (decide (c < 0), D c.natAbs)]] (B true) := by
  have h := right_pc [(decide (a < 0), D a.natAbs), (decide (b < 0), D b.natAbs), (decide (c < 0), D c.natAbs)] (by simp)
  rwa [show (List.all [(decide (a < 0), D a.natAbs), (decide (b < 0), D b.natAbs), (decide (c < 0), D c.natAbs)] fun z => decide (okI z.1 z.2)) = true by
    simp only [List.all_cons, List.all_nil, decide_eq_true (okZ la), decide_eq_true (okZ lb), decide_eq_true (okZ lc)]; rfl] at h
/-- Three new boxes, made in any order, behind three that stand: the names turned. -/
def pm (x y z : Nat) (i : Nat) : Nat := if i < 3 then i else if i = 3 then x else if i = 4 then y else z
theorem pm_inj {x y z : Nat} (h : 3 ≤ x ∧ 3 ≤ y ∧ 3 ≤ z ∧ x ≠ y ∧ y ≠ z ∧ x ≠ z) : ∀ i j, i < 6 → j < 6 → pm x y z i = pm x y z j → i = j := by
  intro i j h1 h2 h3
  unfold pm at h3
  (repeat' split at h3) <;> omega
theorem pms (x y z : Nat) : pm x y z 0 = 0 ∧ pm x y z 1 = 1 ∧ pm x y z 2 = 2 ∧ pm x y z 3 = x ∧ pm x y z 4 = y ∧ pm x y z 5 = z := ⟨rfl, rfl, rfl, rfl, rfl, rfl⟩
def bI (x : Int) : Obj' := .box [B (decide (x < 0)), L (D x.natAbs)] false
def bP (p : Int × Int) : Obj' := .box [B (decide (p.1 < 0)), L (D p.1.natAbs), I p.2] false
def S10 (a b z : Int) : St := ⟨[(3, .ptr 0 0), (4, .ptr 1 0), (5, .ptr 2 0), (7, .ptr 3 0), (8, .ptr 4 0), (9, .ptr 5 0)], [(5, bP (z, 0)), (4, bP (b, 0)), (3, bP (a, 0)), (2, bI z), (1, bI b), (0, bI a)], 6, 0⟩
theorem sg_abs (x : Int) : sgI x = 0 ↔ x = 0 := by unfold sgI; (repeat' split) <;> omega
end Go.Proofs.YthhjcfejgoddlaaGreatDoor
end

section
set_option linter.unusedSimpArgs false
set_option linter.unusedVariables false
set_option maxRecDepth 100000
namespace Go.Proofs.YthhjcfejgoddlaaGreatDoor
open Go Go.Abs

/-- The cells of an integer and of a result, kept closed in a walk. -/
def zC (x : Int) : List AV := [B (decide (x < 0)), L (D x.natAbs)]
def pC (p : Int × Int) : List AV := [B (decide (p.1 < 0)), L (D p.1.natAbs), I p.2]
def zD (x : Int) : List DV := [.bool (decide (x < 0)), .lst ((D x.natAbs).map eI)]
def ppD (p : Int × Int) : List DV := [.bool (decide (p.1 < 0)), .lst ((D p.1.natAbs).map eI), .int .i64 p.2]
abbrev zA (x : Int) : AV := .agg (zC x)
abbrev pA (p : Int × Int) : AV := .agg (pC p)
theorem zC_len (x : Int) : (zC x).length = 2 := rfl
theorem pC_len (p : Int × Int) : (pC p).length = 3 := rfl
theorem zD_len (x : Int) : (zD x).length = 2 := rfl
theorem zC_map (x : Int) : (zD x).map .dat = zC x := rfl
theorem pC_map (p : Int × Int) : (ppD p).map .dat = pC p := rfl
theorem zC_toCs (x : Int) (s : Sto) : toCs s (zC x) = some (zD x, s) := rfl
theorem pC_toCs (p : Int × Int) (s : Sto) : toCs s (pC p) = some (ppD p, s) := rfl
theorem zC_dCs (x : Int) : dCs (zC x) = some (zD x) := rfl
theorem pC_dCs (p : Int × Int) : dCs (pC p) = some (ppD p) := rfl
theorem zC_dats0 (x : Int) : dats0 (zC x) = some (zD x) := rfl
theorem zC_take (x : Int) : List.take 2 (zC x) = zC x := rfl
theorem pC_take (p : Int × Int) : List.take 3 (pC p) = pC p := rfl
theorem pC_take2 (p : Int × Int) : List.take 2 (pC p) = zC p.1 := rfl
theorem pC_get2 (p : Int × Int) : (pC p)[2]? = some (I p.2) := rfl
theorem zC_get0 (x : Int) : (zC x)[0]? = some (B (decide (x < 0))) := rfl
theorem zC_get1 (x : Int) : (zC x)[1]? = some (L (D x.natAbs)) := rfl
theorem zC_drop (x : Int) : List.drop 0 (zC x) = zC x := rfl
theorem pC_drop (p : Int × Int) : List.drop 0 (pC p) = pC p := rfl
def zBx (x : Int) : Obj' := .box (zC x) false
def pBx (p : Int × Int) : Obj' := .box (pC p) false
def R10 (a b z : Int) : St := ⟨[(3, .ptr 0 0), (4, .ptr 1 0), (5, .ptr 2 0), (7, .ptr 3 0), (8, .ptr 4 0), (9, .ptr 5 0)], [(5, pBx (z, 0)), (4, pBx (b, 0)), (3, pBx (a, 0)), (2, zBx z), (1, zBx b), (0, zBx a)], 6, 0⟩
end Go.Proofs.YthhjcfejgoddlaaGreatDoor
end

section
set_option linter.unusedSimpArgs false
set_option linter.unusedVariables false
set_option maxRecDepth 100000
namespace Go.Proofs.YthhjcfejgoddlaaGreatDoor
open Go Go.Abs

/-! The contracts over closed cells. -/
theorem sumA (p q : Int × Int) (hp : okP p) (hq : okP q) : PC Tryz.prog 28 [.agg (pC p), .agg (pC q)] (.agg (pC (sumP p q))) := sum_P p q hp hq
theorem timesA (p q : Int × Int) (hp : okP p) (hq : okP q) : PC Tryz.prog 20 [.agg (pC p), .agg (pC q)] (.agg (pC (timesP p q))) := times_P p q hp hq
theorem valA (x : Int) : PC Tryz.prog 21 [.agg (zC x)] (.agg (pC (x, 0))) := valP x
theorem gotA (x e : Int) : PC Tryz.prog 24 [.agg (zC x), I e] (.agg (pC (x, e))) := gotP (x, e)
theorem agreeA (p q : Int × Int) (hp : okP p) (hq : okP q) (h : p.2 = 0 ∧ q.2 = 0 → p.1 = q.1) : PC Tryz.prog 31 [.agg (pC p), .agg (pC q)] (B true) := agree_T p q hp hq h
theorem sameA (p q : Int × Int) (hp : okP p) (hq : okP q) (h : p = q) : PC Tryz.prog 26 [.agg (pC p), .agg (pC q)] (B true) := same_T p q hp hq h
theorem ofA (n : Int) (h0 : -9223372036854775808 ≤ n) (h1 : n ≤ 9223372036854775807) : PC Tryz.prog 27 [I n] (.agg (zC n)) := of_pc n h0 h1
theorem cmpA (x y : Int) (lx : lenZ x ≤ 40) (ly : lenZ y ≤ 40) : PC Tryz.prog 23 [.agg (zC x), .agg (zC y)] (I (cmpI x y)) := Compare_Z x y (Nat.le_trans lx (by decide)) (Nat.le_trans ly (by decide))
theorem rsameA (x y : Int) (lx : lenZ x ≤ 40) (ly : lenZ y ≤ 40) : PC Tryz.prog 36 [.agg (zC x), .agg (zC y)] (B (decide (x = y))) := Same_Z x y (Nat.le_trans lx (by decide)) (Nat.le_trans ly (by decide))
theorem signA (x : Int) : PC Tryz.prog 18 [.agg (zC x)] (I (sgI x)) := Sign_Z x
theorem smallerA (x y : Int) (lx : lenZ x ≤ 40) (ly : lenZ y ≤ 40) : PC Tryz.prog 35 [.agg (zC x), .agg (zC y)] (B (decide (x.natAbs < y.natAbs))) := smaller_Z x y (Nat.le_trans lx (by decide)) (Nat.le_trans ly (by decide))
theorem limR_A (z : Int) : limR z = .tup [.agg (zC (limP z).1), I (limP z).2] := limR_P z
theorem subA (x y : Int) (lx : lenZ x ≤ 40) (ly : lenZ y ≤ 40) : PC Tryz.prog 37 [.agg (zC x), .agg (zC y)] (.tup [.agg (zC (limP (x - y)).1), I (limP (x - y)).2]) := by
  have := Sub_ok x y lx ly
  rwa [limR_A] at this
theorem negA (x : Int) (lx : lenZ x ≤ 40) : PC Tryz.prog 43 [.agg (zC x)] (.tup [.agg (zC (-x)), I 0]) := Neg_ok x lx
def divP (x y : Int) : Int × Int := if y = 0 then (0, 11) else (x.fdiv y, 0)
def modP (x y : Int) : Int × Int := if y = 0 then (0, 11) else (x.fmod y, 0)
theorem fmod_len {x y : Int} (hy : y ≠ 0) (ly : lenZ y ≤ 40) : lenZ (x.fmod y) ≤ 40 :=
  Nat.le_trans (lenZ_le (by rw [Int.fmod_def]; exact Nat.le_of_lt (fmod_small _ _ hy))) ly
theorem fdiv_len {x y : Int} (lx : lenZ x ≤ 40) : lenZ (x.fdiv y) ≤ 40 := Nat.le_trans (lenZ_le (fdiv_small _ _)) lx
theorem divA (x y : Int) (lx : lenZ x ≤ 40) (ly : lenZ y ≤ 40) : PC Tryz.prog 22 [.agg (zC x), .agg (zC y)] (.tup [.agg (zC (divP x y).1), I (divP x y).2]) := by
  unfold divP
  by_cases hy : y = 0
  · subst hy
    rw [if_pos rfl]
    have := Div_zero x lx
    rwa [← Z_zero] at this
  · rw [if_neg hy]
    have := Div_ok x y hy lx ly
    rwa [limR_A, limP_one (fdiv_len lx)] at this
theorem modA (x y : Int) (lx : lenZ x ≤ 40) (ly : lenZ y ≤ 40) : PC Tryz.prog 34 [.agg (zC x), .agg (zC y)] (.tup [.agg (zC (modP x y).1), I (modP x y).2]) := by
  unfold modP
  by_cases hy : y = 0
  · subst hy
    rw [if_pos rfl]
    have := Mod_zero x lx
    rwa [← Z_zero] at this
  · rw [if_neg hy]
    have := Mod_ok x y hy lx ly
    rwa [limR_A, limP_one (fmod_len hy ly)] at this
theorem divP_ok {x y : Int} (lx : lenZ x ≤ 40) : lenZ (divP x y).1 ≤ 40 := by unfold divP; split; exact lenZ_0; exact fdiv_len lx
theorem modP_ok {x y : Int} (ly : lenZ y ≤ 40) : lenZ (modP x y).1 ≤ 40 := by
  unfold modP; split
  · exact lenZ_0
  · rename_i h; exact fmod_len h ly
/-- What right says of numbers. -/
theorem right3A (a b c : Int) (la : lenZ a ≤ 40) (lb : lenZ b ≤ 40) (lc : lenZ c ≤ 40) : PC Tryz.prog 17 [.dat (.lst [zD a, zD b, zD c])] (B true) := rightZ3 a b c la lb lc
theorem right_bad3 (na nb nc : Bool) (a b c : List Int) (h : ¬ (okI na a ∧ okI nb b ∧ okI nc c)) : PC Tryz.prog 17 [.dat (.lst [[.bool na, .lst (a.map eI)], [.bool nb, .lst (b.map eI)], [.bool nc, .lst (c.map eI)]])] (B false) := by
  have hr := right_pc [(na, a), (nb, b), (nc, c)] (by simp)
  rwa [show (List.all [(na, a), (nb, b), (nc, c)] fun z => decide (okI z.1 z.2)) = false by
    simp only [List.all_cons, List.all_nil, Bool.and_true, ← Bool.decide_and]; exact decide_eq_false h] at hr
theorem limP_ok1 (z : Int) : lenZ (limP z).1 ≤ 40 := limP_ok z
end Go.Proofs.YthhjcfejgoddlaaGreatDoor
end

section
namespace Go.Proofs.YthhjcfejgoddlaaGreatDoor
open Go Go.Abs
theorem pC_drop3 (p : Int × Int) : List.drop 3 (pC p) = [] := rfl
theorem zC_drop2 (x : Int) : List.drop 2 (zC x) = [] := rfl
end Go.Proofs.YthhjcfejgoddlaaGreatDoor
end

section
/- Drawn regions, one operation at a time. -/
namespace Go.Abs
variable {P : Program} {T : Tab}
theorem planK_step {ops : Array Oper} {i : Nat} {l : List Pl} {σ : St} {X : St → Prop} (h : ∀ K : St → Prop, (∀ σ', planK P T ops l σ' X → K σ') → takeQ P T ops i σ K) : planK P T ops (.take i :: l) σ X := h _ (fun _ h => h)
theorem planK_one {ops : Array Oper} {i : Nat} {l : List Pl} {σ : St} {X : St → Prop} (h : ∀ K : St → Prop, (∀ σ', planK P T ops l σ' X → K σ') → opQ P T ops i σ K) : planK P T ops (.grp [i] :: l) σ X := by
  rw [plan_one]; exact h _ (fun _ h => h)
theorem planK_end {ops : Array Oper} {σ : St} {X : St → Prop} (h : X σ) : planK P T ops [] σ X := h
/-! Which operations wait for one, reckoned in one go. -/
def wstep (ops : Array Oper) (i : Nat) (r : List Bool) (k : Nat) : Bool :=
  match ops[k]? with
  | some o => o.after.any fun e => Region.binds .any e && (Nat.beq e.on i || r.getD e.on false)
  | none => false
def wl (ops : Array Oper) (i : Nat) : Nat → List Bool
  | 0 => []
  | k + 1 => (fun r => r ++ [wstep ops i r k]) (wl ops i k)
theorem wl_len (ops : Array Oper) (i : Nat) : ∀ k, (wl ops i k).length = k
  | 0 => rfl
  | k + 1 => by simp [wl, wl_len ops i k]
theorem waits_mono {ops : Array Oper} : ∀ {f g : Nat} {j i : Nat}, f ≤ g → waits ops f j i = true → waits ops g j i = true
  | 0, _, j, i, _, h => by simp [waits] at h
  | f + 1, 0, j, i, hg, h => by omega
  | f + 1, g + 1, j, i, hg, h => by
    unfold waits at h ⊢
    split at h
    · rename_i oj hj
      obtain ⟨e, he, hb⟩ := Array.any_eq_true'.1 h
      refine Array.any_eq_true'.2 ⟨e, he, ?_⟩
      simp only [Bool.and_eq_true, Bool.or_eq_true] at hb ⊢
      exact ⟨hb.1, hb.2.imp id (waits_mono (by omega))⟩
    · cases h
theorem wl_ok {ops : Array Oper} {i : Nat} : ∀ k j, (wl ops i k).getD j false = true → waits ops (j + 1) j i = true
  | 0, j, h => by simp [wl] at h
  | k + 1, j, h => by
    have hl := wl_len ops i k
    rw [show wl ops i (k + 1) = wl ops i k ++ [wstep ops i (wl ops i k) k] from rfl] at h
    rcases Nat.lt_trichotomy j k with g | g | g
    · refine wl_ok k j ?_
      simp only [List.getD, List.getElem?_append_left (show j < (wl ops i k).length by omega)] at h ⊢
      exact h
    · subst g
      simp only [List.getD, List.getElem?_append_right (show (wl ops i j).length ≤ j by omega), hl, Nat.sub_self, List.getElem?_cons_zero, Option.getD_some] at h
      unfold wstep at h
      unfold waits
      split at h
      · rename_i oj hj
        obtain ⟨e, he, hb⟩ := Array.any_eq_true'.1 h
        rw [hj]
        refine Array.any_eq_true'.2 ⟨e, he, ?_⟩
        simp only [Bool.and_eq_true, Bool.or_eq_true] at hb ⊢
        refine ⟨hb.1, hb.2.imp id fun h3 => ?_⟩
        have hlt : e.on < j := by
          rcases Nat.lt_or_ge e.on j with g | g
          · exact g
          · rw [List.getD, List.getElem?_eq_none (by omega)] at h3; cases h3
        exact waits_mono (by omega) (wl_ok j e.on h3)
      · cases h
    · rw [List.getD, List.getElem?_eq_none (by simp; omega)] at h; cases h
def takeOk2 (ops : Array Oper) (listed : Array Bool) (i : Nat) : Bool :=
  match ops[i]? with
  | none => false
  | some oi => quietB oi.op && (Region.ready .any ops listed).contains i && (fun r => (List.range ops.size).all fun j => Nat.beq j i || listed.getD j true || (r.getD j false || match ops[j]? with
    | some oj => oi.apart ops oj && (sfree oi.op || quietB oj.op || newB oj.op)
    | none => true)) (wl ops i ops.size)
theorem takeOk_of {ops : Array Oper} {listed : Array Bool} {i : Nat} (h : takeOk2 ops listed i = true) : takeOk ops listed i = true := by
  unfold takeOk2 at h
  unfold takeOk
  cases hi : ops[i]? with
  | none => rw [hi] at h; exact h
  | some oi =>
    rw [hi] at h
    simp only [Bool.and_eq_true, List.all_eq_true, List.mem_range] at h ⊢
    refine ⟨h.1, fun j hj => ?_⟩
    have h0 := h.2 j hj
    rw [Bool.or_eq_true] at h0 ⊢
    rcases h0 with h1 | h1
    · exact .inl h1
    · right
      rw [Bool.or_eq_true] at h1
      rw [Array.getElem?_eq_getElem hj] at h1 ⊢
      simp only at h1 ⊢
      rcases h1 with h1 | h1
      · rw [waits_mono (show j + 1 ≤ ops.size by omega) (wl_ok _ _ h1), Bool.true_or]
      · rw [h1, Bool.or_true]
def planOk2 (ops : Array Oper) : List Pl → Array Bool → Bool
  | [], listed => (Region.ready .any ops listed).isEmpty
  | .take i :: l, listed => takeOk2 ops listed i && planOk2 ops l (listed.setIfInBounds i true)
  | .grp g :: l, listed => permOk ops g.length listed g && planOk2 ops l (g.foldl (fun a i => a.setIfInBounds i true) listed)
theorem planOk_of {ops : Array Oper} : ∀ {l : List Pl} {listed : Array Bool}, planOk2 ops l listed = true → planOk ops l listed = true
  | [], _, h => h
  | .take i :: l, listed, h => by
    simp only [planOk2, planOk, Bool.and_eq_true] at h ⊢
    exact ⟨takeOk_of h.1, planOk_of h.2⟩
  | .grp g :: l, listed, h => by
    simp only [planOk2, planOk, Bool.and_eq_true] at h ⊢
    exact ⟨h.1, planOk_of h.2⟩
def plansOk2 (ops : Array Oper) (l : List Pl) : Bool := Nat.beq (lens l) ops.size && planOk2 ops l (Array.replicate ops.size false)
theorem AWp.draw2 {c : Ctx} {ro : Option Nat} {id : Nat} {ops : Array Oper} {σ : St} {Q : Exit → St → Prop} (l : List Pl) (hm : P.follows .mixedOrders = true) (hp : plansOk2 ops l = true) (hok : ops.toList.all (dstOk c.N) = true)
    (h : planK P T ops l σ fun σ' => Q .normal σ') : AWp P T c ro (.region id ops true) σ Q :=
  AWp.draw l hm (by
    unfold plansOk2 at hp
    unfold plansOk
    rw [Bool.and_eq_true] at hp ⊢
    exact ⟨hp.1, planOk_of hp.2⟩) hok h
end Go.Abs
end

section
/- A loan: what is the call's own is read as data for a while, and is its own again behind. -/
set_option linter.unusedVariables false
set_option linter.unusedSimpArgs false
namespace Go.Abs
open Go.RowKit

def Obj'.frz : Obj' → Obj'
  | .box xs _ ty => .box xs true ty
  | .row e sz es _ => .row e sz es true

def frzS : Sto → Sto
  | [] => []
  | (i, o) :: l => (i, o.frz) :: frzS l

theorem get_frzS (i : Nat) : ∀ s : Sto, get i (frzS s) = (get i s).map Obj'.frz
  | [] => rfl
  | (j, o) :: l => by
    rw [frzS, get_cons, get_cons, get_frzS i l]
    split <;> rfl

theorem Obj'.frz_permits {o : Obj'} {off : Nat} (h : o.permits off) : o.frz.permits off := by
  cases o with
  | box xs f ty => rfl
  | row e sz es f => exact ⟨rfl, h.2⟩

/-- Values that lean on no cell. -/
def flat (n : Nat) : AV → Bool
  | .dat (.bool _) => true
  | .dat (.int _ _) => true
  | .dat (.str _) => true
  | .ptr i _ => Nat.blt i n
  | .own i => Nat.blt i n
  | .eptr i _ _ => Nat.blt i n
  | .nil => true
  | .und => true
  | _ => false

theorem flat_rv {φ φ' : Nat → Lay} {n n' : Nat} {A A' : Nat → Nat → Prop} {w w' : World} {x : AV} {v : Value} (hf : flat n x = true) (h : RV φ' n' A' w' x v) (hφ : ∀ i, i < n → φ' i = φ i) : RV φ n A w x v := by
  cases x with
  | und => exact .und _
  | nil => cases h; exact .nil
  | dat d =>
    cases h with
    | dat _ _ h =>
      cases d with
      | bool b => cases h; exact .dat _ _ (.bool _)
      | int k m => cases h; exact .dat _ _ (.int _ _)
      | str s => cases h; exact .dat _ _ (.str _)
      | _ => cases hf
  | ptr i o => have hi := Nat.blt_eq.mp hf; cases h; rw [hφ i hi]; exact .ptr i o hi
  | own i => have hi := Nat.blt_eq.mp hf; cases h; rw [hφ i hi]; exact .own i hi
  | eptr i k j => have hi := Nat.blt_eq.mp hf; cases h; rw [hφ i hi]; exact .eptr i k j hi
  | clo f xs => cases hf
  | agg xs => cases hf
  | tup xs => cases hf

def fits (n : Nat) (t : Tm) : Tm → Prop
  | [] => True
  | (k, v) :: l => flat n v = true ∧ lk k t = v ∧ fits n t l
def subFrz (s' : Sto) : Sto → Prop
  | [] => True
  | (i, o) :: l => get i s' = some o.frz ∧ subFrz s' l

theorem fits_spec {n : Nat} {t : Tm} : ∀ {t1 : Tm}, fits n t t1 → ∀ k, lk k t1 = .und ∨ (flat n (lk k t1) = true ∧ lk k t = lk k t1)
  | [], _, k => .inl rfl
  | (j, v) :: l, h, k => by
    rw [lk_cons]
    by_cases hj : j = k
    · subst hj; rw [if_pos rfl]; exact .inr ⟨h.1, h.2.1⟩
    · rw [if_neg hj]; exact fits_spec h.2.2 k
theorem subFrz_spec {s' : Sto} : ∀ {s : Sto}, subFrz s' s → ∀ i o, get i s = some o → get i s' = some o.frz
  | [], _, i, o, h => by simp [get] at h
  | (j, v) :: l, h, i, o, hg => by
    rw [get_cons] at hg
    by_cases hj : j = i
    · subst hj; rw [if_pos rfl] at hg; cases hg; exact h.1
    · rw [if_neg hj] at hg; exact subFrz_spec h.2 i o hg

section
variable {P : Program} {T : Tab} {c : Ctx} {ro : Option Nat}

def loanE (σ : St) (t1 : Tm) : Exit → St → Prop
  | .normal, σ' => σ'.d = σ.d ∧ subFrz σ'.s σ.s ∧ fits σ.n σ'.t t1
  | _, _ => False

theorem cells_get {w : World} {b j : Nat} {vs : List Value} {ty : TypeId} (h : w.heap[b]? = some (.cells vs.toArray ty (0, 0))) : w.cell? ⟨b, j, none⟩ = vs[j]? := by
  rw [cell_of_row w _ _ _ _ _ h]; simp

theorem Mem.loan {φ : Nat → Lay} {s : Sto} {n : Nat} {w : World} (h : Mem c φ s n w) : Keeps (c.AA φ s) w (c.AA φ (frzS s)) w ∧ Mem c φ (frzS s) n w := by
  have hk : Keeps (c.AA φ s) w (c.AA φ (frzS s)) w := fun b o v ha hv => ⟨⟨ha.1, fun i x hx hb => by
    rw [get_frzS] at hx
    cases hg : get i s with
    | none => rw [hg] at hx; cases hx
    | some y =>
      rw [hg] at hx; cases hx
      exact Obj'.frz_permits (ha.2 i y hg hb)⟩, hv⟩
  refine ⟨hk, ⟨h.below, fun i x hx => ?_, fun i j oi oj hi hj he => ?_, h.oth, fun b o v hp => hk b o v (h.pin b o v hp).1 (h.pin b o v hp).2, h.fv_keep hk (fun _ _ => rfl) (Nat.le_refl _), h.hld.keep (fun _ _ _ _ => rfl) (fun i x hx => ?_), h.gw⟩⟩
  · rw [get_frzS] at hx
    cases hg : get i s with
    | none => rw [hg] at hx; cases hx
    | some y =>
      rw [hg] at hx; cases hx
      obtain ⟨h1, h2, h3⟩ := h.obj i y hg
      refine ⟨h1, h2, ?_⟩
      have h4 := h3.keep hk (fun _ _ => rfl) h2 (Nat.le_refl _) rfl
      cases y <;> exact h4
  · rw [get_frzS] at hi hj
    cases hg : get i s with
    | none => rw [hg] at hi; cases hi
    | some y => cases hg' : get j s with
      | none => rw [hg'] at hj; cases hj
      | some z => exact h.inj i j y z hg hg' he
  · rw [get_frzS] at hx
    cases hg : get i s with
    | none => rw [hg] at hx; cases hx
    | some y => exact .inl ⟨i, y, hg, rfl⟩

def loanC (c : Ctx) (φ : Nat → Lay) (σ : St) (w : World) : Ctx := { c with w1 := w, pin := fun b o v => c.AA φ (frzS σ.s) b o ∧ w.cell? ⟨b, o, none⟩ = some v, m := σ.n, fl := φ, fv := [] }
/-- Behind a loan. -/
theorem loan_back {σ σ' : St} {t1 : Tm} {φ φ' : Nat → Lay} {a a' : Act} {w w' : World} (hR : Rel c φ σ a w) (cb : Ctx) (hcb : cb = loanC c φ σ w)
    (hR' : Rel cb φ' σ' a' w') (hq : loanE σ t1 .normal σ') : Rel c φ' { σ with t := t1 } a' w' := by
  subst hcb
  obtain ⟨hk, hM⟩ := hR.mem.loan
  obtain ⟨hd, hs, ht⟩ := hq
  have hsame : ∀ i, i < σ.n → φ' i = φ i := fun i hi => hR'.mem.fv.2.1 i hi
  have hk' : Keeps (c.AA φ σ.s) w (c.AA φ' σ.s) w' := fun b o v ha hv => by
    obtain ⟨ha', hv'⟩ := hk b o v ha hv
    obtain ⟨_, g2⟩ := hR'.mem.pin b o v ⟨ha', hv'⟩
    exact ⟨⟨ha.1, fun i x hx hb => ha.2 i x hx (by rw [← hsame i (hR.mem.obj i x hx).2.1]; exact hb)⟩, g2⟩
  have hadm : ∀ i o off, get i σ.s = some o → o.frz.permits off → c.AA φ (frzS σ.s) (φ i).b off := fun i o off hi hp => by
    refine ⟨⟨.inr (hR.mem.obj i o hi).1, hR.mem.nhid hi off⟩, fun j x hx hb => ?_⟩
    rw [get_frzS] at hx
    cases hg : get j σ.s with
    | none => rw [hg] at hx; cases hx
    | some y =>
      rw [hg] at hx; cases hx
      obtain rfl := hR.mem.inj j i y o hg hi hb
      rw [hi] at hg; cases hg
      exact hp
  refine ⟨hR'.size, by have := hR'.defers; rw [hd] at this; exact this, fun k => ?_, ⟨hR'.mem.below, fun i o ho => ?_, fun i j oi oj hi hj he => ?_, hR.mem.oth.trans hR'.mem.oth, fun b o v hp => hk' b o v (hR.mem.pin b o v hp).1 (hR.mem.pin b o v hp).2, ?_, ?_, hR'.mem.gw⟩⟩
  · show RV φ' σ.n _ w' (lk k t1) _
    rcases fits_spec ht k with h | ⟨h3, h4⟩
    · rw [h]; exact .und _
    · have := hR'.tm k
      rw [h4] at this
      exact flat_rv h3 this (fun i hi => rfl)
  · obtain ⟨g1, g2, g3⟩ := hR.mem.obj i o ho
    have hi := hsame i g2
    obtain ⟨k1, k2, k3⟩ := hR'.mem.obj i _ (subFrz_spec hs i o ho)
    have hc : ∀ off v, o.frz.permits off → w.cell? ⟨(φ i).b, off, none⟩ = some v → w'.cell? ⟨(φ i).b, off, none⟩ = some v := fun off v hp hv => (hR'.mem.pin _ off v ⟨hadm i o off ho hp, hv⟩).2
    refine ⟨by rw [hi]; exact g1, g2, ?_⟩
    cases o with
    | box xs f ot =>
      obtain ⟨vs, ty, a1, a2, a3, a4⟩ := g3
      obtain ⟨vs', ty', b1, b2, b3, b4⟩ := k3
      rw [hi] at b1
      have e : vs' = vs := by
        refine List.ext_getElem? fun j => ?_
        rcases Nat.lt_or_ge j vs.length with hj | hj
        · have h5 := hc j (vs[j]) rfl (by rw [cells_get a1]; exact List.getElem?_eq_getElem hj)
          rw [cells_get b1] at h5
          rw [h5]; exact (List.getElem?_eq_getElem hj).symm
        · rw [List.getElem?_eq_none hj, List.getElem?_eq_none (by omega)]
      subst e
      exact ⟨vs', ty', by rw [hi]; exact b1, a2, a3, fun j x hj => (a4 j x hj).keep hk' hsame (Nat.le_refl _)⟩
    | row e sz es f =>
      obtain ⟨z0, z1, z2, z3, cur, a1, a2, a3, a4, a5, a6⟩ := g3
      obtain ⟨_, _, _, _, cur', b1, b2, b3, b4, b5, b6⟩ := k3
      rw [hi] at b1 b2 b3 b4
      refine ⟨z0, by rw [hi]; exact z1, z2, by rw [hi]; exact z3, cur', by rw [hi]; exact b1, by rw [hi]; exact b2, by rw [hi]; exact b3, by rw [hi]; exact b4, b5, fun k el j d hk1 hj1 => ?_⟩
      have hkl : k < es.length := (List.getElem?_eq_some_iff.1 hk1).1
      have hel := z2 el (List.mem_of_getElem? hk1)
      have hjl : j < sz := by have := (List.getElem?_eq_some_iff.1 hj1).1; omega
      have hlt : k * sz + j < es.length * sz := by
        have : (k + 1) * sz ≤ es.length * sz := Nat.mul_le_mul_right _ hkl
        rw [Nat.add_mul, Nat.one_mul] at this; omega
      have hlt2 : k * sz + j < cur.length := by
        have : es.length * sz ≤ (φ i).cap * sz := Nat.mul_le_mul_right _ (by omega)
        omega
      have h5 := hc (k * sz + j) (cur[k * sz + j]) ⟨rfl, hlt⟩ (by rw [cells_get a1]; exact List.getElem?_eq_getElem hlt2)
      rw [cells_get b1] at h5
      have h6 := a6 k el j d hk1 hj1
      rw [show cur'.getD (k * sz + j) undef = cur.getD (k * sz + j) undef by
        rw [List.getD, h5, List.getD, List.getElem?_eq_getElem hlt2]]
      exact h6.keep hk'
  · have hi' := (hR.mem.obj i oi hi).2.1
    have hj' := (hR.mem.obj j oj hj).2.1
    rw [hsame i hi', hsame j hj'] at he
    exact hR.mem.inj i j oi oj hi hj he
  · exact hR.mem.fv_keep hk' hsame (Nat.le_refl _)
  · refine hR.mem.hld.keep (fun b ob hb hw => ?_) fun i o ho => .inl ⟨i, o, ho, by rw [hsame i (hR.mem.obj i o ho).2.1]⟩
    rw [hw]; exact (hR'.mem.hld.1 b ob hb).2.1

theorem loan_enter {σ : St} {φ : Nat → Lay} {a : Act} {w : World} (hR : Rel c φ σ a w) : Rel (loanC c φ σ w) φ { σ with s := frzS σ.s } a w := by
  obtain ⟨hk, hM⟩ := hR.mem.loan
  exact ⟨hR.size, hR.defers, fun t => (hR.tm t).keep hk (fun _ _ => rfl) (Nat.le_refl _), ⟨hM.below, hM.obj, hM.inj, KeepsOthers.refl _, fun b o v h => h, ⟨Nat.le_refl _, fun _ _ => rfl, by simp [loanC]⟩, hM.hld, hM.gw⟩⟩

/-- What is the call's own is read as data while x runs; behind it is the call's own, as it was. -/
theorem AWp.loan {x y : Code} {σ : St} {Q : Exit → St → Prop} (t1 : Tm)
    (h1 : ∀ c' : Ctx, c'.N = c.N → (c'.m = σ.n ∧ c'.fv = []) → AWp P T c' ro x { σ with s := frzS σ.s } (loanE σ t1))
    (h2 : AWp P T c ro y { σ with t := t1 } Q) : AWp P T c ro (.seq x y) σ Q := by
  refine AWp.seq fun K hK => ?_
  intro hT φ a w hR
  refine wpIn_mono (h1 (loanC c φ σ w) rfl ⟨rfl, rfl⟩ hT φ a w (loan_enter hR)) fun e a' w' hc => ?_
  obtain ⟨φ', σ', hR', hq⟩ := hc
  cases e with
  | normal => exact ⟨φ', _, loan_back hR _ rfl hR' hq, hK _ h2⟩
  | _ => exact hq.elim
/-- The same, over two parts of code. -/
theorem AWp.loan2 {x y z : Code} {σ : St} {Q : Exit → St → Prop} (t1 : Tm)
    (h1 : ∀ c' : Ctx, c'.N = c.N → (c'.m = σ.n ∧ c'.fv = []) → ∀ K : St → Prop, (∀ σ1, AWp P T c' ro y σ1 (loanE σ t1) → K σ1) → AWp P T c' ro x { σ with s := frzS σ.s } (thenK K fun _ _ => False))
    (h2 : AWp P T c ro z { σ with t := t1 } Q) : AWp P T c ro (.seq x (.seq y z)) σ Q := by
  intro hT φ a w hR
  have h := h1 (loanC c φ σ w) rfl ⟨rfl, rfl⟩ _ (fun _ h => h) hT φ a w (loan_enter hR)
  refine wpIn_seq (wpIn_mono h fun e a' w' hc => ?_)
  obtain ⟨φ', σ', hR', hq⟩ := hc
  cases e with
  | normal =>
    refine wpIn_seq (wpIn_mono (hq hT φ' a' w' hR') fun e a2 w2 hc => ?_)
    obtain ⟨φ2, σ2, hR2, hq2⟩ := hc
    cases e with
    | normal => exact h2 hT φ2 a2 w2 (loan_back hR _ rfl hR2 hq2)
    | _ => exact hq2.elim
  | _ => exact hq.elim
end
theorem frzS_nil : frzS [] = [] := rfl
theorem frzS_cons {i : Nat} {o : Obj'} {l : Sto} : frzS ((i, o) :: l) = (i, o.frz) :: frzS l := rfl
theorem frz_box {xs : List AV} {f : Bool} {ty : Option TypeId} : (Obj'.box xs f ty).frz = .box xs true ty := rfl
theorem frz_row {e : TypeId} {sz : Nat} {es : List (List DV)} {f : Bool} : (Obj'.row e sz es f).frz = .row e sz es true := rfl
theorem loanE_n {σ σ' : St} {t1 : Tm} : loanE σ t1 .normal σ' = (σ'.d = σ.d ∧ subFrz σ'.s σ.s ∧ fits σ.n σ'.t t1) := rfl
theorem subFrz_nil {s : Sto} : subFrz s [] = True := rfl
theorem subFrz_cons {s : Sto} {i : Nat} {o : Obj'} {l : Sto} : subFrz s ((i, o) :: l) = (get i s = some o.frz ∧ subFrz s l) := rfl
theorem fits_nil {n : Nat} {t : Tm} : fits n t [] = True := rfl
theorem fits_cons {n : Nat} {t : Tm} {k : Nat} {v : AV} {l : Tm} : fits n t ((k, v) :: l) = (flat n v = true ∧ lk k t = v ∧ fits n t l) := rfl
attribute [go_sem] frzS_nil frzS_cons frz_box frz_row loanE_n subFrz_nil subFrz_cons fits_nil fits_cons flat
end Go.Abs
end

section
/- A range over the parts of a row of the call's own, which the body may write. -/
set_option linter.unusedVariables false
set_option linter.unusedSimpArgs false
namespace Go.Abs
open Go.RowKit

/-- A variable that holds a slice of ints. -/
def StD (bs b len cap : Nat) (W : World) : Prop := W.cell? ⟨bs, 0, none⟩ = some (.slice (some ⟨b, 0, none⟩) len cap) ∧ ∀ j, j < len → ∃ z, W.cell? ⟨b, 0 + j, none⟩ = some (.int .i64 z)
def ItD (P : Program) (gf : FuncId) : Prop :=
  Enters P gf ∧ ∀ (bs b len cap : Nat) (w : World), len ≤ 1099511627776 → StD bs b len cap w →
    SeqStopsK (FF none) 0 P gf #[.pointer (some ⟨bs, 0, none⟩)] (fun x : Fin len × Int => #[.int .i64 ((len - 1 - x.1.val : Nat) : Int), .int .i64 x.2]) (fun W W' => StD bs b len cap W → StD bs b len cap W')
      (fun xs => xs.map (·.1) = List.finRange len) (fun pre => pre.map (·.1) <+: List.finRange len) len w
def okD (i j len : Nat) (s : Sto) : Prop := (∃ f ty, get j s = some (.box [.own i] f ty)) ∧ ∃ e es f, get i s = some (.row e 1 es f) ∧ es.length = len ∧ ∀ el ∈ es, ∃ z, el = [.int .i64 z]

section
variable {P : Program} {T : Tab} {c : Ctx}

theorem Mem.std {φ : Nat → Lay} {s : Sto} {n : Nat} {W : World} {i j len : Nat} (h : Mem c φ s n W) (hd : okD i j len s) : StD (φ j).b (φ i).b len (φ i).cap W ∧ (φ i).len = len := by
  obtain ⟨⟨f, ty, h1⟩, e, es, f', h2, rfl, h4⟩ := hd
  obtain ⟨_, _, vs, ty', g1, g2, g3, g4⟩ := h.obj j _ h1
  obtain ⟨_, _, z0, z1, z2, z3, cur, b1, b2, b3, b4, b5, b6⟩ := h.obj i _ h2
  refine ⟨⟨?_, fun k hk => ?_⟩, z3.symm⟩
  · rw [cells_get g1]
    match vs, g2 with
    | [v], _ =>
      have := g4 0 _ rfl
      simp only [List.getD_cons_zero] at this
      cases this
      rw [z3]; rfl
  · obtain ⟨z, hz⟩ := h4 (es[k]) (List.getElem_mem hk)
    have h6 := b6 k (es[k]) 0 (.int .i64 z) (List.getElem?_eq_getElem hk) (by rw [hz]; rfl)
    refine ⟨z, ?_⟩
    have hl : k < cur.length := by rw [b2, Nat.mul_one]; omega
    rw [cells_get b1, Nat.zero_add, List.getElem?_eq_getElem hl]
    simp only [Nat.mul_one, Nat.add_zero, List.getD, List.getElem?_eq_getElem hl, Option.getD_some] at h6
    generalize cur[k] = u at h6
    cases h6; rfl

theorem AWp.rangeD {g : Operand} {ps : Array Tmp} {assign body : Code} {σ : St} {Q : Exit → St → Prop} (gf : FuncId) (i j len : Nat) (pairs : List (Nat × Nat))
    (hg : evA σ.t g = .clo gf [.ptr j 0]) (hok : okD i j len σ.s) (hlen : len ≤ 1099511627776) (hit : ItD P gf) (hps : ps.size = 2) (hpd : ps.toList.all (fun p => Nat.blt p c.N) = true)
    (hasg : Asg assign pairs) (had : pairs.all (fun p => Nat.blt p.1 c.N) = true) (hfv : c.fv = [])
    (I : List (Fin len) → Sto → Nat → Prop) (hI : ∀ pre s n, I pre s n → okD i j len s) (h0 : I [] σ.s σ.n)
    (hbody : ∀ (c' : Ctx) (l : Nat) (pre : List (Fin len)) (k : Fin len) (v : Int) (s : Sto) (n : Nat), c'.N = c.N → c'.m = σ.n → pre.length < len → σ.n ≤ n → I pre s n →
      AWp P T c' (some l) body ⟨asgT pairs (setsT (ps.toList.zip [.dat (.int .i64 ((len - 1 - k.val : Nat) : Int)), .dat (.int .i64 v)]) σ.t), s, n, 0⟩ (fun e σ' => match e with | .normal => I (pre ++ [k]) σ'.s σ'.n | _ => False))
    (hdone : ∀ s n, I (List.finRange len) s n → Q .normal ⟨σ.t, s, n, σ.d + 1⟩) : AWp P T c none (.rangeFunc g ps assign body) σ Q := by
  intro hT φ a w hR
  have hgv := hR.ev g
  rw [hg] at hgv
  have hjn : j < σ.n := by
    obtain ⟨⟨f, ty, h1⟩, _⟩ := hok
    exact (hR.mem.obj j _ h1).2.1
  have hin : i < σ.n := by
    obtain ⟨_, e, es, f', h2, _⟩ := hok
    exact (hR.mem.obj i _ h2).2.1
  have hgeq : a.eval g = .func (.func gf) #[] #[.pointer (some ⟨(φ j).b, 0, none⟩)] := by
    generalize hv : a.eval g = v at hgv
    cases hgv with
    | clo _ _ vs hl h =>
      match vs, hl with
      | [u], _ =>
        have := h 0 _ rfl
        simp only [List.getD_cons_zero] at this
        cases this; rfl
  obtain ⟨hst0, hlen0⟩ := hR.mem.std hok
  obtain ⟨hent, hit⟩ := hit
  have hseq := hit (φ j).b (φ i).b len (φ i).cap w hlen hst0
  let cl : Ctx := { c with pin := fun b o v => c.pin b o v ∨ (c.AA φ σ.s b o ∧ w.cell? ⟨b, o, none⟩ = some v), m := σ.n, fl := φ, fv := (List.range c.N).map fun t => (lk t σ.t, a.tmps.getD t undef) }
  have hMl : Mem cl φ σ.s σ.n w := ⟨hR.mem.below, hR.mem.obj, hR.mem.inj, hR.mem.oth, fun b o v hp => by
    rcases hp with hp | hp
    · exact hR.mem.pin b o v hp
    · exact hp, ⟨Nat.le_refl _, fun _ _ => rfl, fun p hp => by
    obtain ⟨t, _, rfl⟩ := List.mem_map.1 hp
    exact hR.tm t⟩, hR.mem.hld, hR.mem.gw⟩
  have hmk : ∀ d ∈ a.defers, ∃ r, d = { target := .collected r, args := #[] } ∧ r < w.heap.size := fun d hd => by
    obtain ⟨r, e, _, h⟩ := hR.defers.2.2 d hd
    exact ⟨r, e, (Array.getElem?_eq_some_iff.1 h).1⟩
  have back : ∀ {φ' s n W}, Mem cl φ' s n W → Mem c φ' s n W := fun h => ⟨h.below, h.obj, h.inj, h.oth, fun b o v hp => h.pin b o v (.inl hp), by rw [hfv]; exact ⟨Nat.le_trans hR.mem.fv.1 h.fv.1, fun i hi => (h.fv.2.1 i (Nat.lt_of_lt_of_le hi hR.mem.fv.1)).trans (hR.mem.fv.2.1 i hi), by simp⟩, h.hld, h.gw⟩
  have tms : ∀ {c' : Ctx} {φ' s n W}, c'.AA = c.AA → c'.m = σ.n → c'.fv = cl.fv → Mem c' φ' s n W → ∀ t, RV φ' n (c.AA φ' s) W (lk t σ.t) (a.tmps.getD t undef) := fun {c' φ' s n W} e1 e2 e3 h t => by
    by_cases ht : t < c.N
    · have := h.fv.2.2 (lk t σ.t, a.tmps.getD t undef) (by rw [e3]; exact List.mem_map.2 ⟨t, List.mem_range.2 ht, rfl⟩)
      rw [e1] at this
      exact this.keep (Keeps.refl _ _) (fun _ _ => rfl) h.fv.1
    · have h1 := hR.tm t
      have : a.tmps.getD t undef = undef := by simp [Array.getD, hR.size, ht]
      rw [this] at h1 ⊢
      exact h1.undef
  have stW : ∀ {c' : Ctx} {φ' s n W} (pre : List (Fin len)), (∀ i, i < σ.n → φ' i = φ i) → Mem c' φ' s n W → I pre s n → StD (φ j).b (φ i).b len (φ i).cap W := fun {c' φ' s n W} pre hs h hi => by
    have := (h.std (hI _ _ _ hi)).1
    rwa [hs j hjn, hs i hin] at this
  let IC : List (Fin len × Int) → World → Prop := fun pre W => Marks c W a.defers σ.d ∧ ∃ φ' s n, Mem cl φ' s n W ∧ I (pre.map (·.1)) s n
  have hsz0 : c.w0.heap.size ≤ w.heap.size := hR.mem.below.size
  have hsz1 : c.w1.heap.size ≤ w.heap.size := hR.mem.oth.size
  have hmo : ∀ {W W' : World} {row : Option Nat}, Marks c W a.defers σ.d → W.grownBy W' row → (∀ r, row = some r → w.heap.size ≤ r ∧ ∃ o : Obj, W.heap[r]? = some o ∧ o.isCells = false) → Marks c W' a.defers σ.d := fun {W W' row} h hg hr =>
    ⟨h.1, h.2.1, fun d hd => by
      obtain ⟨r, e, hb, hh⟩ := h.2.2 d hd
      obtain ⟨r', e', hlt⟩ := hmk d hd
      rw [e] at e'
      simp only [Deferred.mk.injEq, Target.collected.injEq, and_true] at e'
      subst e'
      refine ⟨r, e, hb, ?_⟩
      rw [hg.block r (Array.getElem?_eq_some_iff.1 hh).1 (fun er => by have := (hr r er.symm).1; omega)]
      exact hh⟩
  have hIC : OwnFrom w.heap.size IC := fun pre W W' row hs hg hr => by
    obtain ⟨hm, φ', s, n, hM, hI⟩ := hs
    exact ⟨hmo hm hg hr, φ', s, n, (hM.own hg hr hsz0 hsz1).1, hI⟩
  have fin : ∀ {D : Nat} {φ' : Nat → Lay} {s : Sto} {n : Nat} {W : World}, w.heap.size ≤ D → W.heap[D]? = some (.deferred (some [])) → Marks c W a.defers σ.d → Mem cl φ' s n W →
      Rel c φ' ⟨σ.t, s, n, σ.d + 1⟩ { a with defers := { target := .collected D, args := #[] } :: a.defers } W := fun {D φ' s n W} hD hW hm hM =>
    ⟨hR.size, ⟨by simp [hm.1], List.nodup_cons.2 ⟨fun hin => by
        obtain ⟨r, e, hlt⟩ := hmk _ hin
        simp only [Deferred.mk.injEq, Target.collected.injEq, and_true] at e
        omega, hm.2.1⟩, fun d hd => by
        rcases List.mem_cons.1 hd with rfl | hd
        · exact ⟨D, rfl, by omega, hW⟩
        · exact hm.2.2 d hd⟩, tms (c' := cl) rfl rfl rfl hM, back hM⟩
  refine wpIn_FF (n := 1) ?_
  refine wpIn_rangeFunc_ownF (F := FF none) (n := 1) rfl (Nat.le_refl _) hgeq trivial hent hseq (fun h k x => k (h x)) (fun W l o o' hl ho hc _ hs => ?_)
    (Below.refl _ w) (fun k => by rw [hps]; rfl) IC (fun _ _ _ => False) hIC (fun _ _ _ _ _ hs _ _ => hs) ⟨hR.defers, φ, σ.s, σ.n, hMl, h0⟩
    (fun k => { tmps := asgV pairs ((ps.zip #[.int .i64 ((len - 1 - k.1.val : Nat) : Int), .int .i64 k.2]).foldl (fun t (p, v) => t.setIfInBounds p v) a.tmps), defers := [] })
    (fun l x W K hK => hasg.wpIn _ _ _ _ l hK) (fun l pre k W hI' hlen' => ?_) (fun D xs W hD hS hI' hW => ?_) (fun D code pre W hD hSp hI' hW => hI'.elim)
  · have hput : ∀ b off v, W.cell? ⟨b, off, none⟩ = some v → (W.putObj l o').cell? ⟨b, off, none⟩ = some v := fun b off v hv => by
      rw [World.cell?_of_block (w := W)]
      · exact hv
      · refine World.putObj_heap_other fun e => ?_
        simp only at e
        subst e
        obtain ⟨ob, g1, g2⟩ := cells_of_cell hv
        simp only at g1
        rw [ho] at g1; cases g1; rw [hc] at g2; cases g2
    exact ⟨hput _ _ _ hs.1, fun k hk => let ⟨z, hz⟩ := hs.2 k hk; ⟨z, hput _ _ _ hz⟩⟩
  · obtain ⟨hm, φ', s, n, hM, hIp⟩ := hI'
    let cb : Ctx := { cl with w1 := W }
    have hMb : Mem cb φ' s n W := ⟨hM.below, hM.obj, hM.inj, KeepsOthers.refl _, hM.pin, hM.fv, hM.hld, hM.gw⟩
    have hsize : a.tmps.size = c.N := hR.size
    have hRb : Rel cb φ' ⟨asgT pairs (setsT (ps.toList.zip [.dat (.int .i64 ((len - 1 - k.1.val : Nat) : Int)), .dat (.int .i64 k.2)]) σ.t), s, n, 0⟩ { tmps := asgV pairs ((ps.zip #[.int .i64 ((len - 1 - k.1.val : Nat) : Int), .int .i64 k.2]).foldl (fun t (p, v) => t.setIfInBounds p v) a.tmps), defers := [] } W := by
      refine ⟨?_, ⟨rfl, by simp, by simp⟩, ?_, hMb⟩
      · simp only [asgV_size, zip_setsV, setsV_size]; exact hR.size
      · have h1 := tms (c' := cl) rfl rfl rfl hM
        have h2 := sets_rv (φ := φ') (n := n) (A := c.AA φ' s) (w := W) ps.toList [.dat (.int .i64 ((len - 1 - k.1.val : Nat) : Int)), .dat (.int .i64 k.2)] [.int .i64 ((len - 1 - k.1.val : Nat) : Int), .int .i64 k.2] σ.t a.tmps rfl (fun j x hj => by
          rcases j with _ | _ | j
          · obtain rfl := Option.some.inj hj; exact .dat _ _ (.int _ _)
          · obtain rfl := Option.some.inj hj; exact .dat _ _ (.int _ _)
          · simp at hj) (fun d hd => by
          rw [hsize]; exact Nat.blt_eq.mp ((List.all_eq_true.1 hpd) d hd)) h1
        intro t
        simp only [zip_setsV]
        exact asg_rv pairs _ _ (fun x hx => by rw [setsV_size, hsize]; exact Nat.blt_eq.mp ((List.all_eq_true.1 had) x hx)) h2 t
    refine wpIn_mono (hbody cb l (pre.map (·.1)) k.1 k.2 s n rfl rfl (by simpa using hlen') hM.fv.1 hIp hT φ' _ W hRb) fun e a' W' hc => ?_
    obtain ⟨φ2, σ2, hR2, hq⟩ := hc
    have hoth : KeepsOthers W W' := hR2.mem.oth
    have hM2 : Mem cl φ2 σ2.s σ2.n W' := ⟨hR2.mem.below, hR2.mem.obj, hR2.mem.inj, hM.oth.trans hoth, hR2.mem.pin, hR2.mem.fv, hR2.mem.hld, hR2.mem.gw⟩
    have hm2 : Marks c W' a.defers σ.d := hm.keep hoth
    cases e with
    | normal => exact ⟨hoth, fun _ => stW _ (fun i hi => hM2.fv.2.1 i hi) hM2 hq, hm2, φ2, σ2.s, σ2.n, hM2, by simpa using hq⟩
    | _ => exact hq.elim
  · obtain ⟨hm, φ', s, n, hM, hIp⟩ := hI'
    rw [hS] at hIp
    exact ⟨φ', _, fin hD hW hm hM, hdone s n hIp⟩
end
end Go.Abs
end

section
set_option linter.unusedSimpArgs false
set_option linter.unusedVariables false
set_option maxRecDepth 100000
namespace Go.Proofs.YthhjcfejgoddlaaGreatDoor
open Go Go.Abs

theorem Bp_ad (i k : Nat) : Bp (i + k) = Bp i * Bp k := by unfold Bp; exact Int.pow_add _ _ _
/-- The greatest number whose square is not greater. -/
def rt : Nat → Nat
  | 0 => 0
  | n + 1 => if (rt n + 1) * (rt n + 1) ≤ n + 1 then rt n + 1 else rt n
theorem rt_spec : ∀ n, rt n * rt n ≤ n ∧ n < (rt n + 1) * (rt n + 1)
  | 0 => by simp [rt]
  | n + 1 => by
    obtain ⟨h1, h2⟩ := rt_spec n
    unfold rt
    split
    · rename_i h
      refine ⟨h, ?_⟩
      have : (rt n + 1 + 1) * (rt n + 1 + 1) = (rt n + 1) * (rt n + 1) + 2 * (rt n + 1) + 1 := by grind
      omega
    · rename_i h
      exact ⟨by omega, by omega⟩
theorem sq_lt {x y : Nat} (h : x * x < y * y) : x < y := by
  rcases Nat.lt_or_ge x y with h1 | h1
  · exact h1
  · have := Nat.mul_le_mul h1 h1; omega
theorem rt_eq {n r : Nat} (h1 : r * r ≤ n) (h2 : n < (r + 1) * (r + 1)) : rt n = r := by
  obtain ⟨k1, k2⟩ := rt_spec n
  have a := sq_lt (show r * r < (rt n + 1) * (rt n + 1) by omega)
  have b := sq_lt (show rt n * rt n < (r + 1) * (r + 1) by omega)
  omega
/-- Part by part: what is known where the parts from i on are found. -/
def RtI (a : Nat) (r : List Int) (i : Nat) : Prop := dig r ∧ (∀ j, j < i → r.getD j 0 = 0) ∧ val r * val r ≤ a ∧ (a : Int) < (val r + Bp i) * (val r + Bp i)
/-- Between the bounds of the search for part i. -/
def RtS (a : Nat) (r : List Int) (i lo hi : Nat) : Prop := (val r + lo * Bp i) * (val r + lo * Bp i) ≤ (a : Int) ∧ (a : Int) < (val r + (hi + 1) * Bp i) * (val r + (hi + 1) * Bp i)
theorem RtI_0 (a L : Nat) (h : (D a).length ≤ 2 * L) : RtI a (List.replicate L 0) L := by
  refine ⟨fun x hx => by rw [List.eq_of_mem_replicate hx]; decide, fun j _ => by simp [List.getD, List.getElem?_replicate]; split <;> rfl, ?_, ?_⟩
  · rw [val_replicate0]; omega
  · rw [val_replicate0, Int.zero_add, ← Bp_ad]
    have := D_len a
    have := Bp_mono (show (D a).length ≤ L + L by omega)
    omega
theorem RtS_0 {a : Nat} {r : List Int} {i : Nat} (h : RtI a r (i + 1)) : RtS a r i 0 999999999 := by
  obtain ⟨h1, h2, h3, h4⟩ := h
  refine ⟨by simpa using h3, ?_⟩
  rw [Bp_succ] at h4
  exact h4
theorem RtI_step {a : Nat} {r : List Int} {i lo : Nat} (h : RtI a r (i + 1)) (hi : i < r.length) (hlo : lo ≤ 999999999) (hs : RtS a r i lo lo) : RtI a (r.set i (lo : Int)) i := by
  obtain ⟨h1, h2, h3, h4⟩ := h
  obtain ⟨s1, s2⟩ := hs
  have h0 := h2 i (by omega)
  have e : val (r.set i (lo : Int)) = val r + lo * Bp i := by rw [val_set _ _ _ hi, h0, Int.sub_zero]
  refine ⟨dig_set h1 _ (by omega), fun j hj => ?_, by rw [e]; exact s1, ?_⟩
  · rw [getD_set_ne _ _ _ _ (by omega)]; exact h2 j (by omega)
  · rw [e]
    have e2 : val r + (lo : Int) * Bp i + Bp i = val r + (lo + 1) * Bp i := by grind
    rw [e2]; exact s2
theorem Rt_val {a : Nat} {r : List Int} {i m : Nat} (h : RtI a r (i + 1)) (hi : i < r.length) (x : Int) : val ((r.set i x).set i (m : Int)) = val r + m * Bp i := by
  rw [List.set_set, val_set _ _ _ hi, h.2.1 i (by omega), Int.sub_zero]
theorem Rt_nonneg {a : Nat} {r : List Int} {i m : Nat} (h : RtI a r i) : 0 ≤ val r + (m : Int) * Bp i := by
  have := val_nonneg h.1
  have := Int.mul_nonneg (show 0 ≤ (m : Int) by omega) (Int.le_of_lt (Bp_pos i))
  omega
/-- What the comparison of the square says. -/
theorem Rt_cmp {a : Nat} {v : Int} (hv : 0 ≤ v) : cmpI ((v.toNat * v.toNat : Nat) : Int) a ≤ 0 ↔ v * v ≤ (a : Int) := by
  have e : ((v.toNat * v.toNat : Nat) : Int) = v * v := by rw [Int.natCast_mul, Int.toNat_of_nonneg hv]
  rw [e]
  simp only [cmpI]; (repeat' split) <;> omega
theorem Rt_end {a : Nat} {r : List Int} (h : RtI a r 0) : (val r).toNat = rt a := by
  obtain ⟨h1, h2, h3, h4⟩ := h
  have hv := val_nonneg h1
  rw [Bp_zero] at h4
  obtain ⟨n, hn⟩ : ∃ n : Nat, val r = n := ⟨(val r).toNat, by omega⟩
  rw [hn] at h3 h4 ⊢
  rw [Int.toNat_natCast]
  refine (rt_eq ?_ ?_).symm
  · exact_mod_cast h3
  · exact_mod_cast h4
theorem rt_len (a : Nat) (h : (D a).length ≤ 40) : (D (rt a)).length ≤ 40 := by
  refine Nat.le_trans (D_len_le ?_) h
  obtain ⟨h1, h2⟩ := rt_spec a
  rcases Nat.eq_zero_or_pos (rt a) with h0 | h0
  · omega
  · have := Nat.le_mul_of_pos_left (rt a) h0; omega
end Go.Proofs.YthhjcfejgoddlaaGreatDoor
end

section
set_option linter.unusedSimpArgs false
set_option linter.unusedVariables false
namespace Go.Proofs.YthhjcfejgoddlaaGreatDoor
open Go Go.Abs
attribute [local go_sem] Oper.semAt_some

set_option maxRecDepth 100000 in
set_option maxHeartbeats 2000000 in
theorem down_own (F : Fence) (n : Nat) (h140 : F.fn 140) (hro : F.round = none) (hn : 1 ≤ n) (l Bs b len cap : Nat) (hlen : len ≤ 1099511627776)
    (J Jx : List (Fin len × Int) → World → Prop)
    (hY : ∀ pre x W, J pre W → pre.length < len → YieldAt F (n - 1) Tryz.prog l #[.int .i64 ((len - 1 - x.1.val : Nat) : Int), .int .i64 x.2] W fun e W' =>
      (e = .returned (.bool true) ∧ J (pre ++ [x]) W' ∧ (StD Bs b len cap W → StD Bs b len cap W')) ∨ (e = .returned (.bool false) ∧ Jx (pre ++ [x]) W'))
    (W : World) (hst : StD Bs b len cap W) (h0 : J [] W) :
    CallsIn F n Tryz.prog 140 #[.func (.yield l) #[] #[], .pointer (some ⟨Bs, 0, none⟩)] W fun e W' => (∃ v, e = .returned v) ∧
      ((∃ ys : List (Fin len × Int), ys.map (·.1) = List.finRange len ∧ J ys W') ∨ (∃ pre : List (Fin len × Int), pre.map (·.1) <+: List.finRange len ∧ Jx pre W')) := by
  have hBs := hst.1
  refine callsIn_of_wp Tryz.func140 rfl h140 ?_ hro
  simp only [Tryz.ntmps140, List.size_toArray, List.length_cons, List.length_nil, Nat.reduceAdd, Nat.reduceSub, Array.replicate_succ, Array.replicate_zero, List.push_toArray, List.append_toArray, List.nil_append, List.cons_append]
  gi_wp2
  gi_loopw [3] (fun i wr => ∃ (k : Nat) (pre : List (Fin len × Int)), k ≤ len ∧ i = .int .i64 ((len : Int) - 1 - k) ∧ pre.map (·.1) = (List.finRange len).take k ∧ J pre wr ∧ StD Bs b len cap wr)
    (fun i _ => (iOf i + 1).toNat)
  case atStart => exact ⟨0, [], Nat.zero_le _, by simp, rfl, h0, hst⟩
  case round =>
    obtain ⟨k, pre, hk, rfl, hpre, hJs, hkp⟩ := hrel
    have hB' := hkp.1
    have hpl : pre.length = k := by
      have := congrArg List.length hpre
      simpa [Nat.min_eq_left hk] using this
    by_cases hlt : k < len
    · have e : (len : Int) - 1 - k = ((len - 1 - k : Nat) : Int) := by omega
      obtain ⟨z, hc'⟩ := hkp.2 (len - 1 - k) (by omega)
      rw [Nat.zero_add] at hc'
      obtain ⟨fn, tmps, assign, body, hy, hR⟩ := hY pre (⟨k, hlt⟩, z) wr hJs (by omega)
      simp only [e]
      simp only at hy
      have hi1 : len - 1 - k < len := by omega
      gi_wp2
      refine hR.mono ?_
      rintro e' W3 (⟨rfl, hJ3, hk3⟩ | ⟨rfl, hJx3⟩)
      · gi_wp2
        go_roundw
        case rel => exact ⟨k + 1, pre ++ [(⟨k, hlt⟩, z)], by omega, by first | (simp; done) | (simp; omega), by rw [finRange_take_succ hlt, List.map_append, hpre]; rfl, hJ3, hk3 hkp⟩
        case measure => first | (simp [iOf]; done) | (simp [iOf]; omega)
      · gi_wp2
        refine bodyPost_ret (results_none rfl _ _ _) rfl ?_
        exact ⟨⟨_, rfl⟩, .inr ⟨_, by rw [List.map_append, hpre]; show _ ++ [(⟨k, hlt⟩ : Fin len)] <+: _; rw [← finRange_take_succ hlt]; exact List.take_prefix _ _, hJx3⟩⟩
    · obtain rfl : k = len := by omega
      gi_wp2
      go_end0
      exact ⟨⟨_, rfl⟩, .inl ⟨pre, by rw [hpre]; simp [List.take_of_length_le], hJs⟩⟩

theorem down_itD : ItD Tryz.prog 140 := by
  refine ⟨enters_of' Tryz.func140 rfl rfl, fun bs b len cap w hlen hst => ?_⟩
  intro l J Jx W hW hJ hJx hY hJ0
  have hcell : ∀ b o v, w.cell? ⟨b, o, none⟩ = some v → W.cell? ⟨b, o, none⟩ = some v := fun b o v hc => by
    rw [hW.cell (p := ⟨b, o, none⟩) (World.block_lt_of_cell? _ _ hc)]; exact hc
  exact callsIn_FF_n (m := 1) (down_own (FF none) 1 trivial rfl (Nat.le_refl _) l bs b len cap hlen J Jx (fun pre x W1 hj hl => hY pre x W1 hj hl) W ⟨hcell _ _ _ hst.1, fun j hj => let ⟨z, hz⟩ := hst.2 j hj; ⟨z, hcell _ _ _ hz⟩⟩ hJ0)

/-- down over a row of the caller's own: the slice is boxed and kept by the closure. -/
theorem down_po (k e : Nat) (es : List (List DV)) (f : Bool) (s : Sto) (n : Nat) (hk : get k s = some (.row e 1 es f)) : PO Tryz.prog 110 [.own k] s n (fun r s' n' => r = .clo 140 [.ptr n 0] ∧ s' = (n, .box [.own k] false) :: s ∧ n' = n + 1) := by
  refine PO.of tab_ok Tryz.func110 rfl rfl rfl fun c hc hm => ?_
  rw [show Tryz.f110.ntmps = _ from Tryz.ntmps110] at hc
  simp only [Tryz.f110]
  repeat' first
    | (refine AWp.seq fun K hK => ?_)
    | ((first | refine AWp.region (by rw [hc]; rfl) ?_ | refine AWp.skip ?_ | refine AWp.exit ?_ | refine AWp.label ?_ | refine AWp.ret ?_ | refine appK_g ?_); simp -implicitDefEqProofs (maxSteps := 1000000) (disch := omega) only [go_sem, wrap64, Int.tdiv_eq_ediv_of_nonneg, Int.tmod_eq_emod_of_nonneg, Nat.reduceAdd, Nat.reduceMul, Nat.reduceEqDiff, Nat.reduceLT, Nat.reduceLeDiff, Int.reduceEq, Int.reduceNeg, Int.reduceToNat, reduceCtorEq, eq_self, Bool.false_eq_true, Bool.true_eq_false, ↓reduceIte])
    | (refine hK _ ?_; clear hK)
    | (clear hK; refine hK _ ?_; clear hK)
    | (clear hK; clear hK; refine hK _ ?_; clear hK)
    | (clear hK; clear hK; clear hK; refine hK _ ?_; clear hK)
    | (refine AWp.cond ?_; simp -implicitDefEqProofs (maxSteps := 1000000) (disch := omega) only [go_sem, wrap64, Int.tdiv_eq_ediv_of_nonneg, Int.tmod_eq_emod_of_nonneg, Nat.reduceAdd, Nat.reduceMul, Nat.reduceEqDiff, Nat.reduceLT, Nat.reduceLeDiff, Int.reduceEq, Int.reduceNeg, Int.reduceToNat, reduceCtorEq, eq_self, Bool.false_eq_true, Bool.true_eq_false, ↓reduceIte]; try (refine ⟨fun hlt => ?_, fun hlt => ?_⟩ <;> (try simp only [decide_eq_true_eq, decide_eq_false_iff_not, beq_iff_eq, bne_iff_ne, ne_eq, beq_eq_false_iff_ne, bne_eq_false_iff_eq, Bool.true_eq_false, Bool.false_eq_true, Int.not_lt, Int.not_le, Decidable.not_not, gt_iff_lt, ge_iff_le, reduceCtorEq] at hlt) <;> (try exact hlt.elim)))
    | (refine AWp.block ?_)
    | ((first | refine gdO_split (fun hlt => ?_) (fun hlt => ?_) | refine tkO_split (fun hlt => ?_) (fun hlt => ?_) | refine opO_split (fun hlt => ?_) (fun hlt => ?_)) <;> have hgd := hlt <;> (try simp only [decide_eq_true_eq, decide_eq_false_iff_not, beq_iff_eq, bne_iff_ne, ne_eq, beq_eq_false_iff_ne, bne_eq_false_iff_eq, Bool.not_eq_true, Bool.not_eq_false, Bool.not_eq_eq_eq_not, Int.not_lt, Int.not_le, Decidable.not_not, gt_iff_lt, ge_iff_le] at hlt) <;> (simp -implicitDefEqProofs (maxSteps := 1000000) (disch := omega) only [go_sem, wrap64, Int.tdiv_eq_ediv_of_nonneg, Int.tmod_eq_emod_of_nonneg, Nat.reduceAdd, Nat.reduceMul, Nat.reduceEqDiff, Nat.reduceLT, Nat.reduceLeDiff, Int.reduceEq, Int.reduceNeg, Int.reduceToNat, reduceCtorEq, eq_self, Bool.false_eq_true, Bool.true_eq_false, ↓reduceIte, hgd]) <;> clear hgd)
    | (with_reducible refine And.intro ?_ ?_; · first | omega | assumption | exact ⟨_, _, rfl, rfl⟩)
    | fail
end Go.Proofs.YthhjcfejgoddlaaGreatDoor
end

section
set_option linter.unusedSimpArgs false
set_option linter.unusedVariables false
set_option maxRecDepth 100000
namespace Go.Proofs.YthhjcfejgoddlaaGreatDoor
open Go Go.Abs

theorem Root_bad (neg : Bool) (d : List Int) (ld : d.length ≤ 1000000) (hb : ¬ okI neg d) : PC Tryz.prog 57 [Zr neg d] (.tup [Zr false [], I 10]) := by
  have h := Check_pc neg d ld
  rw [if_neg hb] at h
  refine PCr.pc (PCr.of tab_ok Tryz.func57 rfl rfl rfl fun c hc hm => ?_)
  rw [show Tryz.f57.ntmps = _ from Tryz.ntmps57] at hc
  simp only [Tryz.f57]
  repeat' first
    | (exact absurd hlt (by decide))
    | (refine AWp.seq fun K hK => ?_)
    | ((first | refine AWp.draw (id := 13) [.take 0, .take 1, .take 2, .take 3, .take 4, .take 5, .take 6] mixed_ok (by kernel_rfl) (by rw [hc]; rfl) ?_ | refine AWp.region (by rw [hc]; rfl) ?_ | refine AWp.skip ?_ | refine AWp.exit ?_ | refine AWp.label ?_ | refine AWp.ret ?_ | refine appK_g ?_); simp -implicitDefEqProofs (maxSteps := 1000000) (disch := omega) only [go_sem, wrap64, Int.tdiv_eq_ediv_of_nonneg, Int.tmod_eq_emod_of_nonneg, Nat.reduceAdd, Nat.reduceMul, Nat.reduceEqDiff, Nat.reduceLT, Nat.reduceLeDiff, Int.reduceEq, Int.reduceNeg, Int.reduceToNat, reduceCtorEq, eq_self, Bool.false_eq_true, Bool.true_eq_false, ↓reduceIte, Int.reduceBNe, Int.reduceBEq, Bool.not_true, Bool.not_false])
    | (refine hK _ ?_; clear hK)
    | (clear hK; refine hK _ ?_; clear hK)
    | (clear hK; clear hK; refine hK _ ?_; clear hK)
    | (clear hK; clear hK; clear hK; refine hK _ ?_; clear hK)
    | (refine AWp.cond ?_; simp -implicitDefEqProofs (maxSteps := 1000000) (disch := omega) only [go_sem, wrap64, Int.tdiv_eq_ediv_of_nonneg, Int.tmod_eq_emod_of_nonneg, Nat.reduceAdd, Nat.reduceMul, Nat.reduceEqDiff, Nat.reduceLT, Nat.reduceLeDiff, Int.reduceEq, Int.reduceNeg, Int.reduceToNat, reduceCtorEq, eq_self, Bool.false_eq_true, Bool.true_eq_false, ↓reduceIte, Int.reduceBNe, Int.reduceBEq, Bool.not_true, Bool.not_false]; try (refine ⟨fun hlt => ?_, fun hlt => ?_⟩ <;> (try simp only [decide_eq_true_eq, decide_eq_false_iff_not, beq_iff_eq, bne_iff_ne, ne_eq, beq_eq_false_iff_ne, bne_eq_false_iff_eq, Bool.true_eq_false, Bool.false_eq_true, Int.not_lt, Int.not_le, Decidable.not_not, gt_iff_lt, ge_iff_le, reduceCtorEq] at hlt) <;> (try exact hlt.elim)))
    | (refine AWp.block ?_)
    | ((first | refine gdO_split (fun hlt => ?_) (fun hlt => ?_) | refine tkO_split (fun hlt => ?_) (fun hlt => ?_) | refine opO_split (fun hlt => ?_) (fun hlt => ?_)) <;> have hgd := hlt <;> (try simp only [decide_eq_true_eq, decide_eq_false_iff_not, beq_iff_eq, bne_iff_ne, ne_eq, beq_eq_false_iff_ne, bne_eq_false_iff_eq, Bool.not_eq_true, Bool.not_eq_false, Bool.not_eq_eq_eq_not, Int.not_lt, Int.not_le, Decidable.not_not, gt_iff_lt, ge_iff_le] at hlt) <;> (simp -implicitDefEqProofs (maxSteps := 1000000) (disch := omega) only [go_sem, wrap64, Int.tdiv_eq_ediv_of_nonneg, Int.tmod_eq_emod_of_nonneg, Nat.reduceAdd, Nat.reduceMul, Nat.reduceEqDiff, Nat.reduceLT, Nat.reduceLeDiff, Int.reduceEq, Int.reduceNeg, Int.reduceToNat, reduceCtorEq, eq_self, Bool.false_eq_true, Bool.true_eq_false, ↓reduceIte, Int.reduceBNe, Int.reduceBEq, Bool.not_true, Bool.not_false, hgd]) <;> clear hgd)
    | (with_reducible refine And.intro ?_ ?_; · first | omega | assumption | exact ⟨_, _, rfl, rfl⟩)
    | ((first | refine ⟨_, h, ?_⟩); simp -implicitDefEqProofs (maxSteps := 1000000) (disch := omega) only [go_sem, wrap64, Int.tdiv_eq_ediv_of_nonneg, Int.tmod_eq_emod_of_nonneg, Nat.reduceAdd, Nat.reduceMul, Nat.reduceEqDiff, Nat.reduceLT, Nat.reduceLeDiff, Int.reduceEq, Int.reduceNeg, Int.reduceToNat, reduceCtorEq, eq_self, Bool.false_eq_true, Bool.true_eq_false, ↓reduceIte, Int.reduceBNe, Int.reduceBEq, Bool.not_true, Bool.not_false])
    | fail
theorem Root_neg (d : List Int) (ld : d.length ≤ 1000000) (hb : okI true d) : PC Tryz.prog 57 [Zr true d] (.tup [Zr false [], I 1]) := by
  have h := Check_pc true d ld
  rw [if_pos hb] at h
  refine PCr.pc (PCr.of tab_ok Tryz.func57 rfl rfl rfl fun c hc hm => ?_)
  rw [show Tryz.f57.ntmps = _ from Tryz.ntmps57] at hc
  simp only [Tryz.f57]
  repeat' first
    | (exact absurd hlt (by decide))
    | (refine AWp.seq fun K hK => ?_)
    | ((first | refine AWp.draw (id := 13) [.take 0, .take 1, .take 2, .take 3, .take 4, .take 5, .take 6] mixed_ok (by kernel_rfl) (by rw [hc]; rfl) ?_ | refine AWp.region (by rw [hc]; rfl) ?_ | refine AWp.skip ?_ | refine AWp.exit ?_ | refine AWp.label ?_ | refine AWp.ret ?_ | refine appK_g ?_); simp -implicitDefEqProofs (maxSteps := 1000000) (disch := omega) only [go_sem, wrap64, Int.tdiv_eq_ediv_of_nonneg, Int.tmod_eq_emod_of_nonneg, Nat.reduceAdd, Nat.reduceMul, Nat.reduceEqDiff, Nat.reduceLT, Nat.reduceLeDiff, Int.reduceEq, Int.reduceNeg, Int.reduceToNat, reduceCtorEq, eq_self, Bool.false_eq_true, Bool.true_eq_false, ↓reduceIte, Int.reduceBNe, Int.reduceBEq, Bool.not_true, Bool.not_false])
    | (refine hK _ ?_; clear hK)
    | (clear hK; refine hK _ ?_; clear hK)
    | (clear hK; clear hK; refine hK _ ?_; clear hK)
    | (clear hK; clear hK; clear hK; refine hK _ ?_; clear hK)
    | (refine AWp.cond ?_; simp -implicitDefEqProofs (maxSteps := 1000000) (disch := omega) only [go_sem, wrap64, Int.tdiv_eq_ediv_of_nonneg, Int.tmod_eq_emod_of_nonneg, Nat.reduceAdd, Nat.reduceMul, Nat.reduceEqDiff, Nat.reduceLT, Nat.reduceLeDiff, Int.reduceEq, Int.reduceNeg, Int.reduceToNat, reduceCtorEq, eq_self, Bool.false_eq_true, Bool.true_eq_false, ↓reduceIte, Int.reduceBNe, Int.reduceBEq, Bool.not_true, Bool.not_false]; try (refine ⟨fun hlt => ?_, fun hlt => ?_⟩ <;> (try simp only [decide_eq_true_eq, decide_eq_false_iff_not, beq_iff_eq, bne_iff_ne, ne_eq, beq_eq_false_iff_ne, bne_eq_false_iff_eq, Bool.true_eq_false, Bool.false_eq_true, Int.not_lt, Int.not_le, Decidable.not_not, gt_iff_lt, ge_iff_le, reduceCtorEq] at hlt) <;> (try exact hlt.elim)))
    | (refine AWp.block ?_)
    | ((first | refine gdO_split (fun hlt => ?_) (fun hlt => ?_) | refine tkO_split (fun hlt => ?_) (fun hlt => ?_) | refine opO_split (fun hlt => ?_) (fun hlt => ?_)) <;> have hgd := hlt <;> (try simp only [decide_eq_true_eq, decide_eq_false_iff_not, beq_iff_eq, bne_iff_ne, ne_eq, beq_eq_false_iff_ne, bne_eq_false_iff_eq, Bool.not_eq_true, Bool.not_eq_false, Bool.not_eq_eq_eq_not, Int.not_lt, Int.not_le, Decidable.not_not, gt_iff_lt, ge_iff_le] at hlt) <;> (simp -implicitDefEqProofs (maxSteps := 1000000) (disch := omega) only [go_sem, wrap64, Int.tdiv_eq_ediv_of_nonneg, Int.tmod_eq_emod_of_nonneg, Nat.reduceAdd, Nat.reduceMul, Nat.reduceEqDiff, Nat.reduceLT, Nat.reduceLeDiff, Int.reduceEq, Int.reduceNeg, Int.reduceToNat, reduceCtorEq, eq_self, Bool.false_eq_true, Bool.true_eq_false, ↓reduceIte, Int.reduceBNe, Int.reduceBEq, Bool.not_true, Bool.not_false, hgd]) <;> clear hgd)
    | (with_reducible refine And.intro ?_ ?_; · first | omega | assumption | exact ⟨_, _, rfl, rfl⟩)
    | ((first | refine ⟨_, h, ?_⟩); simp -implicitDefEqProofs (maxSteps := 1000000) (disch := omega) only [go_sem, wrap64, Int.tdiv_eq_ediv_of_nonneg, Int.tmod_eq_emod_of_nonneg, Nat.reduceAdd, Nat.reduceMul, Nat.reduceEqDiff, Nat.reduceLT, Nat.reduceLeDiff, Int.reduceEq, Int.reduceNeg, Int.reduceToNat, reduceCtorEq, eq_self, Bool.false_eq_true, Bool.true_eq_false, ↓reduceIte, Int.reduceBNe, Int.reduceBEq, Bool.not_true, Bool.not_false])
    | fail
def sRt (a : Nat) (q : List Int) : Sto := [(4, .box [.own 2] false), (3, .box [.own 2] false), (2, .row 3 1 (q.map eI) false), (1, .box [B false, .nil] false), (0, .box [B false, L (D a)] false)]
def gRt (a : Nat) (q : List Int) (s : Sto) (n : Nat) : Prop := 5 ≤ n ∧ get 4 s = some (.box [.own 2] false) ∧ get 3 s = some (.box [.own 2] false) ∧ get 2 s = some (.row 3 1 (q.map eI) false) ∧ get 1 s = some (.box [B false, .nil] false) ∧ get 0 s = some (.box [B false, L (D a)] false)
theorem gRt_sub {a : Nat} {q : List Int} {s : Sto} {n : Nat} (h : gRt a q s n) : subS id 5 s (sRt a q) := by
  obtain ⟨_, h4, h3, h2, h1, h0⟩ := h
  simp only [sRt, subS, id, h4, h3, h2, h1, h0, go_sem]
  simp
theorem gRt_ok {a : Nat} {q : List Int} {s : Sto} {n len : Nat} (h : gRt a q s n) (hl : q.length = len) : okD 2 4 len s :=
  ⟨⟨false, none, h.2.1⟩, 3, q.map eI, false, h.2.2.2.1, by simpa using hl, fun el hel => by
    obtain ⟨x, _, rfl⟩ := List.mem_map.1 hel
    exact ⟨x, rfl⟩⟩
def FRt (a i : Nat) : Int × Int × List Int → St := fun ⟨lo, hi, r⟩ => ⟨[(1, .ptr 0 0), (2, .ptr 1 0), (5, .ptr 3 0), (6, I i), (7, I lo), (8, I hi)], sRt a r, 5, 0⟩
set_option maxHeartbeats 8000000 in
theorem Root_D (a : Nat) (la : (D a).length ≤ 40) : PC Tryz.prog 57 [Zr false (D a)] (.tup [Z (rt a), I 0]) := by
  have h0 := Check_pc false (D a) (by omega)
  have hok : okI false (D a) := by
    have := okZ (z := (a : Int)) (by unfold lenZ; rwa [Int.natAbs_natCast])
    rwa [Int.natAbs_natCast, decide_eq_false (by omega)] at this
  rw [if_pos hok] at h0
  have hLi : (((D a).length : Int) + 1) / 2 = ((((D a).length + 1) / 2 : Nat) : Int) := by omega
  have hL1 : ((D a).length + 1) / 2 ≤ 20 := by omega
  have hL2 : (D a).length ≤ 2 * (((D a).length + 1) / 2) := by omega
  generalize hL : ((D a).length + 1) / 2 = n at *
  refine PCr.pc (PCr.of tab_ok Tryz.func57 rfl rfl rfl fun c hc hm => ?_)
  rw [show Tryz.f57.ntmps = _ from Tryz.ntmps57] at hc
  simp only [Tryz.f57]
  repeat' first
    | (refine AWp.regionXi (id := 7) 1 rfl rfl rfl (by rw [hc]; rfl) ?_; simp -implicitDefEqProofs (maxSteps := 1000000) (disch := omega) only [go_sem, wrap64, Int.tdiv_eq_ediv_of_nonneg, Int.tmod_eq_emod_of_nonneg, Nat.reduceAdd, Nat.reduceMul, Nat.reduceEqDiff, Nat.reduceLT, Nat.reduceLeDiff, Int.reduceEq, Int.reduceNeg, Int.reduceToNat, reduceCtorEq, eq_self, Bool.false_eq_true, Bool.true_eq_false, ↓reduceIte, Int.reduceBNe, Int.reduceBEq, Bool.not_true, Bool.not_false])
    | (exact absurd hlt (by decide))
    | (refine AWp.seq fun K hK => ?_)
    | ((first | refine AWp.draw (id := 13) [.take 0, .take 1, .take 2, .take 3, .take 4, .take 5, .take 6] mixed_ok (by kernel_rfl) (by rw [hc]; rfl) ?_ | refine AWp.region (by rw [hc]; rfl) ?_ | refine AWp.skip ?_ | refine AWp.exit ?_ | refine AWp.label ?_ | refine AWp.ret ?_ | refine appK_g ?_); simp -implicitDefEqProofs (maxSteps := 1000000) (disch := omega) only [go_sem, wrap64, Int.tdiv_eq_ediv_of_nonneg, Int.tmod_eq_emod_of_nonneg, Nat.reduceAdd, Nat.reduceMul, Nat.reduceEqDiff, Nat.reduceLT, Nat.reduceLeDiff, Int.reduceEq, Int.reduceNeg, Int.reduceToNat, reduceCtorEq, eq_self, Bool.false_eq_true, Bool.true_eq_false, ↓reduceIte, Int.reduceBNe, Int.reduceBEq, Bool.not_true, Bool.not_false, hLi])
    | (refine hK _ ?_; clear hK)
    | (clear hK; refine hK _ ?_; clear hK)
    | (clear hK; clear hK; refine hK _ ?_; clear hK)
    | (clear hK; clear hK; clear hK; refine hK _ ?_; clear hK)
    | (refine AWp.cond ?_; simp -implicitDefEqProofs (maxSteps := 1000000) (disch := omega) only [go_sem, wrap64, Int.tdiv_eq_ediv_of_nonneg, Int.tmod_eq_emod_of_nonneg, Nat.reduceAdd, Nat.reduceMul, Nat.reduceEqDiff, Nat.reduceLT, Nat.reduceLeDiff, Int.reduceEq, Int.reduceNeg, Int.reduceToNat, reduceCtorEq, eq_self, Bool.false_eq_true, Bool.true_eq_false, ↓reduceIte, Int.reduceBNe, Int.reduceBEq, Bool.not_true, Bool.not_false, hLi]; try (refine ⟨fun hlt => ?_, fun hlt => ?_⟩ <;> (try simp only [decide_eq_true_eq, decide_eq_false_iff_not, beq_iff_eq, bne_iff_ne, ne_eq, beq_eq_false_iff_ne, bne_eq_false_iff_eq, Bool.true_eq_false, Bool.false_eq_true, Int.not_lt, Int.not_le, Decidable.not_not, gt_iff_lt, ge_iff_le, reduceCtorEq] at hlt) <;> (try exact hlt.elim)))
    | (refine AWp.block ?_)
    | ((first | refine gdO_split (fun hlt => ?_) (fun hlt => ?_) | refine tkO_split (fun hlt => ?_) (fun hlt => ?_) | refine opO_split (fun hlt => ?_) (fun hlt => ?_)) <;> have hgd := hlt <;> (try simp only [decide_eq_true_eq, decide_eq_false_iff_not, beq_iff_eq, bne_iff_ne, ne_eq, beq_eq_false_iff_ne, bne_eq_false_iff_eq, Bool.not_eq_true, Bool.not_eq_false, Bool.not_eq_eq_eq_not, Int.not_lt, Int.not_le, Decidable.not_not, gt_iff_lt, ge_iff_le] at hlt) <;> (simp -implicitDefEqProofs (maxSteps := 1000000) (disch := omega) only [go_sem, wrap64, Int.tdiv_eq_ediv_of_nonneg, Int.tmod_eq_emod_of_nonneg, Nat.reduceAdd, Nat.reduceMul, Nat.reduceEqDiff, Nat.reduceLT, Nat.reduceLeDiff, Int.reduceEq, Int.reduceNeg, Int.reduceToNat, reduceCtorEq, eq_self, Bool.false_eq_true, Bool.true_eq_false, ↓reduceIte, Int.reduceBNe, Int.reduceBEq, Bool.not_true, Bool.not_false, hLi, hgd]) <;> clear hgd)
    | (with_reducible refine And.intro ?_ ?_; · first | omega | assumption | exact ⟨_, _, rfl, rfl⟩)
    | (refine ⟨_, h0, ?_⟩; simp -implicitDefEqProofs (maxSteps := 1000000) (disch := omega) only [go_sem, wrap64, Int.tdiv_eq_ediv_of_nonneg, Int.tmod_eq_emod_of_nonneg, Nat.reduceAdd, Nat.reduceMul, Nat.reduceEqDiff, Nat.reduceLT, Nat.reduceLeDiff, Int.reduceEq, Int.reduceNeg, Int.reduceToNat, reduceCtorEq, eq_self, Bool.false_eq_true, Bool.true_eq_false, ↓reduceIte, Int.reduceBNe, Int.reduceBEq, Bool.not_true, Bool.not_false])
    | fail
  refine ⟨_, down_po 2 3 _ _ _ _ rfl, ?_⟩
  rintro _ _ _ ⟨rfl, rfl, rfl⟩
  simp -implicitDefEqProofs (maxSteps := 1000000) (disch := omega) only [go_sem, wrap64, Int.tdiv_eq_ediv_of_nonneg, Int.tmod_eq_emod_of_nonneg, Nat.reduceAdd, Nat.reduceMul, Nat.reduceEqDiff, Nat.reduceLT, Nat.reduceLeDiff, Int.reduceEq, Int.reduceNeg, Int.reduceToNat, reduceCtorEq, eq_self, Bool.false_eq_true, Bool.true_eq_false, ↓reduceIte]
  first | (refine hK _ ?_; clear hK) | (clear hK; refine hK _ ?_; clear hK) | (clear hK; clear hK; refine hK _ ?_; clear hK) | (clear hK; clear hK; clear hK; refine hK _ ?_; clear hK)
  repeat' first
    | (refine AWp.seq fun K hK => ?_)
    | ((first | refine AWp.draw (id := 13) [.take 0, .take 1, .take 2, .take 3, .take 4, .take 5, .take 6] mixed_ok (by kernel_rfl) (by rw [hc]; rfl) ?_ | refine AWp.region (by rw [hc]; rfl) ?_ | refine AWp.skip ?_ | refine AWp.exit ?_ | refine AWp.label ?_ | refine AWp.ret ?_ | refine appK_g ?_); simp -implicitDefEqProofs (maxSteps := 1000000) (disch := omega) only [go_sem, wrap64, Int.tdiv_eq_ediv_of_nonneg, Int.tmod_eq_emod_of_nonneg, Nat.reduceAdd, Nat.reduceMul, Nat.reduceEqDiff, Nat.reduceLT, Nat.reduceLeDiff, Int.reduceEq, Int.reduceNeg, Int.reduceToNat, reduceCtorEq, eq_self, Bool.false_eq_true, Bool.true_eq_false, ↓reduceIte])
    | (refine hK _ ?_; clear hK)
    | (clear hK; refine hK _ ?_; clear hK)
    | (clear hK; clear hK; refine hK _ ?_; clear hK)
    | (clear hK; clear hK; clear hK; refine hK _ ?_; clear hK)
    | (refine AWp.cond ?_; simp -implicitDefEqProofs (maxSteps := 1000000) (disch := omega) only [go_sem, wrap64, Int.tdiv_eq_ediv_of_nonneg, Int.tmod_eq_emod_of_nonneg, Nat.reduceAdd, Nat.reduceMul, Nat.reduceEqDiff, Nat.reduceLT, Nat.reduceLeDiff, Int.reduceEq, Int.reduceNeg, Int.reduceToNat, reduceCtorEq, eq_self, Bool.false_eq_true, Bool.true_eq_false, ↓reduceIte]; try (refine ⟨fun hlt => ?_, fun hlt => ?_⟩ <;> (try simp only [decide_eq_true_eq, decide_eq_false_iff_not, beq_iff_eq, bne_iff_ne, ne_eq, beq_eq_false_iff_ne, bne_eq_false_iff_eq, Bool.true_eq_false, Bool.false_eq_true, Int.not_lt, Int.not_le, Decidable.not_not, gt_iff_lt, ge_iff_le, reduceCtorEq] at hlt) <;> (try exact hlt.elim)))
    | (refine AWp.block ?_)
    | ((first | refine gdO_split (fun hlt => ?_) (fun hlt => ?_) | refine tkO_split (fun hlt => ?_) (fun hlt => ?_) | refine opO_split (fun hlt => ?_) (fun hlt => ?_)) <;> have hgd := hlt <;> (try simp only [decide_eq_true_eq, decide_eq_false_iff_not, beq_iff_eq, bne_iff_ne, ne_eq, beq_eq_false_iff_ne, bne_eq_false_iff_eq, Bool.not_eq_true, Bool.not_eq_false, Bool.not_eq_eq_eq_not, Int.not_lt, Int.not_le, Decidable.not_not, gt_iff_lt, ge_iff_le] at hlt) <;> (simp -implicitDefEqProofs (maxSteps := 1000000) (disch := omega) only [go_sem, wrap64, Int.tdiv_eq_ediv_of_nonneg, Int.tmod_eq_emod_of_nonneg, Nat.reduceAdd, Nat.reduceMul, Nat.reduceEqDiff, Nat.reduceLT, Nat.reduceLeDiff, Int.reduceEq, Int.reduceNeg, Int.reduceToNat, reduceCtorEq, eq_self, Bool.false_eq_true, Bool.true_eq_false, ↓reduceIte, hgd]) <;> clear hgd)
    | (with_reducible refine And.intro ?_ ?_; · first | omega | assumption | exact ⟨_, _, rfl, rfl⟩)
    | fail
  have hrep : (List.replicate ((n : Int)).toNat [DV.int IntKind.i64 0]) = (List.replicate n (0 : Int)).map eI := by
    rw [List.map_replicate, Int.toNat_natCast]; rfl
  refine AWp.rangeD 140 2 4 n [(6, 27)] (by simp [go_sem]) (gRt_ok (a := a) (q := List.replicate n 0) (n := 5) ⟨Nat.le_refl _, rfl, rfl, by rw [← hrep]; rfl, rfl, rfl⟩ (by simp)) (by omega) down_itD rfl (by rw [hc]; rfl) (.one _ _ _ _ _ _) (by rw [hc]; rfl) hm.2
    (fun pre s m => ∃ q : List Int, q.length = n ∧ gRt a q s m ∧ dig q ∧ (pre <+: List.finRange n → RtI a q (n - pre.length))) (fun pre s m h => by obtain ⟨q, h1, h2, _⟩ := h; exact gRt_ok h2 h1) ?_ ?_ ?_
  · exact ⟨List.replicate n 0, by simp, ⟨Nat.le_refl _, rfl, rfl, by rw [← hrep]; rfl, rfl, rfl⟩, (RtI_0 a n hL2).1, fun _ => RtI_0 a n hL2⟩
  · rintro c' l pre k v s m hc' hm' hlen hn ⟨q, q1, q2, q3, q4⟩
    have hc := hc'.trans hc
    have hk := k.isLt
    simp only at hm' hn
    simp -implicitDefEqProofs (maxSteps := 1000000) (disch := omega) only [go_sem, wrap64, Int.tdiv_eq_ediv_of_nonneg, Int.tmod_eq_emod_of_nonneg, Nat.reduceAdd, Nat.reduceMul, Nat.reduceEqDiff, Nat.reduceLT, Nat.reduceLeDiff, Int.reduceEq, Int.reduceNeg, Int.reduceToNat, reduceCtorEq, eq_self, Bool.false_eq_true, Bool.true_eq_false, ↓reduceIte]
    refine AWp.sub (σ' := ⟨[(1, .ptr 0 0), (2, .ptr 1 0), (5, .ptr 3 0), (6, I (n - 1 - k.val : Nat))], sRt a q, 5, 0⟩) (Sub.of id ⟨by rw [hm']; exact Nat.le_refl _, fun _ _ => rfl⟩ rfl ?_ (gRt_sub q2) (fun _ _ _ _ h => h)) ?_
    · simp [subT, go_sem]
    generalize hi : n - 1 - k.val = i at *
    have hin : i < n := by omega
    have hpre : pre ++ [k] <+: List.finRange n → RtI a q (i + 1) := fun h => by
      have h1 := q4 (List.IsPrefix.trans (List.prefix_append _ _) h)
      have h2 := (prefix_last h).1
      rwa [show n - pre.length = i + 1 by omega] at h1
    generalize hP : (pre ++ [k] <+: List.finRange n) = Pf at *
    repeat' first
      | (refine AWp.seq fun K hK => ?_)
      | ((first | refine AWp.draw (id := 13) [.take 0, .take 1, .take 2, .take 3, .take 4, .take 5, .take 6] mixed_ok (by kernel_rfl) (by rw [hc]; rfl) ?_ | refine AWp.region (by rw [hc]; rfl) ?_ | refine AWp.skip ?_ | refine AWp.exit ?_ | refine AWp.label ?_ | refine AWp.ret ?_ | refine appK_g ?_); simp -implicitDefEqProofs (maxSteps := 1000000) (disch := omega) only [go_sem, wrap64, Int.tdiv_eq_ediv_of_nonneg, Int.tmod_eq_emod_of_nonneg, Nat.reduceAdd, Nat.reduceMul, Nat.reduceEqDiff, Nat.reduceLT, Nat.reduceLeDiff, Int.reduceEq, Int.reduceNeg, Int.reduceToNat, reduceCtorEq, eq_self, Bool.false_eq_true, Bool.true_eq_false, ↓reduceIte])
      | (refine hK _ ?_; clear hK)
      | (clear hK; refine hK _ ?_; clear hK)
      | (clear hK; clear hK; refine hK _ ?_; clear hK)
      | (clear hK; clear hK; clear hK; refine hK _ ?_; clear hK)
      | (refine AWp.cond ?_; simp -implicitDefEqProofs (maxSteps := 1000000) (disch := omega) only [go_sem, wrap64, Int.tdiv_eq_ediv_of_nonneg, Int.tmod_eq_emod_of_nonneg, Nat.reduceAdd, Nat.reduceMul, Nat.reduceEqDiff, Nat.reduceLT, Nat.reduceLeDiff, Int.reduceEq, Int.reduceNeg, Int.reduceToNat, reduceCtorEq, eq_self, Bool.false_eq_true, Bool.true_eq_false, ↓reduceIte]; try (refine ⟨fun hlt => ?_, fun hlt => ?_⟩ <;> (try simp only [decide_eq_true_eq, decide_eq_false_iff_not, beq_iff_eq, bne_iff_ne, ne_eq, beq_eq_false_iff_ne, bne_eq_false_iff_eq, Bool.true_eq_false, Bool.false_eq_true, Int.not_lt, Int.not_le, Decidable.not_not, gt_iff_lt, ge_iff_le, reduceCtorEq] at hlt) <;> (try exact hlt.elim)))
      | (refine AWp.block ?_)
      | ((first | refine gdO_split (fun hlt => ?_) (fun hlt => ?_) | refine tkO_split (fun hlt => ?_) (fun hlt => ?_) | refine opO_split (fun hlt => ?_) (fun hlt => ?_)) <;> have hgd := hlt <;> (try simp only [decide_eq_true_eq, decide_eq_false_iff_not, beq_iff_eq, bne_iff_ne, ne_eq, beq_eq_false_iff_ne, bne_eq_false_iff_eq, Bool.not_eq_true, Bool.not_eq_false, Bool.not_eq_eq_eq_not, Int.not_lt, Int.not_le, Decidable.not_not, gt_iff_lt, ge_iff_le] at hlt) <;> (simp -implicitDefEqProofs (maxSteps := 1000000) (disch := omega) only [go_sem, wrap64, Int.tdiv_eq_ediv_of_nonneg, Int.tmod_eq_emod_of_nonneg, Nat.reduceAdd, Nat.reduceMul, Nat.reduceEqDiff, Nat.reduceLT, Nat.reduceLeDiff, Int.reduceEq, Int.reduceNeg, Int.reduceToNat, reduceCtorEq, eq_self, Bool.false_eq_true, Bool.true_eq_false, ↓reduceIte, hgd]) <;> clear hgd)
      | (with_reducible refine And.intro ?_ ?_; · first | omega | assumption | exact ⟨_, _, rfl, rfl⟩)
      | fail
    refine AWp.loopInv (FRt a i) (fun t => (t.2.1 - t.1).toNat) (fun t => 0 ≤ t.1 ∧ t.1 ≤ t.2.1 ∧ t.2.1 ≤ 999999999 ∧ t.2.2.length = n ∧ dig t.2.2 ∧ (∀ x : Int, t.2.2.set i x = q.set i x) ∧ (Pf → RtS a q i t.1.toNat t.2.1.toNat)) (0, 999999999, q) ⟨Int.le_refl _, by simp only; omega, by simp only; omega, q1, q3, fun _ => rfl, fun h => RtS_0 (hpre h)⟩ (Sub.of id ⟨by rw [hm']; exact Nat.le_refl _, fun _ _ => rfl⟩ rfl ?_ ?_ (fun _ _ _ _ h => h)) ?_
    all_goals (try (simp only [FRt, sRt, subT, subS, go_sem]; simp; done))
    rintro ⟨lo, hi, r⟩ ⟨b1, b2, b3, b4, b5, b6, b7⟩ ih
    simp only at b1 b2 b3 b4 b5 b6 b7
    simp only [FRt, sRt]
    have d1 : dig (r.set i (lo + (hi - lo + 1) / 2)) := dig_set b5 _ (by omega)
    have t1 := trimmed_pc (r.set i (lo + (hi - lo + 1) / 2)) (by rw [List.length_set]; omega)
    have lv := tr_length (r.set i (lo + (hi - lo + 1) / 2))
    rw [tr_D d1] at t1 lv
    rw [List.length_set, b4] at lv
    have hv := val_nonneg d1
    have hcv := Rt_cmp (a := a) hv
    have hst : (r.map eI).set i [DV.int .i64 (lo + (hi - lo + 1) / 2)] = (r.set i (lo + (hi - lo + 1) / 2)).map eI := by rw [List.map_set]; rfl
    have hgi : ((r.set i (lo + (hi - lo + 1) / 2)).map eI).getD i [] = [DV.int .i64 (lo + (hi - lo + 1) / 2)] := by simp [List.getD, show i < r.length by omega, eI]
    have hl1 : (r.set i (lo + (hi - lo + 1) / 2)).length = n := by rw [List.length_set]; exact b4
    have hset : ∀ x : Int, (r.set i (lo + (hi - lo + 1) / 2)).set i x = q.set i x := fun x => by rw [List.set_set]; exact b6 x
    have hvq : Pf → val (r.set i (lo + (hi - lo + 1) / 2)) = val q + (lo + (hi - lo + 1) / 2) * Bp i := fun h => by
      rw [b6, val_set _ _ _ (by omega), (hpre h).2.1 i (by omega), Int.sub_zero]
    generalize hr1 : r.set i (lo + (hi - lo + 1) / 2) = r1 at *
    generalize hw : (val r1).toNat = w at *
    have m1 := times_D w w (by omega) (by omega)
    have lw := D_mul_len w w
    have c1 := compare_D (w * w) a (by omega) (by omega)
    have p1 := parts_pc false (D a)
    generalize hcc : cmpI ((w * w : Nat) : Int) a = cc at *
    repeat' first
      | (refine AWp.loan2 (x := .region 12 _ false) [(1, .ptr 0 0), (2, .ptr 1 0), (5, .ptr 3 0), (6, I i), (7, I lo), (8, I hi), (50, B (decide (cc ≤ 0)))] ?_ ?_)
      | (refine AWp.seq fun K hK => ?_)
      | ((first | refine AWp.draw (id := 13) [.take 0, .take 1, .take 2, .take 3, .take 4, .take 5, .take 6] mixed_ok (by kernel_rfl) (by rw [hc]; rfl) ?_ | refine AWp.region (by rw [hc]; rfl) ?_ | refine AWp.skip ?_ | refine AWp.exit ?_ | refine AWp.label ?_ | refine AWp.ret ?_ | refine appK_g ?_); simp -implicitDefEqProofs (maxSteps := 1000000) (disch := omega) only [go_sem, wrap64, Int.tdiv_eq_ediv_of_nonneg, Int.tmod_eq_emod_of_nonneg, Nat.reduceAdd, Nat.reduceMul, Nat.reduceEqDiff, Nat.reduceLT, Nat.reduceLeDiff, Int.reduceEq, Int.reduceNeg, Int.reduceToNat, reduceCtorEq, eq_self, Bool.false_eq_true, Bool.true_eq_false, ↓reduceIte, hst, hgi, hl1])
      | (refine hK _ ?_; clear hK)
      | (clear hK; refine hK _ ?_; clear hK)
      | (clear hK; clear hK; refine hK _ ?_; clear hK)
      | (clear hK; clear hK; clear hK; refine hK _ ?_; clear hK)
      | (refine AWp.cond ?_; simp -implicitDefEqProofs (maxSteps := 1000000) (disch := omega) only [go_sem, wrap64, Int.tdiv_eq_ediv_of_nonneg, Int.tmod_eq_emod_of_nonneg, Nat.reduceAdd, Nat.reduceMul, Nat.reduceEqDiff, Nat.reduceLT, Nat.reduceLeDiff, Int.reduceEq, Int.reduceNeg, Int.reduceToNat, reduceCtorEq, eq_self, Bool.false_eq_true, Bool.true_eq_false, ↓reduceIte, hst, hgi, hl1]; try (refine ⟨fun hlt => ?_, fun hlt => ?_⟩ <;> (try simp only [decide_eq_true_eq, decide_eq_false_iff_not, beq_iff_eq, bne_iff_ne, ne_eq, beq_eq_false_iff_ne, bne_eq_false_iff_eq, Bool.true_eq_false, Bool.false_eq_true, Int.not_lt, Int.not_le, Decidable.not_not, gt_iff_lt, ge_iff_le, reduceCtorEq] at hlt) <;> (try exact hlt.elim)))
      | (refine AWp.block ?_)
      | ((first | refine gdO_split (fun hlt => ?_) (fun hlt => ?_) | refine tkO_split (fun hlt => ?_) (fun hlt => ?_) | refine opO_split (fun hlt => ?_) (fun hlt => ?_)) <;> have hgd := hlt <;> (try simp only [decide_eq_true_eq, decide_eq_false_iff_not, beq_iff_eq, bne_iff_ne, ne_eq, beq_eq_false_iff_ne, bne_eq_false_iff_eq, Bool.not_eq_true, Bool.not_eq_false, Bool.not_eq_eq_eq_not, Int.not_lt, Int.not_le, Decidable.not_not, gt_iff_lt, ge_iff_le] at hlt) <;> (simp -implicitDefEqProofs (maxSteps := 1000000) (disch := omega) only [go_sem, wrap64, Int.tdiv_eq_ediv_of_nonneg, Int.tmod_eq_emod_of_nonneg, Nat.reduceAdd, Nat.reduceMul, Nat.reduceEqDiff, Nat.reduceLT, Nat.reduceLeDiff, Int.reduceEq, Int.reduceNeg, Int.reduceToNat, reduceCtorEq, eq_self, Bool.false_eq_true, Bool.true_eq_false, ↓reduceIte, hst, hgi, hl1, hgd]) <;> clear hgd)
      | (with_reducible refine And.intro ?_ ?_; · first | omega | assumption | exact ⟨_, _, rfl, rfl⟩)
      | fail
    · intro c hc2 hm2 K hK
      have hc := hc2.trans hc
      simp -implicitDefEqProofs (maxSteps := 1000000) (disch := omega) only [go_sem, wrap64, Int.tdiv_eq_ediv_of_nonneg, Int.tmod_eq_emod_of_nonneg, Nat.reduceAdd, Nat.reduceMul, Nat.reduceEqDiff, Nat.reduceLT, Nat.reduceLeDiff, Int.reduceEq, Int.reduceNeg, Int.reduceToNat, reduceCtorEq, eq_self, Bool.false_eq_true, Bool.true_eq_false, ↓reduceIte]
      repeat' first
        | (refine AWp.seq fun K hK => ?_)
        | ((first | refine AWp.draw (id := 13) [.take 0, .take 1, .take 2, .take 3, .take 4, .take 5, .take 6] mixed_ok (by kernel_rfl) (by rw [hc]; rfl) ?_ | refine AWp.region (by rw [hc]; rfl) ?_ | refine AWp.skip ?_ | refine AWp.exit ?_ | refine AWp.label ?_ | refine AWp.ret ?_ | refine appK_g ?_); simp -implicitDefEqProofs (maxSteps := 1000000) (disch := omega) only [go_sem, wrap64, Int.tdiv_eq_ediv_of_nonneg, Int.tmod_eq_emod_of_nonneg, Nat.reduceAdd, Nat.reduceMul, Nat.reduceEqDiff, Nat.reduceLT, Nat.reduceLeDiff, Int.reduceEq, Int.reduceNeg, Int.reduceToNat, reduceCtorEq, eq_self, Bool.false_eq_true, Bool.true_eq_false, ↓reduceIte])
        | (refine hK _ ?_; clear hK)
        | (clear hK; refine hK _ ?_; clear hK)
        | (clear hK; clear hK; refine hK _ ?_; clear hK)
        | (clear hK; clear hK; clear hK; refine hK _ ?_; clear hK)
        | (refine AWp.cond ?_; simp -implicitDefEqProofs (maxSteps := 1000000) (disch := omega) only [go_sem, wrap64, Int.tdiv_eq_ediv_of_nonneg, Int.tmod_eq_emod_of_nonneg, Nat.reduceAdd, Nat.reduceMul, Nat.reduceEqDiff, Nat.reduceLT, Nat.reduceLeDiff, Int.reduceEq, Int.reduceNeg, Int.reduceToNat, reduceCtorEq, eq_self, Bool.false_eq_true, Bool.true_eq_false, ↓reduceIte]; try (refine ⟨fun hlt => ?_, fun hlt => ?_⟩ <;> (try simp only [decide_eq_true_eq, decide_eq_false_iff_not, beq_iff_eq, bne_iff_ne, ne_eq, beq_eq_false_iff_ne, bne_eq_false_iff_eq, Bool.true_eq_false, Bool.false_eq_true, Int.not_lt, Int.not_le, Decidable.not_not, gt_iff_lt, ge_iff_le, reduceCtorEq] at hlt) <;> (try exact hlt.elim)))
        | (refine AWp.block ?_)
        | ((first | refine gdO_split (fun hlt => ?_) (fun hlt => ?_) | refine tkO_split (fun hlt => ?_) (fun hlt => ?_) | refine opO_split (fun hlt => ?_) (fun hlt => ?_)) <;> have hgd := hlt <;> (try simp only [decide_eq_true_eq, decide_eq_false_iff_not, beq_iff_eq, bne_iff_ne, ne_eq, beq_eq_false_iff_ne, bne_eq_false_iff_eq, Bool.not_eq_true, Bool.not_eq_false, Bool.not_eq_eq_eq_not, Int.not_lt, Int.not_le, Decidable.not_not, gt_iff_lt, ge_iff_le] at hlt) <;> (simp -implicitDefEqProofs (maxSteps := 1000000) (disch := omega) only [go_sem, wrap64, Int.tdiv_eq_ediv_of_nonneg, Int.tmod_eq_emod_of_nonneg, Nat.reduceAdd, Nat.reduceMul, Nat.reduceEqDiff, Nat.reduceLT, Nat.reduceLeDiff, Int.reduceEq, Int.reduceNeg, Int.reduceToNat, reduceCtorEq, eq_self, Bool.false_eq_true, Bool.true_eq_false, ↓reduceIte, hgd]) <;> clear hgd)
        | (with_reducible refine And.intro ?_ ?_; · first | omega | assumption | exact ⟨_, _, rfl, rfl⟩)
        | ((first | refine ⟨_, t1, ?_⟩ | refine ⟨_, m1, ?_⟩ | refine ⟨_, p1, ?_⟩ | refine ⟨_, c1, ?_⟩); simp -implicitDefEqProofs (maxSteps := 1000000) (disch := omega) only [go_sem, wrap64, Int.tdiv_eq_ediv_of_nonneg, Int.tmod_eq_emod_of_nonneg, Nat.reduceAdd, Nat.reduceMul, Nat.reduceEqDiff, Nat.reduceLT, Nat.reduceLeDiff, Int.reduceEq, Int.reduceNeg, Int.reduceToNat, reduceCtorEq, eq_self, Bool.false_eq_true, Bool.true_eq_false, ↓reduceIte])
        | fail
      all_goals exact ⟨rfl, rfl, rfl⟩
    · have hle := hcv.1 hlt
      refine ih (lo + (hi - lo + 1) / 2, hi, r1) _ ⟨by simp only; omega, by simp only; omega, b3, hl1, d1, hset, fun h => ⟨?_, (b7 h).2⟩⟩ (by simp only; omega) (Sub.of id ⟨by rw [hm']; exact Nat.le_refl _, fun _ _ => rfl⟩ rfl ?_ ?_ (fun _ _ _ _ h => h))
      · simp only
        rw [Int.toNat_of_nonneg (by omega), ← hvq h]; exact hle
      all_goals (try (simp only [FRt, sRt, subT, subS, go_sem]; simp; done))
    · have hgt : ¬ val r1 * val r1 ≤ a := fun h => by have := hcv.2 h; omega
      refine ih (lo, lo + (hi - lo + 1) / 2 - 1, r1) _ ⟨b1, by simp only; omega, by simp only; omega, hl1, d1, hset, fun h => ⟨(b7 h).1, ?_⟩⟩ (by simp only; omega) (Sub.of id ⟨by rw [hm']; exact Nat.le_refl _, fun _ _ => rfl⟩ rfl ?_ ?_ (fun _ _ _ _ h => h))
      · simp only
        rw [Int.toNat_of_nonneg (by omega), show lo + (hi - lo + 1) / 2 - 1 + 1 = lo + (hi - lo + 1) / 2 by omega, ← hvq h]; omega
      all_goals (try (simp only [FRt, sRt, subT, subS, go_sem]; simp; done))
    · refine ⟨q.set i lo, by rw [List.length_set]; exact q1, ⟨Nat.le_refl _, rfl, rfl, by rw [← b6]; rfl, rfl, rfl⟩, dig_set q3 _ (by omega), fun h => ?_⟩
      have hPr : pre ++ [k] <+: List.finRange n := by rw [hP]; exact h
      have hpk := (prefix_last hPr).1
      have h7 := b7 h
      have hlh : hi = lo := by omega
      rw [hlh] at h7
      have h8 := RtI_step (hpre h) (by omega) (by omega) h7
      rw [Int.toNat_of_nonneg b1] at h8
      rwa [show n - (pre.length + 1) = i by omega]
  · rintro s m ⟨q, q1, q2, q3, q4⟩
    have h5 := q4 List.prefix_rfl
    rw [List.length_finRange, Nat.sub_self] at h5
    have h6 := Rt_end h5
    have hv := val_nonneg q3
    have sgc := signed_v false q (rt a) q3 (by omega) (by omega)
    rw [show sg false (rt a) = (rt a : Int) from rfl] at sgc
    simp -implicitDefEqProofs (maxSteps := 1000000) (disch := omega) only [go_sem, wrap64, Int.tdiv_eq_ediv_of_nonneg, Int.tmod_eq_emod_of_nonneg, Nat.reduceAdd, Nat.reduceMul, Nat.reduceEqDiff, Nat.reduceLT, Nat.reduceLeDiff, Int.reduceEq, Int.reduceNeg, Int.reduceToNat, reduceCtorEq, eq_self, Bool.false_eq_true, Bool.true_eq_false, ↓reduceIte]
    first | (refine hK _ ?_; clear hK) | (clear hK; refine hK _ ?_; clear hK) | (clear hK; clear hK; refine hK _ ?_; clear hK) | (clear hK; clear hK; clear hK; refine hK _ ?_; clear hK)
    refine AWp.sub (σ' := ⟨[(2, .ptr 1 0), (5, .ptr 3 0)], sRt a q, 5, 1⟩) (Sub.of0 hm id rfl ?_ (gRt_sub q2) (fun _ _ _ _ h => h)) ?_
    · simp [subT, go_sem]
    simp only [sRt]
    refine AWp.sub (Sub.frz 2 rfl) ?_
    refine AWp.sub (Sub.datBox 3 0 2 rfl rfl rfl) ?_
    simp -implicitDefEqProofs (maxSteps := 1000000) (disch := omega) only [go_sem, wrap64, Int.tdiv_eq_ediv_of_nonneg, Int.tmod_eq_emod_of_nonneg, Nat.reduceAdd, Nat.reduceMul, Nat.reduceEqDiff, Nat.reduceLT, Nat.reduceLeDiff, Int.reduceEq, Int.reduceNeg, Int.reduceToNat, reduceCtorEq, eq_self, Bool.false_eq_true, Bool.true_eq_false, ↓reduceIte]
    repeat' first
      | (refine AWp.seq fun K hK => ?_)
      | ((first | refine AWp.draw (id := 13) [.take 0, .take 1, .take 2, .take 3, .take 4, .take 5, .take 6] mixed_ok (by kernel_rfl) (by rw [hc]; rfl) ?_ | refine AWp.region (by rw [hc]; rfl) ?_ | refine AWp.skip ?_ | refine AWp.exit ?_ | refine AWp.label ?_ | refine AWp.ret ?_ | refine appK_g ?_); simp -implicitDefEqProofs (maxSteps := 1000000) (disch := omega) only [go_sem, wrap64, Int.tdiv_eq_ediv_of_nonneg, Int.tmod_eq_emod_of_nonneg, Nat.reduceAdd, Nat.reduceMul, Nat.reduceEqDiff, Nat.reduceLT, Nat.reduceLeDiff, Int.reduceEq, Int.reduceNeg, Int.reduceToNat, reduceCtorEq, eq_self, Bool.false_eq_true, Bool.true_eq_false, ↓reduceIte])
      | (refine hK _ ?_; clear hK)
      | (clear hK; refine hK _ ?_; clear hK)
      | (clear hK; clear hK; refine hK _ ?_; clear hK)
      | (clear hK; clear hK; clear hK; refine hK _ ?_; clear hK)
      | (refine AWp.cond ?_; simp -implicitDefEqProofs (maxSteps := 1000000) (disch := omega) only [go_sem, wrap64, Int.tdiv_eq_ediv_of_nonneg, Int.tmod_eq_emod_of_nonneg, Nat.reduceAdd, Nat.reduceMul, Nat.reduceEqDiff, Nat.reduceLT, Nat.reduceLeDiff, Int.reduceEq, Int.reduceNeg, Int.reduceToNat, reduceCtorEq, eq_self, Bool.false_eq_true, Bool.true_eq_false, ↓reduceIte]; try (refine ⟨fun hlt => ?_, fun hlt => ?_⟩ <;> (try simp only [decide_eq_true_eq, decide_eq_false_iff_not, beq_iff_eq, bne_iff_ne, ne_eq, beq_eq_false_iff_ne, bne_eq_false_iff_eq, Bool.true_eq_false, Bool.false_eq_true, Int.not_lt, Int.not_le, Decidable.not_not, gt_iff_lt, ge_iff_le, reduceCtorEq] at hlt) <;> (try exact hlt.elim)))
      | (refine AWp.block ?_)
      | ((first | refine gdO_split (fun hlt => ?_) (fun hlt => ?_) | refine tkO_split (fun hlt => ?_) (fun hlt => ?_) | refine opO_split (fun hlt => ?_) (fun hlt => ?_)) <;> have hgd := hlt <;> (try simp only [decide_eq_true_eq, decide_eq_false_iff_not, beq_iff_eq, bne_iff_ne, ne_eq, beq_eq_false_iff_ne, bne_eq_false_iff_eq, Bool.not_eq_true, Bool.not_eq_false, Bool.not_eq_eq_eq_not, Int.not_lt, Int.not_le, Decidable.not_not, gt_iff_lt, ge_iff_le] at hlt) <;> (simp -implicitDefEqProofs (maxSteps := 1000000) (disch := omega) only [go_sem, wrap64, Int.tdiv_eq_ediv_of_nonneg, Int.tmod_eq_emod_of_nonneg, Nat.reduceAdd, Nat.reduceMul, Nat.reduceEqDiff, Nat.reduceLT, Nat.reduceLeDiff, Int.reduceEq, Int.reduceNeg, Int.reduceToNat, reduceCtorEq, eq_self, Bool.false_eq_true, Bool.true_eq_false, ↓reduceIte, hgd]) <;> clear hgd)
      | (with_reducible refine And.intro ?_ ?_; · first | omega | assumption | exact ⟨_, _, rfl, rfl⟩)
      | ((first | refine ⟨_, sgc, ?_⟩); simp -implicitDefEqProofs (maxSteps := 1000000) (disch := omega) only [go_sem, wrap64, Int.tdiv_eq_ediv_of_nonneg, Int.tmod_eq_emod_of_nonneg, Nat.reduceAdd, Nat.reduceMul, Nat.reduceEqDiff, Nat.reduceLT, Nat.reduceLeDiff, Int.reduceEq, Int.reduceNeg, Int.reduceToNat, reduceCtorEq, eq_self, Bool.false_eq_true, Bool.true_eq_false, ↓reduceIte])
      | fail
end Go.Proofs.YthhjcfejgoddlaaGreatDoor
end

section
set_option linter.unusedSimpArgs false
set_option linter.unusedVariables false
set_option maxRecDepth 100000
namespace Go.Proofs.YthhjcfejgoddlaaGreatDoor
open Go Go.Abs

theorem limP_cases (z : Int) : limP z = (z, 0) ∨ limP z = (0, 2) := by
  unfold limP; split
  · exact .inl rfl
  · exact .inr rfl
theorem right1A (na : Bool) (a : List Int) (h : okI na a) : PC Tryz.prog 17 [.dat (.lst [[.bool na, .lst (a.map eI)]])] (B true) := by
  have hr := right_pc [(na, a)] (by simp)
  rwa [show (List.all [(na, a)] fun z => decide (okI z.1 z.2)) = true by
    simp only [List.all_cons, List.all_nil, Bool.and_true]; exact decide_eq_true h] at hr
theorem right_bad1 (na : Bool) (a : List Int) (h : ¬ okI na a) : PC Tryz.prog 17 [.dat (.lst [[.bool na, .lst (a.map eI)]])] (B false) := by
  have hr := right_pc [(na, a)] (by simp)
  rwa [show (List.all [(na, a)] fun z => decide (okI z.1 z.2)) = false by
    simp only [List.all_cons, List.all_nil, Bool.and_true]; exact decide_eq_false h] at hr
theorem NumRoots_bad (na : Bool) (a : List Int) (h : ¬ okI na a) : PC Tryz.prog 13 [Zr na a] (B true) := by
  have hs := sane_ok
  have hr := right_bad1 na a h
  refine PCr.pc (PCr.of tab_ok Tryz.func13 rfl rfl rfl fun c hc hm => ?_)
  rw [show Tryz.f13.ntmps = _ from Tryz.ntmps13] at hc
  simp only [Tryz.f13]
  repeat' first
    | (exact absurd hlt (by decide))
    | (refine AWp.seq fun K hK => ?_)
    | ((first | refine AWp.draw (id := 8) [.take 0, .take 1, .take 2, .take 3, .take 4, .grp [5], .grp [6]] mixed_ok (by kernel_rfl) (by rw [hc]; rfl) ?_ | refine AWp.region (by rw [hc]; rfl) ?_ | refine AWp.skip ?_ | refine AWp.exit ?_ | refine AWp.label ?_ | refine AWp.ret ?_ | refine appK_g ?_); simp -implicitDefEqProofs (maxSteps := 1000000) (disch := omega) only [go_sem, wrap64, Int.tdiv_eq_ediv_of_nonneg, Int.tmod_eq_emod_of_nonneg, Nat.reduceAdd, Nat.reduceMul, Nat.reduceEqDiff, Nat.reduceLT, Nat.reduceLeDiff, Int.reduceEq, Int.reduceNeg, Int.reduceToNat, reduceCtorEq, eq_self, Bool.false_eq_true, Bool.true_eq_false, ↓reduceIte, Int.reduceBNe, Int.reduceBEq, Bool.not_true, Bool.not_false])
    | (refine hK _ ?_; clear hK)
    | (clear hK; refine hK _ ?_; clear hK)
    | (clear hK; clear hK; refine hK _ ?_; clear hK)
    | (clear hK; clear hK; clear hK; refine hK _ ?_; clear hK)
    | (refine AWp.cond ?_; simp -implicitDefEqProofs (maxSteps := 1000000) (disch := omega) only [go_sem, wrap64, Int.tdiv_eq_ediv_of_nonneg, Int.tmod_eq_emod_of_nonneg, Nat.reduceAdd, Nat.reduceMul, Nat.reduceEqDiff, Nat.reduceLT, Nat.reduceLeDiff, Int.reduceEq, Int.reduceNeg, Int.reduceToNat, reduceCtorEq, eq_self, Bool.false_eq_true, Bool.true_eq_false, ↓reduceIte, Int.reduceBNe, Int.reduceBEq, Bool.not_true, Bool.not_false]; try (refine ⟨fun hlt => ?_, fun hlt => ?_⟩ <;> (try simp only [decide_eq_true_eq, decide_eq_false_iff_not, beq_iff_eq, bne_iff_ne, ne_eq, beq_eq_false_iff_ne, bne_eq_false_iff_eq, Bool.true_eq_false, Bool.false_eq_true, Int.not_lt, Int.not_le, Decidable.not_not, gt_iff_lt, ge_iff_le, reduceCtorEq] at hlt) <;> (try exact hlt.elim)))
    | (refine AWp.block ?_)
    | ((first | refine gdO_split (fun hlt => ?_) (fun hlt => ?_) | refine tkO_split (fun hlt => ?_) (fun hlt => ?_) | refine opO_split (fun hlt => ?_) (fun hlt => ?_)) <;> have hgd := hlt <;> (try simp only [decide_eq_true_eq, decide_eq_false_iff_not, beq_iff_eq, bne_iff_ne, ne_eq, beq_eq_false_iff_ne, bne_eq_false_iff_eq, Bool.not_eq_true, Bool.not_eq_false, Bool.not_eq_eq_eq_not, Int.not_lt, Int.not_le, Decidable.not_not, gt_iff_lt, ge_iff_le] at hlt) <;> (simp -implicitDefEqProofs (maxSteps := 1000000) (disch := omega) only [go_sem, wrap64, Int.tdiv_eq_ediv_of_nonneg, Int.tmod_eq_emod_of_nonneg, Nat.reduceAdd, Nat.reduceMul, Nat.reduceEqDiff, Nat.reduceLT, Nat.reduceLeDiff, Int.reduceEq, Int.reduceNeg, Int.reduceToNat, reduceCtorEq, eq_self, Bool.false_eq_true, Bool.true_eq_false, ↓reduceIte, Int.reduceBNe, Int.reduceBEq, Bool.not_true, Bool.not_false, hgd]) <;> clear hgd)
    | (with_reducible refine And.intro ?_ ?_; · first | omega | assumption | exact ⟨_, _, rfl, rfl⟩)
    | ((first | refine ⟨_, hs, ?_⟩ | refine ⟨_, hr, ?_⟩); simp -implicitDefEqProofs (maxSteps := 1000000) (disch := omega) only [go_sem, wrap64, Int.tdiv_eq_ediv_of_nonneg, Int.tmod_eq_emod_of_nonneg, Nat.reduceAdd, Nat.reduceMul, Nat.reduceEqDiff, Nat.reduceLT, Nat.reduceLeDiff, Int.reduceEq, Int.reduceNeg, Int.reduceToNat, reduceCtorEq, eq_self, Bool.false_eq_true, Bool.true_eq_false, ↓reduceIte, Int.reduceBNe, Int.reduceBEq, Bool.not_true, Bool.not_false])
    | fail
theorem NumRoots_neg (a : List Int) (h : okI true a) : PC Tryz.prog 13 [Zr true a] (B true) := by
  have hs := sane_ok
  have hr := right1A true a h
  have h1 := Root_neg a (by have := h.1; omega) h
  refine PCr.pc (PCr.of tab_ok Tryz.func13 rfl rfl rfl fun c hc hm => ?_)
  rw [show Tryz.f13.ntmps = _ from Tryz.ntmps13] at hc
  simp only [Tryz.f13]
  repeat' first
    | (exact absurd hlt (by decide))
    | (refine AWp.seq fun K hK => ?_)
    | ((first | refine AWp.draw (id := 8) [.take 0, .take 1, .take 2, .take 3, .take 4, .grp [5], .grp [6]] mixed_ok (by kernel_rfl) (by rw [hc]; rfl) ?_ | refine AWp.region (by rw [hc]; rfl) ?_ | refine AWp.skip ?_ | refine AWp.exit ?_ | refine AWp.label ?_ | refine AWp.ret ?_ | refine appK_g ?_); simp -implicitDefEqProofs (maxSteps := 1000000) (disch := omega) only [go_sem, wrap64, Int.tdiv_eq_ediv_of_nonneg, Int.tmod_eq_emod_of_nonneg, Nat.reduceAdd, Nat.reduceMul, Nat.reduceEqDiff, Nat.reduceLT, Nat.reduceLeDiff, Int.reduceEq, Int.reduceNeg, Int.reduceToNat, reduceCtorEq, eq_self, Bool.false_eq_true, Bool.true_eq_false, ↓reduceIte, Int.reduceBNe, Int.reduceBEq, Bool.not_true, Bool.not_false])
    | (refine hK _ ?_; clear hK)
    | (clear hK; refine hK _ ?_; clear hK)
    | (clear hK; clear hK; refine hK _ ?_; clear hK)
    | (clear hK; clear hK; clear hK; refine hK _ ?_; clear hK)
    | (refine AWp.cond ?_; simp -implicitDefEqProofs (maxSteps := 1000000) (disch := omega) only [go_sem, wrap64, Int.tdiv_eq_ediv_of_nonneg, Int.tmod_eq_emod_of_nonneg, Nat.reduceAdd, Nat.reduceMul, Nat.reduceEqDiff, Nat.reduceLT, Nat.reduceLeDiff, Int.reduceEq, Int.reduceNeg, Int.reduceToNat, reduceCtorEq, eq_self, Bool.false_eq_true, Bool.true_eq_false, ↓reduceIte, Int.reduceBNe, Int.reduceBEq, Bool.not_true, Bool.not_false]; try (refine ⟨fun hlt => ?_, fun hlt => ?_⟩ <;> (try simp only [decide_eq_true_eq, decide_eq_false_iff_not, beq_iff_eq, bne_iff_ne, ne_eq, beq_eq_false_iff_ne, bne_eq_false_iff_eq, Bool.true_eq_false, Bool.false_eq_true, Int.not_lt, Int.not_le, Decidable.not_not, gt_iff_lt, ge_iff_le, reduceCtorEq] at hlt) <;> (try exact hlt.elim)))
    | (refine AWp.block ?_)
    | ((first | refine gdO_split (fun hlt => ?_) (fun hlt => ?_) | refine tkO_split (fun hlt => ?_) (fun hlt => ?_) | refine opO_split (fun hlt => ?_) (fun hlt => ?_)) <;> have hgd := hlt <;> (try simp only [decide_eq_true_eq, decide_eq_false_iff_not, beq_iff_eq, bne_iff_ne, ne_eq, beq_eq_false_iff_ne, bne_eq_false_iff_eq, Bool.not_eq_true, Bool.not_eq_false, Bool.not_eq_eq_eq_not, Int.not_lt, Int.not_le, Decidable.not_not, gt_iff_lt, ge_iff_le] at hlt) <;> (simp -implicitDefEqProofs (maxSteps := 1000000) (disch := omega) only [go_sem, wrap64, Int.tdiv_eq_ediv_of_nonneg, Int.tmod_eq_emod_of_nonneg, Nat.reduceAdd, Nat.reduceMul, Nat.reduceEqDiff, Nat.reduceLT, Nat.reduceLeDiff, Int.reduceEq, Int.reduceNeg, Int.reduceToNat, reduceCtorEq, eq_self, Bool.false_eq_true, Bool.true_eq_false, ↓reduceIte, Int.reduceBNe, Int.reduceBEq, Bool.not_true, Bool.not_false, hgd]) <;> clear hgd)
    | (with_reducible refine And.intro ?_ ?_; · first | omega | assumption | exact ⟨_, _, rfl, rfl⟩)
    | ((first | refine ⟨_, hs, ?_⟩ | refine ⟨_, hr, ?_⟩ | refine ⟨_, h1, ?_⟩); simp -implicitDefEqProofs (maxSteps := 1000000) (disch := omega) only [go_sem, wrap64, Int.tdiv_eq_ediv_of_nonneg, Int.tmod_eq_emod_of_nonneg, Nat.reduceAdd, Nat.reduceMul, Nat.reduceEqDiff, Nat.reduceLT, Nat.reduceLeDiff, Int.reduceEq, Int.reduceNeg, Int.reduceToNat, reduceCtorEq, eq_self, Bool.false_eq_true, Bool.true_eq_false, ↓reduceIte, Int.reduceBNe, Int.reduceBEq, Bool.not_true, Bool.not_false])
    | fail
set_option maxHeartbeats 4000000 in
theorem NumRoots_nat (m : Nat) (lm : lenZ (m : Int) ≤ 40) : PC Tryz.prog 13 [.agg (zC (m : Int))] (B true) := by
  have hs := sane_ok
  have hn0 : decide ((m : Int) < 0) = false := decide_eq_false (by omega)
  have hr : PC Tryz.prog 17 [.dat (.lst [zD (m : Int)])] (B true) := right1A _ _ (okZ lm)
  have lD : (D m).length ≤ 40 := by unfold lenZ at lm; rwa [Int.natAbs_natCast] at lm
  have h1 : PC Tryz.prog 57 [.agg (zC (m : Int))] (.tup [.agg (zC (rt m : Int)), I 0]) := by
    have := Root_D m lD
    rwa [show Zr false (D m) = .agg (zC (m : Int)) by unfold zC; rw [hn0, Int.natAbs_natCast]; rfl] at this
  obtain ⟨s1, s2⟩ := rt_spec m
  generalize rt m = r at *
  have hn1 : decide ((r : Int) < 0) = false := decide_eq_false (by omega)
  have hrr : ((r * r : Nat) : Int) ≤ m := by exact_mod_cast s1
  have lr : lenZ (r : Int) ≤ 40 := Nat.le_trans (lenZ_le (by
    rw [Int.natAbs_natCast, Int.natAbs_natCast]
    rcases Nat.eq_zero_or_pos r with h | h
    · omega
    · have := Nat.le_mul_of_pos_left r h; omega)) lm
  have lrr : lenZ ((r : Int) * r) ≤ 40 := Nat.le_trans (lenZ_le (by rw [← Int.natCast_mul, Int.natAbs_natCast, Int.natAbs_natCast]; exact s1)) lm
  have v1 := valA (r : Int)
  have t1 := timesA ((r : Int), 0) ((r : Int), 0) lr lr
  rw [show timesP ((r : Int), 0) ((r : Int), 0) = ((r : Int) * r, 0) by unfold timesP; rw [if_pos ⟨rfl, rfl⟩, limP_one lrr]] at t1
  have o1 := ofA 1 (by decide) (by decide)
  have v2 := valA 1
  have a1 := sumA ((r : Int), 0) (1, 0) lr (by show lenZ 1 ≤ 40; exact Nat.le_trans (lenZ_small (by decide)) (by decide))
  have hmo : okP (sumP ((r : Int), 0) (1, 0)) := sumP_ok _ _
  have t2 := timesA _ _ hmo hmo
  have c1 := cmpA ((r : Int) * r) m lrr lm
  have hc1 : cmpI ((r : Int) * r) m ≤ 0 := by simp only [cmpI]; rw [Int.natCast_mul] at hrr; (repeat' split) <;> omega
  have hto : okP (timesP (sumP ((r : Int), 0) (1, 0)) (sumP ((r : Int), 0) (1, 0))) := timesP_ok _ _
  have key : timesP (sumP ((r : Int), 0) (1, 0)) (sumP ((r : Int), 0) (1, 0)) = (0, 2) ∨ ∃ t : Int, timesP (sumP ((r : Int), 0) (1, 0)) (sumP ((r : Int), 0) (1, 0)) = (t, 0) ∧ (m : Int) < t := by
    unfold sumP
    rw [if_pos ⟨rfl, rfl⟩]
    rcases limP_cases ((r : Int) + 1) with h | h
    · rw [h]
      unfold timesP
      rw [if_pos ⟨rfl, rfl⟩]
      rcases limP_cases (((r : Int) + 1) * ((r : Int) + 1)) with h2 | h2
      · exact .inr ⟨_, h2, by exact_mod_cast s2⟩
      · exact .inl h2
    · rw [h]; exact .inl (by unfold timesP; rw [if_neg (by simp)])
  generalize cmpI ((r : Int) * r) m = cc at *
  have hcd : decide (cc ≤ 0) = true := decide_eq_true hc1
  rcases key with hk | ⟨t, hk, ht⟩
  · rw [hk] at t2
    generalize sumP ((r : Int), 0) (1, 0) = more at *
    refine PCr.pc (PCr.of tab_ok Tryz.func13 rfl rfl rfl fun c hc hm => ?_)
    rw [show Tryz.f13.ntmps = _ from Tryz.ntmps13] at hc
    simp only [Tryz.f13]
    repeat' first
      | (exact absurd hlt (by decide))
      | (refine AWp.seq fun K hK => ?_)
      | (first | refine AWp.draw2 (id := 8) [.take 0, .take 1, .take 2, .take 3, .take 4, .grp [5], .grp [6]] mixed_ok (by kernel_rfl) (by rw [hc]; rfl) ?_)
      | ((first | refine planK_step fun K hK => ?_ | refine planK_one fun K hK => ?_); simp -implicitDefEqProofs (maxSteps := 1000000) (disch := omega) only [go_sem, wrap64, Int.tdiv_eq_ediv_of_nonneg, Int.tmod_eq_emod_of_nonneg, Nat.reduceAdd, Nat.reduceMul, Nat.reduceEqDiff, Nat.reduceLT, Nat.reduceLeDiff, Int.reduceEq, Int.reduceNeg, Int.reduceToNat, reduceCtorEq, eq_self, Bool.false_eq_true, Bool.true_eq_false, ↓reduceIte, Int.reduceBNe, Int.reduceBEq, Bool.not_true, Bool.not_false, zC_len, pC_len, zD_len, zC_map, pC_map, zC_toCs, pC_toCs, zC_dCs, pC_dCs, zC_dats0, zC_take, pC_take, pC_take2, pC_get2, zC_get0, zC_get1, zC_drop, pC_drop, pC_drop3, zC_drop2, List.nil_append, List.append_nil, hn0, hn1, hcd])
      | (refine planK_end ?_; try (simp -implicitDefEqProofs (maxSteps := 1000000) (disch := omega) only [go_sem, wrap64, Int.tdiv_eq_ediv_of_nonneg, Int.tmod_eq_emod_of_nonneg, Nat.reduceAdd, Nat.reduceMul, Nat.reduceEqDiff, Nat.reduceLT, Nat.reduceLeDiff, Int.reduceEq, Int.reduceNeg, Int.reduceToNat, reduceCtorEq, eq_self, Bool.false_eq_true, Bool.true_eq_false, ↓reduceIte, Int.reduceBNe, Int.reduceBEq, Bool.not_true, Bool.not_false, zC_len, pC_len, zD_len, zC_map, pC_map, zC_toCs, pC_toCs, zC_dCs, pC_dCs, zC_dats0, zC_take, pC_take, pC_take2, pC_get2, zC_get0, zC_get1, zC_drop, pC_drop, pC_drop3, zC_drop2, List.nil_append, List.append_nil, hn0, hn1, hcd]))
      | ((first | refine AWp.region (by rw [hc]; rfl) ?_ | refine AWp.skip ?_ | refine AWp.exit ?_ | refine AWp.label ?_ | refine AWp.ret ?_ | refine appK_g ?_); simp -implicitDefEqProofs (maxSteps := 1000000) (disch := omega) only [go_sem, wrap64, Int.tdiv_eq_ediv_of_nonneg, Int.tmod_eq_emod_of_nonneg, Nat.reduceAdd, Nat.reduceMul, Nat.reduceEqDiff, Nat.reduceLT, Nat.reduceLeDiff, Int.reduceEq, Int.reduceNeg, Int.reduceToNat, reduceCtorEq, eq_self, Bool.false_eq_true, Bool.true_eq_false, ↓reduceIte, Int.reduceBNe, Int.reduceBEq, Bool.not_true, Bool.not_false, zC_len, pC_len, zD_len, zC_map, pC_map, zC_toCs, pC_toCs, zC_dCs, pC_dCs, zC_dats0, zC_take, pC_take, pC_take2, pC_get2, zC_get0, zC_get1, zC_drop, pC_drop, pC_drop3, zC_drop2, List.nil_append, List.append_nil, hn0, hn1, hcd])
      | (refine hK _ ?_; clear hK)
      | (clear hK; refine hK _ ?_; clear hK)
      | (clear hK; clear hK; refine hK _ ?_; clear hK)
      | (clear hK; clear hK; clear hK; refine hK _ ?_; clear hK)
      | (refine AWp.cond ?_; simp -implicitDefEqProofs (maxSteps := 1000000) (disch := omega) only [go_sem, wrap64, Int.tdiv_eq_ediv_of_nonneg, Int.tmod_eq_emod_of_nonneg, Nat.reduceAdd, Nat.reduceMul, Nat.reduceEqDiff, Nat.reduceLT, Nat.reduceLeDiff, Int.reduceEq, Int.reduceNeg, Int.reduceToNat, reduceCtorEq, eq_self, Bool.false_eq_true, Bool.true_eq_false, ↓reduceIte, Int.reduceBNe, Int.reduceBEq, Bool.not_true, Bool.not_false, zC_len, pC_len, zD_len, zC_map, pC_map, zC_toCs, pC_toCs, zC_dCs, pC_dCs, zC_dats0, zC_take, pC_take, pC_take2, pC_get2, zC_get0, zC_get1, zC_drop, pC_drop, pC_drop3, zC_drop2, List.nil_append, List.append_nil, hn0, hn1, hcd]; try (refine ⟨fun hlt => ?_, fun hlt => ?_⟩ <;> (try simp only [decide_eq_true_eq, decide_eq_false_iff_not, beq_iff_eq, bne_iff_ne, ne_eq, beq_eq_false_iff_ne, bne_eq_false_iff_eq, Bool.true_eq_false, Bool.false_eq_true, Int.not_lt, Int.not_le, Decidable.not_not, gt_iff_lt, ge_iff_le, reduceCtorEq] at hlt) <;> (try exact hlt.elim)))
      | (refine AWp.block ?_)
      | ((first | refine gdO_split (fun hlt => ?_) (fun hlt => ?_) | refine tkO_split (fun hlt => ?_) (fun hlt => ?_) | refine opO_split (fun hlt => ?_) (fun hlt => ?_)) <;> have hgd := hlt <;> (try simp only [decide_eq_true_eq, decide_eq_false_iff_not, beq_iff_eq, bne_iff_ne, ne_eq, beq_eq_false_iff_ne, bne_eq_false_iff_eq, Bool.not_eq_true, Bool.not_eq_false, Bool.not_eq_eq_eq_not, Int.not_lt, Int.not_le, Decidable.not_not, gt_iff_lt, ge_iff_le] at hlt) <;> (simp -implicitDefEqProofs (maxSteps := 1000000) (disch := omega) only [go_sem, wrap64, Int.tdiv_eq_ediv_of_nonneg, Int.tmod_eq_emod_of_nonneg, Nat.reduceAdd, Nat.reduceMul, Nat.reduceEqDiff, Nat.reduceLT, Nat.reduceLeDiff, Int.reduceEq, Int.reduceNeg, Int.reduceToNat, reduceCtorEq, eq_self, Bool.false_eq_true, Bool.true_eq_false, ↓reduceIte, Int.reduceBNe, Int.reduceBEq, Bool.not_true, Bool.not_false, zC_len, pC_len, zD_len, zC_map, pC_map, zC_toCs, pC_toCs, zC_dCs, pC_dCs, zC_dats0, zC_take, pC_take, pC_take2, pC_get2, zC_get0, zC_get1, zC_drop, pC_drop, pC_drop3, zC_drop2, List.nil_append, List.append_nil, hn0, hn1, hcd, hgd]) <;> clear hgd)
      | (with_reducible refine And.intro ?_ ?_; · first | omega | assumption | exact ⟨_, _, rfl, rfl⟩)
      | ((first | refine ⟨_, hs, ?_⟩ | refine ⟨_, hr, ?_⟩ | refine ⟨_, h1, ?_⟩ | refine ⟨_, v1, ?_⟩ | refine ⟨_, t1, ?_⟩ | refine ⟨_, o1, ?_⟩ | refine ⟨_, v2, ?_⟩ | refine ⟨_, a1, ?_⟩ | refine ⟨_, t2, ?_⟩ | refine ⟨_, c1, ?_⟩); try (simp -implicitDefEqProofs (maxSteps := 1000000) (disch := omega) only [go_sem, wrap64, Int.tdiv_eq_ediv_of_nonneg, Int.tmod_eq_emod_of_nonneg, Nat.reduceAdd, Nat.reduceMul, Nat.reduceEqDiff, Nat.reduceLT, Nat.reduceLeDiff, Int.reduceEq, Int.reduceNeg, Int.reduceToNat, reduceCtorEq, eq_self, Bool.false_eq_true, Bool.true_eq_false, ↓reduceIte, Int.reduceBNe, Int.reduceBEq, Bool.not_true, Bool.not_false, zC_len, pC_len, zD_len, zC_map, pC_map, zC_toCs, pC_toCs, zC_dCs, pC_dCs, zC_dats0, zC_take, pC_take, pC_take2, pC_get2, zC_get0, zC_get1, zC_drop, pC_drop, pC_drop3, zC_drop2, List.nil_append, List.append_nil, hn0, hn1, hcd]))
      | fail
  · rw [hk] at t2 hto
    have c2 := cmpA t m hto lm
    rw [show cmpI t m = 1 from cmpI_gt ht] at c2
    generalize sumP ((r : Int), 0) (1, 0) = more at *
    refine PCr.pc (PCr.of tab_ok Tryz.func13 rfl rfl rfl fun c hc hm => ?_)
    rw [show Tryz.f13.ntmps = _ from Tryz.ntmps13] at hc
    simp only [Tryz.f13]
    repeat' first
      | (exact absurd hlt (by decide))
      | (refine AWp.seq fun K hK => ?_)
      | (first | refine AWp.draw2 (id := 8) [.take 0, .take 1, .take 2, .take 3, .take 4, .grp [5], .grp [6]] mixed_ok (by kernel_rfl) (by rw [hc]; rfl) ?_)
      | ((first | refine planK_step fun K hK => ?_ | refine planK_one fun K hK => ?_); simp -implicitDefEqProofs (maxSteps := 1000000) (disch := omega) only [go_sem, wrap64, Int.tdiv_eq_ediv_of_nonneg, Int.tmod_eq_emod_of_nonneg, Nat.reduceAdd, Nat.reduceMul, Nat.reduceEqDiff, Nat.reduceLT, Nat.reduceLeDiff, Int.reduceEq, Int.reduceNeg, Int.reduceToNat, reduceCtorEq, eq_self, Bool.false_eq_true, Bool.true_eq_false, ↓reduceIte, Int.reduceBNe, Int.reduceBEq, Bool.not_true, Bool.not_false, zC_len, pC_len, zD_len, zC_map, pC_map, zC_toCs, pC_toCs, zC_dCs, pC_dCs, zC_dats0, zC_take, pC_take, pC_take2, pC_get2, zC_get0, zC_get1, zC_drop, pC_drop, pC_drop3, zC_drop2, List.nil_append, List.append_nil, hn0, hn1, hcd])
      | (refine planK_end ?_; try (simp -implicitDefEqProofs (maxSteps := 1000000) (disch := omega) only [go_sem, wrap64, Int.tdiv_eq_ediv_of_nonneg, Int.tmod_eq_emod_of_nonneg, Nat.reduceAdd, Nat.reduceMul, Nat.reduceEqDiff, Nat.reduceLT, Nat.reduceLeDiff, Int.reduceEq, Int.reduceNeg, Int.reduceToNat, reduceCtorEq, eq_self, Bool.false_eq_true, Bool.true_eq_false, ↓reduceIte, Int.reduceBNe, Int.reduceBEq, Bool.not_true, Bool.not_false, zC_len, pC_len, zD_len, zC_map, pC_map, zC_toCs, pC_toCs, zC_dCs, pC_dCs, zC_dats0, zC_take, pC_take, pC_take2, pC_get2, zC_get0, zC_get1, zC_drop, pC_drop, pC_drop3, zC_drop2, List.nil_append, List.append_nil, hn0, hn1, hcd]))
      | ((first | refine AWp.region (by rw [hc]; rfl) ?_ | refine AWp.skip ?_ | refine AWp.exit ?_ | refine AWp.label ?_ | refine AWp.ret ?_ | refine appK_g ?_); simp -implicitDefEqProofs (maxSteps := 1000000) (disch := omega) only [go_sem, wrap64, Int.tdiv_eq_ediv_of_nonneg, Int.tmod_eq_emod_of_nonneg, Nat.reduceAdd, Nat.reduceMul, Nat.reduceEqDiff, Nat.reduceLT, Nat.reduceLeDiff, Int.reduceEq, Int.reduceNeg, Int.reduceToNat, reduceCtorEq, eq_self, Bool.false_eq_true, Bool.true_eq_false, ↓reduceIte, Int.reduceBNe, Int.reduceBEq, Bool.not_true, Bool.not_false, zC_len, pC_len, zD_len, zC_map, pC_map, zC_toCs, pC_toCs, zC_dCs, pC_dCs, zC_dats0, zC_take, pC_take, pC_take2, pC_get2, zC_get0, zC_get1, zC_drop, pC_drop, pC_drop3, zC_drop2, List.nil_append, List.append_nil, hn0, hn1, hcd])
      | (refine hK _ ?_; clear hK)
      | (clear hK; refine hK _ ?_; clear hK)
      | (clear hK; clear hK; refine hK _ ?_; clear hK)
      | (clear hK; clear hK; clear hK; refine hK _ ?_; clear hK)
      | (refine AWp.cond ?_; simp -implicitDefEqProofs (maxSteps := 1000000) (disch := omega) only [go_sem, wrap64, Int.tdiv_eq_ediv_of_nonneg, Int.tmod_eq_emod_of_nonneg, Nat.reduceAdd, Nat.reduceMul, Nat.reduceEqDiff, Nat.reduceLT, Nat.reduceLeDiff, Int.reduceEq, Int.reduceNeg, Int.reduceToNat, reduceCtorEq, eq_self, Bool.false_eq_true, Bool.true_eq_false, ↓reduceIte, Int.reduceBNe, Int.reduceBEq, Bool.not_true, Bool.not_false, zC_len, pC_len, zD_len, zC_map, pC_map, zC_toCs, pC_toCs, zC_dCs, pC_dCs, zC_dats0, zC_take, pC_take, pC_take2, pC_get2, zC_get0, zC_get1, zC_drop, pC_drop, pC_drop3, zC_drop2, List.nil_append, List.append_nil, hn0, hn1, hcd]; try (refine ⟨fun hlt => ?_, fun hlt => ?_⟩ <;> (try simp only [decide_eq_true_eq, decide_eq_false_iff_not, beq_iff_eq, bne_iff_ne, ne_eq, beq_eq_false_iff_ne, bne_eq_false_iff_eq, Bool.true_eq_false, Bool.false_eq_true, Int.not_lt, Int.not_le, Decidable.not_not, gt_iff_lt, ge_iff_le, reduceCtorEq] at hlt) <;> (try exact hlt.elim)))
      | (refine AWp.block ?_)
      | ((first | refine gdO_split (fun hlt => ?_) (fun hlt => ?_) | refine tkO_split (fun hlt => ?_) (fun hlt => ?_) | refine opO_split (fun hlt => ?_) (fun hlt => ?_)) <;> have hgd := hlt <;> (try simp only [decide_eq_true_eq, decide_eq_false_iff_not, beq_iff_eq, bne_iff_ne, ne_eq, beq_eq_false_iff_ne, bne_eq_false_iff_eq, Bool.not_eq_true, Bool.not_eq_false, Bool.not_eq_eq_eq_not, Int.not_lt, Int.not_le, Decidable.not_not, gt_iff_lt, ge_iff_le] at hlt) <;> (simp -implicitDefEqProofs (maxSteps := 1000000) (disch := omega) only [go_sem, wrap64, Int.tdiv_eq_ediv_of_nonneg, Int.tmod_eq_emod_of_nonneg, Nat.reduceAdd, Nat.reduceMul, Nat.reduceEqDiff, Nat.reduceLT, Nat.reduceLeDiff, Int.reduceEq, Int.reduceNeg, Int.reduceToNat, reduceCtorEq, eq_self, Bool.false_eq_true, Bool.true_eq_false, ↓reduceIte, Int.reduceBNe, Int.reduceBEq, Bool.not_true, Bool.not_false, zC_len, pC_len, zD_len, zC_map, pC_map, zC_toCs, pC_toCs, zC_dCs, pC_dCs, zC_dats0, zC_take, pC_take, pC_take2, pC_get2, zC_get0, zC_get1, zC_drop, pC_drop, pC_drop3, zC_drop2, List.nil_append, List.append_nil, hn0, hn1, hcd, hgd]) <;> clear hgd)
      | (with_reducible refine And.intro ?_ ?_; · first | omega | assumption | exact ⟨_, _, rfl, rfl⟩)
      | ((first | refine ⟨_, hs, ?_⟩ | refine ⟨_, hr, ?_⟩ | refine ⟨_, h1, ?_⟩ | refine ⟨_, v1, ?_⟩ | refine ⟨_, t1, ?_⟩ | refine ⟨_, o1, ?_⟩ | refine ⟨_, v2, ?_⟩ | refine ⟨_, a1, ?_⟩ | refine ⟨_, t2, ?_⟩ | refine ⟨_, c1, ?_⟩ | refine ⟨_, c2, ?_⟩); try (simp -implicitDefEqProofs (maxSteps := 1000000) (disch := omega) only [go_sem, wrap64, Int.tdiv_eq_ediv_of_nonneg, Int.tmod_eq_emod_of_nonneg, Nat.reduceAdd, Nat.reduceMul, Nat.reduceEqDiff, Nat.reduceLT, Nat.reduceLeDiff, Int.reduceEq, Int.reduceNeg, Int.reduceToNat, reduceCtorEq, eq_self, Bool.false_eq_true, Bool.true_eq_false, ↓reduceIte, Int.reduceBNe, Int.reduceBEq, Bool.not_true, Bool.not_false, zC_len, pC_len, zD_len, zC_map, pC_map, zC_toCs, pC_toCs, zC_dCs, pC_dCs, zC_dats0, zC_take, pC_take, pC_take2, pC_get2, zC_get0, zC_get1, zC_drop, pC_drop, pC_drop3, zC_drop2, List.nil_append, List.append_nil, hn0, hn1, hcd]))
      | fail
    all_goals rfl
theorem NumRoots_ok (na : Bool) (a : List Int) : PC Tryz.prog 13 [Zr na a] (B true) := by
  by_cases h : okI na a
  · cases na
    · obtain ⟨x, e1, l1⟩ := okI_ex h
      rw [e1]
      have hx : 0 ≤ x := by
        have h2 : Zr false a = Zr (decide (x < 0)) (D x.natAbs) := e1
        unfold Zr at h2
        injection h2 with h2
        injection h2 with h2 _
        injection h2 with h2
        injection h2 with h2
        exact Int.not_lt.1 (of_decide_eq_false h2.symm)
      obtain ⟨m, rfl⟩ := Int.eq_ofNat_of_zero_le hx
      exact NumRoots_nat m l1
    · exact NumRoots_neg a h
  · exact NumRoots_bad na a h
end Go.Proofs.YthhjcfejgoddlaaGreatDoor
end
