/- The contract of the law's function. -/
import Derived.Test.YthhjcfejgoddlaaGreatDoorJb
import Derived.Test.YthhjcfejgoddlaaGreatDoorKb
import Derived.Test.YthhjcfejgoddlaaGreatDoorJc
section
set_option linter.unusedSimpArgs false
set_option linter.unusedVariables false
set_option maxRecDepth 100000
namespace Go.Proofs.YthhjcfejgoddlaaGreatDoor
open Go Go.Abs

/-- Results as pairs: the integer and the error. -/
def limP (z : Int) : Int × Int := if lenZ z ≤ 40 then (z, 0) else (0, 2)
def GP (p : Int × Int) : AV := GZ p.1 p.2
def okP (p : Int × Int) : Prop := lenZ p.1 ≤ 40
theorem lenZ_0 : lenZ 0 ≤ 40 := by unfold lenZ; rw [Int.natAbs_zero, D_zero]; exact Nat.zero_le _
theorem limR_P (z : Int) : limR z = .tup [Z (limP z).1, I (limP z).2] := by
  unfold limR limP
  split
  · rfl
  · show _ = AV.tup [Z 0, I 2]
    rw [Z_zero]
theorem limP_ok (z : Int) : okP (limP z) := by
  unfold limP okP
  split
  · assumption
  · exact lenZ_0
theorem gotP (p : Int × Int) : PC Tryz.prog 24 [Z p.1, I p.2] (GP p) := got_pc _ _ _
theorem got_lim (z : Int) : PC Tryz.prog 24 [Z (limP z).1, I (limP z).2] (GP (limP z)) := gotP _
theorem valP (x : Int) : PC Tryz.prog 21 [Z x] (GP (x, 0)) := val_pc _ _
def sumP (p q : Int × Int) : Int × Int := if p.2 = 0 ∧ q.2 = 0 then limP (p.1 + q.1) else (0, 2)
def timesP (p q : Int × Int) : Int × Int := if p.2 = 0 ∧ q.2 = 0 then limP (p.1 * q.1) else (0, 2)
theorem sumP_ok (p q : Int × Int) : okP (sumP p q) := by unfold sumP; split; exact limP_ok _; exact lenZ_0
theorem timesP_ok (p q : Int × Int) : okP (timesP p q) := by unfold timesP; split; exact limP_ok _; exact lenZ_0
theorem GP_02 : GP (0, 2) = .agg [B false, L [], I 2] := by
  show Gr (decide ((0 : Int) < 0)) (D (Int.natAbs 0)) 2 = _
  rw [Int.natAbs_zero, D_zero]; rfl
theorem PC.weak {f : FuncId} {args : List AV} {r r' : AV} (h : PC Tryz.prog f args r) (k : ∀ A w v, RV φ0 0 A w r v → RV φ0 0 A w r' v) : PC Tryz.prog f args r' :=
  ⟨h.1, fun w A vs hg hl hv => (h.2 w A vs hg hl hv).mono fun e w' ⟨v, he, hb, hrv⟩ => ⟨v, he, hb, k _ _ _ hrv⟩⟩
theorem RV_nilL {A : Nat → Nat → Prop} {w : World} {x y : AV} {v : Value} (h : RV φ0 0 A w (.agg [x, .nil, y]) v) : RV φ0 0 A w (.agg [x, L [], y]) v := by
  cases h with
  | agg _ vs hl h h1 =>
    refine .agg _ vs hl (fun j z hz => ?_) h1
    rcases j with _ | _ | _ | j
    · exact h 0 _ hz
    · have h2 := h 1 _ rfl
      obtain rfl := Option.some.inj hz
      cases hv : vs.getD 1 undef
      all_goals rw [hv] at h2; cases h2
      exact .dat _ _ (.emp _ _)
    · exact h 2 _ hz
    · simp at hz
theorem sum_P (p q : Int × Int) (hp : okP p) (hq : okP q) : PC Tryz.prog 28 [GP p, GP q] (GP (sumP p q)) := by
  obtain ⟨x, e⟩ := p
  obtain ⟨y, f⟩ := q
  have h := Add_ok x y hp hq
  rw [limR_P] at h
  have g := got_lim (x + y)
  unfold sumP
  by_cases h1 : e = 0 <;> by_cases h2 : f = 0
  · subst h1; subst h2
    rw [if_pos ⟨rfl, rfl⟩]
    simp only [GP, GZ, Gr] at g ⊢
    refine PCr.pc (PCr.of tab_ok Tryz.func28 rfl rfl rfl fun c hc hm => ?_)
    rw [show Tryz.f28.ntmps = _ from Tryz.ntmps28] at hc
    simp only [Tryz.f28]
    repeat' first
      | (refine AWp.seq fun K hK => ?_)
      | ((first | refine AWp.region (by rw [hc]; rfl) ?_ | refine AWp.skip ?_ | refine AWp.exit ?_ | refine AWp.label ?_ | refine AWp.ret ?_ | refine appK_g ?_); simp -implicitDefEqProofs (maxSteps := 1000000) (disch := omega) only [go_sem, wrap64, Int.tdiv_eq_ediv_of_nonneg, Int.tmod_eq_emod_of_nonneg, Nat.reduceAdd, Nat.reduceMul, Nat.reduceEqDiff, Nat.reduceLT, Nat.reduceLeDiff, Int.reduceEq, Int.reduceNeg, Int.reduceToNat, reduceCtorEq, eq_self, Bool.false_eq_true, Bool.true_eq_false, ↓reduceIte, Int.reduceBNe])
      | (refine hK _ ?_; clear hK)
      | (clear hK; refine hK _ ?_; clear hK)
      | (clear hK; clear hK; refine hK _ ?_; clear hK)
      | (clear hK; clear hK; clear hK; refine hK _ ?_; clear hK)
      | (refine AWp.cond ?_; simp -implicitDefEqProofs (maxSteps := 1000000) (disch := omega) only [go_sem, wrap64, Int.tdiv_eq_ediv_of_nonneg, Int.tmod_eq_emod_of_nonneg, Nat.reduceAdd, Nat.reduceMul, Nat.reduceEqDiff, Nat.reduceLT, Nat.reduceLeDiff, Int.reduceEq, Int.reduceNeg, Int.reduceToNat, reduceCtorEq, eq_self, Bool.false_eq_true, Bool.true_eq_false, ↓reduceIte, Int.reduceBNe]; try (refine ⟨fun hlt => ?_, fun hlt => ?_⟩ <;> (try simp only [decide_eq_true_eq, decide_eq_false_iff_not, beq_iff_eq, bne_iff_ne, ne_eq, beq_eq_false_iff_ne, bne_eq_false_iff_eq, Bool.true_eq_false, Bool.false_eq_true, Int.not_lt, Int.not_le, Decidable.not_not, gt_iff_lt, ge_iff_le, reduceCtorEq] at hlt) <;> (try exact hlt.elim)))
      | (refine AWp.block ?_)
      | ((first | refine gdO_split (fun hlt => ?_) (fun hlt => ?_) | refine tkO_split (fun hlt => ?_) (fun hlt => ?_) | refine opO_split (fun hlt => ?_) (fun hlt => ?_)) <;> have hgd := hlt <;> (try simp only [decide_eq_true_eq, decide_eq_false_iff_not, beq_iff_eq, bne_iff_ne, ne_eq, beq_eq_false_iff_ne, bne_eq_false_iff_eq, Bool.not_eq_true, Bool.not_eq_false, Bool.not_eq_eq_eq_not, Int.not_lt, Int.not_le, Decidable.not_not, gt_iff_lt, ge_iff_le] at hlt) <;> (simp -implicitDefEqProofs (maxSteps := 1000000) (disch := omega) only [go_sem, wrap64, Int.tdiv_eq_ediv_of_nonneg, Int.tmod_eq_emod_of_nonneg, Nat.reduceAdd, Nat.reduceMul, Nat.reduceEqDiff, Nat.reduceLT, Nat.reduceLeDiff, Int.reduceEq, Int.reduceNeg, Int.reduceToNat, reduceCtorEq, eq_self, Bool.false_eq_true, Bool.true_eq_false, ↓reduceIte, Int.reduceBNe, hgd]) <;> clear hgd)
      | (with_reducible refine And.intro ?_ ?_; · first | omega | assumption | exact ⟨_, _, rfl, rfl⟩)
      | ((first | refine ⟨_, h, ?_⟩ | refine ⟨_, g, ?_⟩); simp -implicitDefEqProofs (maxSteps := 1000000) (disch := omega) only [go_sem, wrap64, Int.tdiv_eq_ediv_of_nonneg, Int.tmod_eq_emod_of_nonneg, Nat.reduceAdd, Nat.reduceMul, Nat.reduceEqDiff, Nat.reduceLT, Nat.reduceLeDiff, Int.reduceEq, Int.reduceNeg, Int.reduceToNat, reduceCtorEq, eq_self, Bool.false_eq_true, Bool.true_eq_false, ↓reduceIte, Int.reduceBNe])
      | fail
  all_goals
    rw [if_neg (by simp only [h1, h2]; decide), GP_02]
    simp only [GP, GZ, Gr]
    refine PCr.pc (PCr.of tab_ok Tryz.func28 rfl rfl rfl fun c hc hm => ?_)
    rw [show Tryz.f28.ntmps = _ from Tryz.ntmps28] at hc
    simp only [Tryz.f28]
    repeat' first
      | (refine AWp.seq fun K hK => ?_)
      | ((first | refine AWp.region (by rw [hc]; rfl) ?_ | refine AWp.skip ?_ | refine AWp.exit ?_ | refine AWp.label ?_ | refine AWp.ret ?_ | refine appK_g ?_); simp -implicitDefEqProofs (maxSteps := 1000000) (disch := omega) only [go_sem, wrap64, Int.tdiv_eq_ediv_of_nonneg, Int.tmod_eq_emod_of_nonneg, Nat.reduceAdd, Nat.reduceMul, Nat.reduceEqDiff, Nat.reduceLT, Nat.reduceLeDiff, Int.reduceEq, Int.reduceNeg, Int.reduceToNat, reduceCtorEq, eq_self, Bool.false_eq_true, Bool.true_eq_false, ↓reduceIte, Int.reduceBNe])
      | (refine hK _ ?_; clear hK)
      | (clear hK; refine hK _ ?_; clear hK)
      | (clear hK; clear hK; refine hK _ ?_; clear hK)
      | (clear hK; clear hK; clear hK; refine hK _ ?_; clear hK)
      | (refine AWp.cond ?_; simp -implicitDefEqProofs (maxSteps := 1000000) (disch := omega) only [go_sem, wrap64, Int.tdiv_eq_ediv_of_nonneg, Int.tmod_eq_emod_of_nonneg, Nat.reduceAdd, Nat.reduceMul, Nat.reduceEqDiff, Nat.reduceLT, Nat.reduceLeDiff, Int.reduceEq, Int.reduceNeg, Int.reduceToNat, reduceCtorEq, eq_self, Bool.false_eq_true, Bool.true_eq_false, ↓reduceIte, Int.reduceBNe]; try (refine ⟨fun hlt => ?_, fun hlt => ?_⟩ <;> (try simp only [decide_eq_true_eq, decide_eq_false_iff_not, beq_iff_eq, bne_iff_ne, ne_eq, beq_eq_false_iff_ne, bne_eq_false_iff_eq, Bool.true_eq_false, Bool.false_eq_true, Int.not_lt, Int.not_le, Decidable.not_not, gt_iff_lt, ge_iff_le, reduceCtorEq] at hlt) <;> (try exact hlt.elim)))
      | (refine AWp.block ?_)
      | ((first | refine gdO_split (fun hlt => ?_) (fun hlt => ?_) | refine tkO_split (fun hlt => ?_) (fun hlt => ?_) | refine opO_split (fun hlt => ?_) (fun hlt => ?_)) <;> have hgd := hlt <;> (try simp only [decide_eq_true_eq, decide_eq_false_iff_not, beq_iff_eq, bne_iff_ne, ne_eq, beq_eq_false_iff_ne, bne_eq_false_iff_eq, Bool.not_eq_true, Bool.not_eq_false, Bool.not_eq_eq_eq_not, Int.not_lt, Int.not_le, Decidable.not_not, gt_iff_lt, ge_iff_le] at hlt) <;> (simp -implicitDefEqProofs (maxSteps := 1000000) (disch := omega) only [go_sem, wrap64, Int.tdiv_eq_ediv_of_nonneg, Int.tmod_eq_emod_of_nonneg, Nat.reduceAdd, Nat.reduceMul, Nat.reduceEqDiff, Nat.reduceLT, Nat.reduceLeDiff, Int.reduceEq, Int.reduceNeg, Int.reduceToNat, reduceCtorEq, eq_self, Bool.false_eq_true, Bool.true_eq_false, ↓reduceIte, Int.reduceBNe, hgd]) <;> clear hgd)
      | (with_reducible refine And.intro ?_ ?_; · first | omega | assumption | exact ⟨_, _, rfl, rfl⟩)
      | fail
    all_goals first | rfl | contradiction
theorem times_P (p q : Int × Int) (hp : okP p) (hq : okP q) : PC Tryz.prog 20 [GP p, GP q] (GP (timesP p q)) := by
  obtain ⟨x, e⟩ := p
  obtain ⟨y, f⟩ := q
  have h := Mul_ok x y hp hq
  rw [limR_P] at h
  have g := got_lim (x * y)
  unfold timesP
  by_cases h1 : e = 0 <;> by_cases h2 : f = 0
  · subst h1; subst h2
    rw [if_pos ⟨rfl, rfl⟩]
    simp only [GP, GZ, Gr] at g ⊢
    refine PCr.pc (PCr.of tab_ok Tryz.func20 rfl rfl rfl fun c hc hm => ?_)
    rw [show Tryz.f20.ntmps = _ from Tryz.ntmps20] at hc
    simp only [Tryz.f20]
    repeat' first
      | (refine AWp.seq fun K hK => ?_)
      | ((first | refine AWp.region (by rw [hc]; rfl) ?_ | refine AWp.skip ?_ | refine AWp.exit ?_ | refine AWp.label ?_ | refine AWp.ret ?_ | refine appK_g ?_); simp -implicitDefEqProofs (maxSteps := 1000000) (disch := omega) only [go_sem, wrap64, Int.tdiv_eq_ediv_of_nonneg, Int.tmod_eq_emod_of_nonneg, Nat.reduceAdd, Nat.reduceMul, Nat.reduceEqDiff, Nat.reduceLT, Nat.reduceLeDiff, Int.reduceEq, Int.reduceNeg, Int.reduceToNat, reduceCtorEq, eq_self, Bool.false_eq_true, Bool.true_eq_false, ↓reduceIte, Int.reduceBNe])
      | (refine hK _ ?_; clear hK)
      | (clear hK; refine hK _ ?_; clear hK)
      | (clear hK; clear hK; refine hK _ ?_; clear hK)
      | (clear hK; clear hK; clear hK; refine hK _ ?_; clear hK)
      | (refine AWp.cond ?_; simp -implicitDefEqProofs (maxSteps := 1000000) (disch := omega) only [go_sem, wrap64, Int.tdiv_eq_ediv_of_nonneg, Int.tmod_eq_emod_of_nonneg, Nat.reduceAdd, Nat.reduceMul, Nat.reduceEqDiff, Nat.reduceLT, Nat.reduceLeDiff, Int.reduceEq, Int.reduceNeg, Int.reduceToNat, reduceCtorEq, eq_self, Bool.false_eq_true, Bool.true_eq_false, ↓reduceIte, Int.reduceBNe]; try (refine ⟨fun hlt => ?_, fun hlt => ?_⟩ <;> (try simp only [decide_eq_true_eq, decide_eq_false_iff_not, beq_iff_eq, bne_iff_ne, ne_eq, beq_eq_false_iff_ne, bne_eq_false_iff_eq, Bool.true_eq_false, Bool.false_eq_true, Int.not_lt, Int.not_le, Decidable.not_not, gt_iff_lt, ge_iff_le, reduceCtorEq] at hlt) <;> (try exact hlt.elim)))
      | (refine AWp.block ?_)
      | ((first | refine gdO_split (fun hlt => ?_) (fun hlt => ?_) | refine tkO_split (fun hlt => ?_) (fun hlt => ?_) | refine opO_split (fun hlt => ?_) (fun hlt => ?_)) <;> have hgd := hlt <;> (try simp only [decide_eq_true_eq, decide_eq_false_iff_not, beq_iff_eq, bne_iff_ne, ne_eq, beq_eq_false_iff_ne, bne_eq_false_iff_eq, Bool.not_eq_true, Bool.not_eq_false, Bool.not_eq_eq_eq_not, Int.not_lt, Int.not_le, Decidable.not_not, gt_iff_lt, ge_iff_le] at hlt) <;> (simp -implicitDefEqProofs (maxSteps := 1000000) (disch := omega) only [go_sem, wrap64, Int.tdiv_eq_ediv_of_nonneg, Int.tmod_eq_emod_of_nonneg, Nat.reduceAdd, Nat.reduceMul, Nat.reduceEqDiff, Nat.reduceLT, Nat.reduceLeDiff, Int.reduceEq, Int.reduceNeg, Int.reduceToNat, reduceCtorEq, eq_self, Bool.false_eq_true, Bool.true_eq_false, ↓reduceIte, Int.reduceBNe, hgd]) <;> clear hgd)
      | (with_reducible refine And.intro ?_ ?_; · first | omega | assumption | exact ⟨_, _, rfl, rfl⟩)
      | ((first | refine ⟨_, h, ?_⟩ | refine ⟨_, g, ?_⟩); simp -implicitDefEqProofs (maxSteps := 1000000) (disch := omega) only [go_sem, wrap64, Int.tdiv_eq_ediv_of_nonneg, Int.tmod_eq_emod_of_nonneg, Nat.reduceAdd, Nat.reduceMul, Nat.reduceEqDiff, Nat.reduceLT, Nat.reduceLeDiff, Int.reduceEq, Int.reduceNeg, Int.reduceToNat, reduceCtorEq, eq_self, Bool.false_eq_true, Bool.true_eq_false, ↓reduceIte, Int.reduceBNe])
      | fail
  all_goals
    rw [if_neg (by simp only [h1, h2]; decide), GP_02]
    simp only [GP, GZ, Gr]
    refine PCr.pc (PCr.of tab_ok Tryz.func20 rfl rfl rfl fun c hc hm => ?_)
    rw [show Tryz.f20.ntmps = _ from Tryz.ntmps20] at hc
    simp only [Tryz.f20]
    repeat' first
      | (refine AWp.seq fun K hK => ?_)
      | ((first | refine AWp.region (by rw [hc]; rfl) ?_ | refine AWp.skip ?_ | refine AWp.exit ?_ | refine AWp.label ?_ | refine AWp.ret ?_ | refine appK_g ?_); simp -implicitDefEqProofs (maxSteps := 1000000) (disch := omega) only [go_sem, wrap64, Int.tdiv_eq_ediv_of_nonneg, Int.tmod_eq_emod_of_nonneg, Nat.reduceAdd, Nat.reduceMul, Nat.reduceEqDiff, Nat.reduceLT, Nat.reduceLeDiff, Int.reduceEq, Int.reduceNeg, Int.reduceToNat, reduceCtorEq, eq_self, Bool.false_eq_true, Bool.true_eq_false, ↓reduceIte, Int.reduceBNe])
      | (refine hK _ ?_; clear hK)
      | (clear hK; refine hK _ ?_; clear hK)
      | (clear hK; clear hK; refine hK _ ?_; clear hK)
      | (clear hK; clear hK; clear hK; refine hK _ ?_; clear hK)
      | (refine AWp.cond ?_; simp -implicitDefEqProofs (maxSteps := 1000000) (disch := omega) only [go_sem, wrap64, Int.tdiv_eq_ediv_of_nonneg, Int.tmod_eq_emod_of_nonneg, Nat.reduceAdd, Nat.reduceMul, Nat.reduceEqDiff, Nat.reduceLT, Nat.reduceLeDiff, Int.reduceEq, Int.reduceNeg, Int.reduceToNat, reduceCtorEq, eq_self, Bool.false_eq_true, Bool.true_eq_false, ↓reduceIte, Int.reduceBNe]; try (refine ⟨fun hlt => ?_, fun hlt => ?_⟩ <;> (try simp only [decide_eq_true_eq, decide_eq_false_iff_not, beq_iff_eq, bne_iff_ne, ne_eq, beq_eq_false_iff_ne, bne_eq_false_iff_eq, Bool.true_eq_false, Bool.false_eq_true, Int.not_lt, Int.not_le, Decidable.not_not, gt_iff_lt, ge_iff_le, reduceCtorEq] at hlt) <;> (try exact hlt.elim)))
      | (refine AWp.block ?_)
      | ((first | refine gdO_split (fun hlt => ?_) (fun hlt => ?_) | refine tkO_split (fun hlt => ?_) (fun hlt => ?_) | refine opO_split (fun hlt => ?_) (fun hlt => ?_)) <;> have hgd := hlt <;> (try simp only [decide_eq_true_eq, decide_eq_false_iff_not, beq_iff_eq, bne_iff_ne, ne_eq, beq_eq_false_iff_ne, bne_eq_false_iff_eq, Bool.not_eq_true, Bool.not_eq_false, Bool.not_eq_eq_eq_not, Int.not_lt, Int.not_le, Decidable.not_not, gt_iff_lt, ge_iff_le] at hlt) <;> (simp -implicitDefEqProofs (maxSteps := 1000000) (disch := omega) only [go_sem, wrap64, Int.tdiv_eq_ediv_of_nonneg, Int.tmod_eq_emod_of_nonneg, Nat.reduceAdd, Nat.reduceMul, Nat.reduceEqDiff, Nat.reduceLT, Nat.reduceLeDiff, Int.reduceEq, Int.reduceNeg, Int.reduceToNat, reduceCtorEq, eq_self, Bool.false_eq_true, Bool.true_eq_false, ↓reduceIte, Int.reduceBNe, hgd]) <;> clear hgd)
      | (with_reducible refine And.intro ?_ ?_; · first | omega | assumption | exact ⟨_, _, rfl, rfl⟩)
      | fail
    all_goals first | rfl | contradiction
theorem same_P (p q : Int × Int) (hp : okP p) (hq : okP q) : PC Tryz.prog 26 [GP p, GP q] (B (decide (p = q))) := by
  have h := same_Z p.1 q.1 p.2 q.2 (Nat.le_trans hp (by decide)) (Nat.le_trans hq (by decide))
  rwa [show decide (p.2 = q.2 ∧ p.1 = q.1) = decide (p = q) by rw [decide_eq_decide, Prod.ext_iff]; exact And.comm] at h
theorem agree_P (p q : Int × Int) (hp : okP p) (hq : okP q) : PC Tryz.prog 31 [GP p, GP q] (B (decide (p.2 = 0 ∧ q.2 = 0 → p.1 = q.1))) := by
  obtain ⟨x, e⟩ := p
  obtain ⟨y, f⟩ := q
  have h := Same_Z x y (Nat.le_trans hp (by decide)) (Nat.le_trans hq (by decide))
  simp only [GP, GZ, Gr]
  refine PCr.pc (PCr.of tab_ok Tryz.func31 rfl rfl rfl fun c hc hm => ?_)
  rw [show Tryz.f31.ntmps = _ from Tryz.ntmps31] at hc
  simp only [Tryz.f31]
  repeat' first
    | (refine AWp.seq fun K hK => ?_)
    | ((first | refine AWp.region (by rw [hc]; rfl) ?_ | refine AWp.skip ?_ | refine AWp.exit ?_ | refine AWp.label ?_ | refine AWp.ret ?_ | refine appK_g ?_); simp -implicitDefEqProofs (maxSteps := 1000000) (disch := omega) only [go_sem, wrap64, Int.tdiv_eq_ediv_of_nonneg, Int.tmod_eq_emod_of_nonneg, Nat.reduceAdd, Nat.reduceMul, Nat.reduceEqDiff, Nat.reduceLT, Nat.reduceLeDiff, Int.reduceEq, Int.reduceNeg, Int.reduceToNat, reduceCtorEq, eq_self, Bool.false_eq_true, Bool.true_eq_false, ↓reduceIte, Int.reduceBNe])
    | (refine hK _ ?_; clear hK)
    | (clear hK; refine hK _ ?_; clear hK)
    | (clear hK; clear hK; refine hK _ ?_; clear hK)
    | (clear hK; clear hK; clear hK; refine hK _ ?_; clear hK)
    | (refine AWp.cond ?_; simp -implicitDefEqProofs (maxSteps := 1000000) (disch := omega) only [go_sem, wrap64, Int.tdiv_eq_ediv_of_nonneg, Int.tmod_eq_emod_of_nonneg, Nat.reduceAdd, Nat.reduceMul, Nat.reduceEqDiff, Nat.reduceLT, Nat.reduceLeDiff, Int.reduceEq, Int.reduceNeg, Int.reduceToNat, reduceCtorEq, eq_self, Bool.false_eq_true, Bool.true_eq_false, ↓reduceIte, Int.reduceBNe]; try (refine ⟨fun hlt => ?_, fun hlt => ?_⟩ <;> (try simp only [decide_eq_true_eq, decide_eq_false_iff_not, beq_iff_eq, bne_iff_ne, ne_eq, beq_eq_false_iff_ne, bne_eq_false_iff_eq, Bool.true_eq_false, Bool.false_eq_true, Int.not_lt, Int.not_le, Decidable.not_not, gt_iff_lt, ge_iff_le, reduceCtorEq] at hlt) <;> (try exact hlt.elim)))
    | (refine AWp.block ?_)
    | ((first | refine gdO_split (fun hlt => ?_) (fun hlt => ?_) | refine tkO_split (fun hlt => ?_) (fun hlt => ?_) | refine opO_split (fun hlt => ?_) (fun hlt => ?_)) <;> have hgd := hlt <;> (try simp only [decide_eq_true_eq, decide_eq_false_iff_not, beq_iff_eq, bne_iff_ne, ne_eq, beq_eq_false_iff_ne, bne_eq_false_iff_eq, Bool.not_eq_true, Bool.not_eq_false, Bool.not_eq_eq_eq_not, Int.not_lt, Int.not_le, Decidable.not_not, gt_iff_lt, ge_iff_le] at hlt) <;> (simp -implicitDefEqProofs (maxSteps := 1000000) (disch := omega) only [go_sem, wrap64, Int.tdiv_eq_ediv_of_nonneg, Int.tmod_eq_emod_of_nonneg, Nat.reduceAdd, Nat.reduceMul, Nat.reduceEqDiff, Nat.reduceLT, Nat.reduceLeDiff, Int.reduceEq, Int.reduceNeg, Int.reduceToNat, reduceCtorEq, eq_self, Bool.false_eq_true, Bool.true_eq_false, ↓reduceIte, Int.reduceBNe, hgd]) <;> clear hgd)
    | (with_reducible refine And.intro ?_ ?_; · first | omega | assumption | exact ⟨_, _, rfl, rfl⟩)
    | ((first | refine ⟨_, h, ?_⟩); simp -implicitDefEqProofs (maxSteps := 1000000) (disch := omega) only [go_sem, wrap64, Int.tdiv_eq_ediv_of_nonneg, Int.tmod_eq_emod_of_nonneg, Nat.reduceAdd, Nat.reduceMul, Nat.reduceEqDiff, Nat.reduceLT, Nat.reduceLeDiff, Int.reduceEq, Int.reduceNeg, Int.reduceToNat, reduceCtorEq, eq_self, Bool.false_eq_true, Bool.true_eq_false, ↓reduceIte, Int.reduceBNe])
    | fail
  all_goals first
    | (refine (decide_eq_true ?_).symm; rintro ⟨h1, h2⟩; contradiction)
    | (rw [decide_eq_decide]; exact ⟨fun h _ => h, fun h => h ⟨by assumption, by assumption⟩⟩)
theorem smaller_Z (x y : Int) (lx : lenZ x ≤ 1000000) (ly : lenZ y ≤ 1000000) : PC Tryz.prog 35 [Z x, Z y] (B (decide (x.natAbs < y.natAbs))) := by
  have h := Compare_Z x.natAbs y.natAbs (by unfold lenZ at *; rwa [Int.natAbs_natCast]) (by unfold lenZ at *; rwa [Int.natAbs_natCast])
  have e : ∀ n : Nat, Z (n : Int) = Zr false (D n) := fun n => by
    show Zr (decide ((n : Int) < 0)) (D (n : Int).natAbs) = _
    rw [Int.natAbs_natCast, decide_eq_false (by omega)]
  rw [e, e] at h
  refine PCr.pc (PCr.of tab_ok Tryz.func35 rfl rfl rfl fun c hc hm => ?_)
  rw [show Tryz.f35.ntmps = _ from Tryz.ntmps35] at hc
  simp only [Tryz.f35]
  repeat' first
    | (refine AWp.seq fun K hK => ?_)
    | ((first | refine AWp.region (by rw [hc]; rfl) ?_ | refine AWp.skip ?_ | refine AWp.exit ?_ | refine AWp.label ?_ | refine AWp.ret ?_ | refine appK_g ?_); simp -implicitDefEqProofs (maxSteps := 1000000) (disch := omega) only [go_sem, wrap64, Int.tdiv_eq_ediv_of_nonneg, Int.tmod_eq_emod_of_nonneg, Nat.reduceAdd, Nat.reduceMul, Nat.reduceEqDiff, Nat.reduceLT, Nat.reduceLeDiff, Int.reduceEq, Int.reduceNeg, Int.reduceToNat, reduceCtorEq, eq_self, Bool.false_eq_true, Bool.true_eq_false, ↓reduceIte])
    | (refine hK _ ?_; clear hK)
    | (clear hK; refine hK _ ?_; clear hK)
    | (clear hK; clear hK; refine hK _ ?_; clear hK)
    | (clear hK; clear hK; clear hK; refine hK _ ?_; clear hK)
    | (refine AWp.cond ?_; simp -implicitDefEqProofs (maxSteps := 1000000) (disch := omega) only [go_sem, wrap64, Int.tdiv_eq_ediv_of_nonneg, Int.tmod_eq_emod_of_nonneg, Nat.reduceAdd, Nat.reduceMul, Nat.reduceEqDiff, Nat.reduceLT, Nat.reduceLeDiff, Int.reduceEq, Int.reduceNeg, Int.reduceToNat, reduceCtorEq, eq_self, Bool.false_eq_true, Bool.true_eq_false, ↓reduceIte]; try (refine ⟨fun hlt => ?_, fun hlt => ?_⟩ <;> (try simp only [decide_eq_true_eq, decide_eq_false_iff_not, beq_iff_eq, bne_iff_ne, ne_eq, beq_eq_false_iff_ne, bne_eq_false_iff_eq, Bool.true_eq_false, Bool.false_eq_true, Int.not_lt, Int.not_le, Decidable.not_not, gt_iff_lt, ge_iff_le, reduceCtorEq] at hlt) <;> (try exact hlt.elim)))
    | (refine AWp.block ?_)
    | ((first | refine gdO_split (fun hlt => ?_) (fun hlt => ?_) | refine tkO_split (fun hlt => ?_) (fun hlt => ?_) | refine opO_split (fun hlt => ?_) (fun hlt => ?_)) <;> have hgd := hlt <;> (try simp only [decide_eq_true_eq, decide_eq_false_iff_not, beq_iff_eq, bne_iff_ne, ne_eq, beq_eq_false_iff_ne, bne_eq_false_iff_eq, Bool.not_eq_true, Bool.not_eq_false, Bool.not_eq_eq_eq_not, Int.not_lt, Int.not_le, Decidable.not_not, gt_iff_lt, ge_iff_le] at hlt) <;> (simp -implicitDefEqProofs (maxSteps := 1000000) (disch := omega) only [go_sem, wrap64, Int.tdiv_eq_ediv_of_nonneg, Int.tmod_eq_emod_of_nonneg, Nat.reduceAdd, Nat.reduceMul, Nat.reduceEqDiff, Nat.reduceLT, Nat.reduceLeDiff, Int.reduceEq, Int.reduceNeg, Int.reduceToNat, reduceCtorEq, eq_self, Bool.false_eq_true, Bool.true_eq_false, ↓reduceIte, hgd]) <;> clear hgd)
    | (with_reducible refine And.intro ?_ ?_; · first | omega | assumption | exact ⟨_, _, rfl, rfl⟩)
    | ((first | refine ⟨_, h, ?_⟩); simp -implicitDefEqProofs (maxSteps := 1000000) (disch := omega) only [go_sem, wrap64, Int.tdiv_eq_ediv_of_nonneg, Int.tmod_eq_emod_of_nonneg, Nat.reduceAdd, Nat.reduceMul, Nat.reduceEqDiff, Nat.reduceLT, Nat.reduceLeDiff, Int.reduceEq, Int.reduceNeg, Int.reduceToNat, reduceCtorEq, eq_self, Bool.false_eq_true, Bool.true_eq_false, ↓reduceIte])
    | fail
  rw [decide_eq_decide]
  simp only [cmpI]; (repeat' split) <;> omega
end Go.Proofs.YthhjcfejgoddlaaGreatDoor
end

section
set_option linter.unusedSimpArgs false
set_option linter.unusedVariables false
set_option maxRecDepth 100000
namespace Go.Proofs.YthhjcfejgoddlaaGreatDoor
open Go Go.Abs

theorem okI_def (neg : Bool) (d : List Int) : okI neg d ↔ d.length ≤ 40 ∧ (d.length = 0 → neg = false) ∧ (0 < d.length → d.getD (d.length - 1) 0 ≠ 0) ∧ ∀ j, j < d.length → 0 ≤ d.getD j 0 ∧ d.getD j 0 < 1000000000 := by
  rw [okI_iff]
  have e : ((d.any fun x => decide (x < 0 ∨ 1000000000 ≤ x)) = false) ↔ ∀ j, j < d.length → 0 ≤ d.getD j 0 ∧ d.getD j 0 < 1000000000 := by
    rw [List.any_eq_false]
    constructor
    · intro h j hj
      have h1 := h (d.getD j 0) (by simp [hj])
      simp only [decide_eq_true_eq] at h1; omega
    · intro h x hx
      obtain ⟨j, hj, rfl⟩ := List.getElem_of_mem hx
      have h1 := h j hj
      simp only [List.getD, List.getElem?_eq_getElem hj, Option.getD_some] at h1
      simp only [decide_eq_true_eq]; omega
  rw [e]
def F77 (neg : Bool) (d : List Int) (i : Nat) : St := ⟨[(1, .ptr 0 0), (3, I d.length), (4, I i)], [(0, .box [B neg, L d] false)], 1, 0⟩
theorem Is_f (d : List Int) : PC Tryz.prog 77 [Zr false d] (B (decide (okI false d))) := by
  refine PCr.pc (PCr.of tab_ok Tryz.func77 rfl rfl rfl fun c hc hm => ?_)
  rw [show Tryz.f77.ntmps = _ from Tryz.ntmps77] at hc
  simp only [Tryz.f77]
  repeat' first
    | (refine AWp.seq fun K hK => ?_)
    | ((first | refine AWp.region (by rw [hc]; rfl) ?_ | refine AWp.skip ?_ | refine AWp.exit ?_ | refine AWp.label ?_ | refine AWp.ret ?_ | refine appK_g ?_); simp -implicitDefEqProofs (maxSteps := 1000000) (disch := omega) only [go_sem, wrap64, Int.tdiv_eq_ediv_of_nonneg, Int.tmod_eq_emod_of_nonneg, Nat.reduceAdd, Nat.reduceMul, Nat.reduceEqDiff, Nat.reduceLT, Nat.reduceLeDiff, Int.reduceEq, Int.reduceNeg, Int.reduceToNat, reduceCtorEq, eq_self, Bool.false_eq_true, Bool.true_eq_false, ↓reduceIte])
    | (refine hK _ ?_; clear hK)
    | (clear hK; refine hK _ ?_; clear hK)
    | (clear hK; clear hK; refine hK _ ?_; clear hK)
    | (clear hK; clear hK; clear hK; refine hK _ ?_; clear hK)
    | (refine AWp.cond ?_; simp -implicitDefEqProofs (maxSteps := 1000000) (disch := omega) only [go_sem, wrap64, Int.tdiv_eq_ediv_of_nonneg, Int.tmod_eq_emod_of_nonneg, Nat.reduceAdd, Nat.reduceMul, Nat.reduceEqDiff, Nat.reduceLT, Nat.reduceLeDiff, Int.reduceEq, Int.reduceNeg, Int.reduceToNat, reduceCtorEq, eq_self, Bool.false_eq_true, Bool.true_eq_false, ↓reduceIte]; try (refine ⟨fun hlt => ?_, fun hlt => ?_⟩ <;> (try simp only [decide_eq_true_eq, decide_eq_false_iff_not, beq_iff_eq, bne_iff_ne, ne_eq, beq_eq_false_iff_ne, bne_eq_false_iff_eq, Bool.true_eq_false, Bool.false_eq_true, Int.not_lt, Int.not_le, Decidable.not_not, gt_iff_lt, ge_iff_le, reduceCtorEq] at hlt) <;> (try exact hlt.elim)))
    | (refine AWp.block ?_)
    | ((first | refine gdO_split (fun hlt => ?_) (fun hlt => ?_) | refine tkO_split (fun hlt => ?_) (fun hlt => ?_) | refine opO_split (fun hlt => ?_) (fun hlt => ?_)) <;> have hgd := hlt <;> (try simp only [decide_eq_true_eq, decide_eq_false_iff_not, beq_iff_eq, bne_iff_ne, ne_eq, beq_eq_false_iff_ne, bne_eq_false_iff_eq, Bool.not_eq_true, Bool.not_eq_false, Bool.not_eq_eq_eq_not, Int.not_lt, Int.not_le, Decidable.not_not, gt_iff_lt, ge_iff_le] at hlt) <;> (simp -implicitDefEqProofs (maxSteps := 1000000) (disch := omega) only [go_sem, wrap64, Int.tdiv_eq_ediv_of_nonneg, Int.tmod_eq_emod_of_nonneg, Nat.reduceAdd, Nat.reduceMul, Nat.reduceEqDiff, Nat.reduceLT, Nat.reduceLeDiff, Int.reduceEq, Int.reduceNeg, Int.reduceToNat, reduceCtorEq, eq_self, Bool.false_eq_true, Bool.true_eq_false, ↓reduceIte, hgd]) <;> clear hgd)
    | (with_reducible refine And.intro ?_ ?_; · first | omega | assumption | exact ⟨_, _, rfl, rfl⟩)
    | fail
  all_goals try (exfalso; omega)
  all_goals try contradiction
  all_goals try (refine (decide_eq_false ?_).symm; rw [okI_def]; rintro ⟨h1, h2, h3, h4⟩; first | omega | (exact h3 (by omega) (by assumption)) | (exact absurd (h2 (by omega)) (by decide)))
  all_goals
    refine AWp.loopInv (F77 false d) (fun i => d.length - i) (fun i => i ≤ d.length ∧ ∀ j, j < i → 0 ≤ d.getD j 0 ∧ d.getD j 0 < 1000000000) 0 ⟨Nat.zero_le _, fun j h => absurd h (Nat.not_lt_zero _)⟩ (Sub.of0 hm id rfl ?_ ?_ (fun _ _ _ _ h => h)) ?_
    all_goals (try dsimp only)
    all_goals (first | omega | (simp -implicitDefEqProofs (maxSteps := 1000000) (disch := omega) only [F77, id, go_sem, Nat.blt_eq, Nat.reduceAdd, Nat.reduceSub, Nat.reduceEqDiff, Nat.reduceLT, ↓reduceIte, and_true, true_and, AV.dat.injEq, DV.int.injEq, DV.bool.injEq, DV.lst.injEq, eq_self_iff_true]; first | done | omega | (simp; done) | (simp; omega)) | (simp; done) | (simp; omega) | skip)
    rintro i ⟨h1, h2⟩ ih
    simp only [F77]
    repeat' first
      | (refine AWp.seq fun K hK => ?_)
      | ((first | refine AWp.region (by rw [hc]; rfl) ?_ | refine AWp.skip ?_ | refine AWp.exit ?_ | refine AWp.label ?_ | refine AWp.ret ?_ | refine appK_g ?_); simp -implicitDefEqProofs (maxSteps := 1000000) (disch := omega) only [go_sem, wrap64, Int.tdiv_eq_ediv_of_nonneg, Int.tmod_eq_emod_of_nonneg, Nat.reduceAdd, Nat.reduceMul, Nat.reduceEqDiff, Nat.reduceLT, Nat.reduceLeDiff, Int.reduceEq, Int.reduceNeg, Int.reduceToNat, reduceCtorEq, eq_self, Bool.false_eq_true, Bool.true_eq_false, ↓reduceIte])
      | (refine hK _ ?_; clear hK)
      | (clear hK; refine hK _ ?_; clear hK)
      | (clear hK; clear hK; refine hK _ ?_; clear hK)
      | (clear hK; clear hK; clear hK; refine hK _ ?_; clear hK)
      | (refine AWp.cond ?_; simp -implicitDefEqProofs (maxSteps := 1000000) (disch := omega) only [go_sem, wrap64, Int.tdiv_eq_ediv_of_nonneg, Int.tmod_eq_emod_of_nonneg, Nat.reduceAdd, Nat.reduceMul, Nat.reduceEqDiff, Nat.reduceLT, Nat.reduceLeDiff, Int.reduceEq, Int.reduceNeg, Int.reduceToNat, reduceCtorEq, eq_self, Bool.false_eq_true, Bool.true_eq_false, ↓reduceIte]; try (refine ⟨fun hlt => ?_, fun hlt => ?_⟩ <;> (try simp only [decide_eq_true_eq, decide_eq_false_iff_not, beq_iff_eq, bne_iff_ne, ne_eq, beq_eq_false_iff_ne, bne_eq_false_iff_eq, Bool.true_eq_false, Bool.false_eq_true, Int.not_lt, Int.not_le, Decidable.not_not, gt_iff_lt, ge_iff_le, reduceCtorEq] at hlt) <;> (try exact hlt.elim)))
      | (refine AWp.block ?_)
      | ((first | refine gdO_split (fun hlt => ?_) (fun hlt => ?_) | refine tkO_split (fun hlt => ?_) (fun hlt => ?_) | refine opO_split (fun hlt => ?_) (fun hlt => ?_)) <;> have hgd := hlt <;> (try simp only [decide_eq_true_eq, decide_eq_false_iff_not, beq_iff_eq, bne_iff_ne, ne_eq, beq_eq_false_iff_ne, bne_eq_false_iff_eq, Bool.not_eq_true, Bool.not_eq_false, Bool.not_eq_eq_eq_not, Int.not_lt, Int.not_le, Decidable.not_not, gt_iff_lt, ge_iff_le] at hlt) <;> (simp -implicitDefEqProofs (maxSteps := 1000000) (disch := omega) only [go_sem, wrap64, Int.tdiv_eq_ediv_of_nonneg, Int.tmod_eq_emod_of_nonneg, Nat.reduceAdd, Nat.reduceMul, Nat.reduceEqDiff, Nat.reduceLT, Nat.reduceLeDiff, Int.reduceEq, Int.reduceNeg, Int.reduceToNat, reduceCtorEq, eq_self, Bool.false_eq_true, Bool.true_eq_false, ↓reduceIte, hgd]) <;> clear hgd)
      | (with_reducible refine And.intro ?_ ?_; · first | omega | assumption | exact ⟨_, _, rfl, rfl⟩)
      | fail
    all_goals try (exfalso; omega)
    all_goals try (refine (decide_eq_false ?_).symm; rw [okI_def]; rintro ⟨k1, k2, k3, k4⟩; have := k4 i (by omega); omega)
    all_goals try (refine (decide_eq_true ?_).symm; rw [okI_def]; exact ⟨by omega, fun _ => by first | rfl | omega, fun _ => by first | assumption | omega, fun j hj => h2 j (by omega)⟩)
    all_goals
      refine ih (i + 1) _ ⟨by omega, fun j hj => ?_⟩ (by omega) (Sub.of0 hm id rfl ?_ ?_ (fun _ _ _ _ h => h))
      · by_cases h : j = i
        · subst h; exact ⟨by assumption, by assumption⟩
        · exact h2 j (by omega)
      all_goals (try dsimp only)
      all_goals (first | omega | (simp -implicitDefEqProofs (maxSteps := 1000000) (disch := omega) only [F77, id, go_sem, Nat.blt_eq, Nat.reduceAdd, Nat.reduceSub, Nat.reduceEqDiff, Nat.reduceLT, ↓reduceIte, and_true, true_and, AV.dat.injEq, DV.int.injEq, DV.bool.injEq, DV.lst.injEq, eq_self_iff_true]; first | done | omega | (simp; done) | (simp; omega)) | (simp; done) | (simp; omega) | skip)
theorem Is_t (d : List Int) : PC Tryz.prog 77 [Zr true d] (B (decide (okI true d))) := by
  refine PCr.pc (PCr.of tab_ok Tryz.func77 rfl rfl rfl fun c hc hm => ?_)
  rw [show Tryz.f77.ntmps = _ from Tryz.ntmps77] at hc
  simp only [Tryz.f77]
  repeat' first
    | (refine AWp.seq fun K hK => ?_)
    | ((first | refine AWp.region (by rw [hc]; rfl) ?_ | refine AWp.skip ?_ | refine AWp.exit ?_ | refine AWp.label ?_ | refine AWp.ret ?_ | refine appK_g ?_); simp -implicitDefEqProofs (maxSteps := 1000000) (disch := omega) only [go_sem, wrap64, Int.tdiv_eq_ediv_of_nonneg, Int.tmod_eq_emod_of_nonneg, Nat.reduceAdd, Nat.reduceMul, Nat.reduceEqDiff, Nat.reduceLT, Nat.reduceLeDiff, Int.reduceEq, Int.reduceNeg, Int.reduceToNat, reduceCtorEq, eq_self, Bool.false_eq_true, Bool.true_eq_false, ↓reduceIte])
    | (refine hK _ ?_; clear hK)
    | (clear hK; refine hK _ ?_; clear hK)
    | (clear hK; clear hK; refine hK _ ?_; clear hK)
    | (clear hK; clear hK; clear hK; refine hK _ ?_; clear hK)
    | (refine AWp.cond ?_; simp -implicitDefEqProofs (maxSteps := 1000000) (disch := omega) only [go_sem, wrap64, Int.tdiv_eq_ediv_of_nonneg, Int.tmod_eq_emod_of_nonneg, Nat.reduceAdd, Nat.reduceMul, Nat.reduceEqDiff, Nat.reduceLT, Nat.reduceLeDiff, Int.reduceEq, Int.reduceNeg, Int.reduceToNat, reduceCtorEq, eq_self, Bool.false_eq_true, Bool.true_eq_false, ↓reduceIte]; try (refine ⟨fun hlt => ?_, fun hlt => ?_⟩ <;> (try simp only [decide_eq_true_eq, decide_eq_false_iff_not, beq_iff_eq, bne_iff_ne, ne_eq, beq_eq_false_iff_ne, bne_eq_false_iff_eq, Bool.true_eq_false, Bool.false_eq_true, Int.not_lt, Int.not_le, Decidable.not_not, gt_iff_lt, ge_iff_le, reduceCtorEq] at hlt) <;> (try exact hlt.elim)))
    | (refine AWp.block ?_)
    | ((first | refine gdO_split (fun hlt => ?_) (fun hlt => ?_) | refine tkO_split (fun hlt => ?_) (fun hlt => ?_) | refine opO_split (fun hlt => ?_) (fun hlt => ?_)) <;> have hgd := hlt <;> (try simp only [decide_eq_true_eq, decide_eq_false_iff_not, beq_iff_eq, bne_iff_ne, ne_eq, beq_eq_false_iff_ne, bne_eq_false_iff_eq, Bool.not_eq_true, Bool.not_eq_false, Bool.not_eq_eq_eq_not, Int.not_lt, Int.not_le, Decidable.not_not, gt_iff_lt, ge_iff_le] at hlt) <;> (simp -implicitDefEqProofs (maxSteps := 1000000) (disch := omega) only [go_sem, wrap64, Int.tdiv_eq_ediv_of_nonneg, Int.tmod_eq_emod_of_nonneg, Nat.reduceAdd, Nat.reduceMul, Nat.reduceEqDiff, Nat.reduceLT, Nat.reduceLeDiff, Int.reduceEq, Int.reduceNeg, Int.reduceToNat, reduceCtorEq, eq_self, Bool.false_eq_true, Bool.true_eq_false, ↓reduceIte, hgd]) <;> clear hgd)
    | (with_reducible refine And.intro ?_ ?_; · first | omega | assumption | exact ⟨_, _, rfl, rfl⟩)
    | fail
  all_goals try (exfalso; omega)
  all_goals try contradiction
  all_goals try (refine (decide_eq_false ?_).symm; rw [okI_def]; rintro ⟨h1, h2, h3, h4⟩; first | omega | (exact h3 (by omega) (by assumption)) | (exact absurd (h2 (by omega)) (by decide)))
  all_goals
    refine AWp.loopInv (F77 true d) (fun i => d.length - i) (fun i => i ≤ d.length ∧ ∀ j, j < i → 0 ≤ d.getD j 0 ∧ d.getD j 0 < 1000000000) 0 ⟨Nat.zero_le _, fun j h => absurd h (Nat.not_lt_zero _)⟩ (Sub.of0 hm id rfl ?_ ?_ (fun _ _ _ _ h => h)) ?_
    all_goals (try dsimp only)
    all_goals (first | omega | (simp -implicitDefEqProofs (maxSteps := 1000000) (disch := omega) only [F77, id, go_sem, Nat.blt_eq, Nat.reduceAdd, Nat.reduceSub, Nat.reduceEqDiff, Nat.reduceLT, ↓reduceIte, and_true, true_and, AV.dat.injEq, DV.int.injEq, DV.bool.injEq, DV.lst.injEq, eq_self_iff_true]; first | done | omega | (simp; done) | (simp; omega)) | (simp; done) | (simp; omega) | skip)
    rintro i ⟨h1, h2⟩ ih
    simp only [F77]
    repeat' first
      | (refine AWp.seq fun K hK => ?_)
      | ((first | refine AWp.region (by rw [hc]; rfl) ?_ | refine AWp.skip ?_ | refine AWp.exit ?_ | refine AWp.label ?_ | refine AWp.ret ?_ | refine appK_g ?_); simp -implicitDefEqProofs (maxSteps := 1000000) (disch := omega) only [go_sem, wrap64, Int.tdiv_eq_ediv_of_nonneg, Int.tmod_eq_emod_of_nonneg, Nat.reduceAdd, Nat.reduceMul, Nat.reduceEqDiff, Nat.reduceLT, Nat.reduceLeDiff, Int.reduceEq, Int.reduceNeg, Int.reduceToNat, reduceCtorEq, eq_self, Bool.false_eq_true, Bool.true_eq_false, ↓reduceIte])
      | (refine hK _ ?_; clear hK)
      | (clear hK; refine hK _ ?_; clear hK)
      | (clear hK; clear hK; refine hK _ ?_; clear hK)
      | (clear hK; clear hK; clear hK; refine hK _ ?_; clear hK)
      | (refine AWp.cond ?_; simp -implicitDefEqProofs (maxSteps := 1000000) (disch := omega) only [go_sem, wrap64, Int.tdiv_eq_ediv_of_nonneg, Int.tmod_eq_emod_of_nonneg, Nat.reduceAdd, Nat.reduceMul, Nat.reduceEqDiff, Nat.reduceLT, Nat.reduceLeDiff, Int.reduceEq, Int.reduceNeg, Int.reduceToNat, reduceCtorEq, eq_self, Bool.false_eq_true, Bool.true_eq_false, ↓reduceIte]; try (refine ⟨fun hlt => ?_, fun hlt => ?_⟩ <;> (try simp only [decide_eq_true_eq, decide_eq_false_iff_not, beq_iff_eq, bne_iff_ne, ne_eq, beq_eq_false_iff_ne, bne_eq_false_iff_eq, Bool.true_eq_false, Bool.false_eq_true, Int.not_lt, Int.not_le, Decidable.not_not, gt_iff_lt, ge_iff_le, reduceCtorEq] at hlt) <;> (try exact hlt.elim)))
      | (refine AWp.block ?_)
      | ((first | refine gdO_split (fun hlt => ?_) (fun hlt => ?_) | refine tkO_split (fun hlt => ?_) (fun hlt => ?_) | refine opO_split (fun hlt => ?_) (fun hlt => ?_)) <;> have hgd := hlt <;> (try simp only [decide_eq_true_eq, decide_eq_false_iff_not, beq_iff_eq, bne_iff_ne, ne_eq, beq_eq_false_iff_ne, bne_eq_false_iff_eq, Bool.not_eq_true, Bool.not_eq_false, Bool.not_eq_eq_eq_not, Int.not_lt, Int.not_le, Decidable.not_not, gt_iff_lt, ge_iff_le] at hlt) <;> (simp -implicitDefEqProofs (maxSteps := 1000000) (disch := omega) only [go_sem, wrap64, Int.tdiv_eq_ediv_of_nonneg, Int.tmod_eq_emod_of_nonneg, Nat.reduceAdd, Nat.reduceMul, Nat.reduceEqDiff, Nat.reduceLT, Nat.reduceLeDiff, Int.reduceEq, Int.reduceNeg, Int.reduceToNat, reduceCtorEq, eq_self, Bool.false_eq_true, Bool.true_eq_false, ↓reduceIte, hgd]) <;> clear hgd)
      | (with_reducible refine And.intro ?_ ?_; · first | omega | assumption | exact ⟨_, _, rfl, rfl⟩)
      | fail
    all_goals try (exfalso; omega)
    all_goals try (refine (decide_eq_false ?_).symm; rw [okI_def]; rintro ⟨k1, k2, k3, k4⟩; have := k4 i (by omega); omega)
    all_goals try (refine (decide_eq_true ?_).symm; rw [okI_def]; exact ⟨by omega, fun _ => by first | rfl | omega, fun _ => by first | assumption | omega, fun j hj => h2 j (by omega)⟩)
    all_goals
      refine ih (i + 1) _ ⟨by omega, fun j hj => ?_⟩ (by omega) (Sub.of0 hm id rfl ?_ ?_ (fun _ _ _ _ h => h))
      · by_cases h : j = i
        · subst h; exact ⟨by assumption, by assumption⟩
        · exact h2 j (by omega)
      all_goals (try dsimp only)
      all_goals (first | omega | (simp -implicitDefEqProofs (maxSteps := 1000000) (disch := omega) only [F77, id, go_sem, Nat.blt_eq, Nat.reduceAdd, Nat.reduceSub, Nat.reduceEqDiff, Nat.reduceLT, ↓reduceIte, and_true, true_and, AV.dat.injEq, DV.int.injEq, DV.bool.injEq, DV.lst.injEq, eq_self_iff_true]; first | done | omega | (simp; done) | (simp; omega)) | (simp; done) | (simp; omega) | skip)
theorem Is_pc (neg : Bool) (d : List Int) : PC Tryz.prog 77 [Zr neg d] (B (decide (okI neg d))) := by
  cases neg
  · exact Is_f d
  · exact Is_t d

theorem right1_pc (neg : Bool) (d : List Int) : PC Tryz.prog 76 [Zr neg d] (B (!decide (okI neg d))) := by
  have h := Is_pc neg d
  refine PCr.pc (PCr.of tab_ok Tryz.func76 rfl rfl rfl fun c hc hm => ?_)
  rw [show Tryz.f76.ntmps = _ from Tryz.ntmps76] at hc
  simp only [Tryz.f76]
  repeat' first
    | (refine AWp.seq fun K hK => ?_)
    | ((first | refine AWp.region (by rw [hc]; rfl) ?_ | refine AWp.skip ?_ | refine AWp.exit ?_ | refine AWp.label ?_ | refine AWp.ret ?_ | refine appK_g ?_); simp -implicitDefEqProofs (maxSteps := 1000000) (disch := omega) only [go_sem, wrap64, Int.tdiv_eq_ediv_of_nonneg, Int.tmod_eq_emod_of_nonneg, Nat.reduceAdd, Nat.reduceMul, Nat.reduceEqDiff, Nat.reduceLT, Nat.reduceLeDiff, Int.reduceEq, Int.reduceNeg, Int.reduceToNat, reduceCtorEq, eq_self, Bool.false_eq_true, Bool.true_eq_false, ↓reduceIte])
    | (refine hK _ ?_; clear hK)
    | (clear hK; refine hK _ ?_; clear hK)
    | (clear hK; clear hK; refine hK _ ?_; clear hK)
    | (clear hK; clear hK; clear hK; refine hK _ ?_; clear hK)
    | (refine AWp.cond ?_; simp -implicitDefEqProofs (maxSteps := 1000000) (disch := omega) only [go_sem, wrap64, Int.tdiv_eq_ediv_of_nonneg, Int.tmod_eq_emod_of_nonneg, Nat.reduceAdd, Nat.reduceMul, Nat.reduceEqDiff, Nat.reduceLT, Nat.reduceLeDiff, Int.reduceEq, Int.reduceNeg, Int.reduceToNat, reduceCtorEq, eq_self, Bool.false_eq_true, Bool.true_eq_false, ↓reduceIte]; try (refine ⟨fun hlt => ?_, fun hlt => ?_⟩ <;> (try simp only [decide_eq_true_eq, decide_eq_false_iff_not, beq_iff_eq, bne_iff_ne, ne_eq, beq_eq_false_iff_ne, bne_eq_false_iff_eq, Bool.true_eq_false, Bool.false_eq_true, Int.not_lt, Int.not_le, Decidable.not_not, gt_iff_lt, ge_iff_le, reduceCtorEq] at hlt) <;> (try exact hlt.elim)))
    | (refine AWp.block ?_)
    | ((first | refine gdO_split (fun hlt => ?_) (fun hlt => ?_) | refine tkO_split (fun hlt => ?_) (fun hlt => ?_) | refine opO_split (fun hlt => ?_) (fun hlt => ?_)) <;> have hgd := hlt <;> (try simp only [decide_eq_true_eq, decide_eq_false_iff_not, beq_iff_eq, bne_iff_ne, ne_eq, beq_eq_false_iff_ne, bne_eq_false_iff_eq, Bool.not_eq_true, Bool.not_eq_false, Bool.not_eq_eq_eq_not, Int.not_lt, Int.not_le, Decidable.not_not, gt_iff_lt, ge_iff_le] at hlt) <;> (simp -implicitDefEqProofs (maxSteps := 1000000) (disch := omega) only [go_sem, wrap64, Int.tdiv_eq_ediv_of_nonneg, Int.tmod_eq_emod_of_nonneg, Nat.reduceAdd, Nat.reduceMul, Nat.reduceEqDiff, Nat.reduceLT, Nat.reduceLeDiff, Int.reduceEq, Int.reduceNeg, Int.reduceToNat, reduceCtorEq, eq_self, Bool.false_eq_true, Bool.true_eq_false, ↓reduceIte, hgd]) <;> clear hgd)
    | (with_reducible refine And.intro ?_ ?_; · first | omega | assumption | exact ⟨_, _, rfl, rfl⟩)
    | ((first | refine ⟨_, h, ?_⟩); simp -implicitDefEqProofs (maxSteps := 1000000) (disch := omega) only [go_sem, wrap64, Int.tdiv_eq_ediv_of_nonneg, Int.tmod_eq_emod_of_nonneg, Nat.reduceAdd, Nat.reduceMul, Nat.reduceEqDiff, Nat.reduceLT, Nat.reduceLeDiff, Int.reduceEq, Int.reduceNeg, Int.reduceToNat, reduceCtorEq, eq_self, Bool.false_eq_true, Bool.true_eq_false, ↓reduceIte])
    | fail
  all_goals try rfl
  rw [decide_eq_false (fun h => by have := h.1; omega)]; rfl

def F122 (zs : List (Bool × List Int)) (f : FuncId) (i : Nat) : St := ⟨[(0, LZ zs), (1, .dat (.fn f [])), (7, I zs.length), (8, I i)], [], 0, 0⟩
theorem idxZ_pc (zs : List (Bool × List Int)) (f : FuncId) (p : Bool × List Int → Bool) (lz : zs.length ≤ 1000000) (hp : ∀ z, PC Tryz.prog f [Zr z.1 z.2] (B (p z))) : PC Tryz.prog 122 [LZ zs, .dat (.fn f [])] (I (idx p zs)) := by
  refine PCr.pc (PCr.of tab_ok Tryz.func122 rfl rfl rfl fun c hc hm => ?_)
  rw [show Tryz.f122.ntmps = _ from Tryz.ntmps122] at hc
  simp only [Tryz.f122]
  repeat' first
    | (refine AWp.seq fun K hK => ?_)
    | ((first | refine AWp.region (by rw [hc]; rfl) ?_ | refine AWp.skip ?_ | refine AWp.exit ?_ | refine AWp.label ?_ | refine AWp.ret ?_ | refine appK_g ?_); simp -implicitDefEqProofs (maxSteps := 1000000) (disch := omega) only [go_sem, wrap64, Int.tdiv_eq_ediv_of_nonneg, Int.tmod_eq_emod_of_nonneg, Nat.reduceAdd, Nat.reduceMul, Nat.reduceEqDiff, Nat.reduceLT, Nat.reduceLeDiff, Int.reduceEq, Int.reduceNeg, Int.reduceToNat, reduceCtorEq, eq_self, Bool.false_eq_true, Bool.true_eq_false, ↓reduceIte])
    | (refine hK _ ?_; clear hK)
    | (clear hK; refine hK _ ?_; clear hK)
    | (clear hK; clear hK; refine hK _ ?_; clear hK)
    | (clear hK; clear hK; clear hK; refine hK _ ?_; clear hK)
    | (refine AWp.cond ?_; simp -implicitDefEqProofs (maxSteps := 1000000) (disch := omega) only [go_sem, wrap64, Int.tdiv_eq_ediv_of_nonneg, Int.tmod_eq_emod_of_nonneg, Nat.reduceAdd, Nat.reduceMul, Nat.reduceEqDiff, Nat.reduceLT, Nat.reduceLeDiff, Int.reduceEq, Int.reduceNeg, Int.reduceToNat, reduceCtorEq, eq_self, Bool.false_eq_true, Bool.true_eq_false, ↓reduceIte]; try (refine ⟨fun hlt => ?_, fun hlt => ?_⟩ <;> (try simp only [decide_eq_true_eq, decide_eq_false_iff_not, beq_iff_eq, bne_iff_ne, ne_eq, beq_eq_false_iff_ne, bne_eq_false_iff_eq, Bool.true_eq_false, Bool.false_eq_true, Int.not_lt, Int.not_le, Decidable.not_not, gt_iff_lt, ge_iff_le, reduceCtorEq] at hlt) <;> (try exact hlt.elim)))
    | (refine AWp.block ?_)
    | ((first | refine gdO_split (fun hlt => ?_) (fun hlt => ?_) | refine tkO_split (fun hlt => ?_) (fun hlt => ?_) | refine opO_split (fun hlt => ?_) (fun hlt => ?_)) <;> have hgd := hlt <;> (try simp only [decide_eq_true_eq, decide_eq_false_iff_not, beq_iff_eq, bne_iff_ne, ne_eq, beq_eq_false_iff_ne, bne_eq_false_iff_eq, Bool.not_eq_true, Bool.not_eq_false, Bool.not_eq_eq_eq_not, Int.not_lt, Int.not_le, Decidable.not_not, gt_iff_lt, ge_iff_le] at hlt) <;> (simp -implicitDefEqProofs (maxSteps := 1000000) (disch := omega) only [go_sem, wrap64, Int.tdiv_eq_ediv_of_nonneg, Int.tmod_eq_emod_of_nonneg, Nat.reduceAdd, Nat.reduceMul, Nat.reduceEqDiff, Nat.reduceLT, Nat.reduceLeDiff, Int.reduceEq, Int.reduceNeg, Int.reduceToNat, reduceCtorEq, eq_self, Bool.false_eq_true, Bool.true_eq_false, ↓reduceIte, hgd]) <;> clear hgd)
    | (with_reducible refine And.intro ?_ ?_; · first | omega | assumption | exact ⟨_, _, rfl, rfl⟩)
    | fail
  refine AWp.loopInv (F122 zs f) (fun i => zs.length - i) (fun i => i ≤ zs.length ∧ ∀ j, j < i → p (zs.getD j (false, [])) = false) 0 ⟨Nat.zero_le _, fun j h => absurd h (Nat.not_lt_zero _)⟩ (Sub.of0 hm id rfl ?_ ?_ (fun _ _ _ _ h => h)) ?_
  all_goals (try dsimp only)
  all_goals (first | omega | (simp -implicitDefEqProofs (maxSteps := 1000000) (disch := omega) only [F122, id, go_sem, Nat.blt_eq, Nat.reduceAdd, Nat.reduceSub, Nat.reduceEqDiff, Nat.reduceLT, ↓reduceIte, and_true, true_and, AV.dat.injEq, DV.int.injEq, DV.bool.injEq, DV.lst.injEq, eq_self_iff_true]; first | done | omega | (simp; done) | (simp; omega)) | (simp; done) | (simp; omega) | skip)
  rintro i ⟨h1, h2⟩ ih
  simp only [F122]
  generalize hz : zs.getD i (false, []) = z at *
  have hpi := hp z
  repeat' first
    | (refine AWp.seq fun K hK => ?_)
    | ((first | refine AWp.region (by rw [hc]; rfl) ?_ | refine AWp.skip ?_ | refine AWp.exit ?_ | refine AWp.label ?_ | refine AWp.ret ?_ | refine appK_g ?_); simp -implicitDefEqProofs (maxSteps := 1000000) (disch := omega) only [go_sem, wrap64, Int.tdiv_eq_ediv_of_nonneg, Int.tmod_eq_emod_of_nonneg, Nat.reduceAdd, Nat.reduceMul, Nat.reduceEqDiff, Nat.reduceLT, Nat.reduceLeDiff, Int.reduceEq, Int.reduceNeg, Int.reduceToNat, reduceCtorEq, eq_self, Bool.false_eq_true, Bool.true_eq_false, ↓reduceIte, hz])
    | (refine hK _ ?_; clear hK)
    | (clear hK; refine hK _ ?_; clear hK)
    | (clear hK; clear hK; refine hK _ ?_; clear hK)
    | (clear hK; clear hK; clear hK; refine hK _ ?_; clear hK)
    | (refine AWp.cond ?_; simp -implicitDefEqProofs (maxSteps := 1000000) (disch := omega) only [go_sem, wrap64, Int.tdiv_eq_ediv_of_nonneg, Int.tmod_eq_emod_of_nonneg, Nat.reduceAdd, Nat.reduceMul, Nat.reduceEqDiff, Nat.reduceLT, Nat.reduceLeDiff, Int.reduceEq, Int.reduceNeg, Int.reduceToNat, reduceCtorEq, eq_self, Bool.false_eq_true, Bool.true_eq_false, ↓reduceIte, hz]; try (refine ⟨fun hlt => ?_, fun hlt => ?_⟩ <;> (try simp only [decide_eq_true_eq, decide_eq_false_iff_not, beq_iff_eq, bne_iff_ne, ne_eq, beq_eq_false_iff_ne, bne_eq_false_iff_eq, Bool.true_eq_false, Bool.false_eq_true, Int.not_lt, Int.not_le, Decidable.not_not, gt_iff_lt, ge_iff_le, reduceCtorEq] at hlt) <;> (try exact hlt.elim)))
    | (refine AWp.block ?_)
    | ((first | refine gdO_split (fun hlt => ?_) (fun hlt => ?_) | refine tkO_split (fun hlt => ?_) (fun hlt => ?_) | refine opO_split (fun hlt => ?_) (fun hlt => ?_)) <;> have hgd := hlt <;> (try simp only [decide_eq_true_eq, decide_eq_false_iff_not, beq_iff_eq, bne_iff_ne, ne_eq, beq_eq_false_iff_ne, bne_eq_false_iff_eq, Bool.not_eq_true, Bool.not_eq_false, Bool.not_eq_eq_eq_not, Int.not_lt, Int.not_le, Decidable.not_not, gt_iff_lt, ge_iff_le] at hlt) <;> (simp -implicitDefEqProofs (maxSteps := 1000000) (disch := omega) only [go_sem, wrap64, Int.tdiv_eq_ediv_of_nonneg, Int.tmod_eq_emod_of_nonneg, Nat.reduceAdd, Nat.reduceMul, Nat.reduceEqDiff, Nat.reduceLT, Nat.reduceLeDiff, Int.reduceEq, Int.reduceNeg, Int.reduceToNat, reduceCtorEq, eq_self, Bool.false_eq_true, Bool.true_eq_false, ↓reduceIte, hz, hgd]) <;> clear hgd)
    | (with_reducible refine And.intro ?_ ?_; · first | omega | assumption | exact ⟨_, _, rfl, rfl⟩)
    | (refine ⟨_, hpi, ?_⟩; simp -implicitDefEqProofs (maxSteps := 1000000) (disch := omega) only [go_sem, wrap64, Int.tdiv_eq_ediv_of_nonneg, Int.tmod_eq_emod_of_nonneg, Nat.reduceAdd, Nat.reduceMul, Nat.reduceEqDiff, Nat.reduceLT, Nat.reduceLeDiff, Int.reduceEq, Int.reduceNeg, Int.reduceToNat, reduceCtorEq, eq_self, Bool.false_eq_true, Bool.true_eq_false, ↓reduceIte])
    | fail
  · have hi : i < zs.length := by omega
    have e : ∀ j (hj : j < zs.length), zs.getD j (false, []) = zs[j] := fun j hj => by simp [hj]
    rw [idx_some p zs i hi (by rw [← e, hz]; exact hlt) (fun j hj => by rw [← e]; exact h2 j hj)]
  · refine ih (i + 1) _ ⟨by omega, fun j hj => ?_⟩ (by omega) (Sub.of0 hm id rfl ?_ ?_ (fun _ _ _ _ h => h))
    · by_cases h : j = i
      · subst h; rw [hz]; assumption
      · exact h2 j (by omega)
    all_goals (try dsimp only)
    all_goals (first | omega | (simp -implicitDefEqProofs (maxSteps := 1000000) (disch := omega) only [F122, id, go_sem, Nat.blt_eq, Nat.reduceAdd, Nat.reduceSub, Nat.reduceEqDiff, Nat.reduceLT, ↓reduceIte, and_true, true_and, AV.dat.injEq, DV.int.injEq, DV.bool.injEq, DV.lst.injEq, eq_self_iff_true]; first | done | omega | (simp; done) | (simp; omega)) | (simp; done) | (simp; omega) | skip)
  · rw [idx_none p zs (fun j hj => by have := h2 j (by omega); simpa [hj] using this)]
theorem hasZ_pc (zs : List (Bool × List Int)) (f : FuncId) (p : Bool × List Int → Bool) (lz : zs.length ≤ 1000000) (hp : ∀ z, PC Tryz.prog f [Zr z.1 z.2] (B (p z))) : PC Tryz.prog 75 [LZ zs, .dat (.fn f [])] (B (zs.any p)) := by
  have hi := idxZ_pc zs f p lz hp
  rw [← idx_ge]
  refine PCr.pc (PCr.of tab_ok Tryz.func75 rfl rfl rfl fun c hc hm => ?_)
  rw [show Tryz.f75.ntmps = _ from Tryz.ntmps75] at hc
  simp only [Tryz.f75]
  repeat' first
    | (refine AWp.seq fun K hK => ?_)
    | ((first | refine AWp.region (by rw [hc]; rfl) ?_ | refine AWp.skip ?_ | refine AWp.exit ?_ | refine AWp.label ?_ | refine AWp.ret ?_ | refine appK_g ?_); simp -implicitDefEqProofs (maxSteps := 1000000) (disch := omega) only [go_sem, wrap64, Int.tdiv_eq_ediv_of_nonneg, Int.tmod_eq_emod_of_nonneg, Nat.reduceAdd, Nat.reduceMul, Nat.reduceEqDiff, Nat.reduceLT, Nat.reduceLeDiff, Int.reduceEq, Int.reduceNeg, Int.reduceToNat, reduceCtorEq, eq_self, Bool.false_eq_true, Bool.true_eq_false, ↓reduceIte])
    | (refine hK _ ?_; clear hK)
    | (clear hK; refine hK _ ?_; clear hK)
    | (clear hK; clear hK; refine hK _ ?_; clear hK)
    | (clear hK; clear hK; clear hK; refine hK _ ?_; clear hK)
    | (refine AWp.cond ?_; simp -implicitDefEqProofs (maxSteps := 1000000) (disch := omega) only [go_sem, wrap64, Int.tdiv_eq_ediv_of_nonneg, Int.tmod_eq_emod_of_nonneg, Nat.reduceAdd, Nat.reduceMul, Nat.reduceEqDiff, Nat.reduceLT, Nat.reduceLeDiff, Int.reduceEq, Int.reduceNeg, Int.reduceToNat, reduceCtorEq, eq_self, Bool.false_eq_true, Bool.true_eq_false, ↓reduceIte]; try (refine ⟨fun hlt => ?_, fun hlt => ?_⟩ <;> (try simp only [decide_eq_true_eq, decide_eq_false_iff_not, beq_iff_eq, bne_iff_ne, ne_eq, beq_eq_false_iff_ne, bne_eq_false_iff_eq, Bool.true_eq_false, Bool.false_eq_true, Int.not_lt, Int.not_le, Decidable.not_not, gt_iff_lt, ge_iff_le, reduceCtorEq] at hlt) <;> (try exact hlt.elim)))
    | (refine AWp.block ?_)
    | ((first | refine gdO_split (fun hlt => ?_) (fun hlt => ?_) | refine tkO_split (fun hlt => ?_) (fun hlt => ?_) | refine opO_split (fun hlt => ?_) (fun hlt => ?_)) <;> have hgd := hlt <;> (try simp only [decide_eq_true_eq, decide_eq_false_iff_not, beq_iff_eq, bne_iff_ne, ne_eq, beq_eq_false_iff_ne, bne_eq_false_iff_eq, Bool.not_eq_true, Bool.not_eq_false, Bool.not_eq_eq_eq_not, Int.not_lt, Int.not_le, Decidable.not_not, gt_iff_lt, ge_iff_le] at hlt) <;> (simp -implicitDefEqProofs (maxSteps := 1000000) (disch := omega) only [go_sem, wrap64, Int.tdiv_eq_ediv_of_nonneg, Int.tmod_eq_emod_of_nonneg, Nat.reduceAdd, Nat.reduceMul, Nat.reduceEqDiff, Nat.reduceLT, Nat.reduceLeDiff, Int.reduceEq, Int.reduceNeg, Int.reduceToNat, reduceCtorEq, eq_self, Bool.false_eq_true, Bool.true_eq_false, ↓reduceIte, hgd]) <;> clear hgd)
    | (with_reducible refine And.intro ?_ ?_; · first | omega | assumption | exact ⟨_, _, rfl, rfl⟩)
    | ((first | refine ⟨_, hi, ?_⟩); simp -implicitDefEqProofs (maxSteps := 1000000) (disch := omega) only [go_sem, wrap64, Int.tdiv_eq_ediv_of_nonneg, Int.tmod_eq_emod_of_nonneg, Nat.reduceAdd, Nat.reduceMul, Nat.reduceEqDiff, Nat.reduceLT, Nat.reduceLeDiff, Int.reduceEq, Int.reduceNeg, Int.reduceToNat, reduceCtorEq, eq_self, Bool.false_eq_true, Bool.true_eq_false, ↓reduceIte])
    | fail
theorem right_pc (zs : List (Bool × List Int)) (lz : zs.length ≤ 1000000) : PC Tryz.prog 17 [LZ zs] (B (zs.all fun z => decide (okI z.1 z.2))) := by
  have h := hasZ_pc zs 76 (fun z => !decide (okI z.1 z.2)) lz (fun z => right1_pc z.1 z.2)
  rw [show (zs.all fun z => decide (okI z.1 z.2)) = !(zs.any fun z => !decide (okI z.1 z.2)) by rw [List.all_eq_not_any_not]]
  refine PCr.pc (PCr.of tab_ok Tryz.func17 rfl rfl rfl fun c hc hm => ?_)
  rw [show Tryz.f17.ntmps = _ from Tryz.ntmps17] at hc
  simp only [Tryz.f17]
  repeat' first
    | (refine AWp.seq fun K hK => ?_)
    | ((first | refine AWp.region (by rw [hc]; rfl) ?_ | refine AWp.skip ?_ | refine AWp.exit ?_ | refine AWp.label ?_ | refine AWp.ret ?_ | refine appK_g ?_); simp -implicitDefEqProofs (maxSteps := 1000000) (disch := omega) only [go_sem, wrap64, Int.tdiv_eq_ediv_of_nonneg, Int.tmod_eq_emod_of_nonneg, Nat.reduceAdd, Nat.reduceMul, Nat.reduceEqDiff, Nat.reduceLT, Nat.reduceLeDiff, Int.reduceEq, Int.reduceNeg, Int.reduceToNat, reduceCtorEq, eq_self, Bool.false_eq_true, Bool.true_eq_false, ↓reduceIte])
    | (refine hK _ ?_; clear hK)
    | (clear hK; refine hK _ ?_; clear hK)
    | (clear hK; clear hK; refine hK _ ?_; clear hK)
    | (clear hK; clear hK; clear hK; refine hK _ ?_; clear hK)
    | (refine AWp.cond ?_; simp -implicitDefEqProofs (maxSteps := 1000000) (disch := omega) only [go_sem, wrap64, Int.tdiv_eq_ediv_of_nonneg, Int.tmod_eq_emod_of_nonneg, Nat.reduceAdd, Nat.reduceMul, Nat.reduceEqDiff, Nat.reduceLT, Nat.reduceLeDiff, Int.reduceEq, Int.reduceNeg, Int.reduceToNat, reduceCtorEq, eq_self, Bool.false_eq_true, Bool.true_eq_false, ↓reduceIte]; try (refine ⟨fun hlt => ?_, fun hlt => ?_⟩ <;> (try simp only [decide_eq_true_eq, decide_eq_false_iff_not, beq_iff_eq, bne_iff_ne, ne_eq, beq_eq_false_iff_ne, bne_eq_false_iff_eq, Bool.true_eq_false, Bool.false_eq_true, Int.not_lt, Int.not_le, Decidable.not_not, gt_iff_lt, ge_iff_le, reduceCtorEq] at hlt) <;> (try exact hlt.elim)))
    | (refine AWp.block ?_)
    | ((first | refine gdO_split (fun hlt => ?_) (fun hlt => ?_) | refine tkO_split (fun hlt => ?_) (fun hlt => ?_) | refine opO_split (fun hlt => ?_) (fun hlt => ?_)) <;> have hgd := hlt <;> (try simp only [decide_eq_true_eq, decide_eq_false_iff_not, beq_iff_eq, bne_iff_ne, ne_eq, beq_eq_false_iff_ne, bne_eq_false_iff_eq, Bool.not_eq_true, Bool.not_eq_false, Bool.not_eq_eq_eq_not, Int.not_lt, Int.not_le, Decidable.not_not, gt_iff_lt, ge_iff_le] at hlt) <;> (simp -implicitDefEqProofs (maxSteps := 1000000) (disch := omega) only [go_sem, wrap64, Int.tdiv_eq_ediv_of_nonneg, Int.tmod_eq_emod_of_nonneg, Nat.reduceAdd, Nat.reduceMul, Nat.reduceEqDiff, Nat.reduceLT, Nat.reduceLeDiff, Int.reduceEq, Int.reduceNeg, Int.reduceToNat, reduceCtorEq, eq_self, Bool.false_eq_true, Bool.true_eq_false, ↓reduceIte, hgd]) <;> clear hgd)
    | (with_reducible refine And.intro ?_ ?_; · first | omega | assumption | exact ⟨_, _, rfl, rfl⟩)
    | ((first | refine ⟨_, h, ?_⟩); simp -implicitDefEqProofs (maxSteps := 1000000) (disch := omega) only [go_sem, wrap64, Int.tdiv_eq_ediv_of_nonneg, Int.tmod_eq_emod_of_nonneg, Nat.reduceAdd, Nat.reduceMul, Nat.reduceEqDiff, Nat.reduceLT, Nat.reduceLeDiff, Int.reduceEq, Int.reduceNeg, Int.reduceToNat, reduceCtorEq, eq_self, Bool.false_eq_true, Bool.true_eq_false, ↓reduceIte])
    | fail
end Go.Proofs.YthhjcfejgoddlaaGreatDoor
end

section
/- Where the simplifier need not look: what follows a step is looked at when the walk gets there. -/
namespace Go.Abs
variable {P : Program} {T : Tab} {c : Ctx} {ro : Option Nat}

@[congr] theorem runO_cg {ops l : List Oper} {σ σ' : St} {K : St → Prop} (h : σ = σ') : runO P T ops l σ K = runO P T ops l σ' K := by rw [h]
@[congr] theorem gdO_cg {ops rest : List Oper} {o : Oper} {want : Bool} {σ : St} {K : St → Prop} {q q' : AV} (h : q = q') : gdO P T ops o rest want σ K q = gdO P T ops o rest want σ K q' := by rw [h]
@[congr] theorem stepK_cg {o : Oper} {σ σ' : St} {K : St → Prop} (h : σ = σ') : stepK P T o σ K = stepK P T o σ' K := by rw [h]
@[congr] theorem planK_cg {ops : Array Oper} {l : List Pl} {σ σ' : St} {X : St → Prop} (h : σ = σ') : planK P T ops l σ X = planK P T ops l σ' X := by rw [h]
@[congr] theorem takeQ_cg {ops : Array Oper} {i : Nat} {σ σ' : St} {X : St → Prop} (h : σ = σ') : takeQ P T ops i σ X = takeQ P T ops i σ' X := by rw [h]
@[congr] theorem opQ_cg {ops : Array Oper} {i : Nat} {σ σ' : St} {X : St → Prop} (h : σ = σ') : opQ P T ops i σ X = opQ P T ops i σ' X := by rw [h]
@[congr] theorem tkO_cg {o : Oper} {want : Bool} {σ : St} {X : St → Prop} {q q' : AV} (h : q = q') : tkO P T o want σ X q = tkO P T o want σ X q' := by rw [h]
@[congr] theorem opO_cg {o : Oper} {want : Bool} {σ : St} {X : St → Prop} {q q' : AV} (h : q = q') : opO P T o want σ X q = opO P T o want σ X q' := by rw [h]
@[congr] theorem treeK_cg {ops : Array Oper} {t : Tr} {σ σ' : St} {X : St → Prop} (h : σ = σ') : treeK P T ops t σ X = treeK P T ops t σ' X := by rw [h]
@[congr] theorem takesK_cg {ops : Array Oper} {t : Tr} {l : List Nat} {σ σ' : St} {X : St → Prop} (h : σ = σ') : takesK P T ops t l σ X = takesK P T ops t l σ' X := by rw [h]
@[congr] theorem loadK_cg {s s' : Sto} {t : TypeId} {x x' : AV} {K : AV → Prop} (h : s = s') (h' : x = x') : loadK s T t x K = loadK s' T t x' K := by rw [h, h']
@[congr] theorem storeK_cg {s s' : Sto} {t : TypeId} {x x' y y' : AV} {K : Sto → Prop} (h : s = s') (h' : x = x') (h'' : y = y') : storeK T t x y s K = storeK T t x' y' s' K := by rw [h, h', h'']
@[congr] theorem faddrK_cg {t : TypeId} {f : Nat} {x x' : AV} {K : AV → Prop} (h : x = x') : faddrK T t f x K = faddrK T t f x' K := by rw [h]
@[congr] theorem iaddrK_cg {s s' : Sto} {t : TypeId} {x x' y y' : AV} {K : AV → Prop} (h : s = s') (h' : x = x') (h'' : y = y') : iaddrK s T t x y K = iaddrK s' T t x' y' K := by rw [h, h', h'']
@[congr] theorem binC_cg {op : BinOp} {t : TypeId} {yo : Operand} {x x' y y' : AV} {K : AV → Prop} (h : x = x') (h' : y = y') : binC T op t yo x y K = binC T op t yo x' y' K := by rw [h, h']
@[congr] theorem binK_cg {op : BinOp} {t : TypeId} {x x' y y' : AV} {K : AV → Prop} (h : x = x') (h' : y = y') : binK T op t x y K = binK T op t x' y' K := by rw [h, h']
@[congr] theorem unK_cg {op : UnOp} {x x' : AV} {K : AV → Prop} (h : x = x') : unK op x K = unK op x' K := by rw [h]
@[congr] theorem extK_cg {x x' : AV} {i : Nat} {K : AV → Prop} (h : x = x') : extK x i K = extK x' i K := by rw [h]
@[congr] theorem lenK_cg {s s' : Sto} {t : TypeId} {x x' : AV} {K : AV → Prop} (h : s = s') (h' : x = x') : lenK s T t x K = lenK s' T t x' K := by rw [h, h']
@[congr] theorem pickK_cg {q q' x x' y y' : AV} {K : AV → Prop} (h : q = q') (h' : x = x') (h'' : y = y') : pickK q x y K = pickK q' x' y' K := by rw [h, h', h'']
@[congr] theorem callQ_cg {f f' : AV} {xs xs' : List AV} {K : AV → Prop} (h : f = f') (h' : xs = xs') : callQ P f xs K = callQ P f' xs' K := by rw [h, h']
@[congr] theorem calleeK_cg {s s' : Sto} {f f' : AV} {xs xs' : List AV} {K : AV → Sto → Prop} (h : s = s') (h' : f = f') (h'' : xs = xs') : calleeK P s f xs K = calleeK P s' f' xs' K := by rw [h, h', h'']
@[congr] theorem sliceK_cg {t : TypeId} {len : Nat} {ps ps' : List (Nat × AV)} {s s' : Sto} {n : Nat} {K : AV → Sto → Nat → Prop} (h : ps = ps') (h' : s = s') : sliceK T t len ps s n K = sliceK T t len ps' s' n K := by rw [h, h']
@[congr] theorem rowK_cg {t : TypeId} {len : Nat} {ps ps' : List (Nat × AV)} {K : AV → Prop} (h : ps = ps') : rowK T t len ps K = rowK T t len ps' K := by rw [h]
@[congr] theorem structK_cg {t : TypeId} {ps ps' : List (Nat × AV)} {K : AV → Prop} (h : ps = ps') : structK T t ps K = structK T t ps' K := by rw [h]
@[congr] theorem allocK_cg {t : TypeId} {s s' : Sto} {n n' : Nat} {K : AV → Sto → Nat → Prop} (h : s = s') (h' : n = n') : allocK T t s n K = allocK T t s' n' K := by rw [h, h']
@[congr] theorem boxK_cg {x x' : AV} {s s' : Sto} {n n' : Nat} {K : AV → Sto → Nat → Prop} (h : s = s') (h' : n = n') (h'' : x = x') : boxK x s n K = boxK x' s' n' K := by rw [h, h', h'']
@[congr] theorem condK_cg {q q' : AV} {X Y : Prop} (h : q = q') : condK q X Y = condK q' X Y := by rw [h]
@[congr] theorem AWp_cg {code : Code} {σ σ' : St} {Q : Exit → St → Prop} (h : σ = σ') : AWp P T c ro code σ Q = AWp P T c ro code σ' Q := by rw [h]
@[congr] theorem LoopAt_cg {code : Code} {σ σ' : St} {Q : Exit → St → Prop} (h : σ = σ') : LoopAt P T c ro code σ Q = LoopAt P T c ro code σ' Q := by rw [h]
end Go.Abs
end

section
set_option linter.unusedSimpArgs false
set_option linter.unusedVariables false
set_option maxRecDepth 100000
namespace Go.Proofs.YthhjcfejgoddlaaGreatDoor
open Go Go.Abs

theorem limP_one {z : Int} (h : lenZ z ≤ 40) : limP z = (z, 0) := if_pos h
theorem limP_1 {z : Int} (h : (limP z).2 = 0) : (limP z).1 = z := by
  unfold limP at h ⊢
  split
  · rfl
  · rename_i g; rw [if_neg g] at h; exact absurd h (by decide)
theorem sumP_1 {p q : Int × Int} (h : (sumP p q).2 = 0) : p.2 = 0 ∧ q.2 = 0 ∧ (sumP p q).1 = p.1 + q.1 := by
  unfold sumP at h ⊢
  split
  · rename_i g; rw [if_pos g] at h; exact ⟨g.1, g.2, limP_1 h⟩
  · rename_i g; rw [if_neg g] at h; exact absurd h (by decide)
theorem timesP_1 {p q : Int × Int} (h : (timesP p q).2 = 0) : p.2 = 0 ∧ q.2 = 0 ∧ (timesP p q).1 = p.1 * q.1 := by
  unfold timesP at h ⊢
  split
  · rename_i g; rw [if_pos g] at h; exact ⟨g.1, g.2, limP_1 h⟩
  · rename_i g; rw [if_neg g] at h; exact absurd h (by decide)
theorem sumP_comm (p q : Int × Int) : sumP p q = sumP q p := by
  unfold sumP; simp only [And.comm, Int.add_comm]
theorem timesP_comm (p q : Int × Int) : timesP p q = timesP q p := by
  unfold timesP; simp only [And.comm, Int.mul_comm]
theorem sumP_assoc (p q r : Int × Int) : (sumP (sumP p q) r).2 = 0 ∧ (sumP p (sumP q r)).2 = 0 → (sumP (sumP p q) r).1 = (sumP p (sumP q r)).1 := by
  rintro ⟨h1, h2⟩
  obtain ⟨a1, a2, a3⟩ := sumP_1 h1
  obtain ⟨b1, b2, b3⟩ := sumP_1 a1
  obtain ⟨c1, c2, c3⟩ := sumP_1 h2
  obtain ⟨d1, d2, d3⟩ := sumP_1 c2
  rw [a3, b3, c3, d3, Int.add_assoc]
theorem timesP_assoc (p q r : Int × Int) : (timesP (timesP p q) r).2 = 0 ∧ (timesP p (timesP q r)).2 = 0 → (timesP (timesP p q) r).1 = (timesP p (timesP q r)).1 := by
  rintro ⟨h1, h2⟩
  obtain ⟨a1, a2, a3⟩ := timesP_1 h1
  obtain ⟨b1, b2, b3⟩ := timesP_1 a1
  obtain ⟨c1, c2, c3⟩ := timesP_1 h2
  obtain ⟨d1, d2, d3⟩ := timesP_1 c2
  rw [a3, b3, c3, d3, Int.mul_assoc]
theorem P_distr (p q r : Int × Int) : (timesP p (sumP q r)).2 = 0 ∧ (sumP (timesP p q) (timesP p r)).2 = 0 → (timesP p (sumP q r)).1 = (sumP (timesP p q) (timesP p r)).1 := by
  rintro ⟨h1, h2⟩
  obtain ⟨a1, a2, a3⟩ := timesP_1 h1
  obtain ⟨b1, b2, b3⟩ := sumP_1 a2
  obtain ⟨c1, c2, c3⟩ := sumP_1 h2
  obtain ⟨d1, d2, d3⟩ := timesP_1 c1
  obtain ⟨e1, e2, e3⟩ := timesP_1 c2
  rw [a3, b3, c3, d3, e3, Int.mul_add]
/-- agree, where it answers true. -/
theorem agree_T (p q : Int × Int) (hp : okP p) (hq : okP q) (h : p.2 = 0 ∧ q.2 = 0 → p.1 = q.1) : PC Tryz.prog 31 [GP p, GP q] (B true) := by
  have := agree_P p q hp hq
  rwa [decide_eq_true h] at this
theorem same_T (p q : Int × Int) (hp : okP p) (hq : okP q) (h : p = q) : PC Tryz.prog 26 [GP p, GP q] (B true) := by
  have := same_P p q hp hq
  rwa [decide_eq_true h] at this
/-- An integer, as a number. -/
theorem okI_ex {neg : Bool} {d : List Int} (h : okI neg d) : ∃ x : Int, Zr neg d = Z x ∧ lenZ x ≤ 40 :=
  ⟨_, (okI_Z h).1, (okI_Z h).2.1⟩
theorem LZ3 (na nb nc : Bool) (a b c : List Int) : LZ [(na, a), (nb, b), (nc, c)] = .dat (.lst [[.bool na, .lst (a.map eI)], [.bool nb, .lst (b.map eI)], [.bool nc, .lst (c.map eI)]]) := rfl
theorem LZ1 (na : Bool) (a : List Int) : LZ [(na, a)] = .dat (.lst [[.bool na, .lst (a.map eI)]]) := rfl
theorem rightZ3 (a b c : Int) (la : lenZ a ≤ 40) (lb : lenZ b ≤ 40) (lc : lenZ c ≤ 40) : PC Tryz.prog 17 [LZ [(decide (a < 0), D a.natAbs), (decide (b < 0), D b.natAbs), (decide (c < 0), D c.natAbs)]] (B true) := by
  have h := right_pc [(decide (a < 0), D a.natAbs), (decide (b < 0), D b.natAbs), (decide (c < 0), D c.natAbs)] (by simp)
  rwa [show (List.all [(decide (a < 0), D a.natAbs), (decide (b < 0), D b.natAbs), (decide (c < 0), D c.natAbs)] fun z => decide (okI z.1 z.2)) = true by
    simp only [List.all_cons, List.all_nil, decide_eq_true (okZ la), decide_eq_true (okZ lb), decide_eq_true (okZ lc)]; rfl] at h
/-- Three new boxes, made in any order, behind three that stand: the names turned. -/
def pm (x y z : Nat) (i : Nat) : Nat := if i < 3 then i else if i = 3 then x else if i = 4 then y else z
theorem pm_inj {x y z : Nat} (h : 3 ≤ x ∧ 3 ≤ y ∧ 3 ≤ z ∧ x ≠ y ∧ y ≠ z ∧ x ≠ z) : ∀ i j, i < 6 → j < 6 → pm x y z i = pm x y z j → i = j := by
  intro i j h1 h2 h3
  unfold pm at h3
  (repeat' split at h3) <;> omega
theorem pms (x y z : Nat) : pm x y z 0 = 0 ∧ pm x y z 1 = 1 ∧ pm x y z 2 = 2 ∧ pm x y z 3 = x ∧ pm x y z 4 = y ∧ pm x y z 5 = z := ⟨rfl, rfl, rfl, rfl, rfl, rfl⟩
def bI (x : Int) : Obj' := .box [B (decide (x < 0)), L (D x.natAbs)] false
def bP (p : Int × Int) : Obj' := .box [B (decide (p.1 < 0)), L (D p.1.natAbs), I p.2] false
def S10 (a b z : Int) : St := ⟨[(3, .ptr 0 0), (4, .ptr 1 0), (5, .ptr 2 0), (7, .ptr 3 0), (8, .ptr 4 0), (9, .ptr 5 0)], [(5, bP (z, 0)), (4, bP (b, 0)), (3, bP (a, 0)), (2, bI z), (1, bI b), (0, bI a)], 6, 0⟩
theorem sg_abs (x : Int) : sgI x = 0 ↔ x = 0 := by unfold sgI; (repeat' split) <;> omega
end Go.Proofs.YthhjcfejgoddlaaGreatDoor
end

section
set_option linter.unusedSimpArgs false
set_option linter.unusedVariables false
set_option maxRecDepth 100000
namespace Go.Proofs.YthhjcfejgoddlaaGreatDoor
open Go Go.Abs

/-- The cells of an integer and of a result, kept closed in a walk. -/
def zC (x : Int) : List AV := [B (decide (x < 0)), L (D x.natAbs)]
def pC (p : Int × Int) : List AV := [B (decide (p.1 < 0)), L (D p.1.natAbs), I p.2]
def zD (x : Int) : List DV := [.bool (decide (x < 0)), .lst ((D x.natAbs).map eI)]
def ppD (p : Int × Int) : List DV := [.bool (decide (p.1 < 0)), .lst ((D p.1.natAbs).map eI), .int .i64 p.2]
abbrev zA (x : Int) : AV := .agg (zC x)
abbrev pA (p : Int × Int) : AV := .agg (pC p)
theorem zC_len (x : Int) : (zC x).length = 2 := rfl
theorem pC_len (p : Int × Int) : (pC p).length = 3 := rfl
theorem zD_len (x : Int) : (zD x).length = 2 := rfl
theorem zC_map (x : Int) : (zD x).map .dat = zC x := rfl
theorem pC_map (p : Int × Int) : (ppD p).map .dat = pC p := rfl
theorem zC_toCs (x : Int) (s : Sto) : toCs s (zC x) = some (zD x, s) := rfl
theorem pC_toCs (p : Int × Int) (s : Sto) : toCs s (pC p) = some (ppD p, s) := rfl
theorem zC_dCs (x : Int) : dCs (zC x) = some (zD x) := rfl
theorem pC_dCs (p : Int × Int) : dCs (pC p) = some (ppD p) := rfl
theorem zC_dats0 (x : Int) : dats0 (zC x) = some (zD x) := rfl
theorem zC_take (x : Int) : List.take 2 (zC x) = zC x := rfl
theorem pC_take (p : Int × Int) : List.take 3 (pC p) = pC p := rfl
theorem pC_take2 (p : Int × Int) : List.take 2 (pC p) = zC p.1 := rfl
theorem pC_get2 (p : Int × Int) : (pC p)[2]? = some (I p.2) := rfl
theorem zC_get0 (x : Int) : (zC x)[0]? = some (B (decide (x < 0))) := rfl
theorem zC_get1 (x : Int) : (zC x)[1]? = some (L (D x.natAbs)) := rfl
theorem zC_drop (x : Int) : List.drop 0 (zC x) = zC x := rfl
theorem pC_drop (p : Int × Int) : List.drop 0 (pC p) = pC p := rfl
def zBx (x : Int) : Obj' := .box (zC x) false
def pBx (p : Int × Int) : Obj' := .box (pC p) false
def R10 (a b z : Int) : St := ⟨[(3, .ptr 0 0), (4, .ptr 1 0), (5, .ptr 2 0), (7, .ptr 3 0), (8, .ptr 4 0), (9, .ptr 5 0)], [(5, pBx (z, 0)), (4, pBx (b, 0)), (3, pBx (a, 0)), (2, zBx z), (1, zBx b), (0, zBx a)], 6, 0⟩
end Go.Proofs.YthhjcfejgoddlaaGreatDoor
end

section
set_option linter.unusedSimpArgs false
set_option linter.unusedVariables false
set_option maxRecDepth 100000
namespace Go.Proofs.YthhjcfejgoddlaaGreatDoor
open Go Go.Abs

/-! The contracts over closed cells. -/
theorem sumA (p q : Int × Int) (hp : okP p) (hq : okP q) : PC Tryz.prog 28 [.agg (pC p), .agg (pC q)] (.agg (pC (sumP p q))) := sum_P p q hp hq
theorem timesA (p q : Int × Int) (hp : okP p) (hq : okP q) : PC Tryz.prog 20 [.agg (pC p), .agg (pC q)] (.agg (pC (timesP p q))) := times_P p q hp hq
theorem valA (x : Int) : PC Tryz.prog 21 [.agg (zC x)] (.agg (pC (x, 0))) := valP x
theorem gotA (x e : Int) : PC Tryz.prog 24 [.agg (zC x), I e] (.agg (pC (x, e))) := gotP (x, e)
theorem agreeA (p q : Int × Int) (hp : okP p) (hq : okP q) (h : p.2 = 0 ∧ q.2 = 0 → p.1 = q.1) : PC Tryz.prog 31 [.agg (pC p), .agg (pC q)] (B true) := agree_T p q hp hq h
theorem sameA (p q : Int × Int) (hp : okP p) (hq : okP q) (h : p = q) : PC Tryz.prog 26 [.agg (pC p), .agg (pC q)] (B true) := same_T p q hp hq h
theorem ofA (n : Int) (h0 : -9223372036854775808 ≤ n) (h1 : n ≤ 9223372036854775807) : PC Tryz.prog 27 [I n] (.agg (zC n)) := of_pc n h0 h1
theorem cmpA (x y : Int) (lx : lenZ x ≤ 40) (ly : lenZ y ≤ 40) : PC Tryz.prog 23 [.agg (zC x), .agg (zC y)] (I (cmpI x y)) := Compare_Z x y (Nat.le_trans lx (by decide)) (Nat.le_trans ly (by decide))
theorem rsameA (x y : Int) (lx : lenZ x ≤ 40) (ly : lenZ y ≤ 40) : PC Tryz.prog 36 [.agg (zC x), .agg (zC y)] (B (decide (x = y))) := Same_Z x y (Nat.le_trans lx (by decide)) (Nat.le_trans ly (by decide))
theorem signA (x : Int) : PC Tryz.prog 18 [.agg (zC x)] (I (sgI x)) := Sign_Z x
theorem smallerA (x y : Int) (lx : lenZ x ≤ 40) (ly : lenZ y ≤ 40) : PC Tryz.prog 35 [.agg (zC x), .agg (zC y)] (B (decide (x.natAbs < y.natAbs))) := smaller_Z x y (Nat.le_trans lx (by decide)) (Nat.le_trans ly (by decide))
theorem limR_A (z : Int) : limR z = .tup [.agg (zC (limP z).1), I (limP z).2] := limR_P z
theorem subA (x y : Int) (lx : lenZ x ≤ 40) (ly : lenZ y ≤ 40) : PC Tryz.prog 37 [.agg (zC x), .agg (zC y)] (.tup [.agg (zC (limP (x - y)).1), I (limP (x - y)).2]) := by
  have := Sub_ok x y lx ly
  rwa [limR_A] at this
theorem negA (x : Int) (lx : lenZ x ≤ 40) : PC Tryz.prog 43 [.agg (zC x)] (.tup [.agg (zC (-x)), I 0]) := Neg_ok x lx
def divP (x y : Int) : Int × Int := if y = 0 then (0, 11) else (x.fdiv y, 0)
def modP (x y : Int) : Int × Int := if y = 0 then (0, 11) else (x.fmod y, 0)
theorem fmod_len {x y : Int} (hy : y ≠ 0) (ly : lenZ y ≤ 40) : lenZ (x.fmod y) ≤ 40 :=
  Nat.le_trans (lenZ_le (by rw [Int.fmod_def]; exact Nat.le_of_lt (fmod_small _ _ hy))) ly
theorem fdiv_len {x y : Int} (lx : lenZ x ≤ 40) : lenZ (x.fdiv y) ≤ 40 := Nat.le_trans (lenZ_le (fdiv_small _ _)) lx
theorem divA (x y : Int) (lx : lenZ x ≤ 40) (ly : lenZ y ≤ 40) : PC Tryz.prog 22 [.agg (zC x), .agg (zC y)] (.tup [.agg (zC (divP x y).1), I (divP x y).2]) := by
  unfold divP
  by_cases hy : y = 0
  · subst hy
    rw [if_pos rfl]
    have := Div_zero x lx
    rwa [← Z_zero] at this
  · rw [if_neg hy]
    have := Div_ok x y hy lx ly
    rwa [limR_A, limP_one (fdiv_len lx)] at this
theorem modA (x y : Int) (lx : lenZ x ≤ 40) (ly : lenZ y ≤ 40) : PC Tryz.prog 34 [.agg (zC x), .agg (zC y)] (.tup [.agg (zC (modP x y).1), I (modP x y).2]) := by
  unfold modP
  by_cases hy : y = 0
  · subst hy
    rw [if_pos rfl]
    have := Mod_zero x lx
    rwa [← Z_zero] at this
  · rw [if_neg hy]
    have := Mod_ok x y hy lx ly
    rwa [limR_A, limP_one (fmod_len hy ly)] at this
theorem divP_ok {x y : Int} (lx : lenZ x ≤ 40) : lenZ (divP x y).1 ≤ 40 := by unfold divP; split; exact lenZ_0; exact fdiv_len lx
theorem modP_ok {x y : Int} (ly : lenZ y ≤ 40) : lenZ (modP x y).1 ≤ 40 := by
  unfold modP; split
  · exact lenZ_0
  · rename_i h; exact fmod_len h ly
/-- What right says of numbers. -/
theorem right3A (a b c : Int) (la : lenZ a ≤ 40) (lb : lenZ b ≤ 40) (lc : lenZ c ≤ 40) : PC Tryz.prog 17 [.dat (.lst [zD a, zD b, zD c])] (B true) := rightZ3 a b c la lb lc
theorem right_bad3 (na nb nc : Bool) (a b c : List Int) (h : ¬ (okI na a ∧ okI nb b ∧ okI nc c)) : PC Tryz.prog 17 [.dat (.lst [[.bool na, .lst (a.map eI)], [.bool nb, .lst (b.map eI)], [.bool nc, .lst (c.map eI)]])] (B false) := by
  have hr := right_pc [(na, a), (nb, b), (nc, c)] (by simp)
  rwa [show (List.all [(na, a), (nb, b), (nc, c)] fun z => decide (okI z.1 z.2)) = false by
    simp only [List.all_cons, List.all_nil, Bool.and_true, ← Bool.decide_and]; exact decide_eq_false h] at hr
theorem limP_ok1 (z : Int) : lenZ (limP z).1 ≤ 40 := limP_ok z
end Go.Proofs.YthhjcfejgoddlaaGreatDoor
end

section
namespace Go.Proofs.YthhjcfejgoddlaaGreatDoor
open Go Go.Abs
theorem pC_drop3 (p : Int × Int) : List.drop 3 (pC p) = [] := rfl
theorem zC_drop2 (x : Int) : List.drop 2 (zC x) = [] := rfl
end Go.Proofs.YthhjcfejgoddlaaGreatDoor
end

section
set_option linter.unusedSimpArgs false
set_option linter.unusedVariables false
set_option maxRecDepth 100000
namespace Go.Proofs.YthhjcfejgoddlaaGreatDoor
open Go Go.Abs

theorem right7 (z : List (Bool × List Int)) (h : z.length ≤ 7) : PC Tryz.prog 17 [LZ z] (B (decide (∀ x ∈ z, okI x.1 x.2))) := by
  have hr := right_pc z (by omega)
  rwa [show (z.all fun z => decide (okI z.1 z.2)) = decide (∀ x ∈ z, okI x.1 x.2) by
    rw [Bool.eq_iff_iff, List.all_eq_true, decide_eq_true_eq]; simp only [decide_eq_true_eq]] at hr
theorem crossA (a b p q : Int) (la : lenZ a ≤ 40) (lb : lenZ b ≤ 40) (lp : lenZ p ≤ 40) (lq : lenZ q ≤ 40) (hb : 0 < b) (hq : 0 < q) : PC Tryz.prog 19 [.agg (zC a), .agg (zC b), .agg (zC p), .agg (zC q)] (.tup [I (cmpI (a * q) (p * b)), I 0]) := by
  have := Cross_ok a b p q la lb lp lq
  rwa [crossR, if_neg (by omega)] at this
set_option maxHeartbeats 8000000 in
theorem NumFractions_bad (n1 n2 n3 n4 n5 n6 n7 : Bool) (a1 a2 a3 a4 a5 a6 a7 : List Int) (h : ¬ ∀ x ∈ [(n1, a1), (n2, a2), (n3, a3), (n4, a4), (n5, a5), (n6, a6), (n7, a7)], okI x.1 x.2) : PC Tryz.prog 3 [Zr n1 a1, Zr n2 a2, Zr n3 a3, Zr n4 a4, Zr n5 a5, Zr n6 a6, Zr n7 a7] (B true) := by
  have hs := sane_ok
  have hr := right7 [(n1, a1), (n2, a2), (n3, a3), (n4, a4), (n5, a5), (n6, a6), (n7, a7)] (by simp)
  rw [decide_eq_false h] at hr
  replace hr : PC Tryz.prog 17 [.dat (.lst [[.bool n1, .lst (a1.map eI)], [.bool n2, .lst (a2.map eI)], [.bool n3, .lst (a3.map eI)], [.bool n4, .lst (a4.map eI)], [.bool n5, .lst (a5.map eI)], [.bool n6, .lst (a6.map eI)], [.bool n7, .lst (a7.map eI)]])] (B false) := hr
  refine PCr.pc (PCr.of tab_ok Tryz.func3 rfl rfl rfl fun c hc hm => ?_)
  rw [show Tryz.f3.ntmps = _ from Tryz.ntmps3] at hc
  simp only [Tryz.f3]
  repeat' first
    | (exact absurd hlt (by decide))
    | (refine AWp.seq fun K hK => ?_)
    | ((first | refine AWp.draw (id := 11) [.take 0, .take 1, .take 2, .take 3, .take 4, .take 5, .take 6, .take 7, .take 8, .take 9, .grp [10, 11], .grp [12], .grp [13]] mixed_ok (by kernel_rfl) (by rw [hc]; rfl) ?_ | refine AWp.region (by rw [hc]; rfl) ?_ | refine AWp.skip ?_ | refine AWp.exit ?_ | refine AWp.label ?_ | refine AWp.ret ?_ | refine appK_g ?_); simp -implicitDefEqProofs (maxSteps := 1000000) (disch := omega) only [go_sem, wrap64, Int.tdiv_eq_ediv_of_nonneg, Int.tmod_eq_emod_of_nonneg, Nat.reduceAdd, Nat.reduceMul, Nat.reduceEqDiff, Nat.reduceLT, Nat.reduceLeDiff, Int.reduceEq, Int.reduceNeg, Int.reduceToNat, reduceCtorEq, eq_self, Bool.false_eq_true, Bool.true_eq_false, ↓reduceIte, Int.reduceBNe, Int.reduceBEq, Bool.not_true, Bool.not_false])
    | (refine hK _ ?_; clear hK)
    | (clear hK; refine hK _ ?_; clear hK)
    | (clear hK; clear hK; refine hK _ ?_; clear hK)
    | (clear hK; clear hK; clear hK; refine hK _ ?_; clear hK)
    | (refine AWp.cond ?_; simp -implicitDefEqProofs (maxSteps := 1000000) (disch := omega) only [go_sem, wrap64, Int.tdiv_eq_ediv_of_nonneg, Int.tmod_eq_emod_of_nonneg, Nat.reduceAdd, Nat.reduceMul, Nat.reduceEqDiff, Nat.reduceLT, Nat.reduceLeDiff, Int.reduceEq, Int.reduceNeg, Int.reduceToNat, reduceCtorEq, eq_self, Bool.false_eq_true, Bool.true_eq_false, ↓reduceIte, Int.reduceBNe, Int.reduceBEq, Bool.not_true, Bool.not_false]; try (refine ⟨fun hlt => ?_, fun hlt => ?_⟩ <;> (try simp only [decide_eq_true_eq, decide_eq_false_iff_not, beq_iff_eq, bne_iff_ne, ne_eq, beq_eq_false_iff_ne, bne_eq_false_iff_eq, Bool.true_eq_false, Bool.false_eq_true, Int.not_lt, Int.not_le, Decidable.not_not, gt_iff_lt, ge_iff_le, reduceCtorEq] at hlt) <;> (try exact hlt.elim)))
    | (refine AWp.block ?_)
    | ((first | refine gdO_split (fun hlt => ?_) (fun hlt => ?_) | refine tkO_split (fun hlt => ?_) (fun hlt => ?_) | refine opO_split (fun hlt => ?_) (fun hlt => ?_)) <;> have hgd := hlt <;> (try simp only [decide_eq_true_eq, decide_eq_false_iff_not, beq_iff_eq, bne_iff_ne, ne_eq, beq_eq_false_iff_ne, bne_eq_false_iff_eq, Bool.not_eq_true, Bool.not_eq_false, Bool.not_eq_eq_eq_not, Int.not_lt, Int.not_le, Decidable.not_not, gt_iff_lt, ge_iff_le] at hlt) <;> (simp -implicitDefEqProofs (maxSteps := 1000000) (disch := omega) only [go_sem, wrap64, Int.tdiv_eq_ediv_of_nonneg, Int.tmod_eq_emod_of_nonneg, Nat.reduceAdd, Nat.reduceMul, Nat.reduceEqDiff, Nat.reduceLT, Nat.reduceLeDiff, Int.reduceEq, Int.reduceNeg, Int.reduceToNat, reduceCtorEq, eq_self, Bool.false_eq_true, Bool.true_eq_false, ↓reduceIte, Int.reduceBNe, Int.reduceBEq, Bool.not_true, Bool.not_false, hgd]) <;> clear hgd)
    | (with_reducible refine And.intro ?_ ?_; · first | omega | assumption | exact ⟨_, _, rfl, rfl⟩)
    | ((first | refine ⟨_, hs, ?_⟩ | refine ⟨_, hr, ?_⟩); simp -implicitDefEqProofs (maxSteps := 1000000) (disch := omega) only [go_sem, wrap64, Int.tdiv_eq_ediv_of_nonneg, Int.tmod_eq_emod_of_nonneg, Nat.reduceAdd, Nat.reduceMul, Nat.reduceEqDiff, Nat.reduceLT, Nat.reduceLeDiff, Int.reduceEq, Int.reduceNeg, Int.reduceToNat, reduceCtorEq, eq_self, Bool.false_eq_true, Bool.true_eq_false, ↓reduceIte, Int.reduceBNe, Int.reduceBEq, Bool.not_true, Bool.not_false])
    | fail
theorem right7A (a b p d e f k : Int) (la : lenZ a ≤ 40) (lb : lenZ b ≤ 40) (lp : lenZ p ≤ 40) (ld : lenZ d ≤ 40) (le : lenZ e ≤ 40) (lf : lenZ f ≤ 40) (lk : lenZ k ≤ 40) : PC Tryz.prog 17 [.dat (.lst [zD a, zD b, zD p, zD d, zD e, zD f, zD k])] (B true) := by
  have hr := right7 [(decide (a < 0), D a.natAbs), (decide (b < 0), D b.natAbs), (decide (p < 0), D p.natAbs), (decide (d < 0), D d.natAbs), (decide (e < 0), D e.natAbs), (decide (f < 0), D f.natAbs), (decide (k < 0), D k.natAbs)] (by simp)
  have hall : ∀ x ∈ [(decide (a < 0), D a.natAbs), (decide (b < 0), D b.natAbs), (decide (p < 0), D p.natAbs), (decide (d < 0), D d.natAbs), (decide (e < 0), D e.natAbs), (decide (f < 0), D f.natAbs), (decide (k < 0), D k.natAbs)], okI x.1 x.2 := by
    intro x hx
    simp only [List.mem_cons, List.not_mem_nil, or_false] at hx
    rcases hx with rfl | rfl | rfl | rfl | rfl | rfl | rfl
    · exact okZ la
    · exact okZ lb
    · exact okZ lp
    · exact okZ ld
    · exact okZ le
    · exact okZ lf
    · exact okZ lk
  rw [decide_eq_true hall] at hr
  exact hr
theorem sgI_pos {x : Int} (h : 0 < x) : sgI x = 1 := by unfold sgI; rw [if_neg (by omega), if_neg (by omega)]
theorem pos_sgI {x : Int} (h : 0 < sgI x) : 0 < x := by unfold sgI at h; (repeat' split at h) <;> omega
set_option maxHeartbeats 8000000 in
theorem NumFractions_np (a b p d e f k : Int) (la : lenZ a ≤ 40) (lb : lenZ b ≤ 40) (lp : lenZ p ≤ 40) (ld : lenZ d ≤ 40) (le : lenZ e ≤ 40) (lf : lenZ f ≤ 40) (lk : lenZ k ≤ 40) (h : ¬ (0 < b ∧ 0 < d ∧ 0 < f)) :
    PC Tryz.prog 3 [.agg (zC a), .agg (zC b), .agg (zC p), .agg (zC d), .agg (zC e), .agg (zC f), .agg (zC k)] (B true) := by
  have hs := sane_ok
  have hr := right7A a b p d e f k la lb lp ld le lf lk
  have sb := signA b
  have sd := signA d
  have sf := signA f
  have hh : ¬ (0 < sgI b ∧ 0 < sgI d ∧ 0 < sgI f) := fun ⟨x, y, z⟩ => h ⟨pos_sgI x, pos_sgI y, pos_sgI z⟩
  generalize sgI b = gb at *
  generalize sgI d = gd at *
  generalize sgI f = gf at *
  refine PCr.pc (PCr.of tab_ok Tryz.func3 rfl rfl rfl fun c hc hm => ?_)
  rw [show Tryz.f3.ntmps = _ from Tryz.ntmps3] at hc
  simp only [Tryz.f3]
  repeat' first
    | (exact absurd hlt (by decide))
    | (refine AWp.seq fun K hK => ?_)
    | ((first | refine AWp.draw (id := 11) [.take 0, .take 1, .take 2, .take 3, .take 4, .take 5, .take 6, .take 7, .take 8, .take 9, .grp [10, 11], .grp [12], .grp [13]] mixed_ok (by kernel_rfl) (by rw [hc]; rfl) ?_ | refine AWp.region (by rw [hc]; rfl) ?_ | refine AWp.skip ?_ | refine AWp.exit ?_ | refine AWp.label ?_ | refine AWp.ret ?_ | refine appK_g ?_); simp -implicitDefEqProofs (maxSteps := 1000000) (disch := omega) only [go_sem, wrap64, Int.tdiv_eq_ediv_of_nonneg, Int.tmod_eq_emod_of_nonneg, Nat.reduceAdd, Nat.reduceMul, Nat.reduceEqDiff, Nat.reduceLT, Nat.reduceLeDiff, Int.reduceEq, Int.reduceNeg, Int.reduceToNat, reduceCtorEq, eq_self, Bool.false_eq_true, Bool.true_eq_false, ↓reduceIte, Int.reduceBNe, Int.reduceBEq, Bool.not_true, Bool.not_false, zC_len, pC_len, zD_len, zC_map, pC_map, zC_toCs, pC_toCs, zC_dCs, pC_dCs, zC_dats0, zC_take, pC_take, pC_take2, pC_get2, zC_get0, zC_get1, zC_drop, pC_drop, pC_drop3, zC_drop2, List.nil_append, List.append_nil])
    | (refine hK _ ?_; clear hK)
    | (clear hK; refine hK _ ?_; clear hK)
    | (clear hK; clear hK; refine hK _ ?_; clear hK)
    | (clear hK; clear hK; clear hK; refine hK _ ?_; clear hK)
    | (refine AWp.cond ?_; simp -implicitDefEqProofs (maxSteps := 1000000) (disch := omega) only [go_sem, wrap64, Int.tdiv_eq_ediv_of_nonneg, Int.tmod_eq_emod_of_nonneg, Nat.reduceAdd, Nat.reduceMul, Nat.reduceEqDiff, Nat.reduceLT, Nat.reduceLeDiff, Int.reduceEq, Int.reduceNeg, Int.reduceToNat, reduceCtorEq, eq_self, Bool.false_eq_true, Bool.true_eq_false, ↓reduceIte, Int.reduceBNe, Int.reduceBEq, Bool.not_true, Bool.not_false, zC_len, pC_len, zD_len, zC_map, pC_map, zC_toCs, pC_toCs, zC_dCs, pC_dCs, zC_dats0, zC_take, pC_take, pC_take2, pC_get2, zC_get0, zC_get1, zC_drop, pC_drop, pC_drop3, zC_drop2, List.nil_append, List.append_nil]; try (refine ⟨fun hlt => ?_, fun hlt => ?_⟩ <;> (try simp only [decide_eq_true_eq, decide_eq_false_iff_not, beq_iff_eq, bne_iff_ne, ne_eq, beq_eq_false_iff_ne, bne_eq_false_iff_eq, Bool.true_eq_false, Bool.false_eq_true, Int.not_lt, Int.not_le, Decidable.not_not, gt_iff_lt, ge_iff_le, reduceCtorEq] at hlt) <;> (try exact hlt.elim)))
    | (refine AWp.block ?_)
    | ((first | refine gdO_split (fun hlt => ?_) (fun hlt => ?_) | refine tkO_split (fun hlt => ?_) (fun hlt => ?_) | refine opO_split (fun hlt => ?_) (fun hlt => ?_)) <;> have hgd := hlt <;> (try simp only [decide_eq_true_eq, decide_eq_false_iff_not, beq_iff_eq, bne_iff_ne, ne_eq, beq_eq_false_iff_ne, bne_eq_false_iff_eq, Bool.not_eq_true, Bool.not_eq_false, Bool.not_eq_eq_eq_not, Int.not_lt, Int.not_le, Decidable.not_not, gt_iff_lt, ge_iff_le] at hlt) <;> (simp -implicitDefEqProofs (maxSteps := 1000000) (disch := omega) only [go_sem, wrap64, Int.tdiv_eq_ediv_of_nonneg, Int.tmod_eq_emod_of_nonneg, Nat.reduceAdd, Nat.reduceMul, Nat.reduceEqDiff, Nat.reduceLT, Nat.reduceLeDiff, Int.reduceEq, Int.reduceNeg, Int.reduceToNat, reduceCtorEq, eq_self, Bool.false_eq_true, Bool.true_eq_false, ↓reduceIte, Int.reduceBNe, Int.reduceBEq, Bool.not_true, Bool.not_false, zC_len, pC_len, zD_len, zC_map, pC_map, zC_toCs, pC_toCs, zC_dCs, pC_dCs, zC_dats0, zC_take, pC_take, pC_take2, pC_get2, zC_get0, zC_get1, zC_drop, pC_drop, pC_drop3, zC_drop2, List.nil_append, List.append_nil, hgd]) <;> clear hgd)
    | (with_reducible refine And.intro ?_ ?_; · first | omega | assumption | exact ⟨_, _, rfl, rfl⟩)
    | ((first | refine ⟨_, hs, ?_⟩ | refine ⟨_, hr, ?_⟩ | refine ⟨_, sb, ?_⟩ | refine ⟨_, sd, ?_⟩ | refine ⟨_, sf, ?_⟩); simp -implicitDefEqProofs (maxSteps := 1000000) (disch := omega) only [go_sem, wrap64, Int.tdiv_eq_ediv_of_nonneg, Int.tmod_eq_emod_of_nonneg, Nat.reduceAdd, Nat.reduceMul, Nat.reduceEqDiff, Nat.reduceLT, Nat.reduceLeDiff, Int.reduceEq, Int.reduceNeg, Int.reduceToNat, reduceCtorEq, eq_self, Bool.false_eq_true, Bool.true_eq_false, ↓reduceIte, Int.reduceBNe, Int.reduceBEq, Bool.not_true, Bool.not_false, zC_len, pC_len, zD_len, zC_map, pC_map, zC_toCs, pC_toCs, zC_dCs, pC_dCs, zC_dats0, zC_take, pC_take, pC_take2, pC_get2, zC_get0, zC_get1, zC_drop, pC_drop, pC_drop3, zC_drop2, List.nil_append, List.append_nil])
    | (exfalso; omega)
    | (exact Nat.le_refl 2)
    | fail

theorem fr_trans {a b p d e f : Int} (hb : 0 < b) (hd : 0 < d) (hf : 0 < f) (h1 : a * d ≤ p * b) (h2 : p * f ≤ e * d) : a * f ≤ e * b := by
  have e1 := Int.mul_le_mul_of_nonneg_right h1 (Int.le_of_lt hf)
  have e2 := Int.mul_le_mul_of_nonneg_right h2 (Int.le_of_lt hb)
  have e3 : (a * f) * d ≤ (e * b) * d := by
    have x1 : a * d * f = (a * f) * d := by grind
    have x2 : p * b * f = p * f * b := by grind
    have x3 : e * d * b = (e * b) * d := by grind
    omega
  exact Int.le_of_mul_le_mul_right e3 hd
theorem fdiv_b {a b : Int} (hb : 0 < b) : a.fdiv b * b ≤ a ∧ a < (a.fdiv b + 1) * b := by
  have h1 := Int.mul_fdiv_add_fmod a b
  have h2 := Int.fmod_nonneg_of_pos a hb
  have h3 := Int.fmod_lt_of_pos a hb
  have e1 : (a.fdiv b + 1) * b = b * a.fdiv b + b := by grind
  have e2 : a.fdiv b * b = b * a.fdiv b := Int.mul_comm _ _
  omega
theorem fr_div {a b p d : Int} (hb : 0 < b) (hd : 0 < d) (h : a.fdiv b < p.fdiv d) : a * d < p * b := by
  obtain ⟨h1, h2⟩ := fdiv_b (a := a) hb
  obtain ⟨h3, h4⟩ := fdiv_b (a := p) hd
  have e1 : (a.fdiv b + 1) * b ≤ p.fdiv d * b := Int.mul_le_mul_of_nonneg_right (by omega) (Int.le_of_lt hb)
  have e2 : a < p.fdiv d * b := by omega
  have e3 : a * d < p.fdiv d * b * d := Int.mul_lt_mul_of_pos_right e2 hd
  have e4 : p.fdiv d * d * b ≤ p * b := Int.mul_le_mul_of_nonneg_right h3 (Int.le_of_lt hb)
  have e5 : p.fdiv d * b * d = p.fdiv d * d * b := by grind
  omega
def O3 (a b p d e f k : Int) : St := ⟨[(7, .ptr 0 0), (8, .ptr 1 0), (9, .ptr 2 0), (10, .ptr 3 0), (11, .ptr 4 0), (12, .ptr 5 0), (13, .ptr 6 0)], [(6, zBx k), (5, zBx f), (4, zBx e), (3, zBx d), (2, zBx p), (1, zBx b), (0, zBx a)], 7, 0⟩
def Q3 (a b p d e f k x : Int) : St := ⟨[(15, I x), (7, .ptr 0 0), (8, .ptr 1 0), (9, .ptr 2 0), (10, .ptr 3 0), (11, .ptr 4 0), (12, .ptr 5 0), (13, .ptr 6 0)], [(6, zBx k), (5, zBx f), (4, zBx e), (3, zBx d), (2, zBx p), (1, zBx b), (0, zBx a)], 7, 0⟩
def U3 (a b p d e f k x : Int) (u v : Int × Int) : St := ⟨[(23, .ptr 7 0), (24, .ptr 8 0), (15, I x), (7, .ptr 0 0), (8, .ptr 1 0), (9, .ptr 2 0), (10, .ptr 3 0), (11, .ptr 4 0), (12, .ptr 5 0), (13, .ptr 6 0)], [(8, pBx v), (7, pBx u), (6, zBx k), (5, zBx f), (4, zBx e), (3, zBx d), (2, zBx p), (1, zBx b), (0, zBx a)], 9, 0⟩
def sw7 (i : Nat) : Nat := if i < 7 then i else if i = 7 then 8 else 7
theorem sw7_inj : ∀ i j, i < 9 → j < 9 → sw7 i = sw7 j → i = j := by
  intro i j h1 h2 h3
  unfold sw7 at h3
  (repeat' split at h3) <;> omega
theorem sw7s : sw7 0 = 0 ∧ sw7 1 = 1 ∧ sw7 2 = 2 ∧ sw7 3 = 3 ∧ sw7 4 = 4 ∧ sw7 5 = 5 ∧ sw7 6 = 6 ∧ sw7 7 = 8 ∧ sw7 8 = 7 := ⟨rfl, rfl, rfl, rfl, rfl, rfl, rfl, rfl, rfl⟩
theorem cmpI_le {x y : Int} : cmpI x y ≤ 0 ↔ x ≤ y := by simp only [cmpI]; (repeat' split) <;> omega
theorem cmpI_rg (a b : Int) : -1 ≤ cmpI a b ∧ cmpI a b ≤ 1 := by simp only [cmpI]; (repeat' split) <;> omega
theorem cmpI_sw (a b : Int) : cmpI b a = -cmpI a b := by simp only [cmpI]; (repeat' split) <;> omega
theorem cmpI_ml {z : Int} (a b : Int) (h : 0 < z) : cmpI (a * z) (b * z) = cmpI a b := by
  have h1 : a * z < b * z ↔ a < b := Int.mul_lt_mul_right h
  have h2 : b * z < a * z ↔ b < a := Int.mul_lt_mul_right h
  simp only [cmpI]; (repeat' split) <;> omega
set_option maxHeartbeats 8000000 in
theorem NumFractions_z (a b p d e f k : Int) (la : lenZ a ≤ 40) (lb : lenZ b ≤ 40) (lp : lenZ p ≤ 40) (ld : lenZ d ≤ 40) (le : lenZ e ≤ 40) (lf : lenZ f ≤ 40) (lk : lenZ k ≤ 40) (pb : 0 < b) (pd : 0 < d) (pf : 0 < f) :
    PC Tryz.prog 3 [.agg (zC a), .agg (zC b), .agg (zC p), .agg (zC d), .agg (zC e), .agg (zC f), .agg (zC k)] (B true) := by
  have hs := sane_ok
  have hr := right7A a b p d e f k la lb lp ld le lf lk
  have sb := signA b
  have sd := signA d
  have sf := signA f
  have sk := signA k
  rw [sgI_pos pb] at sb
  rw [sgI_pos pd] at sd
  rw [sgI_pos pf] at sf
  have c1 := crossA a b p d la lb lp ld pb pd
  have c2 := crossA p d a b lp ld la lb pd pb
  have c3 := crossA p d e f lp ld le lf pd pf
  have c4 := crossA a b e f la lb le lf pb pf
  rw [cmpI_sw (a * d) (p * b)] at c2
  have hrg := cmpI_rg (a * d) (p * b)
  have htr : cmpI (a * d) (p * b) ≤ 0 → cmpI (p * f) (e * d) ≤ 0 → cmpI (a * f) (e * b) ≤ 0 := fun h1 h2 => by
    rw [cmpI_le] at *
    exact fr_trans pb pd pf h1 h2
  have va := valA a
  have vb := valA b
  have vk := valA k
  have t1 := timesA (a, 0) (k, 0) la lk
  have t2 := timesA (b, 0) (k, 0) lb lk
  have c5 : 0 < sgI k → (timesP (a, 0) (k, 0)).2 = 0 → (timesP (b, 0) (k, 0)).2 = 0 → PC Tryz.prog 19 [.agg (zC (timesP (a, 0) (k, 0)).1), .agg (zC (timesP (b, 0) (k, 0)).1), .agg (zC p), .agg (zC d)] (.tup [I (cmpI (a * d) (p * b)), I 0]) := fun hk h1 h2 => by
    have pk := pos_sgI hk
    have e1 : (timesP (a, 0) (k, 0)).1 = a * k := (timesP_1 h1).2.2
    have e2 : (timesP (b, 0) (k, 0)).1 = b * k := (timesP_1 h2).2.2
    have l1 := timesP_ok (a, 0) (k, 0)
    have l2 := timesP_ok (b, 0) (k, 0)
    unfold okP at l1 l2
    rw [e1] at l1 ⊢
    rw [e2] at l2 ⊢
    have := crossA (a * k) (b * k) p d l1 l2 lp ld (Int.mul_pos pb pk) pd
    rwa [show a * k * d = a * d * k by grind, show p * (b * k) = p * b * k by grind, cmpI_ml _ _ pk] at this
  have d1 := divA a b la lb
  have d2 := divA p d lp ld
  rw [show divP a b = (a.fdiv b, 0) from if_neg (by omega)] at d1
  rw [show divP p d = (p.fdiv d, 0) from if_neg (by omega)] at d2
  replace d1 : PC Tryz.prog 22 [.agg (zC a), .agg (zC b)] (.tup [.agg (zC (a.fdiv b)), I 0]) := d1
  replace d2 : PC Tryz.prog 22 [.agg (zC p), .agg (zC d)] (.tup [.agg (zC (p.fdiv d)), I 0]) := d2
  have c6 := cmpA (a.fdiv b) (p.fdiv d) (fdiv_len la) (fdiv_len lp)
  have hn : cmpI (a.fdiv b) (p.fdiv d) = 0 ∨ cmpI (a.fdiv b) (p.fdiv d) = cmpI (a * d) (p * b) := by
    rcases Int.lt_trichotomy (a.fdiv b) (p.fdiv d) with g | g | g
    · right
      have := fr_div pb pd g
      simp only [cmpI]; rw [if_pos g, if_pos this]
    · left; rw [g]; simp [cmpI]
    · right
      have := fr_div pd pb g
      simp only [cmpI]; rw [if_neg (by omega), if_neg (by omega), if_neg (by omega), if_neg (by omega)]
  generalize cmpI (a.fdiv b) (p.fdiv d) = n at *
  generalize cmpI (a * d) (p * b) = x at *
  generalize cmpI (p * f) (e * d) = y at *
  generalize cmpI (a * f) (e * b) = w at *
  generalize timesP (a, 0) (k, 0) = u1 at *
  generalize timesP (b, 0) (k, 0) = u2 at *
  generalize sgI k = gk at *
  refine PCr.pc (PCr.of tab_ok Tryz.func3 rfl rfl rfl fun c hc hm => ?_)
  rw [show Tryz.f3.ntmps = _ from Tryz.ntmps3] at hc
  simp only [Tryz.f3]
  repeat' first
    | (exact absurd hlt (by decide))
    | (refine AWp.drawT (id := 11) [0, 1, 2, 3, 4, 5, 6, 7, 8, 9] (.br 10 (.br 11 (.br 12 (.br 13 .fin .no) .no) .no) (.br 11 (.br 10 (.br 12 (.br 13 .fin .no) .no) .no) .no)) 4 mixed_ok (by kernel_rfl) (by rw [hc]; rfl) ?_; simp -implicitDefEqProofs (maxSteps := 100000000) (disch := omega) only [go_sem, wrap64, Int.tdiv_eq_ediv_of_nonneg, Int.tmod_eq_emod_of_nonneg, Nat.reduceAdd, Nat.reduceMul, Nat.reduceEqDiff, Nat.reduceLT, Nat.reduceLeDiff, Int.reduceEq, Int.reduceNeg, Int.reduceToNat, reduceCtorEq, eq_self, Bool.false_eq_true, Bool.true_eq_false, ↓reduceIte])
    | (refine AWp.cut (x := .seq (.region 12 _ false) _) (Q3 a b p d e f k x) ?_ ?_)
    | (refine AWp.cut (x := .region 11 _ true) (U3 a b p d e f k x u1 u2) ?_ ?_)
    | (refine AWp.cut (x := .seq (.region 9 _ false) _) (Q3 a b p d e f k x) ?_ ?_)
    | (refine AWp.cut (x := .seq (.region 3 _ false) _) (O3 a b p d e f k) ?_ ?_)
    | (refine AWp.seq fun K hK => ?_)
    | ((first | refine AWp.draw (id := 11) [.take 0, .take 1, .take 2, .take 3, .take 4, .take 5, .take 6, .take 7, .take 8, .take 9, .grp [10, 11], .grp [12], .grp [13]] mixed_ok (by kernel_rfl) (by rw [hc]; rfl) ?_ | refine AWp.region (by rw [hc]; rfl) ?_ | refine AWp.skip ?_ | refine AWp.exit ?_ | refine AWp.label ?_ | refine AWp.ret ?_ | refine appK_g ?_); simp -implicitDefEqProofs (maxSteps := 100000000) (disch := omega) only [go_sem, wrap64, Int.tdiv_eq_ediv_of_nonneg, Int.tmod_eq_emod_of_nonneg, Nat.reduceAdd, Nat.reduceMul, Nat.reduceEqDiff, Nat.reduceLT, Nat.reduceLeDiff, Int.reduceEq, Int.reduceNeg, Int.reduceToNat, reduceCtorEq, eq_self, Bool.false_eq_true, Bool.true_eq_false, ↓reduceIte, Int.reduceBNe, Int.reduceBEq, Bool.not_true, Bool.not_false, zC_len, pC_len, zD_len, zC_map, pC_map, zC_toCs, pC_toCs, zC_dCs, pC_dCs, zC_dats0, zC_take, pC_take, pC_take2, pC_get2, zC_get0, zC_get1, zC_drop, pC_drop, pC_drop3, zC_drop2, List.nil_append, List.append_nil, O3, Q3, U3, zBx, pBx, bne_self_eq_false, beq_self_eq_true])
    | (refine hK _ ?_; clear hK)
    | (clear hK; refine hK _ ?_; clear hK)
    | (clear hK; clear hK; refine hK _ ?_; clear hK)
    | (clear hK; clear hK; clear hK; refine hK _ ?_; clear hK)
    | (refine AWp.cond ?_; simp -implicitDefEqProofs (maxSteps := 100000000) (disch := omega) only [go_sem, wrap64, Int.tdiv_eq_ediv_of_nonneg, Int.tmod_eq_emod_of_nonneg, Nat.reduceAdd, Nat.reduceMul, Nat.reduceEqDiff, Nat.reduceLT, Nat.reduceLeDiff, Int.reduceEq, Int.reduceNeg, Int.reduceToNat, reduceCtorEq, eq_self, Bool.false_eq_true, Bool.true_eq_false, ↓reduceIte, Int.reduceBNe, Int.reduceBEq, Bool.not_true, Bool.not_false, zC_len, pC_len, zD_len, zC_map, pC_map, zC_toCs, pC_toCs, zC_dCs, pC_dCs, zC_dats0, zC_take, pC_take, pC_take2, pC_get2, zC_get0, zC_get1, zC_drop, pC_drop, pC_drop3, zC_drop2, List.nil_append, List.append_nil, O3, Q3, U3, zBx, pBx, bne_self_eq_false, beq_self_eq_true]; try (refine ⟨fun hlt => ?_, fun hlt => ?_⟩ <;> (try simp only [decide_eq_true_eq, decide_eq_false_iff_not, beq_iff_eq, bne_iff_ne, ne_eq, beq_eq_false_iff_ne, bne_eq_false_iff_eq, Bool.true_eq_false, Bool.false_eq_true, Int.not_lt, Int.not_le, Decidable.not_not, gt_iff_lt, ge_iff_le, reduceCtorEq] at hlt) <;> (try exact hlt.elim)))
    | (refine AWp.block ?_)
    | ((first | refine gdO_split (fun hlt => ?_) (fun hlt => ?_) | refine tkO_split (fun hlt => ?_) (fun hlt => ?_) | refine opO_split (fun hlt => ?_) (fun hlt => ?_)) <;> have hgd := hlt <;> (try simp only [decide_eq_true_eq, decide_eq_false_iff_not, beq_iff_eq, bne_iff_ne, ne_eq, beq_eq_false_iff_ne, bne_eq_false_iff_eq, Bool.not_eq_true, Bool.not_eq_false, Bool.not_eq_eq_eq_not, Int.not_lt, Int.not_le, Decidable.not_not, gt_iff_lt, ge_iff_le] at hlt) <;> (simp -implicitDefEqProofs (maxSteps := 100000000) (disch := omega) only [go_sem, wrap64, Int.tdiv_eq_ediv_of_nonneg, Int.tmod_eq_emod_of_nonneg, Nat.reduceAdd, Nat.reduceMul, Nat.reduceEqDiff, Nat.reduceLT, Nat.reduceLeDiff, Int.reduceEq, Int.reduceNeg, Int.reduceToNat, reduceCtorEq, eq_self, Bool.false_eq_true, Bool.true_eq_false, ↓reduceIte, Int.reduceBNe, Int.reduceBEq, Bool.not_true, Bool.not_false, zC_len, pC_len, zD_len, zC_map, pC_map, zC_toCs, pC_toCs, zC_dCs, pC_dCs, zC_dats0, zC_take, pC_take, pC_take2, pC_get2, zC_get0, zC_get1, zC_drop, pC_drop, pC_drop3, zC_drop2, List.nil_append, List.append_nil, O3, Q3, U3, zBx, pBx, bne_self_eq_false, beq_self_eq_true, hgd]) <;> clear hgd)
    | (with_reducible refine And.intro ?_ ?_; · first | omega | assumption | exact ⟨_, _, rfl, rfl⟩)
    | ((first | refine ⟨_, hs, ?_⟩ | refine ⟨_, hr, ?_⟩ | refine ⟨_, sb, ?_⟩ | refine ⟨_, sd, ?_⟩ | refine ⟨_, sf, ?_⟩ | refine ⟨_, sk, ?_⟩ | refine ⟨_, c1, ?_⟩ | refine ⟨_, c2, ?_⟩ | refine ⟨_, c3, ?_⟩ | refine ⟨_, c4, ?_⟩ | refine ⟨_, va, ?_⟩ | refine ⟨_, vb, ?_⟩ | refine ⟨_, vk, ?_⟩ | refine ⟨_, t1, ?_⟩ | refine ⟨_, t2, ?_⟩ | refine ⟨_, d1, ?_⟩ | refine ⟨_, d2, ?_⟩ | refine ⟨_, c6, ?_⟩ | refine ⟨_, c5 (by omega) (by assumption) (by assumption), ?_⟩); simp -implicitDefEqProofs (maxSteps := 100000000) (disch := omega) only [go_sem, wrap64, Int.tdiv_eq_ediv_of_nonneg, Int.tmod_eq_emod_of_nonneg, Nat.reduceAdd, Nat.reduceMul, Nat.reduceEqDiff, Nat.reduceLT, Nat.reduceLeDiff, Int.reduceEq, Int.reduceNeg, Int.reduceToNat, reduceCtorEq, eq_self, Bool.false_eq_true, Bool.true_eq_false, ↓reduceIte, Int.reduceBNe, Int.reduceBEq, Bool.not_true, Bool.not_false, zC_len, pC_len, zD_len, zC_map, pC_map, zC_toCs, pC_toCs, zC_dCs, pC_dCs, zC_dats0, zC_take, pC_take, pC_take2, pC_get2, zC_get0, zC_get1, zC_drop, pC_drop, pC_drop3, zC_drop2, List.nil_append, List.append_nil, O3, Q3, U3, zBx, pBx, bne_self_eq_false, beq_self_eq_true])
    | (exact Nat.le_refl 2)
    | (refine AWp.skip ?_)
    | (exfalso; have := htr (by omega) (by omega); omega)
    | (with_reducible refine And.intro ?_ ?_)
    | fail
  all_goals (try (
    show Sub c _ _
    first
      | (refine Sub.of0 hm id rfl ?_ ?_ (fun _ _ _ _ h => h) <;> (simp -implicitDefEqProofs only [zC, pC, id, go_sem, Nat.reduceAdd, Nat.reduceEqDiff, Nat.blt_eq, Nat.reduceLT, ↓reduceIte, and_true, true_and, reduceCtorEq, Option.some.injEq]) <;> done)
      | (refine Sub.of0 hm sw7 rfl ?_ ?_ sw7_inj <;> (simp -implicitDefEqProofs only [zC, pC, go_sem, sw7s, Nat.reduceAdd, Nat.reduceEqDiff, Nat.blt_eq, Nat.reduceLT, ↓reduceIte, and_true, true_and, reduceCtorEq, Option.some.injEq]) <;> done)))
  rcases hn with hn | hn
  · contradiction
  · rw [hn]; exact beq_self_eq_true x
theorem NumFractions_ok (n1 : Bool) (a1 : List Int) (n2 : Bool) (a2 : List Int) (n3 : Bool) (a3 : List Int) (n4 : Bool) (a4 : List Int) (n5 : Bool) (a5 : List Int) (n6 : Bool) (a6 : List Int) (n7 : Bool) (a7 : List Int) : PC Tryz.prog 3 [Zr n1 a1, Zr n2 a2, Zr n3 a3, Zr n4 a4, Zr n5 a5, Zr n6 a6, Zr n7 a7] (B true) := by
  by_cases h : ∀ x ∈ [(n1, a1), (n2, a2), (n3, a3), (n4, a4), (n5, a5), (n6, a6), (n7, a7)], okI x.1 x.2
  · obtain ⟨x1, e1, l1⟩ := okI_ex (h (n1, a1) (by simp))
    obtain ⟨x2, e2, l2⟩ := okI_ex (h (n2, a2) (by simp))
    obtain ⟨x3, e3, l3⟩ := okI_ex (h (n3, a3) (by simp))
    obtain ⟨x4, e4, l4⟩ := okI_ex (h (n4, a4) (by simp))
    obtain ⟨x5, e5, l5⟩ := okI_ex (h (n5, a5) (by simp))
    obtain ⟨x6, e6, l6⟩ := okI_ex (h (n6, a6) (by simp))
    obtain ⟨x7, e7, l7⟩ := okI_ex (h (n7, a7) (by simp))
    simp only at e1 e2 e3 e4 e5 e6 e7
    rw [e1, e2, e3, e4, e5, e6, e7]
    by_cases hp : 0 < x2 ∧ 0 < x4 ∧ 0 < x6
    · exact NumFractions_z x1 x2 x3 x4 x5 x6 x7 l1 l2 l3 l4 l5 l6 l7 hp.1 hp.2.1 hp.2.2
    · exact NumFractions_np x1 x2 x3 x4 x5 x6 x7 l1 l2 l3 l4 l5 l6 l7 hp
  · exact NumFractions_bad n1 n2 n3 n4 n5 n6 n7 a1 a2 a3 a4 a5 a6 a7 h
end Go.Proofs.YthhjcfejgoddlaaGreatDoor
end
