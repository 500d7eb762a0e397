/- The contract of the law's function. -/
import Derived.Test.YthhjcfejgoddlaaGreatDoorJb
import Derived.Test.YthhjcfejgoddlaaGreatDoorKb
import Derived.Test.YthhjcfejgoddlaaGreatDoorJc
section
set_option linter.unusedSimpArgs false
set_option linter.unusedVariables false
set_option maxRecDepth 100000
namespace Go.Proofs.YthhjcfejgoddlaaGreatDoor
open Go Go.Abs

/-- Results as pairs: the integer and the error. -/
def limP (z : Int) : Int × Int := if lenZ z ≤ 40 then (z, 0) else (0, 2)
def GP (p : Int × Int) : AV := GZ p.1 p.2
def okP (p : Int × Int) : Prop := lenZ p.1 ≤ 40
theorem lenZ_0 : lenZ 0 ≤ 40 := by unfold lenZ; rw [Int.natAbs_zero, D_zero]; exact Nat.zero_le _
theorem limR_P (z : Int) : limR z = .tup [Z (limP z).1, I (limP z).2] := by
  unfold limR limP
  split
  · rfl
  · show _ = AV.tup [Z 0, I 2]
    rw [Z_zero]
theorem limP_ok (z : Int) : okP (limP z) := by
  unfold limP okP
  split
  · assumption
  · exact lenZ_0
theorem gotP (p : Int × Int) : PC Tryz.prog 24 [Z p.1, I p.2] (GP p) := got_pc _ _ _
theorem got_lim (z : Int) : PC Tryz.prog 24 [Z (limP z).1, I (limP z).2] (GP (limP z)) := gotP _
theorem valP (x : Int) : PC Tryz.prog 21 [Z x] (GP (x, 0)) := val_pc _ _
def sumP (p q : Int × Int) : Int × Int := if p.2 = 0 ∧ q.2 = 0 then limP (p.1 + q.1) else (0, 2)
def timesP (p q : Int × Int) : Int × Int := if p.2 = 0 ∧ q.2 = 0 then limP (p.1 * q.1) else (0, 2)
theorem sumP_ok (p q : Int × Int) : okP (sumP p q) := by unfold sumP; split; exact limP_ok _; exact lenZ_0
theorem timesP_ok (p q : Int × Int) : okP (timesP p q) := by unfold timesP; split; exact limP_ok _; exact lenZ_0
theorem GP_02 : GP (0, 2) = .agg [B false, L [], I 2] := by
  show Gr (decide ((0 : Int) < 0)) (D (Int.natAbs 0)) 2 = _
  rw [Int.natAbs_zero, D_zero]; rfl
theorem PC.weak {f : FuncId} {args : List AV} {r r' : AV} (h : PC Tryz.prog f args r) (k : ∀ A w v, RV φ0 0 A w r v → RV φ0 0 A w r' v) : PC Tryz.prog f args r' :=
  ⟨h.1, fun w A vs hg hl hv => (h.2 w A vs hg hl hv).mono fun e w' ⟨v, he, hb, hrv⟩ => ⟨v, he, hb, k _ _ _ hrv⟩⟩
theorem RV_nilL {A : Nat → Nat → Prop} {w : World} {x y : AV} {v : Value} (h : RV φ0 0 A w (.agg [x, .nil, y]) v) : RV φ0 0 A w (.agg [x, L [], y]) v := by
  cases h with
  | agg _ vs hl h h1 =>
    refine .agg _ vs hl (fun j z hz => ?_) h1
    rcases j with _ | _ | _ | j
    · exact h 0 _ hz
    · have h2 := h 1 _ rfl
      obtain rfl := Option.some.inj hz
      cases hv : vs.getD 1 undef
      all_goals rw [hv] at h2; cases h2
      exact .dat _ _ (.emp _ _)
    · exact h 2 _ hz
    · simp at hz
theorem sum_P (p q : Int × Int) (hp : okP p) (hq : okP q) : PC Tryz.prog 28 [GP p, GP q] (GP (sumP p q)) := by
  obtain ⟨x, e⟩ := p
  obtain ⟨y, f⟩ := q
  have h := Add_ok x y hp hq
  rw [limR_P] at h
  have g := got_lim (x + y)
  unfold sumP
  by_cases h1 : e = 0 <;> by_cases h2 : f = 0
  · subst h1; subst h2
    rw [if_pos ⟨rfl, rfl⟩]
    simp only [GP, GZ, Gr] at g ⊢
    refine PCr.pc (PCr.of tab_ok Tryz.func28 rfl rfl rfl fun c hc hm => ?_)
    rw [show Tryz.f28.ntmps = _ from Tryz.ntmps28] at hc
    simp only [Tryz.f28]
    repeat' first
      | (refine AWp.seq fun K hK => ?_)
      | ((first | refine AWp.region (by rw [hc]; rfl) ?_ | refine AWp.skip ?_ | refine AWp.exit ?_ | refine AWp.label ?_ | refine AWp.ret ?_ | refine appK_g ?_); simp -implicitDefEqProofs (maxSteps := 1000000) (disch := omega) only [go_sem, wrap64, Int.tdiv_eq_ediv_of_nonneg, Int.tmod_eq_emod_of_nonneg, Nat.reduceAdd, Nat.reduceMul, Nat.reduceEqDiff, Nat.reduceLT, Nat.reduceLeDiff, Int.reduceEq, Int.reduceNeg, Int.reduceToNat, reduceCtorEq, eq_self, Bool.false_eq_true, Bool.true_eq_false, ↓reduceIte, Int.reduceBNe])
      | (refine hK _ ?_; clear hK)
      | (clear hK; refine hK _ ?_; clear hK)
      | (clear hK; clear hK; refine hK _ ?_; clear hK)
      | (clear hK; clear hK; clear hK; refine hK _ ?_; clear hK)
      | (refine AWp.cond ?_; simp -implicitDefEqProofs (maxSteps := 1000000) (disch := omega) only [go_sem, wrap64, Int.tdiv_eq_ediv_of_nonneg, Int.tmod_eq_emod_of_nonneg, Nat.reduceAdd, Nat.reduceMul, Nat.reduceEqDiff, Nat.reduceLT, Nat.reduceLeDiff, Int.reduceEq, Int.reduceNeg, Int.reduceToNat, reduceCtorEq, eq_self, Bool.false_eq_true, Bool.true_eq_false, ↓reduceIte, Int.reduceBNe]; try (refine ⟨fun hlt => ?_, fun hlt => ?_⟩ <;> (try simp only [decide_eq_true_eq, decide_eq_false_iff_not, beq_iff_eq, bne_iff_ne, ne_eq, beq_eq_false_iff_ne, bne_eq_false_iff_eq, Bool.true_eq_false, Bool.false_eq_true, Int.not_lt, Int.not_le, Decidable.not_not, gt_iff_lt, ge_iff_le, reduceCtorEq] at hlt) <;> (try exact hlt.elim)))
      | (refine AWp.block ?_)
      | ((first | refine gdO_split (fun hlt => ?_) (fun hlt => ?_) | refine tkO_split (fun hlt => ?_) (fun hlt => ?_) | refine opO_split (fun hlt => ?_) (fun hlt => ?_)) <;> have hgd := hlt <;> (try simp only [decide_eq_true_eq, decide_eq_false_iff_not, beq_iff_eq, bne_iff_ne, ne_eq, beq_eq_false_iff_ne, bne_eq_false_iff_eq, Bool.not_eq_true, Bool.not_eq_false, Bool.not_eq_eq_eq_not, Int.not_lt, Int.not_le, Decidable.not_not, gt_iff_lt, ge_iff_le] at hlt) <;> (simp -implicitDefEqProofs (maxSteps := 1000000) (disch := omega) only [go_sem, wrap64, Int.tdiv_eq_ediv_of_nonneg, Int.tmod_eq_emod_of_nonneg, Nat.reduceAdd, Nat.reduceMul, Nat.reduceEqDiff, Nat.reduceLT, Nat.reduceLeDiff, Int.reduceEq, Int.reduceNeg, Int.reduceToNat, reduceCtorEq, eq_self, Bool.false_eq_true, Bool.true_eq_false, ↓reduceIte, Int.reduceBNe, hgd]) <;> clear hgd)
      | (with_reducible refine And.intro ?_ ?_; · first | omega | assumption | exact ⟨_, _, rfl, rfl⟩)
      | ((first | refine ⟨_, h, ?_⟩ | refine ⟨_, g, ?_⟩); simp -implicitDefEqProofs (maxSteps := 1000000) (disch := omega) only [go_sem, wrap64, Int.tdiv_eq_ediv_of_nonneg, Int.tmod_eq_emod_of_nonneg, Nat.reduceAdd, Nat.reduceMul, Nat.reduceEqDiff, Nat.reduceLT, Nat.reduceLeDiff, Int.reduceEq, Int.reduceNeg, Int.reduceToNat, reduceCtorEq, eq_self, Bool.false_eq_true, Bool.true_eq_false, ↓reduceIte, Int.reduceBNe])
      | fail
  all_goals
    rw [if_neg (by simp only [h1, h2]; decide), GP_02]
    simp only [GP, GZ, Gr]
    refine PCr.pc (PCr.of tab_ok Tryz.func28 rfl rfl rfl fun c hc hm => ?_)
    rw [show Tryz.f28.ntmps = _ from Tryz.ntmps28] at hc
    simp only [Tryz.f28]
    repeat' first
      | (refine AWp.seq fun K hK => ?_)
      | ((first | refine AWp.region (by rw [hc]; rfl) ?_ | refine AWp.skip ?_ | refine AWp.exit ?_ | refine AWp.label ?_ | refine AWp.ret ?_ | refine appK_g ?_); simp -implicitDefEqProofs (maxSteps := 1000000) (disch := omega) only [go_sem, wrap64, Int.tdiv_eq_ediv_of_nonneg, Int.tmod_eq_emod_of_nonneg, Nat.reduceAdd, Nat.reduceMul, Nat.reduceEqDiff, Nat.reduceLT, Nat.reduceLeDiff, Int.reduceEq, Int.reduceNeg, Int.reduceToNat, reduceCtorEq, eq_self, Bool.false_eq_true, Bool.true_eq_false, ↓reduceIte, Int.reduceBNe])
      | (refine hK _ ?_; clear hK)
      | (clear hK; refine hK _ ?_; clear hK)
      | (clear hK; clear hK; refine hK _ ?_; clear hK)
      | (clear hK; clear hK; clear hK; refine hK _ ?_; clear hK)
      | (refine AWp.cond ?_; simp -implicitDefEqProofs (maxSteps := 1000000) (disch := omega) only [go_sem, wrap64, Int.tdiv_eq_ediv_of_nonneg, Int.tmod_eq_emod_of_nonneg, Nat.reduceAdd, Nat.reduceMul, Nat.reduceEqDiff, Nat.reduceLT, Nat.reduceLeDiff, Int.reduceEq, Int.reduceNeg, Int.reduceToNat, reduceCtorEq, eq_self, Bool.false_eq_true, Bool.true_eq_false, ↓reduceIte, Int.reduceBNe]; try (refine ⟨fun hlt => ?_, fun hlt => ?_⟩ <;> (try simp only [decide_eq_true_eq, decide_eq_false_iff_not, beq_iff_eq, bne_iff_ne, ne_eq, beq_eq_false_iff_ne, bne_eq_false_iff_eq, Bool.true_eq_false, Bool.false_eq_true, Int.not_lt, Int.not_le, Decidable.not_not, gt_iff_lt, ge_iff_le, reduceCtorEq] at hlt) <;> (try exact hlt.elim)))
      | (refine AWp.block ?_)
      | ((first | refine gdO_split (fun hlt => ?_) (fun hlt => ?_) | refine tkO_split (fun hlt => ?_) (fun hlt => ?_) | refine opO_split (fun hlt => ?_) (fun hlt => ?_)) <;> have hgd := hlt <;> (try simp only [decide_eq_true_eq, decide_eq_false_iff_not, beq_iff_eq, bne_iff_ne, ne_eq, beq_eq_false_iff_ne, bne_eq_false_iff_eq, Bool.not_eq_true, Bool.not_eq_false, Bool.not_eq_eq_eq_not, Int.not_lt, Int.not_le, Decidable.not_not, gt_iff_lt, ge_iff_le] at hlt) <;> (simp -implicitDefEqProofs (maxSteps := 1000000) (disch := omega) only [go_sem, wrap64, Int.tdiv_eq_ediv_of_nonneg, Int.tmod_eq_emod_of_nonneg, Nat.reduceAdd, Nat.reduceMul, Nat.reduceEqDiff, Nat.reduceLT, Nat.reduceLeDiff, Int.reduceEq, Int.reduceNeg, Int.reduceToNat, reduceCtorEq, eq_self, Bool.false_eq_true, Bool.true_eq_false, ↓reduceIte, Int.reduceBNe, hgd]) <;> clear hgd)
      | (with_reducible refine And.intro ?_ ?_; · first | omega | assumption | exact ⟨_, _, rfl, rfl⟩)
      | fail
    all_goals first | rfl | contradiction
theorem times_P (p q : Int × Int) (hp : okP p) (hq : okP q) : PC Tryz.prog 20 [GP p, GP q] (GP (timesP p q)) := by
  obtain ⟨x, e⟩ := p
  obtain ⟨y, f⟩ := q
  have h := Mul_ok x y hp hq
  rw [limR_P] at h
  have g := got_lim (x * y)
  unfold timesP
  by_cases h1 : e = 0 <;> by_cases h2 : f = 0
  · subst h1; subst h2
    rw [if_pos ⟨rfl, rfl⟩]
    simp only [GP, GZ, Gr] at g ⊢
    refine PCr.pc (PCr.of tab_ok Tryz.func20 rfl rfl rfl fun c hc hm => ?_)
    rw [show Tryz.f20.ntmps = _ from Tryz.ntmps20] at hc
    simp only [Tryz.f20]
    repeat' first
      | (refine AWp.seq fun K hK => ?_)
      | ((first | refine AWp.region (by rw [hc]; rfl) ?_ | refine AWp.skip ?_ | refine AWp.exit ?_ | refine AWp.label ?_ | refine AWp.ret ?_ | refine appK_g ?_); simp -implicitDefEqProofs (maxSteps := 1000000) (disch := omega) only [go_sem, wrap64, Int.tdiv_eq_ediv_of_nonneg, Int.tmod_eq_emod_of_nonneg, Nat.reduceAdd, Nat.reduceMul, Nat.reduceEqDiff, Nat.reduceLT, Nat.reduceLeDiff, Int.reduceEq, Int.reduceNeg, Int.reduceToNat, reduceCtorEq, eq_self, Bool.false_eq_true, Bool.true_eq_false, ↓reduceIte, Int.reduceBNe])
      | (refine hK _ ?_; clear hK)
      | (clear hK; refine hK _ ?_; clear hK)
      | (clear hK; clear hK; refine hK _ ?_; clear hK)
      | (clear hK; clear hK; clear hK; refine hK _ ?_; clear hK)
      | (refine AWp.cond ?_; simp -implicitDefEqProofs (maxSteps := 1000000) (disch := omega) only [go_sem, wrap64, Int.tdiv_eq_ediv_of_nonneg, Int.tmod_eq_emod_of_nonneg, Nat.reduceAdd, Nat.reduceMul, Nat.reduceEqDiff, Nat.reduceLT, Nat.reduceLeDiff, Int.reduceEq, Int.reduceNeg, Int.reduceToNat, reduceCtorEq, eq_self, Bool.false_eq_true, Bool.true_eq_false, ↓reduceIte, Int.reduceBNe]; try (refine ⟨fun hlt => ?_, fun hlt => ?_⟩ <;> (try simp only [decide_eq_true_eq, decide_eq_false_iff_not, beq_iff_eq, bne_iff_ne, ne_eq, beq_eq_false_iff_ne, bne_eq_false_iff_eq, Bool.true_eq_false, Bool.false_eq_true, Int.not_lt, Int.not_le, Decidable.not_not, gt_iff_lt, ge_iff_le, reduceCtorEq] at hlt) <;> (try exact hlt.elim)))
      | (refine AWp.block ?_)
      | ((first | refine gdO_split (fun hlt => ?_) (fun hlt => ?_) | refine tkO_split (fun hlt => ?_) (fun hlt => ?_) | refine opO_split (fun hlt => ?_) (fun hlt => ?_)) <;> have hgd := hlt <;> (try simp only [decide_eq_true_eq, decide_eq_false_iff_not, beq_iff_eq, bne_iff_ne, ne_eq, beq_eq_false_iff_ne, bne_eq_false_iff_eq, Bool.not_eq_true, Bool.not_eq_false, Bool.not_eq_eq_eq_not, Int.not_lt, Int.not_le, Decidable.not_not, gt_iff_lt, ge_iff_le] at hlt) <;> (simp -implicitDefEqProofs (maxSteps := 1000000) (disch := omega) only [go_sem, wrap64, Int.tdiv_eq_ediv_of_nonneg, Int.tmod_eq_emod_of_nonneg, Nat.reduceAdd, Nat.reduceMul, Nat.reduceEqDiff, Nat.reduceLT, Nat.reduceLeDiff, Int.reduceEq, Int.reduceNeg, Int.reduceToNat, reduceCtorEq, eq_self, Bool.false_eq_true, Bool.true_eq_false, ↓reduceIte, Int.reduceBNe, hgd]) <;> clear hgd)
      | (with_reducible refine And.intro ?_ ?_; · first | omega | assumption | exact ⟨_, _, rfl, rfl⟩)
      | ((first | refine ⟨_, h, ?_⟩ | refine ⟨_, g, ?_⟩); simp -implicitDefEqProofs (maxSteps := 1000000) (disch := omega) only [go_sem, wrap64, Int.tdiv_eq_ediv_of_nonneg, Int.tmod_eq_emod_of_nonneg, Nat.reduceAdd, Nat.reduceMul, Nat.reduceEqDiff, Nat.reduceLT, Nat.reduceLeDiff, Int.reduceEq, Int.reduceNeg, Int.reduceToNat, reduceCtorEq, eq_self, Bool.false_eq_true, Bool.true_eq_false, ↓reduceIte, Int.reduceBNe])
      | fail
  all_goals
    rw [if_neg (by simp only [h1, h2]; decide), GP_02]
    simp only [GP, GZ, Gr]
    refine PCr.pc (PCr.of tab_ok Tryz.func20 rfl rfl rfl fun c hc hm => ?_)
    rw [show Tryz.f20.ntmps = _ from Tryz.ntmps20] at hc
    simp only [Tryz.f20]
    repeat' first
      | (refine AWp.seq fun K hK => ?_)
      | ((first | refine AWp.region (by rw [hc]; rfl) ?_ | refine AWp.skip ?_ | refine AWp.exit ?_ | refine AWp.label ?_ | refine AWp.ret ?_ | refine appK_g ?_); simp -implicitDefEqProofs (maxSteps := 1000000) (disch := omega) only [go_sem, wrap64, Int.tdiv_eq_ediv_of_nonneg, Int.tmod_eq_emod_of_nonneg, Nat.reduceAdd, Nat.reduceMul, Nat.reduceEqDiff, Nat.reduceLT, Nat.reduceLeDiff, Int.reduceEq, Int.reduceNeg, Int.reduceToNat, reduceCtorEq, eq_self, Bool.false_eq_true, Bool.true_eq_false, ↓reduceIte, Int.reduceBNe])
      | (refine hK _ ?_; clear hK)
      | (clear hK; refine hK _ ?_; clear hK)
      | (clear hK; clear hK; refine hK _ ?_; clear hK)
      | (clear hK; clear hK; clear hK; refine hK _ ?_; clear hK)
      | (refine AWp.cond ?_; simp -implicitDefEqProofs (maxSteps := 1000000) (disch := omega) only [go_sem, wrap64, Int.tdiv_eq_ediv_of_nonneg, Int.tmod_eq_emod_of_nonneg, Nat.reduceAdd, Nat.reduceMul, Nat.reduceEqDiff, Nat.reduceLT, Nat.reduceLeDiff, Int.reduceEq, Int.reduceNeg, Int.reduceToNat, reduceCtorEq, eq_self, Bool.false_eq_true, Bool.true_eq_false, ↓reduceIte, Int.reduceBNe]; try (refine ⟨fun hlt => ?_, fun hlt => ?_⟩ <;> (try simp only [decide_eq_true_eq, decide_eq_false_iff_not, beq_iff_eq, bne_iff_ne, ne_eq, beq_eq_false_iff_ne, bne_eq_false_iff_eq, Bool.true_eq_false, Bool.false_eq_true, Int.not_lt, Int.not_le, Decidable.not_not, gt_iff_lt, ge_iff_le, reduceCtorEq] at hlt) <;> (try exact hlt.elim)))
      | (refine AWp.block ?_)
      | ((first | refine gdO_split (fun hlt => ?_) (fun hlt => ?_) | refine tkO_split (fun hlt => ?_) (fun hlt => ?_) | refine opO_split (fun hlt => ?_) (fun hlt => ?_)) <;> have hgd := hlt <;> (try simp only [decide_eq_true_eq, decide_eq_false_iff_not, beq_iff_eq, bne_iff_ne, ne_eq, beq_eq_false_iff_ne, bne_eq_false_iff_eq, Bool.not_eq_true, Bool.not_eq_false, Bool.not_eq_eq_eq_not, Int.not_lt, Int.not_le, Decidable.not_not, gt_iff_lt, ge_iff_le] at hlt) <;> (simp -implicitDefEqProofs (maxSteps := 1000000) (disch := omega) only [go_sem, wrap64, Int.tdiv_eq_ediv_of_nonneg, Int.tmod_eq_emod_of_nonneg, Nat.reduceAdd, Nat.reduceMul, Nat.reduceEqDiff, Nat.reduceLT, Nat.reduceLeDiff, Int.reduceEq, Int.reduceNeg, Int.reduceToNat, reduceCtorEq, eq_self, Bool.false_eq_true, Bool.true_eq_false, ↓reduceIte, Int.reduceBNe, hgd]) <;> clear hgd)
      | (with_reducible refine And.intro ?_ ?_; · first | omega | assumption | exact ⟨_, _, rfl, rfl⟩)
      | fail
    all_goals first | rfl | contradiction
theorem same_P (p q : Int × Int) (hp : okP p) (hq : okP q) : PC Tryz.prog 26 [GP p, GP q] (B (decide (p = q))) := by
  have h := same_Z p.1 q.1 p.2 q.2 (Nat.le_trans hp (by decide)) (Nat.le_trans hq (by decide))
  rwa [show decide (p.2 = q.2 ∧ p.1 = q.1) = decide (p = q) by rw [decide_eq_decide, Prod.ext_iff]; exact And.comm] at h
theorem agree_P (p q : Int × Int) (hp : okP p) (hq : okP q) : PC Tryz.prog 31 [GP p, GP q] (B (decide (p.2 = 0 ∧ q.2 = 0 → p.1 = q.1))) := by
  obtain ⟨x, e⟩ := p
  obtain ⟨y, f⟩ := q
  have h := Same_Z x y (Nat.le_trans hp (by decide)) (Nat.le_trans hq (by decide))
  simp only [GP, GZ, Gr]
  refine PCr.pc (PCr.of tab_ok Tryz.func31 rfl rfl rfl fun c hc hm => ?_)
  rw [show Tryz.f31.ntmps = _ from Tryz.ntmps31] at hc
  simp only [Tryz.f31]
  repeat' first
    | (refine AWp.seq fun K hK => ?_)
    | ((first | refine AWp.region (by rw [hc]; rfl) ?_ | refine AWp.skip ?_ | refine AWp.exit ?_ | refine AWp.label ?_ | refine AWp.ret ?_ | refine appK_g ?_); simp -implicitDefEqProofs (maxSteps := 1000000) (disch := omega) only [go_sem, wrap64, Int.tdiv_eq_ediv_of_nonneg, Int.tmod_eq_emod_of_nonneg, Nat.reduceAdd, Nat.reduceMul, Nat.reduceEqDiff, Nat.reduceLT, Nat.reduceLeDiff, Int.reduceEq, Int.reduceNeg, Int.reduceToNat, reduceCtorEq, eq_self, Bool.false_eq_true, Bool.true_eq_false, ↓reduceIte, Int.reduceBNe])
    | (refine hK _ ?_; clear hK)
    | (clear hK; refine hK _ ?_; clear hK)
    | (clear hK; clear hK; refine hK _ ?_; clear hK)
    | (clear hK; clear hK; clear hK; refine hK _ ?_; clear hK)
    | (refine AWp.cond ?_; simp -implicitDefEqProofs (maxSteps := 1000000) (disch := omega) only [go_sem, wrap64, Int.tdiv_eq_ediv_of_nonneg, Int.tmod_eq_emod_of_nonneg, Nat.reduceAdd, Nat.reduceMul, Nat.reduceEqDiff, Nat.reduceLT, Nat.reduceLeDiff, Int.reduceEq, Int.reduceNeg, Int.reduceToNat, reduceCtorEq, eq_self, Bool.false_eq_true, Bool.true_eq_false, ↓reduceIte, Int.reduceBNe]; try (refine ⟨fun hlt => ?_, fun hlt => ?_⟩ <;> (try simp only [decide_eq_true_eq, decide_eq_false_iff_not, beq_iff_eq, bne_iff_ne, ne_eq, beq_eq_false_iff_ne, bne_eq_false_iff_eq, Bool.true_eq_false, Bool.false_eq_true, Int.not_lt, Int.not_le, Decidable.not_not, gt_iff_lt, ge_iff_le, reduceCtorEq] at hlt) <;> (try exact hlt.elim)))
    | (refine AWp.block ?_)
    | ((first | refine gdO_split (fun hlt => ?_) (fun hlt => ?_) | refine tkO_split (fun hlt => ?_) (fun hlt => ?_) | refine opO_split (fun hlt => ?_) (fun hlt => ?_)) <;> have hgd := hlt <;> (try simp only [decide_eq_true_eq, decide_eq_false_iff_not, beq_iff_eq, bne_iff_ne, ne_eq, beq_eq_false_iff_ne, bne_eq_false_iff_eq, Bool.not_eq_true, Bool.not_eq_false, Bool.not_eq_eq_eq_not, Int.not_lt, Int.not_le, Decidable.not_not, gt_iff_lt, ge_iff_le] at hlt) <;> (simp -implicitDefEqProofs (maxSteps := 1000000) (disch := omega) only [go_sem, wrap64, Int.tdiv_eq_ediv_of_nonneg, Int.tmod_eq_emod_of_nonneg, Nat.reduceAdd, Nat.reduceMul, Nat.reduceEqDiff, Nat.reduceLT, Nat.reduceLeDiff, Int.reduceEq, Int.reduceNeg, Int.reduceToNat, reduceCtorEq, eq_self, Bool.false_eq_true, Bool.true_eq_false, ↓reduceIte, Int.reduceBNe, hgd]) <;> clear hgd)
    | (with_reducible refine And.intro ?_ ?_; · first | omega | assumption | exact ⟨_, _, rfl, rfl⟩)
    | ((first | refine ⟨_, h, ?_⟩); simp -implicitDefEqProofs (maxSteps := 1000000) (disch := omega) only [go_sem, wrap64, Int.tdiv_eq_ediv_of_nonneg, Int.tmod_eq_emod_of_nonneg, Nat.reduceAdd, Nat.reduceMul, Nat.reduceEqDiff, Nat.reduceLT, Nat.reduceLeDiff, Int.reduceEq, Int.reduceNeg, Int.reduceToNat, reduceCtorEq, eq_self, Bool.false_eq_true, Bool.true_eq_false, ↓reduceIte, Int.reduceBNe])
    | fail
  all_goals first
    | (refine (decide_eq_true ?_).symm; rintro ⟨h1, h2⟩; contradiction)
    | (rw [decide_eq_decide]; exact ⟨fun h _ => h, fun h => h ⟨by assumption, by assumption⟩⟩)
theorem smaller_Z (x y : Int) (lx : lenZ x ≤ 1000000) (ly : lenZ y ≤ 1000000) : PC Tryz.prog 35 [Z x, Z y] (B (decide (x.natAbs < y.natAbs))) := by
  have h := Compare_Z x.natAbs y.natAbs (by unfold lenZ at *; rwa [Int.natAbs_natCast]) (by unfold lenZ at *; rwa [Int.natAbs_natCast])
  have e : ∀ n : Nat, Z (n : Int) = Zr false (D n) := fun n => by
    show Zr (decide ((n : Int) < 0)) (D (n : Int).natAbs) = _
    rw [Int.natAbs_natCast, decide_eq_false (by omega)]
  rw [e, e] at h
  refine PCr.pc (PCr.of tab_ok Tryz.func35 rfl rfl rfl fun c hc hm => ?_)
  rw [show Tryz.f35.ntmps = _ from Tryz.ntmps35] at hc
  simp only [Tryz.f35]
  repeat' first
    | (refine AWp.seq fun K hK => ?_)
    | ((first | refine AWp.region (by rw [hc]; rfl) ?_ | refine AWp.skip ?_ | refine AWp.exit ?_ | refine AWp.label ?_ | refine AWp.ret ?_ | refine appK_g ?_); simp -implicitDefEqProofs (maxSteps := 1000000) (disch := omega) only [go_sem, wrap64, Int.tdiv_eq_ediv_of_nonneg, Int.tmod_eq_emod_of_nonneg, Nat.reduceAdd, Nat.reduceMul, Nat.reduceEqDiff, Nat.reduceLT, Nat.reduceLeDiff, Int.reduceEq, Int.reduceNeg, Int.reduceToNat, reduceCtorEq, eq_self, Bool.false_eq_true, Bool.true_eq_false, ↓reduceIte])
    | (refine hK _ ?_; clear hK)
    | (clear hK; refine hK _ ?_; clear hK)
    | (clear hK; clear hK; refine hK _ ?_; clear hK)
    | (clear hK; clear hK; clear hK; refine hK _ ?_; clear hK)
    | (refine AWp.cond ?_; simp -implicitDefEqProofs (maxSteps := 1000000) (disch := omega) only [go_sem, wrap64, Int.tdiv_eq_ediv_of_nonneg, Int.tmod_eq_emod_of_nonneg, Nat.reduceAdd, Nat.reduceMul, Nat.reduceEqDiff, Nat.reduceLT, Nat.reduceLeDiff, Int.reduceEq, Int.reduceNeg, Int.reduceToNat, reduceCtorEq, eq_self, Bool.false_eq_true, Bool.true_eq_false, ↓reduceIte]; try (refine ⟨fun hlt => ?_, fun hlt => ?_⟩ <;> (try simp only [decide_eq_true_eq, decide_eq_false_iff_not, beq_iff_eq, bne_iff_ne, ne_eq, beq_eq_false_iff_ne, bne_eq_false_iff_eq, Bool.true_eq_false, Bool.false_eq_true, Int.not_lt, Int.not_le, Decidable.not_not, gt_iff_lt, ge_iff_le, reduceCtorEq] at hlt) <;> (try exact hlt.elim)))
    | (refine AWp.block ?_)
    | ((first | refine gdO_split (fun hlt => ?_) (fun hlt => ?_) | refine tkO_split (fun hlt => ?_) (fun hlt => ?_) | refine opO_split (fun hlt => ?_) (fun hlt => ?_)) <;> have hgd := hlt <;> (try simp only [decide_eq_true_eq, decide_eq_false_iff_not, beq_iff_eq, bne_iff_ne, ne_eq, beq_eq_false_iff_ne, bne_eq_false_iff_eq, Bool.not_eq_true, Bool.not_eq_false, Bool.not_eq_eq_eq_not, Int.not_lt, Int.not_le, Decidable.not_not, gt_iff_lt, ge_iff_le] at hlt) <;> (simp -implicitDefEqProofs (maxSteps := 1000000) (disch := omega) only [go_sem, wrap64, Int.tdiv_eq_ediv_of_nonneg, Int.tmod_eq_emod_of_nonneg, Nat.reduceAdd, Nat.reduceMul, Nat.reduceEqDiff, Nat.reduceLT, Nat.reduceLeDiff, Int.reduceEq, Int.reduceNeg, Int.reduceToNat, reduceCtorEq, eq_self, Bool.false_eq_true, Bool.true_eq_false, ↓reduceIte, hgd]) <;> clear hgd)
    | (with_reducible refine And.intro ?_ ?_; · first | omega | assumption | exact ⟨_, _, rfl, rfl⟩)
    | ((first | refine ⟨_, h, ?_⟩); simp -implicitDefEqProofs (maxSteps := 1000000) (disch := omega) only [go_sem, wrap64, Int.tdiv_eq_ediv_of_nonneg, Int.tmod_eq_emod_of_nonneg, Nat.reduceAdd, Nat.reduceMul, Nat.reduceEqDiff, Nat.reduceLT, Nat.reduceLeDiff, Int.reduceEq, Int.reduceNeg, Int.reduceToNat, reduceCtorEq, eq_self, Bool.false_eq_true, Bool.true_eq_false, ↓reduceIte])
    | fail
  rw [decide_eq_decide]
  simp only [cmpI]; (repeat' split) <;> omega
end Go.Proofs.YthhjcfejgoddlaaGreatDoor
end

section
set_option linter.unusedSimpArgs false
set_option linter.unusedVariables false
set_option maxRecDepth 100000
namespace Go.Proofs.YthhjcfejgoddlaaGreatDoor
open Go Go.Abs

theorem okI_def (neg : Bool) (d : List Int) : okI neg d ↔ d.length ≤ 40 ∧ (d.length = 0 → neg = false) ∧ (0 < d.length → d.getD (d.length - 1) 0 ≠ 0) ∧ ∀ j, j < d.length → 0 ≤ d.getD j 0 ∧ d.getD j 0 < 1000000000 := by
  rw [okI_iff]
  have e : ((d.any fun x => decide (x < 0 ∨ 1000000000 ≤ x)) = false) ↔ ∀ j, j < d.length → 0 ≤ d.getD j 0 ∧ d.getD j 0 < 1000000000 := by
    rw [List.any_eq_false]
    constructor
    · intro h j hj
      have h1 := h (d.getD j 0) (by simp [hj])
      simp only [decide_eq_true_eq] at h1; omega
    · intro h x hx
      obtain ⟨j, hj, rfl⟩ := List.getElem_of_mem hx
      have h1 := h j hj
      simp only [List.getD, List.getElem?_eq_getElem hj, Option.getD_some] at h1
      simp only [decide_eq_true_eq]; omega
  rw [e]
def F77 (neg : Bool) (d : List Int) (i : Nat) : St := ⟨[(1, .ptr 0 0), (3, I d.length), (4, I i)], [(0, .box [B neg, L d] false)], 1, 0⟩
theorem Is_f (d : List Int) : PC Tryz.prog 77 [Zr false d] (B (decide (okI false d))) := by
  refine PCr.pc (PCr.of tab_ok Tryz.func77 rfl rfl rfl fun c hc hm => ?_)
  rw [show Tryz.f77.ntmps = _ from Tryz.ntmps77] at hc
  simp only [Tryz.f77]
  repeat' first
    | (refine AWp.seq fun K hK => ?_)
    | ((first | refine AWp.region (by rw [hc]; rfl) ?_ | refine AWp.skip ?_ | refine AWp.exit ?_ | refine AWp.label ?_ | refine AWp.ret ?_ | refine appK_g ?_); simp -implicitDefEqProofs (maxSteps := 1000000) (disch := omega) only [go_sem, wrap64, Int.tdiv_eq_ediv_of_nonneg, Int.tmod_eq_emod_of_nonneg, Nat.reduceAdd, Nat.reduceMul, Nat.reduceEqDiff, Nat.reduceLT, Nat.reduceLeDiff, Int.reduceEq, Int.reduceNeg, Int.reduceToNat, reduceCtorEq, eq_self, Bool.false_eq_true, Bool.true_eq_false, ↓reduceIte])
    | (refine hK _ ?_; clear hK)
    | (clear hK; refine hK _ ?_; clear hK)
    | (clear hK; clear hK; refine hK _ ?_; clear hK)
    | (clear hK; clear hK; clear hK; refine hK _ ?_; clear hK)
    | (refine AWp.cond ?_; simp -implicitDefEqProofs (maxSteps := 1000000) (disch := omega) only [go_sem, wrap64, Int.tdiv_eq_ediv_of_nonneg, Int.tmod_eq_emod_of_nonneg, Nat.reduceAdd, Nat.reduceMul, Nat.reduceEqDiff, Nat.reduceLT, Nat.reduceLeDiff, Int.reduceEq, Int.reduceNeg, Int.reduceToNat, reduceCtorEq, eq_self, Bool.false_eq_true, Bool.true_eq_false, ↓reduceIte]; try (refine ⟨fun hlt => ?_, fun hlt => ?_⟩ <;> (try simp only [decide_eq_true_eq, decide_eq_false_iff_not, beq_iff_eq, bne_iff_ne, ne_eq, beq_eq_false_iff_ne, bne_eq_false_iff_eq, Bool.true_eq_false, Bool.false_eq_true, Int.not_lt, Int.not_le, Decidable.not_not, gt_iff_lt, ge_iff_le, reduceCtorEq] at hlt) <;> (try exact hlt.elim)))
    | (refine AWp.block ?_)
    | ((first | refine gdO_split (fun hlt => ?_) (fun hlt => ?_) | refine tkO_split (fun hlt => ?_) (fun hlt => ?_) | refine opO_split (fun hlt => ?_) (fun hlt => ?_)) <;> have hgd := hlt <;> (try simp only [decide_eq_true_eq, decide_eq_false_iff_not, beq_iff_eq, bne_iff_ne, ne_eq, beq_eq_false_iff_ne, bne_eq_false_iff_eq, Bool.not_eq_true, Bool.not_eq_false, Bool.not_eq_eq_eq_not, Int.not_lt, Int.not_le, Decidable.not_not, gt_iff_lt, ge_iff_le] at hlt) <;> (simp -implicitDefEqProofs (maxSteps := 1000000) (disch := omega) only [go_sem, wrap64, Int.tdiv_eq_ediv_of_nonneg, Int.tmod_eq_emod_of_nonneg, Nat.reduceAdd, Nat.reduceMul, Nat.reduceEqDiff, Nat.reduceLT, Nat.reduceLeDiff, Int.reduceEq, Int.reduceNeg, Int.reduceToNat, reduceCtorEq, eq_self, Bool.false_eq_true, Bool.true_eq_false, ↓reduceIte, hgd]) <;> clear hgd)
    | (with_reducible refine And.intro ?_ ?_; · first | omega | assumption | exact ⟨_, _, rfl, rfl⟩)
    | fail
  all_goals try (exfalso; omega)
  all_goals try contradiction
  all_goals try (refine (decide_eq_false ?_).symm; rw [okI_def]; rintro ⟨h1, h2, h3, h4⟩; first | omega | (exact h3 (by omega) (by assumption)) | (exact absurd (h2 (by omega)) (by decide)))
  all_goals
    refine AWp.loopInv (F77 false d) (fun i => d.length - i) (fun i => i ≤ d.length ∧ ∀ j, j < i → 0 ≤ d.getD j 0 ∧ d.getD j 0 < 1000000000) 0 ⟨Nat.zero_le _, fun j h => absurd h (Nat.not_lt_zero _)⟩ (Sub.of0 hm id rfl ?_ ?_ (fun _ _ _ _ h => h)) ?_
    all_goals (try dsimp only)
    all_goals (first | omega | (simp -implicitDefEqProofs (maxSteps := 1000000) (disch := omega) only [F77, id, go_sem, Nat.blt_eq, Nat.reduceAdd, Nat.reduceSub, Nat.reduceEqDiff, Nat.reduceLT, ↓reduceIte, and_true, true_and, AV.dat.injEq, DV.int.injEq, DV.bool.injEq, DV.lst.injEq, eq_self_iff_true]; first | done | omega | (simp; done) | (simp; omega)) | (simp; done) | (simp; omega) | skip)
    rintro i ⟨h1, h2⟩ ih
    simp only [F77]
    repeat' first
      | (refine AWp.seq fun K hK => ?_)
      | ((first | refine AWp.region (by rw [hc]; rfl) ?_ | refine AWp.skip ?_ | refine AWp.exit ?_ | refine AWp.label ?_ | refine AWp.ret ?_ | refine appK_g ?_); simp -implicitDefEqProofs (maxSteps := 1000000) (disch := omega) only [go_sem, wrap64, Int.tdiv_eq_ediv_of_nonneg, Int.tmod_eq_emod_of_nonneg, Nat.reduceAdd, Nat.reduceMul, Nat.reduceEqDiff, Nat.reduceLT, Nat.reduceLeDiff, Int.reduceEq, Int.reduceNeg, Int.reduceToNat, reduceCtorEq, eq_self, Bool.false_eq_true, Bool.true_eq_false, ↓reduceIte])
      | (refine hK _ ?_; clear hK)
      | (clear hK; refine hK _ ?_; clear hK)
      | (clear hK; clear hK; refine hK _ ?_; clear hK)
      | (clear hK; clear hK; clear hK; refine hK _ ?_; clear hK)
      | (refine AWp.cond ?_; simp -implicitDefEqProofs (maxSteps := 1000000) (disch := omega) only [go_sem, wrap64, Int.tdiv_eq_ediv_of_nonneg, Int.tmod_eq_emod_of_nonneg, Nat.reduceAdd, Nat.reduceMul, Nat.reduceEqDiff, Nat.reduceLT, Nat.reduceLeDiff, Int.reduceEq, Int.reduceNeg, Int.reduceToNat, reduceCtorEq, eq_self, Bool.false_eq_true, Bool.true_eq_false, ↓reduceIte]; try (refine ⟨fun hlt => ?_, fun hlt => ?_⟩ <;> (try simp only [decide_eq_true_eq, decide_eq_false_iff_not, beq_iff_eq, bne_iff_ne, ne_eq, beq_eq_false_iff_ne, bne_eq_false_iff_eq, Bool.true_eq_false, Bool.false_eq_true, Int.not_lt, Int.not_le, Decidable.not_not, gt_iff_lt, ge_iff_le, reduceCtorEq] at hlt) <;> (try exact hlt.elim)))
      | (refine AWp.block ?_)
      | ((first | refine gdO_split (fun hlt => ?_) (fun hlt => ?_) | refine tkO_split (fun hlt => ?_) (fun hlt => ?_) | refine opO_split (fun hlt => ?_) (fun hlt => ?_)) <;> have hgd := hlt <;> (try simp only [decide_eq_true_eq, decide_eq_false_iff_not, beq_iff_eq, bne_iff_ne, ne_eq, beq_eq_false_iff_ne, bne_eq_false_iff_eq, Bool.not_eq_true, Bool.not_eq_false, Bool.not_eq_eq_eq_not, Int.not_lt, Int.not_le, Decidable.not_not, gt_iff_lt, ge_iff_le] at hlt) <;> (simp -implicitDefEqProofs (maxSteps := 1000000) (disch := omega) only [go_sem, wrap64, Int.tdiv_eq_ediv_of_nonneg, Int.tmod_eq_emod_of_nonneg, Nat.reduceAdd, Nat.reduceMul, Nat.reduceEqDiff, Nat.reduceLT, Nat.reduceLeDiff, Int.reduceEq, Int.reduceNeg, Int.reduceToNat, reduceCtorEq, eq_self, Bool.false_eq_true, Bool.true_eq_false, ↓reduceIte, hgd]) <;> clear hgd)
      | (with_reducible refine And.intro ?_ ?_; · first | omega | assumption | exact ⟨_, _, rfl, rfl⟩)
      | fail
    all_goals try (exfalso; omega)
    all_goals try (refine (decide_eq_false ?_).symm; rw [okI_def]; rintro ⟨k1, k2, k3, k4⟩; have := k4 i (by omega); omega)
    all_goals try (refine (decide_eq_true ?_).symm; rw [okI_def]; exact ⟨by omega, fun _ => by first | rfl | omega, fun _ => by first | assumption | omega, fun j hj => h2 j (by omega)⟩)
    all_goals
      refine ih (i + 1) _ ⟨by omega, fun j hj => ?_⟩ (by omega) (Sub.of0 hm id rfl ?_ ?_ (fun _ _ _ _ h => h))
      · by_cases h : j = i
        · subst h; exact ⟨by assumption, by assumption⟩
        · exact h2 j (by omega)
      all_goals (try dsimp only)
      all_goals (first | omega | (simp -implicitDefEqProofs (maxSteps := 1000000) (disch := omega) only [F77, id, go_sem, Nat.blt_eq, Nat.reduceAdd, Nat.reduceSub, Nat.reduceEqDiff, Nat.reduceLT, ↓reduceIte, and_true, true_and, AV.dat.injEq, DV.int.injEq, DV.bool.injEq, DV.lst.injEq, eq_self_iff_true]; first | done | omega | (simp; done) | (simp; omega)) | (simp; done) | (simp; omega) | skip)
theorem Is_t (d : List Int) : PC Tryz.prog 77 [Zr true d] (B (decide (okI true d))) := by
  refine PCr.pc (PCr.of tab_ok Tryz.func77 rfl rfl rfl fun c hc hm => ?_)
  rw [show Tryz.f77.ntmps = _ from Tryz.ntmps77] at hc
  simp only [Tryz.f77]
  repeat' first
    | (refine AWp.seq fun K hK => ?_)
    | ((first | refine AWp.region (by rw [hc]; rfl) ?_ | refine AWp.skip ?_ | refine AWp.exit ?_ | refine AWp.label ?_ | refine AWp.ret ?_ | refine appK_g ?_); simp -implicitDefEqProofs (maxSteps := 1000000) (disch := omega) only [go_sem, wrap64, Int.tdiv_eq_ediv_of_nonneg, Int.tmod_eq_emod_of_nonneg, Nat.reduceAdd, Nat.reduceMul, Nat.reduceEqDiff, Nat.reduceLT, Nat.reduceLeDiff, Int.reduceEq, Int.reduceNeg, Int.reduceToNat, reduceCtorEq, eq_self, Bool.false_eq_true, Bool.true_eq_false, ↓reduceIte])
    | (refine hK _ ?_; clear hK)
    | (clear hK; refine hK _ ?_; clear hK)
    | (clear hK; clear hK; refine hK _ ?_; clear hK)
    | (clear hK; clear hK; clear hK; refine hK _ ?_; clear hK)
    | (refine AWp.cond ?_; simp -implicitDefEqProofs (maxSteps := 1000000) (disch := omega) only [go_sem, wrap64, Int.tdiv_eq_ediv_of_nonneg, Int.tmod_eq_emod_of_nonneg, Nat.reduceAdd, Nat.reduceMul, Nat.reduceEqDiff, Nat.reduceLT, Nat.reduceLeDiff, Int.reduceEq, Int.reduceNeg, Int.reduceToNat, reduceCtorEq, eq_self, Bool.false_eq_true, Bool.true_eq_false, ↓reduceIte]; try (refine ⟨fun hlt => ?_, fun hlt => ?_⟩ <;> (try simp only [decide_eq_true_eq, decide_eq_false_iff_not, beq_iff_eq, bne_iff_ne, ne_eq, beq_eq_false_iff_ne, bne_eq_false_iff_eq, Bool.true_eq_false, Bool.false_eq_true, Int.not_lt, Int.not_le, Decidable.not_not, gt_iff_lt, ge_iff_le, reduceCtorEq] at hlt) <;> (try exact hlt.elim)))
    | (refine AWp.block ?_)
    | ((first | refine gdO_split (fun hlt => ?_) (fun hlt => ?_) | refine tkO_split (fun hlt => ?_) (fun hlt => ?_) | refine opO_split (fun hlt => ?_) (fun hlt => ?_)) <;> have hgd := hlt <;> (try simp only [decide_eq_true_eq, decide_eq_false_iff_not, beq_iff_eq, bne_iff_ne, ne_eq, beq_eq_false_iff_ne, bne_eq_false_iff_eq, Bool.not_eq_true, Bool.not_eq_false, Bool.not_eq_eq_eq_not, Int.not_lt, Int.not_le, Decidable.not_not, gt_iff_lt, ge_iff_le] at hlt) <;> (simp -implicitDefEqProofs (maxSteps := 1000000) (disch := omega) only [go_sem, wrap64, Int.tdiv_eq_ediv_of_nonneg, Int.tmod_eq_emod_of_nonneg, Nat.reduceAdd, Nat.reduceMul, Nat.reduceEqDiff, Nat.reduceLT, Nat.reduceLeDiff, Int.reduceEq, Int.reduceNeg, Int.reduceToNat, reduceCtorEq, eq_self, Bool.false_eq_true, Bool.true_eq_false, ↓reduceIte, hgd]) <;> clear hgd)
    | (with_reducible refine And.intro ?_ ?_; · first | omega | assumption | exact ⟨_, _, rfl, rfl⟩)
    | fail
  all_goals try (exfalso; omega)
  all_goals try contradiction
  all_goals try (refine (decide_eq_false ?_).symm; rw [okI_def]; rintro ⟨h1, h2, h3, h4⟩; first | omega | (exact h3 (by omega) (by assumption)) | (exact absurd (h2 (by omega)) (by decide)))
  all_goals
    refine AWp.loopInv (F77 true d) (fun i => d.length - i) (fun i => i ≤ d.length ∧ ∀ j, j < i → 0 ≤ d.getD j 0 ∧ d.getD j 0 < 1000000000) 0 ⟨Nat.zero_le _, fun j h => absurd h (Nat.not_lt_zero _)⟩ (Sub.of0 hm id rfl ?_ ?_ (fun _ _ _ _ h => h)) ?_
    all_goals (try dsimp only)
    all_goals (first | omega | (simp -implicitDefEqProofs (maxSteps := 1000000) (disch := omega) only [F77, id, go_sem, Nat.blt_eq, Nat.reduceAdd, Nat.reduceSub, Nat.reduceEqDiff, Nat.reduceLT, ↓reduceIte, and_true, true_and, AV.dat.injEq, DV.int.injEq, DV.bool.injEq, DV.lst.injEq, eq_self_iff_true]; first | done | omega | (simp; done) | (simp; omega)) | (simp; done) | (simp; omega) | skip)
    rintro i ⟨h1, h2⟩ ih
    simp only [F77]
    repeat' first
      | (refine AWp.seq fun K hK => ?_)
      | ((first | refine AWp.region (by rw [hc]; rfl) ?_ | refine AWp.skip ?_ | refine AWp.exit ?_ | refine AWp.label ?_ | refine AWp.ret ?_ | refine appK_g ?_); simp -implicitDefEqProofs (maxSteps := 1000000) (disch := omega) only [go_sem, wrap64, Int.tdiv_eq_ediv_of_nonneg, Int.tmod_eq_emod_of_nonneg, Nat.reduceAdd, Nat.reduceMul, Nat.reduceEqDiff, Nat.reduceLT, Nat.reduceLeDiff, Int.reduceEq, Int.reduceNeg, Int.reduceToNat, reduceCtorEq, eq_self, Bool.false_eq_true, Bool.true_eq_false, ↓reduceIte])
      | (refine hK _ ?_; clear hK)
      | (clear hK; refine hK _ ?_; clear hK)
      | (clear hK; clear hK; refine hK _ ?_; clear hK)
      | (clear hK; clear hK; clear hK; refine hK _ ?_; clear hK)
      | (refine AWp.cond ?_; simp -implicitDefEqProofs (maxSteps := 1000000) (disch := omega) only [go_sem, wrap64, Int.tdiv_eq_ediv_of_nonneg, Int.tmod_eq_emod_of_nonneg, Nat.reduceAdd, Nat.reduceMul, Nat.reduceEqDiff, Nat.reduceLT, Nat.reduceLeDiff, Int.reduceEq, Int.reduceNeg, Int.reduceToNat, reduceCtorEq, eq_self, Bool.false_eq_true, Bool.true_eq_false, ↓reduceIte]; try (refine ⟨fun hlt => ?_, fun hlt => ?_⟩ <;> (try simp only [decide_eq_true_eq, decide_eq_false_iff_not, beq_iff_eq, bne_iff_ne, ne_eq, beq_eq_false_iff_ne, bne_eq_false_iff_eq, Bool.true_eq_false, Bool.false_eq_true, Int.not_lt, Int.not_le, Decidable.not_not, gt_iff_lt, ge_iff_le, reduceCtorEq] at hlt) <;> (try exact hlt.elim)))
      | (refine AWp.block ?_)
      | ((first | refine gdO_split (fun hlt => ?_) (fun hlt => ?_) | refine tkO_split (fun hlt => ?_) (fun hlt => ?_) | refine opO_split (fun hlt => ?_) (fun hlt => ?_)) <;> have hgd := hlt <;> (try simp only [decide_eq_true_eq, decide_eq_false_iff_not, beq_iff_eq, bne_iff_ne, ne_eq, beq_eq_false_iff_ne, bne_eq_false_iff_eq, Bool.not_eq_true, Bool.not_eq_false, Bool.not_eq_eq_eq_not, Int.not_lt, Int.not_le, Decidable.not_not, gt_iff_lt, ge_iff_le] at hlt) <;> (simp -implicitDefEqProofs (maxSteps := 1000000) (disch := omega) only [go_sem, wrap64, Int.tdiv_eq_ediv_of_nonneg, Int.tmod_eq_emod_of_nonneg, Nat.reduceAdd, Nat.reduceMul, Nat.reduceEqDiff, Nat.reduceLT, Nat.reduceLeDiff, Int.reduceEq, Int.reduceNeg, Int.reduceToNat, reduceCtorEq, eq_self, Bool.false_eq_true, Bool.true_eq_false, ↓reduceIte, hgd]) <;> clear hgd)
      | (with_reducible refine And.intro ?_ ?_; · first | omega | assumption | exact ⟨_, _, rfl, rfl⟩)
      | fail
    all_goals try (exfalso; omega)
    all_goals try (refine (decide_eq_false ?_).symm; rw [okI_def]; rintro ⟨k1, k2, k3, k4⟩; have := k4 i (by omega); omega)
    all_goals try (refine (decide_eq_true ?_).symm; rw [okI_def]; exact ⟨by omega, fun _ => by first | rfl | omega, fun _ => by first | assumption | omega, fun j hj => h2 j (by omega)⟩)
    all_goals
      refine ih (i + 1) _ ⟨by omega, fun j hj => ?_⟩ (by omega) (Sub.of0 hm id rfl ?_ ?_ (fun _ _ _ _ h => h))
      · by_cases h : j = i
        · subst h; exact ⟨by assumption, by assumption⟩
        · exact h2 j (by omega)
      all_goals (try dsimp only)
      all_goals (first | omega | (simp -implicitDefEqProofs (maxSteps := 1000000) (disch := omega) only [F77, id, go_sem, Nat.blt_eq, Nat.reduceAdd, Nat.reduceSub, Nat.reduceEqDiff, Nat.reduceLT, ↓reduceIte, and_true, true_and, AV.dat.injEq, DV.int.injEq, DV.bool.injEq, DV.lst.injEq, eq_self_iff_true]; first | done | omega | (simp; done) | (simp; omega)) | (simp; done) | (simp; omega) | skip)
theorem Is_pc (neg : Bool) (d : List Int) : PC Tryz.prog 77 [Zr neg d] (B (decide (okI neg d))) := by
  cases neg
  · exact Is_f d
  · exact Is_t d

theorem right1_pc (neg : Bool) (d : List Int) : PC Tryz.prog 76 [Zr neg d] (B (!decide (okI neg d))) := by
  have h := Is_pc neg d
  refine PCr.pc (PCr.of tab_ok Tryz.func76 rfl rfl rfl fun c hc hm => ?_)
  rw [show Tryz.f76.ntmps = _ from Tryz.ntmps76] at hc
  simp only [Tryz.f76]
  repeat' first
    | (refine AWp.seq fun K hK => ?_)
    | ((first | refine AWp.region (by rw [hc]; rfl) ?_ | refine AWp.skip ?_ | refine AWp.exit ?_ | refine AWp.label ?_ | refine AWp.ret ?_ | refine appK_g ?_); simp -implicitDefEqProofs (maxSteps := 1000000) (disch := omega) only [go_sem, wrap64, Int.tdiv_eq_ediv_of_nonneg, Int.tmod_eq_emod_of_nonneg, Nat.reduceAdd, Nat.reduceMul, Nat.reduceEqDiff, Nat.reduceLT, Nat.reduceLeDiff, Int.reduceEq, Int.reduceNeg, Int.reduceToNat, reduceCtorEq, eq_self, Bool.false_eq_true, Bool.true_eq_false, ↓reduceIte])
    | (refine hK _ ?_; clear hK)
    | (clear hK; refine hK _ ?_; clear hK)
    | (clear hK; clear hK; refine hK _ ?_; clear hK)
    | (clear hK; clear hK; clear hK; refine hK _ ?_; clear hK)
    | (refine AWp.cond ?_; simp -implicitDefEqProofs (maxSteps := 1000000) (disch := omega) only [go_sem, wrap64, Int.tdiv_eq_ediv_of_nonneg, Int.tmod_eq_emod_of_nonneg, Nat.reduceAdd, Nat.reduceMul, Nat.reduceEqDiff, Nat.reduceLT, Nat.reduceLeDiff, Int.reduceEq, Int.reduceNeg, Int.reduceToNat, reduceCtorEq, eq_self, Bool.false_eq_true, Bool.true_eq_false, ↓reduceIte]; try (refine ⟨fun hlt => ?_, fun hlt => ?_⟩ <;> (try simp only [decide_eq_true_eq, decide_eq_false_iff_not, beq_iff_eq, bne_iff_ne, ne_eq, beq_eq_false_iff_ne, bne_eq_false_iff_eq, Bool.true_eq_false, Bool.false_eq_true, Int.not_lt, Int.not_le, Decidable.not_not, gt_iff_lt, ge_iff_le, reduceCtorEq] at hlt) <;> (try exact hlt.elim)))
    | (refine AWp.block ?_)
    | ((first | refine gdO_split (fun hlt => ?_) (fun hlt => ?_) | refine tkO_split (fun hlt => ?_) (fun hlt => ?_) | refine opO_split (fun hlt => ?_) (fun hlt => ?_)) <;> have hgd := hlt <;> (try simp only [decide_eq_true_eq, decide_eq_false_iff_not, beq_iff_eq, bne_iff_ne, ne_eq, beq_eq_false_iff_ne, bne_eq_false_iff_eq, Bool.not_eq_true, Bool.not_eq_false, Bool.not_eq_eq_eq_not, Int.not_lt, Int.not_le, Decidable.not_not, gt_iff_lt, ge_iff_le] at hlt) <;> (simp -implicitDefEqProofs (maxSteps := 1000000) (disch := omega) only [go_sem, wrap64, Int.tdiv_eq_ediv_of_nonneg, Int.tmod_eq_emod_of_nonneg, Nat.reduceAdd, Nat.reduceMul, Nat.reduceEqDiff, Nat.reduceLT, Nat.reduceLeDiff, Int.reduceEq, Int.reduceNeg, Int.reduceToNat, reduceCtorEq, eq_self, Bool.false_eq_true, Bool.true_eq_false, ↓reduceIte, hgd]) <;> clear hgd)
    | (with_reducible refine And.intro ?_ ?_; · first | omega | assumption | exact ⟨_, _, rfl, rfl⟩)
    | ((first | refine ⟨_, h, ?_⟩); simp -implicitDefEqProofs (maxSteps := 1000000) (disch := omega) only [go_sem, wrap64, Int.tdiv_eq_ediv_of_nonneg, Int.tmod_eq_emod_of_nonneg, Nat.reduceAdd, Nat.reduceMul, Nat.reduceEqDiff, Nat.reduceLT, Nat.reduceLeDiff, Int.reduceEq, Int.reduceNeg, Int.reduceToNat, reduceCtorEq, eq_self, Bool.false_eq_true, Bool.true_eq_false, ↓reduceIte])
    | fail
  all_goals try rfl
  rw [decide_eq_false (fun h => by have := h.1; omega)]; rfl

def F122 (zs : List (Bool × List Int)) (f : FuncId) (i : Nat) : St := ⟨[(0, LZ zs), (1, .dat (.fn f [])), (7, I zs.length), (8, I i)], [], 0, 0⟩
theorem idxZ_pc (zs : List (Bool × List Int)) (f : FuncId) (p : Bool × List Int → Bool) (lz : zs.length ≤ 1000000) (hp : ∀ z, PC Tryz.prog f [Zr z.1 z.2] (B (p z))) : PC Tryz.prog 122 [LZ zs, .dat (.fn f [])] (I (idx p zs)) := by
  refine PCr.pc (PCr.of tab_ok Tryz.func122 rfl rfl rfl fun c hc hm => ?_)
  rw [show Tryz.f122.ntmps = _ from Tryz.ntmps122] at hc
  simp only [Tryz.f122]
  repeat' first
    | (refine AWp.seq fun K hK => ?_)
    | ((first | refine AWp.region (by rw [hc]; rfl) ?_ | refine AWp.skip ?_ | refine AWp.exit ?_ | refine AWp.label ?_ | refine AWp.ret ?_ | refine appK_g ?_); simp -implicitDefEqProofs (maxSteps := 1000000) (disch := omega) only [go_sem, wrap64, Int.tdiv_eq_ediv_of_nonneg, Int.tmod_eq_emod_of_nonneg, Nat.reduceAdd, Nat.reduceMul, Nat.reduceEqDiff, Nat.reduceLT, Nat.reduceLeDiff, Int.reduceEq, Int.reduceNeg, Int.reduceToNat, reduceCtorEq, eq_self, Bool.false_eq_true, Bool.true_eq_false, ↓reduceIte])
    | (refine hK _ ?_; clear hK)
    | (clear hK; refine hK _ ?_; clear hK)
    | (clear hK; clear hK; refine hK _ ?_; clear hK)
    | (clear hK; clear hK; clear hK; refine hK _ ?_; clear hK)
    | (refine AWp.cond ?_; simp -implicitDefEqProofs (maxSteps := 1000000) (disch := omega) only [go_sem, wrap64, Int.tdiv_eq_ediv_of_nonneg, Int.tmod_eq_emod_of_nonneg, Nat.reduceAdd, Nat.reduceMul, Nat.reduceEqDiff, Nat.reduceLT, Nat.reduceLeDiff, Int.reduceEq, Int.reduceNeg, Int.reduceToNat, reduceCtorEq, eq_self, Bool.false_eq_true, Bool.true_eq_false, ↓reduceIte]; try (refine ⟨fun hlt => ?_, fun hlt => ?_⟩ <;> (try simp only [decide_eq_true_eq, decide_eq_false_iff_not, beq_iff_eq, bne_iff_ne, ne_eq, beq_eq_false_iff_ne, bne_eq_false_iff_eq, Bool.true_eq_false, Bool.false_eq_true, Int.not_lt, Int.not_le, Decidable.not_not, gt_iff_lt, ge_iff_le, reduceCtorEq] at hlt) <;> (try exact hlt.elim)))
    | (refine AWp.block ?_)
    | ((first | refine gdO_split (fun hlt => ?_) (fun hlt => ?_) | refine tkO_split (fun hlt => ?_) (fun hlt => ?_) | refine opO_split (fun hlt => ?_) (fun hlt => ?_)) <;> have hgd := hlt <;> (try simp only [decide_eq_true_eq, decide_eq_false_iff_not, beq_iff_eq, bne_iff_ne, ne_eq, beq_eq_false_iff_ne, bne_eq_false_iff_eq, Bool.not_eq_true, Bool.not_eq_false, Bool.not_eq_eq_eq_not, Int.not_lt, Int.not_le, Decidable.not_not, gt_iff_lt, ge_iff_le] at hlt) <;> (simp -implicitDefEqProofs (maxSteps := 1000000) (disch := omega) only [go_sem, wrap64, Int.tdiv_eq_ediv_of_nonneg, Int.tmod_eq_emod_of_nonneg, Nat.reduceAdd, Nat.reduceMul, Nat.reduceEqDiff, Nat.reduceLT, Nat.reduceLeDiff, Int.reduceEq, Int.reduceNeg, Int.reduceToNat, reduceCtorEq, eq_self, Bool.false_eq_true, Bool.true_eq_false, ↓reduceIte, hgd]) <;> clear hgd)
    | (with_reducible refine And.intro ?_ ?_; · first | omega | assumption | exact ⟨_, _, rfl, rfl⟩)
    | fail
  refine AWp.loopInv (F122 zs f) (fun i => zs.length - i) (fun i => i ≤ zs.length ∧ ∀ j, j < i → p (zs.getD j (false, [])) = false) 0 ⟨Nat.zero_le _, fun j h => absurd h (Nat.not_lt_zero _)⟩ (Sub.of0 hm id rfl ?_ ?_ (fun _ _ _ _ h => h)) ?_
  all_goals (try dsimp only)
  all_goals (first | omega | (simp -implicitDefEqProofs (maxSteps := 1000000) (disch := omega) only [F122, id, go_sem, Nat.blt_eq, Nat.reduceAdd, Nat.reduceSub, Nat.reduceEqDiff, Nat.reduceLT, ↓reduceIte, and_true, true_and, AV.dat.injEq, DV.int.injEq, DV.bool.injEq, DV.lst.injEq, eq_self_iff_true]; first | done | omega | (simp; done) | (simp; omega)) | (simp; done) | (simp; omega) | skip)
  rintro i ⟨h1, h2⟩ ih
  simp only [F122]
  generalize hz : zs.getD i (false, []) = z at *
  have hpi := hp z
  repeat' first
    | (refine AWp.seq fun K hK => ?_)
    | ((first | refine AWp.region (by rw [hc]; rfl) ?_ | refine AWp.skip ?_ | refine AWp.exit ?_ | refine AWp.label ?_ | refine AWp.ret ?_ | refine appK_g ?_); simp -implicitDefEqProofs (maxSteps := 1000000) (disch := omega) only [go_sem, wrap64, Int.tdiv_eq_ediv_of_nonneg, Int.tmod_eq_emod_of_nonneg, Nat.reduceAdd, Nat.reduceMul, Nat.reduceEqDiff, Nat.reduceLT, Nat.reduceLeDiff, Int.reduceEq, Int.reduceNeg, Int.reduceToNat, reduceCtorEq, eq_self, Bool.false_eq_true, Bool.true_eq_false, ↓reduceIte, hz])
    | (refine hK _ ?_; clear hK)
    | (clear hK; refine hK _ ?_; clear hK)
    | (clear hK; clear hK; refine hK _ ?_; clear hK)
    | (clear hK; clear hK; clear hK; refine hK _ ?_; clear hK)
    | (refine AWp.cond ?_; simp -implicitDefEqProofs (maxSteps := 1000000) (disch := omega) only [go_sem, wrap64, Int.tdiv_eq_ediv_of_nonneg, Int.tmod_eq_emod_of_nonneg, Nat.reduceAdd, Nat.reduceMul, Nat.reduceEqDiff, Nat.reduceLT, Nat.reduceLeDiff, Int.reduceEq, Int.reduceNeg, Int.reduceToNat, reduceCtorEq, eq_self, Bool.false_eq_true, Bool.true_eq_false, ↓reduceIte, hz]; try (refine ⟨fun hlt => ?_, fun hlt => ?_⟩ <;> (try simp only [decide_eq_true_eq, decide_eq_false_iff_not, beq_iff_eq, bne_iff_ne, ne_eq, beq_eq_false_iff_ne, bne_eq_false_iff_eq, Bool.true_eq_false, Bool.false_eq_true, Int.not_lt, Int.not_le, Decidable.not_not, gt_iff_lt, ge_iff_le, reduceCtorEq] at hlt) <;> (try exact hlt.elim)))
    | (refine AWp.block ?_)
    | ((first | refine gdO_split (fun hlt => ?_) (fun hlt => ?_) | refine tkO_split (fun hlt => ?_) (fun hlt => ?_) | refine opO_split (fun hlt => ?_) (fun hlt => ?_)) <;> have hgd := hlt <;> (try simp only [decide_eq_true_eq, decide_eq_false_iff_not, beq_iff_eq, bne_iff_ne, ne_eq, beq_eq_false_iff_ne, bne_eq_false_iff_eq, Bool.not_eq_true, Bool.not_eq_false, Bool.not_eq_eq_eq_not, Int.not_lt, Int.not_le, Decidable.not_not, gt_iff_lt, ge_iff_le] at hlt) <;> (simp -implicitDefEqProofs (maxSteps := 1000000) (disch := omega) only [go_sem, wrap64, Int.tdiv_eq_ediv_of_nonneg, Int.tmod_eq_emod_of_nonneg, Nat.reduceAdd, Nat.reduceMul, Nat.reduceEqDiff, Nat.reduceLT, Nat.reduceLeDiff, Int.reduceEq, Int.reduceNeg, Int.reduceToNat, reduceCtorEq, eq_self, Bool.false_eq_true, Bool.true_eq_false, ↓reduceIte, hz, hgd]) <;> clear hgd)
    | (with_reducible refine And.intro ?_ ?_; · first | omega | assumption | exact ⟨_, _, rfl, rfl⟩)
    | (refine ⟨_, hpi, ?_⟩; simp -implicitDefEqProofs (maxSteps := 1000000) (disch := omega) only [go_sem, wrap64, Int.tdiv_eq_ediv_of_nonneg, Int.tmod_eq_emod_of_nonneg, Nat.reduceAdd, Nat.reduceMul, Nat.reduceEqDiff, Nat.reduceLT, Nat.reduceLeDiff, Int.reduceEq, Int.reduceNeg, Int.reduceToNat, reduceCtorEq, eq_self, Bool.false_eq_true, Bool.true_eq_false, ↓reduceIte])
    | fail
  · have hi : i < zs.length := by omega
    have e : ∀ j (hj : j < zs.length), zs.getD j (false, []) = zs[j] := fun j hj => by simp [hj]
    rw [idx_some p zs i hi (by rw [← e, hz]; exact hlt) (fun j hj => by rw [← e]; exact h2 j hj)]
  · refine ih (i + 1) _ ⟨by omega, fun j hj => ?_⟩ (by omega) (Sub.of0 hm id rfl ?_ ?_ (fun _ _ _ _ h => h))
    · by_cases h : j = i
      · subst h; rw [hz]; assumption
      · exact h2 j (by omega)
    all_goals (try dsimp only)
    all_goals (first | omega | (simp -implicitDefEqProofs (maxSteps := 1000000) (disch := omega) only [F122, id, go_sem, Nat.blt_eq, Nat.reduceAdd, Nat.reduceSub, Nat.reduceEqDiff, Nat.reduceLT, ↓reduceIte, and_true, true_and, AV.dat.injEq, DV.int.injEq, DV.bool.injEq, DV.lst.injEq, eq_self_iff_true]; first | done | omega | (simp; done) | (simp; omega)) | (simp; done) | (simp; omega) | skip)
  · rw [idx_none p zs (fun j hj => by have := h2 j (by omega); simpa [hj] using this)]
theorem hasZ_pc (zs : List (Bool × List Int)) (f : FuncId) (p : Bool × List Int → Bool) (lz : zs.length ≤ 1000000) (hp : ∀ z, PC Tryz.prog f [Zr z.1 z.2] (B (p z))) : PC Tryz.prog 75 [LZ zs, .dat (.fn f [])] (B (zs.any p)) := by
  have hi := idxZ_pc zs f p lz hp
  rw [← idx_ge]
  refine PCr.pc (PCr.of tab_ok Tryz.func75 rfl rfl rfl fun c hc hm => ?_)
  rw [show Tryz.f75.ntmps = _ from Tryz.ntmps75] at hc
  simp only [Tryz.f75]
  repeat' first
    | (refine AWp.seq fun K hK => ?_)
    | ((first | refine AWp.region (by rw [hc]; rfl) ?_ | refine AWp.skip ?_ | refine AWp.exit ?_ | refine AWp.label ?_ | refine AWp.ret ?_ | refine appK_g ?_); simp -implicitDefEqProofs (maxSteps := 1000000) (disch := omega) only [go_sem, wrap64, Int.tdiv_eq_ediv_of_nonneg, Int.tmod_eq_emod_of_nonneg, Nat.reduceAdd, Nat.reduceMul, Nat.reduceEqDiff, Nat.reduceLT, Nat.reduceLeDiff, Int.reduceEq, Int.reduceNeg, Int.reduceToNat, reduceCtorEq, eq_self, Bool.false_eq_true, Bool.true_eq_false, ↓reduceIte])
    | (refine hK _ ?_; clear hK)
    | (clear hK; refine hK _ ?_; clear hK)
    | (clear hK; clear hK; refine hK _ ?_; clear hK)
    | (clear hK; clear hK; clear hK; refine hK _ ?_; clear hK)
    | (refine AWp.cond ?_; simp -implicitDefEqProofs (maxSteps := 1000000) (disch := omega) only [go_sem, wrap64, Int.tdiv_eq_ediv_of_nonneg, Int.tmod_eq_emod_of_nonneg, Nat.reduceAdd, Nat.reduceMul, Nat.reduceEqDiff, Nat.reduceLT, Nat.reduceLeDiff, Int.reduceEq, Int.reduceNeg, Int.reduceToNat, reduceCtorEq, eq_self, Bool.false_eq_true, Bool.true_eq_false, ↓reduceIte]; try (refine ⟨fun hlt => ?_, fun hlt => ?_⟩ <;> (try simp only [decide_eq_true_eq, decide_eq_false_iff_not, beq_iff_eq, bne_iff_ne, ne_eq, beq_eq_false_iff_ne, bne_eq_false_iff_eq, Bool.true_eq_false, Bool.false_eq_true, Int.not_lt, Int.not_le, Decidable.not_not, gt_iff_lt, ge_iff_le, reduceCtorEq] at hlt) <;> (try exact hlt.elim)))
    | (refine AWp.block ?_)
    | ((first | refine gdO_split (fun hlt => ?_) (fun hlt => ?_) | refine tkO_split (fun hlt => ?_) (fun hlt => ?_) | refine opO_split (fun hlt => ?_) (fun hlt => ?_)) <;> have hgd := hlt <;> (try simp only [decide_eq_true_eq, decide_eq_false_iff_not, beq_iff_eq, bne_iff_ne, ne_eq, beq_eq_false_iff_ne, bne_eq_false_iff_eq, Bool.not_eq_true, Bool.not_eq_false, Bool.not_eq_eq_eq_not, Int.not_lt, Int.not_le, Decidable.not_not, gt_iff_lt, ge_iff_le] at hlt) <;> (simp -implicitDefEqProofs (maxSteps := 1000000) (disch := omega) only [go_sem, wrap64, Int.tdiv_eq_ediv_of_nonneg, Int.tmod_eq_emod_of_nonneg, Nat.reduceAdd, Nat.reduceMul, Nat.reduceEqDiff, Nat.reduceLT, Nat.reduceLeDiff, Int.reduceEq, Int.reduceNeg, Int.reduceToNat, reduceCtorEq, eq_self, Bool.false_eq_true, Bool.true_eq_false, ↓reduceIte, hgd]) <;> clear hgd)
    | (with_reducible refine And.intro ?_ ?_; · first | omega | assumption | exact ⟨_, _, rfl, rfl⟩)
    | ((first | refine ⟨_, hi, ?_⟩); simp -implicitDefEqProofs (maxSteps := 1000000) (disch := omega) only [go_sem, wrap64, Int.tdiv_eq_ediv_of_nonneg, Int.tmod_eq_emod_of_nonneg, Nat.reduceAdd, Nat.reduceMul, Nat.reduceEqDiff, Nat.reduceLT, Nat.reduceLeDiff, Int.reduceEq, Int.reduceNeg, Int.reduceToNat, reduceCtorEq, eq_self, Bool.false_eq_true, Bool.true_eq_false, ↓reduceIte])
    | fail
theorem right_pc (zs : List (Bool × List Int)) (lz : zs.length ≤ 1000000) : PC Tryz.prog 17 [LZ zs] (B (zs.all fun z => decide (okI z.1 z.2))) := by
  have h := hasZ_pc zs 76 (fun z => !decide (okI z.1 z.2)) lz (fun z => right1_pc z.1 z.2)
  rw [show (zs.all fun z => decide (okI z.1 z.2)) = !(zs.any fun z => !decide (okI z.1 z.2)) by rw [List.all_eq_not_any_not]]
  refine PCr.pc (PCr.of tab_ok Tryz.func17 rfl rfl rfl fun c hc hm => ?_)
  rw [show Tryz.f17.ntmps = _ from Tryz.ntmps17] at hc
  simp only [Tryz.f17]
  repeat' first
    | (refine AWp.seq fun K hK => ?_)
    | ((first | refine AWp.region (by rw [hc]; rfl) ?_ | refine AWp.skip ?_ | refine AWp.exit ?_ | refine AWp.label ?_ | refine AWp.ret ?_ | refine appK_g ?_); simp -implicitDefEqProofs (maxSteps := 1000000) (disch := omega) only [go_sem, wrap64, Int.tdiv_eq_ediv_of_nonneg, Int.tmod_eq_emod_of_nonneg, Nat.reduceAdd, Nat.reduceMul, Nat.reduceEqDiff, Nat.reduceLT, Nat.reduceLeDiff, Int.reduceEq, Int.reduceNeg, Int.reduceToNat, reduceCtorEq, eq_self, Bool.false_eq_true, Bool.true_eq_false, ↓reduceIte])
    | (refine hK _ ?_; clear hK)
    | (clear hK; refine hK _ ?_; clear hK)
    | (clear hK; clear hK; refine hK _ ?_; clear hK)
    | (clear hK; clear hK; clear hK; refine hK _ ?_; clear hK)
    | (refine AWp.cond ?_; simp -implicitDefEqProofs (maxSteps := 1000000) (disch := omega) only [go_sem, wrap64, Int.tdiv_eq_ediv_of_nonneg, Int.tmod_eq_emod_of_nonneg, Nat.reduceAdd, Nat.reduceMul, Nat.reduceEqDiff, Nat.reduceLT, Nat.reduceLeDiff, Int.reduceEq, Int.reduceNeg, Int.reduceToNat, reduceCtorEq, eq_self, Bool.false_eq_true, Bool.true_eq_false, ↓reduceIte]; try (refine ⟨fun hlt => ?_, fun hlt => ?_⟩ <;> (try simp only [decide_eq_true_eq, decide_eq_false_iff_not, beq_iff_eq, bne_iff_ne, ne_eq, beq_eq_false_iff_ne, bne_eq_false_iff_eq, Bool.true_eq_false, Bool.false_eq_true, Int.not_lt, Int.not_le, Decidable.not_not, gt_iff_lt, ge_iff_le, reduceCtorEq] at hlt) <;> (try exact hlt.elim)))
    | (refine AWp.block ?_)
    | ((first | refine gdO_split (fun hlt => ?_) (fun hlt => ?_) | refine tkO_split (fun hlt => ?_) (fun hlt => ?_) | refine opO_split (fun hlt => ?_) (fun hlt => ?_)) <;> have hgd := hlt <;> (try simp only [decide_eq_true_eq, decide_eq_false_iff_not, beq_iff_eq, bne_iff_ne, ne_eq, beq_eq_false_iff_ne, bne_eq_false_iff_eq, Bool.not_eq_true, Bool.not_eq_false, Bool.not_eq_eq_eq_not, Int.not_lt, Int.not_le, Decidable.not_not, gt_iff_lt, ge_iff_le] at hlt) <;> (simp -implicitDefEqProofs (maxSteps := 1000000) (disch := omega) only [go_sem, wrap64, Int.tdiv_eq_ediv_of_nonneg, Int.tmod_eq_emod_of_nonneg, Nat.reduceAdd, Nat.reduceMul, Nat.reduceEqDiff, Nat.reduceLT, Nat.reduceLeDiff, Int.reduceEq, Int.reduceNeg, Int.reduceToNat, reduceCtorEq, eq_self, Bool.false_eq_true, Bool.true_eq_false, ↓reduceIte, hgd]) <;> clear hgd)
    | (with_reducible refine And.intro ?_ ?_; · first | omega | assumption | exact ⟨_, _, rfl, rfl⟩)
    | ((first | refine ⟨_, h, ?_⟩); simp -implicitDefEqProofs (maxSteps := 1000000) (disch := omega) only [go_sem, wrap64, Int.tdiv_eq_ediv_of_nonneg, Int.tmod_eq_emod_of_nonneg, Nat.reduceAdd, Nat.reduceMul, Nat.reduceEqDiff, Nat.reduceLT, Nat.reduceLeDiff, Int.reduceEq, Int.reduceNeg, Int.reduceToNat, reduceCtorEq, eq_self, Bool.false_eq_true, Bool.true_eq_false, ↓reduceIte])
    | fail
end Go.Proofs.YthhjcfejgoddlaaGreatDoor
end

section
/- Where the simplifier need not look: what follows a step is looked at when the walk gets there. -/
namespace Go.Abs
variable {P : Program} {T : Tab} {c : Ctx} {ro : Option Nat}

@[congr] theorem runO_cg {ops l : List Oper} {σ σ' : St} {K : St → Prop} (h : σ = σ') : runO P T ops l σ K = runO P T ops l σ' K := by rw [h]
@[congr] theorem gdO_cg {ops rest : List Oper} {o : Oper} {want : Bool} {σ : St} {K : St → Prop} {q q' : AV} (h : q = q') : gdO P T ops o rest want σ K q = gdO P T ops o rest want σ K q' := by rw [h]
@[congr] theorem stepK_cg {o : Oper} {σ σ' : St} {K : St → Prop} (h : σ = σ') : stepK P T o σ K = stepK P T o σ' K := by rw [h]
@[congr] theorem planK_cg {ops : Array Oper} {l : List Pl} {σ σ' : St} {X : St → Prop} (h : σ = σ') : planK P T ops l σ X = planK P T ops l σ' X := by rw [h]
@[congr] theorem takeQ_cg {ops : Array Oper} {i : Nat} {σ σ' : St} {X : St → Prop} (h : σ = σ') : takeQ P T ops i σ X = takeQ P T ops i σ' X := by rw [h]
@[congr] theorem opQ_cg {ops : Array Oper} {i : Nat} {σ σ' : St} {X : St → Prop} (h : σ = σ') : opQ P T ops i σ X = opQ P T ops i σ' X := by rw [h]
@[congr] theorem tkO_cg {o : Oper} {want : Bool} {σ : St} {X : St → Prop} {q q' : AV} (h : q = q') : tkO P T o want σ X q = tkO P T o want σ X q' := by rw [h]
@[congr] theorem opO_cg {o : Oper} {want : Bool} {σ : St} {X : St → Prop} {q q' : AV} (h : q = q') : opO P T o want σ X q = opO P T o want σ X q' := by rw [h]
@[congr] theorem treeK_cg {ops : Array Oper} {t : Tr} {σ σ' : St} {X : St → Prop} (h : σ = σ') : treeK P T ops t σ X = treeK P T ops t σ' X := by rw [h]
@[congr] theorem takesK_cg {ops : Array Oper} {t : Tr} {l : List Nat} {σ σ' : St} {X : St → Prop} (h : σ = σ') : takesK P T ops t l σ X = takesK P T ops t l σ' X := by rw [h]
@[congr] theorem loadK_cg {s s' : Sto} {t : TypeId} {x x' : AV} {K : AV → Prop} (h : s = s') (h' : x = x') : loadK s T t x K = loadK s' T t x' K := by rw [h, h']
@[congr] theorem storeK_cg {s s' : Sto} {t : TypeId} {x x' y y' : AV} {K : Sto → Prop} (h : s = s') (h' : x = x') (h'' : y = y') : storeK T t x y s K = storeK T t x' y' s' K := by rw [h, h', h'']
@[congr] theorem faddrK_cg {t : TypeId} {f : Nat} {x x' : AV} {K : AV → Prop} (h : x = x') : faddrK T t f x K = faddrK T t f x' K := by rw [h]
@[congr] theorem iaddrK_cg {s s' : Sto} {t : TypeId} {x x' y y' : AV} {K : AV → Prop} (h : s = s') (h' : x = x') (h'' : y = y') : iaddrK s T t x y K = iaddrK s' T t x' y' K := by rw [h, h', h'']
@[congr] theorem binC_cg {op : BinOp} {t : TypeId} {yo : Operand} {x x' y y' : AV} {K : AV → Prop} (h : x = x') (h' : y = y') : binC T op t yo x y K = binC T op t yo x' y' K := by rw [h, h']
@[congr] theorem binK_cg {op : BinOp} {t : TypeId} {x x' y y' : AV} {K : AV → Prop} (h : x = x') (h' : y = y') : binK T op t x y K = binK T op t x' y' K := by rw [h, h']
@[congr] theorem unK_cg {op : UnOp} {x x' : AV} {K : AV → Prop} (h : x = x') : unK op x K = unK op x' K := by rw [h]
@[congr] theorem extK_cg {x x' : AV} {i : Nat} {K : AV → Prop} (h : x = x') : extK x i K = extK x' i K := by rw [h]
@[congr] theorem lenK_cg {s s' : Sto} {t : TypeId} {x x' : AV} {K : AV → Prop} (h : s = s') (h' : x = x') : lenK s T t x K = lenK s' T t x' K := by rw [h, h']
@[congr] theorem pickK_cg {q q' x x' y y' : AV} {K : AV → Prop} (h : q = q') (h' : x = x') (h'' : y = y') : pickK q x y K = pickK q' x' y' K := by rw [h, h', h'']
@[congr] theorem callQ_cg {f f' : AV} {xs xs' : List AV} {K : AV → Prop} (h : f = f') (h' : xs = xs') : callQ P f xs K = callQ P f' xs' K := by rw [h, h']
@[congr] theorem calleeK_cg {s s' : Sto} {f f' : AV} {xs xs' : List AV} {K : AV → Sto → Prop} (h : s = s') (h' : f = f') (h'' : xs = xs') : calleeK P s f xs K = calleeK P s' f' xs' K := by rw [h, h', h'']
@[congr] theorem sliceK_cg {t : TypeId} {len : Nat} {ps ps' : List (Nat × AV)} {s s' : Sto} {n : Nat} {K : AV → Sto → Nat → Prop} (h : ps = ps') (h' : s = s') : sliceK T t len ps s n K = sliceK T t len ps' s' n K := by rw [h, h']
@[congr] theorem rowK_cg {t : TypeId} {len : Nat} {ps ps' : List (Nat × AV)} {K : AV → Prop} (h : ps = ps') : rowK T t len ps K = rowK T t len ps' K := by rw [h]
@[congr] theorem structK_cg {t : TypeId} {ps ps' : List (Nat × AV)} {K : AV → Prop} (h : ps = ps') : structK T t ps K = structK T t ps' K := by rw [h]
@[congr] theorem allocK_cg {t : TypeId} {s s' : Sto} {n n' : Nat} {K : AV → Sto → Nat → Prop} (h : s = s') (h' : n = n') : allocK T t s n K = allocK T t s' n' K := by rw [h, h']
@[congr] theorem boxK_cg {x x' : AV} {s s' : Sto} {n n' : Nat} {K : AV → Sto → Nat → Prop} (h : s = s') (h' : n = n') (h'' : x = x') : boxK x s n K = boxK x' s' n' K := by rw [h, h', h'']
@[congr] theorem condK_cg {q q' : AV} {X Y : Prop} (h : q = q') : condK q X Y = condK q' X Y := by rw [h]
@[congr] theorem AWp_cg {code : Code} {σ σ' : St} {Q : Exit → St → Prop} (h : σ = σ') : AWp P T c ro code σ Q = AWp P T c ro code σ' Q := by rw [h]
@[congr] theorem LoopAt_cg {code : Code} {σ σ' : St} {Q : Exit → St → Prop} (h : σ = σ') : LoopAt P T c ro code σ Q = LoopAt P T c ro code σ' Q := by rw [h]
end Go.Abs
end

section
set_option linter.unusedSimpArgs false
set_option linter.unusedVariables false
set_option maxRecDepth 100000
namespace Go.Proofs.YthhjcfejgoddlaaGreatDoor
open Go Go.Abs

theorem limP_one {z : Int} (h : lenZ z ≤ 40) : limP z = (z, 0) := if_pos h
theorem limP_1 {z : Int} (h : (limP z).2 = 0) : (limP z).1 = z := by
  unfold limP at h ⊢
  split
  · rfl
  · rename_i g; rw [if_neg g] at h; exact absurd h (by decide)
theorem sumP_1 {p q : Int × Int} (h : (sumP p q).2 = 0) : p.2 = 0 ∧ q.2 = 0 ∧ (sumP p q).1 = p.1 + q.1 := by
  unfold sumP at h ⊢
  split
  · rename_i g; rw [if_pos g] at h; exact ⟨g.1, g.2, limP_1 h⟩
  · rename_i g; rw [if_neg g] at h; exact absurd h (by decide)
theorem timesP_1 {p q : Int × Int} (h : (timesP p q).2 = 0) : p.2 = 0 ∧ q.2 = 0 ∧ (timesP p q).1 = p.1 * q.1 := by
  unfold timesP at h ⊢
  split
  · rename_i g; rw [if_pos g] at h; exact ⟨g.1, g.2, limP_1 h⟩
  · rename_i g; rw [if_neg g] at h; exact absurd h (by decide)
theorem sumP_comm (p q : Int × Int) : sumP p q = sumP q p := by
  unfold sumP; simp only [And.comm, Int.add_comm]
theorem timesP_comm (p q : Int × Int) : timesP p q = timesP q p := by
  unfold timesP; simp only [And.comm, Int.mul_comm]
theorem sumP_assoc (p q r : Int × Int) : (sumP (sumP p q) r).2 = 0 ∧ (sumP p (sumP q r)).2 = 0 → (sumP (sumP p q) r).1 = (sumP p (sumP q r)).1 := by
  rintro ⟨h1, h2⟩
  obtain ⟨a1, a2, a3⟩ := sumP_1 h1
  obtain ⟨b1, b2, b3⟩ := sumP_1 a1
  obtain ⟨c1, c2, c3⟩ := sumP_1 h2
  obtain ⟨d1, d2, d3⟩ := sumP_1 c2
  rw [a3, b3, c3, d3, Int.add_assoc]
theorem timesP_assoc (p q r : Int × Int) : (timesP (timesP p q) r).2 = 0 ∧ (timesP p (timesP q r)).2 = 0 → (timesP (timesP p q) r).1 = (timesP p (timesP q r)).1 := by
  rintro ⟨h1, h2⟩
  obtain ⟨a1, a2, a3⟩ := timesP_1 h1
  obtain ⟨b1, b2, b3⟩ := timesP_1 a1
  obtain ⟨c1, c2, c3⟩ := timesP_1 h2
  obtain ⟨d1, d2, d3⟩ := timesP_1 c2
  rw [a3, b3, c3, d3, Int.mul_assoc]
theorem P_distr (p q r : Int × Int) : (timesP p (sumP q r)).2 = 0 ∧ (sumP (timesP p q) (timesP p r)).2 = 0 → (timesP p (sumP q r)).1 = (sumP (timesP p q) (timesP p r)).1 := by
  rintro ⟨h1, h2⟩
  obtain ⟨a1, a2, a3⟩ := timesP_1 h1
  obtain ⟨b1, b2, b3⟩ := sumP_1 a2
  obtain ⟨c1, c2, c3⟩ := sumP_1 h2
  obtain ⟨d1, d2, d3⟩ := timesP_1 c1
  obtain ⟨e1, e2, e3⟩ := timesP_1 c2
  rw [a3, b3, c3, d3, e3, Int.mul_add]
/-- agree, where it answers true. -/
theorem agree_T (p q : Int × Int) (hp : okP p) (hq : okP q) (h : p.2 = 0 ∧ q.2 = 0 → p.1 = q.1) : PC Tryz.prog 31 [GP p, GP q] (B true) := by
  have := agree_P p q hp hq
  rwa [decide_eq_true h] at this
theorem same_T (p q : Int × Int) (hp : okP p) (hq : okP q) (h : p = q) : PC Tryz.prog 26 [GP p, GP q] (B true) := by
  have := same_P p q hp hq
  rwa [decide_eq_true h] at this
/-- An integer, as a number. -/
theorem okI_ex {neg : Bool} {d : List Int} (h : okI neg d) : ∃ x : Int, Zr neg d = Z x ∧ lenZ x ≤ 40 :=
  ⟨_, (okI_Z h).1, (okI_Z h).2.1⟩
theorem LZ3 (na nb nc : Bool) (a b c : List Int) : LZ [(na, a), (nb, b), (nc, c)] = .dat (.lst [[.bool na, .lst (a.map eI)], [.bool nb, .lst (b.map eI)], [.bool nc, .lst (c.map eI)]]) := rfl
theorem LZ1 (na : Bool) (a : List Int) : LZ [(na, a)] = .dat (.lst [[.bool na, .lst (a.map eI)]]) := rfl
theorem rightZ3 (a b c : Int) (la : lenZ a ≤ 40) (lb : lenZ b ≤ 40) (lc : lenZ c ≤ 40) : PC Tryz.prog 17 [LZ [(decide (a < 0), D a.natAbs), (decide (b < 0), D b.natAbs), (decide (c < 0), D c.natAbs)]] (B true) := by
  have h := right_pc [(decide (a < 0), D a.natAbs), (decide (b < 0), D b.natAbs), (decide (c < 0), D c.natAbs)] (by simp)
  rwa [show (List.all [(decide (a < 0), D a.natAbs), (decide (b < 0), D b.natAbs), (decide (c < 0), D c.natAbs)] fun z => decide (okI z.1 z.2)) = true by
    simp only [List.all_cons, List.all_nil, decide_eq_true (okZ la), decide_eq_true (okZ lb), decide_eq_true (okZ lc)]; rfl] at h
/-- Three new boxes, made in any order, behind three that stand: the names turned. -/
def pm (x y z : Nat) (i : Nat) : Nat := if i < 3 then i else if i = 3 then x else if i = 4 then y else z
theorem pm_inj {x y z : Nat} (h : 3 ≤ x ∧ 3 ≤ y ∧ 3 ≤ z ∧ x ≠ y ∧ y ≠ z ∧ x ≠ z) : ∀ i j, i < 6 → j < 6 → pm x y z i = pm x y z j → i = j := by
  intro i j h1 h2 h3
  unfold pm at h3
  (repeat' split at h3) <;> omega
theorem pms (x y z : Nat) : pm x y z 0 = 0 ∧ pm x y z 1 = 1 ∧ pm x y z 2 = 2 ∧ pm x y z 3 = x ∧ pm x y z 4 = y ∧ pm x y z 5 = z := ⟨rfl, rfl, rfl, rfl, rfl, rfl⟩
def bI (x : Int) : Obj' := .box [B (decide (x < 0)), L (D x.natAbs)] false
def bP (p : Int × Int) : Obj' := .box [B (decide (p.1 < 0)), L (D p.1.natAbs), I p.2] false
def S10 (a b z : Int) : St := ⟨[(3, .ptr 0 0), (4, .ptr 1 0), (5, .ptr 2 0), (7, .ptr 3 0), (8, .ptr 4 0), (9, .ptr 5 0)], [(5, bP (z, 0)), (4, bP (b, 0)), (3, bP (a, 0)), (2, bI z), (1, bI b), (0, bI a)], 6, 0⟩
theorem sg_abs (x : Int) : sgI x = 0 ↔ x = 0 := by unfold sgI; (repeat' split) <;> omega
end Go.Proofs.YthhjcfejgoddlaaGreatDoor
end

section
set_option linter.unusedSimpArgs false
set_option linter.unusedVariables false
set_option maxRecDepth 100000
namespace Go.Proofs.YthhjcfejgoddlaaGreatDoor
open Go Go.Abs

/-- The cells of an integer and of a result, kept closed in a walk. -/
def zC (x : Int) : List AV := [B (decide (x < 0)), L (D x.natAbs)]
def pC (p : Int × Int) : List AV := [B (decide (p.1 < 0)), L (D p.1.natAbs), I p.2]
def zD (x : Int) : List DV := [.bool (decide (x < 0)), .lst ((D x.natAbs).map eI)]
def ppD (p : Int × Int) : List DV := [.bool (decide (p.1 < 0)), .lst ((D p.1.natAbs).map eI), .int .i64 p.2]
abbrev zA (x : Int) : AV := .agg (zC x)
abbrev pA (p : Int × Int) : AV := .agg (pC p)
theorem zC_len (x : Int) : (zC x).length = 2 := rfl
theorem pC_len (p : Int × Int) : (pC p).length = 3 := rfl
theorem zD_len (x : Int) : (zD x).length = 2 := rfl
theorem zC_map (x : Int) : (zD x).map .dat = zC x := rfl
theorem pC_map (p : Int × Int) : (ppD p).map .dat = pC p := rfl
theorem zC_toCs (x : Int) (s : Sto) : toCs s (zC x) = some (zD x, s) := rfl
theorem pC_toCs (p : Int × Int) (s : Sto) : toCs s (pC p) = some (ppD p, s) := rfl
theorem zC_dCs (x : Int) : dCs (zC x) = some (zD x) := rfl
theorem pC_dCs (p : Int × Int) : dCs (pC p) = some (ppD p) := rfl
theorem zC_dats0 (x : Int) : dats0 (zC x) = some (zD x) := rfl
theorem zC_take (x : Int) : List.take 2 (zC x) = zC x := rfl
theorem pC_take (p : Int × Int) : List.take 3 (pC p) = pC p := rfl
theorem pC_take2 (p : Int × Int) : List.take 2 (pC p) = zC p.1 := rfl
theorem pC_get2 (p : Int × Int) : (pC p)[2]? = some (I p.2) := rfl
theorem zC_get0 (x : Int) : (zC x)[0]? = some (B (decide (x < 0))) := rfl
theorem zC_get1 (x : Int) : (zC x)[1]? = some (L (D x.natAbs)) := rfl
theorem zC_drop (x : Int) : List.drop 0 (zC x) = zC x := rfl
theorem pC_drop (p : Int × Int) : List.drop 0 (pC p) = pC p := rfl
def zBx (x : Int) : Obj' := .box (zC x) false
def pBx (p : Int × Int) : Obj' := .box (pC p) false
def R10 (a b z : Int) : St := ⟨[(3, .ptr 0 0), (4, .ptr 1 0), (5, .ptr 2 0), (7, .ptr 3 0), (8, .ptr 4 0), (9, .ptr 5 0)], [(5, pBx (z, 0)), (4, pBx (b, 0)), (3, pBx (a, 0)), (2, zBx z), (1, zBx b), (0, zBx a)], 6, 0⟩
end Go.Proofs.YthhjcfejgoddlaaGreatDoor
end

section
set_option linter.unusedSimpArgs false
set_option linter.unusedVariables false
set_option maxRecDepth 100000
namespace Go.Proofs.YthhjcfejgoddlaaGreatDoor
open Go Go.Abs

/-! The contracts over closed cells. -/
theorem sumA (p q : Int × Int) (hp : okP p) (hq : okP q) : PC Tryz.prog 28 [.agg (pC p), .agg (pC q)] (.agg (pC (sumP p q))) := sum_P p q hp hq
theorem timesA (p q : Int × Int) (hp : okP p) (hq : okP q) : PC Tryz.prog 20 [.agg (pC p), .agg (pC q)] (.agg (pC (timesP p q))) := times_P p q hp hq
theorem valA (x : Int) : PC Tryz.prog 21 [.agg (zC x)] (.agg (pC (x, 0))) := valP x
theorem gotA (x e : Int) : PC Tryz.prog 24 [.agg (zC x), I e] (.agg (pC (x, e))) := gotP (x, e)
theorem agreeA (p q : Int × Int) (hp : okP p) (hq : okP q) (h : p.2 = 0 ∧ q.2 = 0 → p.1 = q.1) : PC Tryz.prog 31 [.agg (pC p), .agg (pC q)] (B true) := agree_T p q hp hq h
theorem sameA (p q : Int × Int) (hp : okP p) (hq : okP q) (h : p = q) : PC Tryz.prog 26 [.agg (pC p), .agg (pC q)] (B true) := same_T p q hp hq h
theorem ofA (n : Int) (h0 : -9223372036854775808 ≤ n) (h1 : n ≤ 9223372036854775807) : PC Tryz.prog 27 [I n] (.agg (zC n)) := of_pc n h0 h1
theorem cmpA (x y : Int) (lx : lenZ x ≤ 40) (ly : lenZ y ≤ 40) : PC Tryz.prog 23 [.agg (zC x), .agg (zC y)] (I (cmpI x y)) := Compare_Z x y (Nat.le_trans lx (by decide)) (Nat.le_trans ly (by decide))
theorem rsameA (x y : Int) (lx : lenZ x ≤ 40) (ly : lenZ y ≤ 40) : PC Tryz.prog 36 [.agg (zC x), .agg (zC y)] (B (decide (x = y))) := Same_Z x y (Nat.le_trans lx (by decide)) (Nat.le_trans ly (by decide))
theorem signA (x : Int) : PC Tryz.prog 18 [.agg (zC x)] (I (sgI x)) := Sign_Z x
theorem smallerA (x y : Int) (lx : lenZ x ≤ 40) (ly : lenZ y ≤ 40) : PC Tryz.prog 35 [.agg (zC x), .agg (zC y)] (B (decide (x.natAbs < y.natAbs))) := smaller_Z x y (Nat.le_trans lx (by decide)) (Nat.le_trans ly (by decide))
theorem limR_A (z : Int) : limR z = .tup [.agg (zC (limP z).1), I (limP z).2] := limR_P z
theorem subA (x y : Int) (lx : lenZ x ≤ 40) (ly : lenZ y ≤ 40) : PC Tryz.prog 37 [.agg (zC x), .agg (zC y)] (.tup [.agg (zC (limP (x - y)).1), I (limP (x - y)).2]) := by
  have := Sub_ok x y lx ly
  rwa [limR_A] at this
theorem negA (x : Int) (lx : lenZ x ≤ 40) : PC Tryz.prog 43 [.agg (zC x)] (.tup [.agg (zC (-x)), I 0]) := Neg_ok x lx
def divP (x y : Int) : Int × Int := if y = 0 then (0, 11) else (x.fdiv y, 0)
def modP (x y : Int) : Int × Int := if y = 0 then (0, 11) else (x.fmod y, 0)
theorem fmod_len {x y : Int} (hy : y ≠ 0) (ly : lenZ y ≤ 40) : lenZ (x.fmod y) ≤ 40 :=
  Nat.le_trans (lenZ_le (by rw [Int.fmod_def]; exact Nat.le_of_lt (fmod_small _ _ hy))) ly
theorem fdiv_len {x y : Int} (lx : lenZ x ≤ 40) : lenZ (x.fdiv y) ≤ 40 := Nat.le_trans (lenZ_le (fdiv_small _ _)) lx
theorem divA (x y : Int) (lx : lenZ x ≤ 40) (ly : lenZ y ≤ 40) : PC Tryz.prog 22 [.agg (zC x), .agg (zC y)] (.tup [.agg (zC (divP x y).1), I (divP x y).2]) := by
  unfold divP
  by_cases hy : y = 0
  · subst hy
    rw [if_pos rfl]
    have := Div_zero x lx
    rwa [← Z_zero] at this
  · rw [if_neg hy]
    have := Div_ok x y hy lx ly
    rwa [limR_A, limP_one (fdiv_len lx)] at this
theorem modA (x y : Int) (lx : lenZ x ≤ 40) (ly : lenZ y ≤ 40) : PC Tryz.prog 34 [.agg (zC x), .agg (zC y)] (.tup [.agg (zC (modP x y).1), I (modP x y).2]) := by
  unfold modP
  by_cases hy : y = 0
  · subst hy
    rw [if_pos rfl]
    have := Mod_zero x lx
    rwa [← Z_zero] at this
  · rw [if_neg hy]
    have := Mod_ok x y hy lx ly
    rwa [limR_A, limP_one (fmod_len hy ly)] at this
theorem divP_ok {x y : Int} (lx : lenZ x ≤ 40) : lenZ (divP x y).1 ≤ 40 := by unfold divP; split; exact lenZ_0; exact fdiv_len lx
theorem modP_ok {x y : Int} (ly : lenZ y ≤ 40) : lenZ (modP x y).1 ≤ 40 := by
  unfold modP; split
  · exact lenZ_0
  · rename_i h; exact fmod_len h ly
/-- What right says of numbers. -/
theorem right3A (a b c : Int) (la : lenZ a ≤ 40) (lb : lenZ b ≤ 40) (lc : lenZ c ≤ 40) : PC Tryz.prog 17 [.dat (.lst [zD a, zD b, zD c])] (B true) := rightZ3 a b c la lb lc
theorem right_bad3 (na nb nc : Bool) (a b c : List Int) (h : ¬ (okI na a ∧ okI nb b ∧ okI nc c)) : PC Tryz.prog 17 [.dat (.lst [[.bool na, .lst (a.map eI)], [.bool nb, .lst (b.map eI)], [.bool nc, .lst (c.map eI)]])] (B false) := by
  have hr := right_pc [(na, a), (nb, b), (nc, c)] (by simp)
  rwa [show (List.all [(na, a), (nb, b), (nc, c)] fun z => decide (okI z.1 z.2)) = false by
    simp only [List.all_cons, List.all_nil, Bool.and_true, ← Bool.decide_and]; exact decide_eq_false h] at hr
theorem limP_ok1 (z : Int) : lenZ (limP z).1 ≤ 40 := limP_ok z
end Go.Proofs.YthhjcfejgoddlaaGreatDoor
end

section
namespace Go.Proofs.YthhjcfejgoddlaaGreatDoor
open Go Go.Abs
theorem pC_drop3 (p : Int × Int) : List.drop 3 (pC p) = [] := rfl
theorem zC_drop2 (x : Int) : List.drop 2 (zC x) = [] := rfl
end Go.Proofs.YthhjcfejgoddlaaGreatDoor
end

section
/- Drawn regions, one operation at a time. -/
namespace Go.Abs
variable {P : Program} {T : Tab}
theorem planK_step {ops : Array Oper} {i : Nat} {l : List Pl} {σ : St} {X : St → Prop} (h : ∀ K : St → Prop, (∀ σ', planK P T ops l σ' X → K σ') → takeQ P T ops i σ K) : planK P T ops (.take i :: l) σ X := h _ (fun _ h => h)
theorem planK_one {ops : Array Oper} {i : Nat} {l : List Pl} {σ : St} {X : St → Prop} (h : ∀ K : St → Prop, (∀ σ', planK P T ops l σ' X → K σ') → opQ P T ops i σ K) : planK P T ops (.grp [i] :: l) σ X := by
  rw [plan_one]; exact h _ (fun _ h => h)
theorem planK_end {ops : Array Oper} {σ : St} {X : St → Prop} (h : X σ) : planK P T ops [] σ X := h
/-! Which operations wait for one, reckoned in one go. -/
def wstep (ops : Array Oper) (i : Nat) (r : List Bool) (k : Nat) : Bool :=
  match ops[k]? with
  | some o => o.after.any fun e => Region.binds .any e && (Nat.beq e.on i || r.getD e.on false)
  | none => false
def wl (ops : Array Oper) (i : Nat) : Nat → List Bool
  | 0 => []
  | k + 1 => (fun r => r ++ [wstep ops i r k]) (wl ops i k)
theorem wl_len (ops : Array Oper) (i : Nat) : ∀ k, (wl ops i k).length = k
  | 0 => rfl
  | k + 1 => by simp [wl, wl_len ops i k]
theorem waits_mono {ops : Array Oper} : ∀ {f g : Nat} {j i : Nat}, f ≤ g → waits ops f j i = true → waits ops g j i = true
  | 0, _, j, i, _, h => by simp [waits] at h
  | f + 1, 0, j, i, hg, h => by omega
  | f + 1, g + 1, j, i, hg, h => by
    unfold waits at h ⊢
    split at h
    · rename_i oj hj
      obtain ⟨e, he, hb⟩ := Array.any_eq_true'.1 h
      refine Array.any_eq_true'.2 ⟨e, he, ?_⟩
      simp only [Bool.and_eq_true, Bool.or_eq_true] at hb ⊢
      exact ⟨hb.1, hb.2.imp id (waits_mono (by omega))⟩
    · cases h
theorem wl_ok {ops : Array Oper} {i : Nat} : ∀ k j, (wl ops i k).getD j false = true → waits ops (j + 1) j i = true
  | 0, j, h => by simp [wl] at h
  | k + 1, j, h => by
    have hl := wl_len ops i k
    rw [show wl ops i (k + 1) = wl ops i k ++ [wstep ops i (wl ops i k) k] from rfl] at h
    rcases Nat.lt_trichotomy j k with g | g | g
    · refine wl_ok k j ?_
      simp only [List.getD, List.getElem?_append_left (show j < (wl ops i k).length by omega)] at h ⊢
      exact h
    · subst g
      simp only [List.getD, List.getElem?_append_right (show (wl ops i j).length ≤ j by omega), hl, Nat.sub_self, List.getElem?_cons_zero, Option.getD_some] at h
      unfold wstep at h
      unfold waits
      split at h
      · rename_i oj hj
        obtain ⟨e, he, hb⟩ := Array.any_eq_true'.1 h
        rw [hj]
        refine Array.any_eq_true'.2 ⟨e, he, ?_⟩
        simp only [Bool.and_eq_true, Bool.or_eq_true] at hb ⊢
        refine ⟨hb.1, hb.2.imp id fun h3 => ?_⟩
        have hlt : e.on < j := by
          rcases Nat.lt_or_ge e.on j with g | g
          · exact g
          · rw [List.getD, List.getElem?_eq_none (by omega)] at h3; cases h3
        exact waits_mono (by omega) (wl_ok j e.on h3)
      · cases h
    · rw [List.getD, List.getElem?_eq_none (by simp; omega)] at h; cases h
def takeOk2 (ops : Array Oper) (listed : Array Bool) (i : Nat) : Bool :=
  match ops[i]? with
  | none => false
  | some oi => quietB oi.op && (Region.ready .any ops listed).contains i && (fun r => (List.range ops.size).all fun j => Nat.beq j i || listed.getD j true || (r.getD j false || match ops[j]? with
    | some oj => oi.apart ops oj && (sfree oi.op || quietB oj.op || newB oj.op)
    | none => true)) (wl ops i ops.size)
theorem takeOk_of {ops : Array Oper} {listed : Array Bool} {i : Nat} (h : takeOk2 ops listed i = true) : takeOk ops listed i = true := by
  unfold takeOk2 at h
  unfold takeOk
  cases hi : ops[i]? with
  | none => rw [hi] at h; exact h
  | some oi =>
    rw [hi] at h
    simp only [Bool.and_eq_true, List.all_eq_true, List.mem_range] at h ⊢
    refine ⟨h.1, fun j hj => ?_⟩
    have h0 := h.2 j hj
    rw [Bool.or_eq_true] at h0 ⊢
    rcases h0 with h1 | h1
    · exact .inl h1
    · right
      rw [Bool.or_eq_true] at h1
      rw [Array.getElem?_eq_getElem hj] at h1 ⊢
      simp only at h1 ⊢
      rcases h1 with h1 | h1
      · rw [waits_mono (show j + 1 ≤ ops.size by omega) (wl_ok _ _ h1), Bool.true_or]
      · rw [h1, Bool.or_true]
def planOk2 (ops : Array Oper) : List Pl → Array Bool → Bool
  | [], listed => (Region.ready .any ops listed).isEmpty
  | .take i :: l, listed => takeOk2 ops listed i && planOk2 ops l (listed.setIfInBounds i true)
  | .grp g :: l, listed => permOk ops g.length listed g && planOk2 ops l (g.foldl (fun a i => a.setIfInBounds i true) listed)
theorem planOk_of {ops : Array Oper} : ∀ {l : List Pl} {listed : Array Bool}, planOk2 ops l listed = true → planOk ops l listed = true
  | [], _, h => h
  | .take i :: l, listed, h => by
    simp only [planOk2, planOk, Bool.and_eq_true] at h ⊢
    exact ⟨takeOk_of h.1, planOk_of h.2⟩
  | .grp g :: l, listed, h => by
    simp only [planOk2, planOk, Bool.and_eq_true] at h ⊢
    exact ⟨h.1, planOk_of h.2⟩
def plansOk2 (ops : Array Oper) (l : List Pl) : Bool := Nat.beq (lens l) ops.size && planOk2 ops l (Array.replicate ops.size false)
theorem AWp.draw2 {c : Ctx} {ro : Option Nat} {id : Nat} {ops : Array Oper} {σ : St} {Q : Exit → St → Prop} (l : List Pl) (hm : P.follows .mixedOrders = true) (hp : plansOk2 ops l = true) (hok : ops.toList.all (dstOk c.N) = true)
    (h : planK P T ops l σ fun σ' => Q .normal σ') : AWp P T c ro (.region id ops true) σ Q :=
  AWp.draw l hm (by
    unfold plansOk2 at hp
    unfold plansOk
    rw [Bool.and_eq_true] at hp ⊢
    exact ⟨hp.1, planOk_of hp.2⟩) hok h
end Go.Abs
end

section
set_option linter.unusedSimpArgs false
set_option linter.unusedVariables false
set_option maxRecDepth 100000
namespace Go.Proofs.YthhjcfejgoddlaaGreatDoor
open Go Go.Abs

set_option maxHeartbeats 8000000 in
theorem NumRing_bad (na nb nc : Bool) (a b z : List Int) (h : ¬ (okI na a ∧ okI nb b ∧ okI nc z)) : PC Tryz.prog 10 [Zr na a, Zr nb b, Zr nc z] (B true) := by
  have hs := sane_ok
  have hr := right_bad3 na nb nc a b z h
  refine PCr.pc (PCr.of tab_ok Tryz.func10 rfl rfl rfl fun c hc hm => ?_)
  rw [show Tryz.f10.ntmps = _ from Tryz.ntmps10] at hc
  simp only [Tryz.f10]
  repeat' first
    | (exact absurd hlt (by decide))
    | (refine AWp.seq fun K hK => ?_)
    | ((first | refine AWp.draw (id := 5) [.take 0, .take 1, .take 2, .take 3, .take 4, .take 5, .grp [6, 7, 8], .grp [9], .grp [10], .grp [11]] mixed_ok (by kernel_rfl) (by rw [hc]; rfl) ?_ | refine AWp.draw (id := 6) [.take 0, .take 1, .take 2, .take 3, .take 4, .take 5, .take 6, .take 7, .take 8, .take 9, .take 10, .take 11, .take 12, .take 13, .take 14, .take 15, .take 16, .take 17, .take 18, .take 19, .take 20, .take 21, .take 22, .take 23, .take 24, .take 25, .take 26, .take 27, .take 28, .take 29, .take 30, .take 31, .take 32, .take 33, .take 34, .take 35, .take 36, .take 37, .take 38, .take 39, .take 40, .take 41, .take 42, .take 43, .take 44, .take 45] mixed_ok (by kernel_rfl) (by rw [hc]; rfl) ?_ | refine AWp.draw (id := 8) [.take 0, .take 1, .take 2, .take 3, .take 4, .take 5, .take 6, .take 7, .take 8, .take 9, .take 10, .take 11, .take 12, .take 13, .take 14, .take 15, .take 16, .take 17, .take 18, .take 19, .take 20, .take 21, .take 22, .take 23, .take 24, .take 25, .take 26, .take 27, .take 28, .take 29, .take 30, .take 31, .take 32, .take 33, .take 34, .take 35, .take 36, .take 37, .take 38, .take 39, .take 40, .take 41] mixed_ok (by kernel_rfl) (by rw [hc]; rfl) ?_ | refine AWp.draw (id := 11) [.take 0, .take 1, .take 2, .take 3, .take 4, .take 5, .take 6, .take 7, .take 8, .take 9, .take 10, .take 11, .take 12, .take 13, .take 14] mixed_ok (by kernel_rfl) (by rw [hc]; rfl) ?_ | refine AWp.draw (id := 14) [.take 0, .take 1, .take 2, .take 3, .take 4, .take 5, .take 6, .take 7, .take 8, .take 9, .take 10, .take 11] mixed_ok (by kernel_rfl) (by rw [hc]; rfl) ?_ | refine AWp.draw (id := 20) [.take 0, .take 1, .take 2, .take 3, .take 4, .take 5, .take 6, .take 7, .take 8, .take 9, .take 10, .take 11, .take 12, .take 13, .take 14, .take 15, .take 16, .take 17, .take 18, .take 19, .take 20, .take 21, .take 22, .take 23, .take 24, .take 25, .take 26] mixed_ok (by kernel_rfl) (by rw [hc]; rfl) ?_ | refine AWp.region (by rw [hc]; rfl) ?_ | refine AWp.skip ?_ | refine AWp.exit ?_ | refine AWp.label ?_ | refine AWp.ret ?_ | refine appK_g ?_); simp -implicitDefEqProofs (maxSteps := 1000000) (disch := omega) only [go_sem, wrap64, Int.tdiv_eq_ediv_of_nonneg, Int.tmod_eq_emod_of_nonneg, Nat.reduceAdd, Nat.reduceMul, Nat.reduceEqDiff, Nat.reduceLT, Nat.reduceLeDiff, Int.reduceEq, Int.reduceNeg, Int.reduceToNat, reduceCtorEq, eq_self, Bool.false_eq_true, Bool.true_eq_false, ↓reduceIte, Int.reduceBNe, Int.reduceBEq, Bool.not_true, Bool.not_false])
    | (refine hK _ ?_; clear hK)
    | (clear hK; refine hK _ ?_; clear hK)
    | (clear hK; clear hK; refine hK _ ?_; clear hK)
    | (clear hK; clear hK; clear hK; refine hK _ ?_; clear hK)
    | (refine AWp.cond ?_; simp -implicitDefEqProofs (maxSteps := 1000000) (disch := omega) only [go_sem, wrap64, Int.tdiv_eq_ediv_of_nonneg, Int.tmod_eq_emod_of_nonneg, Nat.reduceAdd, Nat.reduceMul, Nat.reduceEqDiff, Nat.reduceLT, Nat.reduceLeDiff, Int.reduceEq, Int.reduceNeg, Int.reduceToNat, reduceCtorEq, eq_self, Bool.false_eq_true, Bool.true_eq_false, ↓reduceIte, Int.reduceBNe, Int.reduceBEq, Bool.not_true, Bool.not_false]; try (refine ⟨fun hlt => ?_, fun hlt => ?_⟩ <;> (try simp only [decide_eq_true_eq, decide_eq_false_iff_not, beq_iff_eq, bne_iff_ne, ne_eq, beq_eq_false_iff_ne, bne_eq_false_iff_eq, Bool.true_eq_false, Bool.false_eq_true, Int.not_lt, Int.not_le, Decidable.not_not, gt_iff_lt, ge_iff_le, reduceCtorEq] at hlt) <;> (try exact hlt.elim)))
    | (refine AWp.block ?_)
    | ((first | refine gdO_split (fun hlt => ?_) (fun hlt => ?_) | refine tkO_split (fun hlt => ?_) (fun hlt => ?_) | refine opO_split (fun hlt => ?_) (fun hlt => ?_)) <;> have hgd := hlt <;> (try simp only [decide_eq_true_eq, decide_eq_false_iff_not, beq_iff_eq, bne_iff_ne, ne_eq, beq_eq_false_iff_ne, bne_eq_false_iff_eq, Bool.not_eq_true, Bool.not_eq_false, Bool.not_eq_eq_eq_not, Int.not_lt, Int.not_le, Decidable.not_not, gt_iff_lt, ge_iff_le] at hlt) <;> (simp -implicitDefEqProofs (maxSteps := 1000000) (disch := omega) only [go_sem, wrap64, Int.tdiv_eq_ediv_of_nonneg, Int.tmod_eq_emod_of_nonneg, Nat.reduceAdd, Nat.reduceMul, Nat.reduceEqDiff, Nat.reduceLT, Nat.reduceLeDiff, Int.reduceEq, Int.reduceNeg, Int.reduceToNat, reduceCtorEq, eq_self, Bool.false_eq_true, Bool.true_eq_false, ↓reduceIte, Int.reduceBNe, Int.reduceBEq, Bool.not_true, Bool.not_false, hgd]) <;> clear hgd)
    | (with_reducible refine And.intro ?_ ?_; · first | omega | assumption | exact ⟨_, _, rfl, rfl⟩)
    | ((first | refine ⟨_, hs, ?_⟩ | refine ⟨_, hr, ?_⟩); simp -implicitDefEqProofs (maxSteps := 1000000) (disch := omega) only [go_sem, wrap64, Int.tdiv_eq_ediv_of_nonneg, Int.tmod_eq_emod_of_nonneg, Nat.reduceAdd, Nat.reduceMul, Nat.reduceEqDiff, Nat.reduceLT, Nat.reduceLeDiff, Int.reduceEq, Int.reduceNeg, Int.reduceToNat, reduceCtorEq, eq_self, Bool.false_eq_true, Bool.true_eq_false, ↓reduceIte, Int.reduceBNe, Int.reduceBEq, Bool.not_true, Bool.not_false])
    | fail

theorem neg_len {a : Int} (h : lenZ a ≤ 40) : lenZ (-a) ≤ 40 := by unfold lenZ at *; rwa [Int.natAbs_neg]
/-- A part of a code. -/
noncomputable def cseq : List Bool → Code → Code
  | [], x => x
  | true :: p, .seq x _ => cseq p x
  | false :: p, .seq _ y => cseq p y
  | _, x => x
noncomputable def body10 : Code := match Tryz.f10.body with
  | some x => x
  | none => .skip
set_option maxHeartbeats 8000000 in
theorem ring6 (c : Ctx) (hc : c.N = 209) (hm : c.m = 0 ∧ c.fv = []) (a b z : Int) (la : lenZ a ≤ 40) (lb : lenZ b ≤ 40) (lc : lenZ z ≤ 40) : AWp Tryz.prog tab c none (cseq [false, false, false, false, true] body10) (R10 a b z) (cutE c (R10 a b z)) := by
  have f1 := sumA (a, 0) (b, 0) la lb
  have f2 := sumA (b, 0) (a, 0) lb la
  rw [sumP_comm (b, 0) (a, 0)] at f2
  have t1 := timesA (a, 0) (b, 0) la lb
  have t2 := timesA (b, 0) (a, 0) lb la
  rw [timesP_comm (b, 0) (a, 0)] at t2
  have f3 := sumA (sumP (a, 0) (b, 0)) (z, 0) (sumP_ok _ _) lc
  have f4 := sumA (b, 0) (z, 0) lb lc
  have f5 := sumA (a, 0) (sumP (b, 0) (z, 0)) la (sumP_ok _ _)
  have t3 := timesA (timesP (a, 0) (b, 0)) (z, 0) (timesP_ok _ _) lc
  have t4 := timesA (b, 0) (z, 0) lb lc
  have t5 := timesA (a, 0) (timesP (b, 0) (z, 0)) la (timesP_ok _ _)
  have g1 := agreeA _ _ (sumP_ok (a, 0) (b, 0)) (sumP_ok (a, 0) (b, 0)) (fun _ => rfl)
  have g2 := agreeA _ _ (timesP_ok (a, 0) (b, 0)) (timesP_ok (a, 0) (b, 0)) (fun _ => rfl)
  have g3 := agreeA _ _ (sumP_ok _ _) (sumP_ok _ _) (sumP_assoc (a, 0) (b, 0) (z, 0))
  have g4 := agreeA _ _ (timesP_ok _ _) (timesP_ok _ _) (timesP_assoc (a, 0) (b, 0) (z, 0))
  generalize sumP (a, 0) (b, 0) = s1 at *
  generalize timesP (a, 0) (b, 0) = u1 at *
  generalize sumP s1 (z, 0) = s2 at *
  generalize sumP (b, 0) (z, 0) = s3 at *
  generalize sumP (a, 0) s3 = s4 at *
  generalize timesP u1 (z, 0) = u2 at *
  generalize timesP (b, 0) (z, 0) = u3 at *
  generalize timesP (a, 0) u3 = u4 at *
  simp only [cseq, body10, Tryz.f10]
  repeat' first
    | (exact absurd hlt (by decide))
    | (refine AWp.seq fun K hK => ?_)
    | (first | refine AWp.draw2 (id := 5) [.take 0, .take 1, .take 2, .take 3, .take 4, .take 5, .grp [6, 7, 8], .grp [9], .grp [10], .grp [11]] mixed_ok (by kernel_rfl) (by rw [hc]; rfl) ?_ | refine AWp.draw2 (id := 6) [.take 0, .take 1, .take 2, .take 3, .take 4, .take 5, .take 6, .take 7, .take 8, .take 9, .take 10, .take 11, .take 12, .take 13, .take 14, .take 15, .take 16, .take 17, .take 18, .take 19, .take 20, .take 21, .take 22, .take 23, .take 24, .take 25, .take 26, .take 27, .take 28, .take 29, .take 30, .take 31, .take 32, .take 33, .take 34, .take 35, .take 36, .take 37, .take 38, .take 39, .take 40, .take 41, .take 42, .take 43, .take 44, .take 45] mixed_ok (by kernel_rfl) (by rw [hc]; rfl) ?_ | refine AWp.draw2 (id := 8) [.take 0, .take 1, .take 2, .take 3, .take 4, .take 5, .take 6, .take 7, .take 8, .take 9, .take 10, .take 11, .take 12, .take 13, .take 14, .take 15, .take 16, .take 17, .take 18, .take 19, .take 20, .take 21, .take 22, .take 23, .take 24, .take 25, .take 26, .take 27, .take 28, .take 29, .take 30, .take 31, .take 32, .take 33, .take 34, .take 35, .take 36, .take 37, .take 38, .take 39, .take 40, .take 41] mixed_ok (by kernel_rfl) (by rw [hc]; rfl) ?_ | refine AWp.draw2 (id := 11) [.take 0, .take 1, .take 2, .take 3, .take 4, .take 5, .take 6, .take 7, .take 8, .take 9, .take 10, .take 11, .take 12, .take 13, .take 14] mixed_ok (by kernel_rfl) (by rw [hc]; rfl) ?_ | refine AWp.draw2 (id := 14) [.take 0, .take 1, .take 2, .take 3, .take 4, .take 5, .take 6, .take 7, .take 8, .take 9, .take 10, .take 11] mixed_ok (by kernel_rfl) (by rw [hc]; rfl) ?_ | refine AWp.draw2 (id := 20) [.take 0, .take 1, .take 2, .take 3, .take 4, .take 5, .take 6, .take 7, .take 8, .take 9, .take 10, .take 11, .take 12, .take 13, .take 14, .take 15, .take 16, .take 17, .take 18, .take 19, .take 20, .take 21, .take 22, .take 23, .take 24, .take 25, .take 26] mixed_ok (by kernel_rfl) (by rw [hc]; rfl) ?_)
    | ((first | refine planK_step fun K hK => ?_ | refine planK_one fun K hK => ?_); simp -implicitDefEqProofs (maxSteps := 100000000) (disch := omega) only [go_sem, wrap64, Int.tdiv_eq_ediv_of_nonneg, Int.tmod_eq_emod_of_nonneg, Nat.reduceAdd, Nat.reduceMul, Nat.reduceEqDiff, Nat.reduceLT, Nat.reduceLeDiff, Int.reduceEq, Int.reduceNeg, Int.reduceToNat, reduceCtorEq, eq_self, Bool.false_eq_true, Bool.true_eq_false, ↓reduceIte, Int.reduceBNe, Int.reduceBEq, Bool.not_true, Bool.not_false, zC_len, pC_len, zD_len, zC_map, pC_map, zC_toCs, pC_toCs, zC_dCs, pC_dCs, zC_dats0, zC_take, pC_take, pC_take2, pC_get2, zC_get0, zC_get1, zC_drop, pC_drop, pC_drop3, zC_drop2, List.nil_append, List.append_nil, R10, zBx, pBx])
    | (refine planK_end ?_; try (simp -implicitDefEqProofs (maxSteps := 100000000) (disch := omega) only [go_sem, wrap64, Int.tdiv_eq_ediv_of_nonneg, Int.tmod_eq_emod_of_nonneg, Nat.reduceAdd, Nat.reduceMul, Nat.reduceEqDiff, Nat.reduceLT, Nat.reduceLeDiff, Int.reduceEq, Int.reduceNeg, Int.reduceToNat, reduceCtorEq, eq_self, Bool.false_eq_true, Bool.true_eq_false, ↓reduceIte, Int.reduceBNe, Int.reduceBEq, Bool.not_true, Bool.not_false, zC_len, pC_len, zD_len, zC_map, pC_map, zC_toCs, pC_toCs, zC_dCs, pC_dCs, zC_dats0, zC_take, pC_take, pC_take2, pC_get2, zC_get0, zC_get1, zC_drop, pC_drop, pC_drop3, zC_drop2, List.nil_append, List.append_nil, R10, zBx, pBx]))
    | ((first | refine AWp.region (by rw [hc]; rfl) ?_ | refine AWp.skip ?_ | refine AWp.exit ?_ | refine AWp.label ?_ | refine AWp.ret ?_ | refine appK_g ?_); simp -implicitDefEqProofs (maxSteps := 100000000) (disch := omega) only [go_sem, wrap64, Int.tdiv_eq_ediv_of_nonneg, Int.tmod_eq_emod_of_nonneg, Nat.reduceAdd, Nat.reduceMul, Nat.reduceEqDiff, Nat.reduceLT, Nat.reduceLeDiff, Int.reduceEq, Int.reduceNeg, Int.reduceToNat, reduceCtorEq, eq_self, Bool.false_eq_true, Bool.true_eq_false, ↓reduceIte, Int.reduceBNe, Int.reduceBEq, Bool.not_true, Bool.not_false, zC_len, pC_len, zD_len, zC_map, pC_map, zC_toCs, pC_toCs, zC_dCs, pC_dCs, zC_dats0, zC_take, pC_take, pC_take2, pC_get2, zC_get0, zC_get1, zC_drop, pC_drop, pC_drop3, zC_drop2, List.nil_append, List.append_nil, R10, zBx, pBx])
    | (refine hK _ ?_; clear hK)
    | (clear hK; refine hK _ ?_; clear hK)
    | (clear hK; clear hK; refine hK _ ?_; clear hK)
    | (clear hK; clear hK; clear hK; refine hK _ ?_; clear hK)
    | (refine AWp.cond ?_; simp -implicitDefEqProofs (maxSteps := 100000000) (disch := omega) only [go_sem, wrap64, Int.tdiv_eq_ediv_of_nonneg, Int.tmod_eq_emod_of_nonneg, Nat.reduceAdd, Nat.reduceMul, Nat.reduceEqDiff, Nat.reduceLT, Nat.reduceLeDiff, Int.reduceEq, Int.reduceNeg, Int.reduceToNat, reduceCtorEq, eq_self, Bool.false_eq_true, Bool.true_eq_false, ↓reduceIte, Int.reduceBNe, Int.reduceBEq, Bool.not_true, Bool.not_false, zC_len, pC_len, zD_len, zC_map, pC_map, zC_toCs, pC_toCs, zC_dCs, pC_dCs, zC_dats0, zC_take, pC_take, pC_take2, pC_get2, zC_get0, zC_get1, zC_drop, pC_drop, pC_drop3, zC_drop2, List.nil_append, List.append_nil, R10, zBx, pBx]; try (refine ⟨fun hlt => ?_, fun hlt => ?_⟩ <;> (try simp only [decide_eq_true_eq, decide_eq_false_iff_not, beq_iff_eq, bne_iff_ne, ne_eq, beq_eq_false_iff_ne, bne_eq_false_iff_eq, Bool.true_eq_false, Bool.false_eq_true, Int.not_lt, Int.not_le, Decidable.not_not, gt_iff_lt, ge_iff_le, reduceCtorEq] at hlt) <;> (try exact hlt.elim)))
    | (refine AWp.block ?_)
    | ((first | refine gdO_split (fun hlt => ?_) (fun hlt => ?_) | refine tkO_split (fun hlt => ?_) (fun hlt => ?_) | refine opO_split (fun hlt => ?_) (fun hlt => ?_)) <;> have hgd := hlt <;> (try simp only [decide_eq_true_eq, decide_eq_false_iff_not, beq_iff_eq, bne_iff_ne, ne_eq, beq_eq_false_iff_ne, bne_eq_false_iff_eq, Bool.not_eq_true, Bool.not_eq_false, Bool.not_eq_eq_eq_not, Int.not_lt, Int.not_le, Decidable.not_not, gt_iff_lt, ge_iff_le] at hlt) <;> (simp -implicitDefEqProofs (maxSteps := 100000000) (disch := omega) only [go_sem, wrap64, Int.tdiv_eq_ediv_of_nonneg, Int.tmod_eq_emod_of_nonneg, Nat.reduceAdd, Nat.reduceMul, Nat.reduceEqDiff, Nat.reduceLT, Nat.reduceLeDiff, Int.reduceEq, Int.reduceNeg, Int.reduceToNat, reduceCtorEq, eq_self, Bool.false_eq_true, Bool.true_eq_false, ↓reduceIte, Int.reduceBNe, Int.reduceBEq, Bool.not_true, Bool.not_false, zC_len, pC_len, zD_len, zC_map, pC_map, zC_toCs, pC_toCs, zC_dCs, pC_dCs, zC_dats0, zC_take, pC_take, pC_take2, pC_get2, zC_get0, zC_get1, zC_drop, pC_drop, pC_drop3, zC_drop2, List.nil_append, List.append_nil, R10, zBx, pBx, hgd]) <;> clear hgd)
    | (with_reducible refine And.intro ?_ ?_; · first | omega | assumption | exact ⟨_, _, rfl, rfl⟩)
    | ((first | refine ⟨_, f1, ?_⟩ | refine ⟨_, f2, ?_⟩ | refine ⟨_, t1, ?_⟩ | refine ⟨_, t2, ?_⟩ | refine ⟨_, f3, ?_⟩ | refine ⟨_, f4, ?_⟩ | refine ⟨_, f5, ?_⟩ | refine ⟨_, t3, ?_⟩ | refine ⟨_, t4, ?_⟩ | refine ⟨_, t5, ?_⟩ | refine ⟨_, g1, ?_⟩ | refine ⟨_, g2, ?_⟩ | refine ⟨_, g3, ?_⟩ | refine ⟨_, g4, ?_⟩); try (simp -implicitDefEqProofs (maxSteps := 100000000) (disch := omega) only [go_sem, wrap64, Int.tdiv_eq_ediv_of_nonneg, Int.tmod_eq_emod_of_nonneg, Nat.reduceAdd, Nat.reduceMul, Nat.reduceEqDiff, Nat.reduceLT, Nat.reduceLeDiff, Int.reduceEq, Int.reduceNeg, Int.reduceToNat, reduceCtorEq, eq_self, Bool.false_eq_true, Bool.true_eq_false, ↓reduceIte, Int.reduceBNe, Int.reduceBEq, Bool.not_true, Bool.not_false, zC_len, pC_len, zD_len, zC_map, pC_map, zC_toCs, pC_toCs, zC_dCs, pC_dCs, zC_dats0, zC_take, pC_take, pC_take2, pC_get2, zC_get0, zC_get1, zC_drop, pC_drop, pC_drop3, zC_drop2, List.nil_append, List.append_nil, R10, zBx, pBx]))
    | (exact Nat.le_refl 2)
    | (refine AWp.skip ?_)
    | fail
  all_goals (try (
    show Sub c _ _
    refine Sub.of0 hm id rfl ?_ ?_ (fun _ _ _ _ h => h) <;> (simp -implicitDefEqProofs only [zC, pC, id, go_sem, Nat.reduceAdd, Nat.reduceEqDiff, Nat.blt_eq, Nat.reduceLT, ↓reduceIte, and_true, true_and, reduceCtorEq, Option.some.injEq]) <;> done))
set_option maxHeartbeats 8000000 in
theorem ring8 (c : Ctx) (hc : c.N = 209) (hm : c.m = 0 ∧ c.fv = []) (a b z : Int) (la : lenZ a ≤ 40) (lb : lenZ b ≤ 40) (lc : lenZ z ≤ 40) : AWp Tryz.prog tab c none (cseq [false, false, false, false, false, true] body10) (R10 a b z) (cutE c (R10 a b z)) := by
  have t1 := timesA (a, 0) (b, 0) la lb
  have f4 := sumA (b, 0) (z, 0) lb lc
  have t6 := timesA (a, 0) (sumP (b, 0) (z, 0)) la (sumP_ok _ _)
  have t7 := timesA (a, 0) (z, 0) la lc
  have f6 := sumA (timesP (a, 0) (b, 0)) (timesP (a, 0) (z, 0)) (timesP_ok _ _) (timesP_ok _ _)
  have g5 := agreeA _ _ (timesP_ok _ _) (sumP_ok _ _) (P_distr (a, 0) (b, 0) (z, 0))
  have o0 := ofA 0 (by omega) (by omega)
  have o1 := ofA 1 (by omega) (by omega)
  have v0 := valA 0
  have v1 := valA 1
  have e0 : sumP (a, 0) (0, 0) = (a, 0) := by unfold sumP; rw [if_pos ⟨rfl, rfl⟩, show (a, (0 : Int)).1 + ((0 : Int), (0 : Int)).1 = a from Int.add_zero a, limP_one la]
  have l1 : lenZ 1 ≤ 40 := Nat.le_trans (lenZ_small (by decide)) (by decide)
  have e1 : timesP (a, 0) (1, 0) = (a, 0) := by unfold timesP; rw [if_pos ⟨rfl, rfl⟩, show (a, (0 : Int)).1 * ((1 : Int), (0 : Int)).1 = a from Int.mul_one a, limP_one la]
  have e2 : timesP (a, 0) (0, 0) = (0, 0) := by unfold timesP; rw [if_pos ⟨rfl, rfl⟩, show (a, (0 : Int)).1 * ((0 : Int), (0 : Int)).1 = 0 from Int.mul_zero a, limP_one lenZ_0]
  have f7 := sumA (a, 0) (0, 0) la lenZ_0
  rw [e0] at f7
  have t8 := timesA (a, 0) (1, 0) la l1
  rw [e1] at t8
  have t9 := timesA (a, 0) (0, 0) la lenZ_0
  rw [e2] at t9
  have k1 := sameA (a, 0) (a, 0) la la rfl
  have k2 := sameA (0, 0) (0, 0) lenZ_0 lenZ_0 rfl
  generalize sumP (b, 0) (z, 0) = s3 at *
  generalize timesP (a, 0) (b, 0) = u1 at *
  generalize timesP (a, 0) s3 = u5 at *
  generalize timesP (a, 0) (z, 0) = u6 at *
  generalize sumP u1 u6 = s5 at *
  simp only [cseq, body10, Tryz.f10]
  repeat' first
    | (exact absurd hlt (by decide))
    | (refine AWp.seq fun K hK => ?_)
    | (first | refine AWp.draw2 (id := 5) [.take 0, .take 1, .take 2, .take 3, .take 4, .take 5, .grp [6, 7, 8], .grp [9], .grp [10], .grp [11]] mixed_ok (by kernel_rfl) (by rw [hc]; rfl) ?_ | refine AWp.draw2 (id := 6) [.take 0, .take 1, .take 2, .take 3, .take 4, .take 5, .take 6, .take 7, .take 8, .take 9, .take 10, .take 11, .take 12, .take 13, .take 14, .take 15, .take 16, .take 17, .take 18, .take 19, .take 20, .take 21, .take 22, .take 23, .take 24, .take 25, .take 26, .take 27, .take 28, .take 29, .take 30, .take 31, .take 32, .take 33, .take 34, .take 35, .take 36, .take 37, .take 38, .take 39, .take 40, .take 41, .take 42, .take 43, .take 44, .take 45] mixed_ok (by kernel_rfl) (by rw [hc]; rfl) ?_ | refine AWp.draw2 (id := 8) [.take 0, .take 1, .take 2, .take 3, .take 4, .take 5, .take 6, .take 7, .take 8, .take 9, .take 10, .take 11, .take 12, .take 13, .take 14, .take 15, .take 16, .take 17, .take 18, .take 19, .take 20, .take 21, .take 22, .take 23, .take 24, .take 25, .take 26, .take 27, .take 28, .take 29, .take 30, .take 31, .take 32, .take 33, .take 34, .take 35, .take 36, .take 37, .take 38, .take 39, .take 40, .take 41] mixed_ok (by kernel_rfl) (by rw [hc]; rfl) ?_ | refine AWp.draw2 (id := 11) [.take 0, .take 1, .take 2, .take 3, .take 4, .take 5, .take 6, .take 7, .take 8, .take 9, .take 10, .take 11, .take 12, .take 13, .take 14] mixed_ok (by kernel_rfl) (by rw [hc]; rfl) ?_ | refine AWp.draw2 (id := 14) [.take 0, .take 1, .take 2, .take 3, .take 4, .take 5, .take 6, .take 7, .take 8, .take 9, .take 10, .take 11] mixed_ok (by kernel_rfl) (by rw [hc]; rfl) ?_ | refine AWp.draw2 (id := 20) [.take 0, .take 1, .take 2, .take 3, .take 4, .take 5, .take 6, .take 7, .take 8, .take 9, .take 10, .take 11, .take 12, .take 13, .take 14, .take 15, .take 16, .take 17, .take 18, .take 19, .take 20, .take 21, .take 22, .take 23, .take 24, .take 25, .take 26] mixed_ok (by kernel_rfl) (by rw [hc]; rfl) ?_)
    | ((first | refine planK_step fun K hK => ?_ | refine planK_one fun K hK => ?_); simp -implicitDefEqProofs (maxSteps := 100000000) (disch := omega) only [go_sem, wrap64, Int.tdiv_eq_ediv_of_nonneg, Int.tmod_eq_emod_of_nonneg, Nat.reduceAdd, Nat.reduceMul, Nat.reduceEqDiff, Nat.reduceLT, Nat.reduceLeDiff, Int.reduceEq, Int.reduceNeg, Int.reduceToNat, reduceCtorEq, eq_self, Bool.false_eq_true, Bool.true_eq_false, ↓reduceIte, Int.reduceBNe, Int.reduceBEq, Bool.not_true, Bool.not_false, zC_len, pC_len, zD_len, zC_map, pC_map, zC_toCs, pC_toCs, zC_dCs, pC_dCs, zC_dats0, zC_take, pC_take, pC_take2, pC_get2, zC_get0, zC_get1, zC_drop, pC_drop, pC_drop3, zC_drop2, List.nil_append, List.append_nil, R10, zBx, pBx])
    | (refine planK_end ?_; try (simp -implicitDefEqProofs (maxSteps := 100000000) (disch := omega) only [go_sem, wrap64, Int.tdiv_eq_ediv_of_nonneg, Int.tmod_eq_emod_of_nonneg, Nat.reduceAdd, Nat.reduceMul, Nat.reduceEqDiff, Nat.reduceLT, Nat.reduceLeDiff, Int.reduceEq, Int.reduceNeg, Int.reduceToNat, reduceCtorEq, eq_self, Bool.false_eq_true, Bool.true_eq_false, ↓reduceIte, Int.reduceBNe, Int.reduceBEq, Bool.not_true, Bool.not_false, zC_len, pC_len, zD_len, zC_map, pC_map, zC_toCs, pC_toCs, zC_dCs, pC_dCs, zC_dats0, zC_take, pC_take, pC_take2, pC_get2, zC_get0, zC_get1, zC_drop, pC_drop, pC_drop3, zC_drop2, List.nil_append, List.append_nil, R10, zBx, pBx]))
    | ((first | refine AWp.region (by rw [hc]; rfl) ?_ | refine AWp.skip ?_ | refine AWp.exit ?_ | refine AWp.label ?_ | refine AWp.ret ?_ | refine appK_g ?_); simp -implicitDefEqProofs (maxSteps := 100000000) (disch := omega) only [go_sem, wrap64, Int.tdiv_eq_ediv_of_nonneg, Int.tmod_eq_emod_of_nonneg, Nat.reduceAdd, Nat.reduceMul, Nat.reduceEqDiff, Nat.reduceLT, Nat.reduceLeDiff, Int.reduceEq, Int.reduceNeg, Int.reduceToNat, reduceCtorEq, eq_self, Bool.false_eq_true, Bool.true_eq_false, ↓reduceIte, Int.reduceBNe, Int.reduceBEq, Bool.not_true, Bool.not_false, zC_len, pC_len, zD_len, zC_map, pC_map, zC_toCs, pC_toCs, zC_dCs, pC_dCs, zC_dats0, zC_take, pC_take, pC_take2, pC_get2, zC_get0, zC_get1, zC_drop, pC_drop, pC_drop3, zC_drop2, List.nil_append, List.append_nil, R10, zBx, pBx])
    | (refine hK _ ?_; clear hK)
    | (clear hK; refine hK _ ?_; clear hK)
    | (clear hK; clear hK; refine hK _ ?_; clear hK)
    | (clear hK; clear hK; clear hK; refine hK _ ?_; clear hK)
    | (refine AWp.cond ?_; simp -implicitDefEqProofs (maxSteps := 100000000) (disch := omega) only [go_sem, wrap64, Int.tdiv_eq_ediv_of_nonneg, Int.tmod_eq_emod_of_nonneg, Nat.reduceAdd, Nat.reduceMul, Nat.reduceEqDiff, Nat.reduceLT, Nat.reduceLeDiff, Int.reduceEq, Int.reduceNeg, Int.reduceToNat, reduceCtorEq, eq_self, Bool.false_eq_true, Bool.true_eq_false, ↓reduceIte, Int.reduceBNe, Int.reduceBEq, Bool.not_true, Bool.not_false, zC_len, pC_len, zD_len, zC_map, pC_map, zC_toCs, pC_toCs, zC_dCs, pC_dCs, zC_dats0, zC_take, pC_take, pC_take2, pC_get2, zC_get0, zC_get1, zC_drop, pC_drop, pC_drop3, zC_drop2, List.nil_append, List.append_nil, R10, zBx, pBx]; try (refine ⟨fun hlt => ?_, fun hlt => ?_⟩ <;> (try simp only [decide_eq_true_eq, decide_eq_false_iff_not, beq_iff_eq, bne_iff_ne, ne_eq, beq_eq_false_iff_ne, bne_eq_false_iff_eq, Bool.true_eq_false, Bool.false_eq_true, Int.not_lt, Int.not_le, Decidable.not_not, gt_iff_lt, ge_iff_le, reduceCtorEq] at hlt) <;> (try exact hlt.elim)))
    | (refine AWp.block ?_)
    | ((first | refine gdO_split (fun hlt => ?_) (fun hlt => ?_) | refine tkO_split (fun hlt => ?_) (fun hlt => ?_) | refine opO_split (fun hlt => ?_) (fun hlt => ?_)) <;> have hgd := hlt <;> (try simp only [decide_eq_true_eq, decide_eq_false_iff_not, beq_iff_eq, bne_iff_ne, ne_eq, beq_eq_false_iff_ne, bne_eq_false_iff_eq, Bool.not_eq_true, Bool.not_eq_false, Bool.not_eq_eq_eq_not, Int.not_lt, Int.not_le, Decidable.not_not, gt_iff_lt, ge_iff_le] at hlt) <;> (simp -implicitDefEqProofs (maxSteps := 100000000) (disch := omega) only [go_sem, wrap64, Int.tdiv_eq_ediv_of_nonneg, Int.tmod_eq_emod_of_nonneg, Nat.reduceAdd, Nat.reduceMul, Nat.reduceEqDiff, Nat.reduceLT, Nat.reduceLeDiff, Int.reduceEq, Int.reduceNeg, Int.reduceToNat, reduceCtorEq, eq_self, Bool.false_eq_true, Bool.true_eq_false, ↓reduceIte, Int.reduceBNe, Int.reduceBEq, Bool.not_true, Bool.not_false, zC_len, pC_len, zD_len, zC_map, pC_map, zC_toCs, pC_toCs, zC_dCs, pC_dCs, zC_dats0, zC_take, pC_take, pC_take2, pC_get2, zC_get0, zC_get1, zC_drop, pC_drop, pC_drop3, zC_drop2, List.nil_append, List.append_nil, R10, zBx, pBx, hgd]) <;> clear hgd)
    | (with_reducible refine And.intro ?_ ?_; · first | omega | assumption | exact ⟨_, _, rfl, rfl⟩)
    | ((first | refine ⟨_, f4, ?_⟩ | refine ⟨_, t6, ?_⟩ | refine ⟨_, t1, ?_⟩ | refine ⟨_, t7, ?_⟩ | refine ⟨_, f6, ?_⟩ | refine ⟨_, g5, ?_⟩ | refine ⟨_, o0, ?_⟩ | refine ⟨_, v0, ?_⟩ | refine ⟨_, f7, ?_⟩ | refine ⟨_, k1, ?_⟩ | refine ⟨_, o1, ?_⟩ | refine ⟨_, v1, ?_⟩ | refine ⟨_, t8, ?_⟩ | refine ⟨_, t9, ?_⟩ | refine ⟨_, k2, ?_⟩); try (simp -implicitDefEqProofs (maxSteps := 100000000) (disch := omega) only [go_sem, wrap64, Int.tdiv_eq_ediv_of_nonneg, Int.tmod_eq_emod_of_nonneg, Nat.reduceAdd, Nat.reduceMul, Nat.reduceEqDiff, Nat.reduceLT, Nat.reduceLeDiff, Int.reduceEq, Int.reduceNeg, Int.reduceToNat, reduceCtorEq, eq_self, Bool.false_eq_true, Bool.true_eq_false, ↓reduceIte, Int.reduceBNe, Int.reduceBEq, Bool.not_true, Bool.not_false, zC_len, pC_len, zD_len, zC_map, pC_map, zC_toCs, pC_toCs, zC_dCs, pC_dCs, zC_dats0, zC_take, pC_take, pC_take2, pC_get2, zC_get0, zC_get1, zC_drop, pC_drop, pC_drop3, zC_drop2, List.nil_append, List.append_nil, R10, zBx, pBx]))
    | (exact Nat.le_refl 2)
    | (refine AWp.skip ?_)
    | fail
  all_goals (try (
    show Sub c _ _
    refine Sub.of0 hm id rfl ?_ ?_ (fun _ _ _ _ h => h) <;> (simp -implicitDefEqProofs only [zC, pC, id, go_sem, Nat.reduceAdd, Nat.reduceEqDiff, Nat.blt_eq, Nat.reduceLT, ↓reduceIte, and_true, true_and, reduceCtorEq, Option.some.injEq]) <;> done))
set_option maxHeartbeats 8000000 in
theorem NumRing_z (a b z : Int) (la : lenZ a ≤ 40) (lb : lenZ b ≤ 40) (lc : lenZ z ≤ 40) : PC Tryz.prog 10 [.agg (zC a), .agg (zC b), .agg (zC z)] (B true) := by
  have hs := sane_ok
  have hr := right3A a b z la lb lc
  have va := valA a
  have vb := valA b
  have vc := valA z
  have f1 := sumA (a, 0) (b, 0) la lb
  have f2 := sumA (b, 0) (a, 0) lb la
  rw [sumP_comm (b, 0) (a, 0)] at f2
  have t1 := timesA (a, 0) (b, 0) la lb
  have t2 := timesA (b, 0) (a, 0) lb la
  rw [timesP_comm (b, 0) (a, 0)] at t2
  have f3 := sumA (sumP (a, 0) (b, 0)) (z, 0) (sumP_ok _ _) lc
  have f4 := sumA (b, 0) (z, 0) lb lc
  have f5 := sumA (a, 0) (sumP (b, 0) (z, 0)) la (sumP_ok _ _)
  have t3 := timesA (timesP (a, 0) (b, 0)) (z, 0) (timesP_ok _ _) lc
  have t4 := timesA (b, 0) (z, 0) lb lc
  have t5 := timesA (a, 0) (timesP (b, 0) (z, 0)) la (timesP_ok _ _)
  have g1 := agreeA _ _ (sumP_ok (a, 0) (b, 0)) (sumP_ok (a, 0) (b, 0)) (fun _ => rfl)
  have g2 := agreeA _ _ (timesP_ok (a, 0) (b, 0)) (timesP_ok (a, 0) (b, 0)) (fun _ => rfl)
  have g3 := agreeA _ _ (sumP_ok _ _) (sumP_ok _ _) (sumP_assoc (a, 0) (b, 0) (z, 0))
  have g4 := agreeA _ _ (timesP_ok _ _) (timesP_ok _ _) (timesP_assoc (a, 0) (b, 0) (z, 0))
  have t6 := timesA (a, 0) (sumP (b, 0) (z, 0)) la (sumP_ok _ _)
  have t7 := timesA (a, 0) (z, 0) la lc
  have f6 := sumA (timesP (a, 0) (b, 0)) (timesP (a, 0) (z, 0)) (timesP_ok _ _) (timesP_ok _ _)
  have g5 := agreeA _ _ (timesP_ok _ _) (sumP_ok _ _) (P_distr (a, 0) (b, 0) (z, 0))
  have o0 := ofA 0 (by omega) (by omega)
  have o1 := ofA 1 (by omega) (by omega)
  have v0 := valA 0
  have v1 := valA 1
  have e0 : sumP (a, 0) (0, 0) = (a, 0) := by unfold sumP; rw [if_pos ⟨rfl, rfl⟩, show (a, (0 : Int)).1 + ((0 : Int), (0 : Int)).1 = a from Int.add_zero a, limP_one la]
  have l1 : lenZ 1 ≤ 40 := Nat.le_trans (lenZ_small (by decide)) (by decide)
  have e1 : timesP (a, 0) (1, 0) = (a, 0) := by unfold timesP; rw [if_pos ⟨rfl, rfl⟩, show (a, (0 : Int)).1 * ((1 : Int), (0 : Int)).1 = a from Int.mul_one a, limP_one la]
  have e2 : timesP (a, 0) (0, 0) = (0, 0) := by unfold timesP; rw [if_pos ⟨rfl, rfl⟩, show (a, (0 : Int)).1 * ((0 : Int), (0 : Int)).1 = 0 from Int.mul_zero a, limP_one lenZ_0]
  have f7 := sumA (a, 0) (0, 0) la lenZ_0
  rw [e0] at f7
  have t8 := timesA (a, 0) (1, 0) la l1
  rw [e1] at t8
  have t9 := timesA (a, 0) (0, 0) la lenZ_0
  rw [e2] at t9
  have k1 := sameA (a, 0) (a, 0) la la rfl
  have k2 := sameA (0, 0) (0, 0) lenZ_0 lenZ_0 rfl
  have sb : (sumP (a, 0) (b, 0)).2 = 0 → PC Tryz.prog 37 [.agg (zC (sumP (a, 0) (b, 0)).1), .agg (zC b)] (.tup [.agg (zC a), I 0]) := fun h => by
    have h2 := subA (sumP (a, 0) (b, 0)).1 b (sumP_ok _ _) lb
    rw [(sumP_1 h).2.2] at h2 ⊢
    rwa [show (a, (0 : Int)).1 + (b, (0 : Int)).1 - b = a from Int.add_sub_cancel a b, limP_one la] at h2
  have ga := gotA a 0
  have ng := negA a la
  have vn := valA (-a)
  have f8 := sumA (a, 0) (-a, 0) la (neg_len la)
  rw [show sumP (a, 0) (-a, 0) = (0, 0) by unfold sumP; rw [if_pos ⟨rfl, rfl⟩, show (a, (0 : Int)).1 + (-a, (0 : Int)).1 = 0 from Int.add_right_neg a, limP_one lenZ_0]] at f8
  -- the quotient and the remainder
  have dv := divA a b la lb
  have md := modA a b la lb
  have hq := divP_ok (y := b) la
  have hr' := modP_ok (x := a) lb
  have hqe : (divP a b).2 = (modP a b).2 ∧ ((divP a b).2 = 0 → b ≠ 0 ∧ (divP a b).1 = a.fdiv b ∧ (modP a b).1 = a.fmod b) ∧ ((divP a b).2 ≠ 0 → b = 0 ∧ (divP a b).2 = 11) := by
    unfold divP modP
    by_cases hb : b = 0
    · rw [if_pos hb, if_pos hb]; exact ⟨rfl, fun h => absurd h (by decide), fun _ => ⟨hb, rfl⟩⟩
    · rw [if_neg hb, if_neg hb]; exact ⟨rfl, fun _ => ⟨hb, rfl, rfl⟩, fun h => absurd rfl h⟩
  generalize (divP a b).1 = q at *
  generalize (modP a b).1 = r at *
  generalize (divP a b).2 = e at *
  rw [← hqe.1] at md
  have hqe := hqe.2
  have vq := valA q
  have vr := valA r
  have t10 := timesA (q, 0) (b, 0) hq lb
  have f9 := sumA (timesP (q, 0) (b, 0)) (r, 0) (timesP_ok _ _) hr'
  have g6 : e = 0 → PC Tryz.prog 31 [.agg (pC (sumP (timesP (q, 0) (b, 0)) (r, 0))), .agg (pC (a, 0))] (B true) := fun he => by
    refine agreeA _ _ (sumP_ok _ _) la (fun h => ?_)
    obtain ⟨h1, h2⟩ := h
    obtain ⟨p1, p2, p3⟩ := sumP_1 h1
    obtain ⟨p4, p5, p6⟩ := timesP_1 p1
    obtain ⟨q1, q2, q3⟩ := hqe.1 he
    rw [p3, p6, q2, q3]
    have := Int.mul_fdiv_add_fmod a b
    show a.fdiv b * b + a.fmod b = a
    rw [Int.mul_comm]; exact this
  have sm := smallerA r b hr' lb
  have sm' : e = 0 → PC Tryz.prog 35 [.agg (zC r), .agg (zC b)] (B true) := fun he => by
    obtain ⟨q1, q2, q3⟩ := hqe.1 he
    rwa [decide_eq_true (by rw [q3, Int.fmod_def]; exact fmod_small _ _ q1)] at sm
  have sr := signA r
  have sB := signA b
  have hsg : e = 0 → r = 0 ∨ (decide (r < 0) == decide (b < 0)) = true := fun he => by
    obtain ⟨q1, q2, q3⟩ := hqe.1 he
    rcases Int.lt_or_lt_of_ne q1 with g | g
    · have h1 := Int.fmod_nonneg_of_pos (-a) (show 0 < -b by omega)
      rw [Int.neg_fmod_neg, ← q3] at h1
      by_cases hz : r = 0
      · exact .inl hz
      · right; rw [decide_eq_true (show r < 0 by omega), decide_eq_true g]; rfl
    · have h1 := Int.fmod_nonneg_of_pos a g
      rw [← q3] at h1
      right; rw [decide_eq_false (show ¬ r < 0 by omega), decide_eq_false (show ¬ b < 0 by omega)]; rfl
  generalize sumP (timesP (q, 0) (b, 0)) (r, 0) = s6 at *
  generalize timesP (q, 0) (b, 0) = u7 at *
  generalize sumP (a, 0) (b, 0) = s1 at *
  generalize timesP (a, 0) (b, 0) = u1 at *
  generalize sumP s1 (z, 0) = s2 at *
  generalize sumP (b, 0) (z, 0) = s3 at *
  generalize sumP (a, 0) s3 = s4 at *
  generalize timesP u1 (z, 0) = u2 at *
  generalize timesP (b, 0) (z, 0) = u3 at *
  generalize timesP (a, 0) u3 = u4 at *
  generalize timesP (a, 0) s3 = u5 at *
  generalize timesP (a, 0) (z, 0) = u6 at *
  generalize sumP u1 u6 = s5 at *
  clear sm hr' hq
  refine PCr.pc (PCr.of tab_ok Tryz.func10 rfl rfl rfl fun c hc hm => ?_)
  rw [show Tryz.f10.ntmps = _ from Tryz.ntmps10] at hc
  simp only [Tryz.f10]
  repeat' first
    | (exact absurd hlt (by decide))
    | (refine AWp.drawT (id := 5) [0, 1, 2, 3, 4, 5] (.br 6 (.br 7 (.br 8 (.br 9 (.br 10 (.br 11 .fin .no) .no) .no) .no) (.br 8 (.br 7 (.br 9 (.br 10 (.br 11 .fin .no) .no) .no) .no) .no)) (.br 7 (.br 6 (.br 8 (.br 9 (.br 10 (.br 11 .fin .no) .no) .no) .no) (.br 8 (.br 6 (.br 9 (.br 10 (.br 11 .fin .no) .no) .no) .no) .no)) (.br 8 (.br 6 (.br 7 (.br 9 (.br 10 (.br 11 .fin .no) .no) .no) .no) (.br 7 (.br 6 (.br 9 (.br 10 (.br 11 .fin .no) .no) .no) .no) .no)) .no))) 6 mixed_ok (by kernel_rfl) (by rw [hc]; rfl) ?_; simp -implicitDefEqProofs (maxSteps := 100000000) (disch := omega) only [go_sem, wrap64, Int.tdiv_eq_ediv_of_nonneg, Int.tmod_eq_emod_of_nonneg, Nat.reduceAdd, Nat.reduceMul, Nat.reduceEqDiff, Nat.reduceLT, Nat.reduceLeDiff, Int.reduceEq, Int.reduceNeg, Int.reduceToNat, reduceCtorEq, eq_self, Bool.false_eq_true, Bool.true_eq_false, ↓reduceIte])
    | (refine AWp.cut (x := .seq (.region 13 _ false) _) (R10 a b z) ?_ ?_)
    | (refine AWp.cut (x := .seq (.region 10 _ false) _) (R10 a b z) ?_ ?_)
    | (refine AWp.cut (x := .seq (.region 8 _ true) _) (R10 a b z) (ring8 c hc hm a b z la lb lc) ?_)
    | (refine AWp.cut (x := .seq (.region 6 _ true) _) (R10 a b z) (ring6 c hc hm a b z la lb lc) ?_)
    | (refine AWp.cut (x := .region 5 _ true) (R10 a b z) ?_ ?_)
    | (refine AWp.seq fun K hK => ?_)
    | (first | refine AWp.draw2 (id := 5) [.take 0, .take 1, .take 2, .take 3, .take 4, .take 5, .grp [6, 7, 8], .grp [9], .grp [10], .grp [11]] mixed_ok (by kernel_rfl) (by rw [hc]; rfl) ?_ | refine AWp.draw2 (id := 6) [.take 0, .take 1, .take 2, .take 3, .take 4, .take 5, .take 6, .take 7, .take 8, .take 9, .take 10, .take 11, .take 12, .take 13, .take 14, .take 15, .take 16, .take 17, .take 18, .take 19, .take 20, .take 21, .take 22, .take 23, .take 24, .take 25, .take 26, .take 27, .take 28, .take 29, .take 30, .take 31, .take 32, .take 33, .take 34, .take 35, .take 36, .take 37, .take 38, .take 39, .take 40, .take 41, .take 42, .take 43, .take 44, .take 45] mixed_ok (by kernel_rfl) (by rw [hc]; rfl) ?_ | refine AWp.draw2 (id := 8) [.take 0, .take 1, .take 2, .take 3, .take 4, .take 5, .take 6, .take 7, .take 8, .take 9, .take 10, .take 11, .take 12, .take 13, .take 14, .take 15, .take 16, .take 17, .take 18, .take 19, .take 20, .take 21, .take 22, .take 23, .take 24, .take 25, .take 26, .take 27, .take 28, .take 29, .take 30, .take 31, .take 32, .take 33, .take 34, .take 35, .take 36, .take 37, .take 38, .take 39, .take 40, .take 41] mixed_ok (by kernel_rfl) (by rw [hc]; rfl) ?_ | refine AWp.draw2 (id := 11) [.take 0, .take 1, .take 2, .take 3, .take 4, .take 5, .take 6, .take 7, .take 8, .take 9, .take 10, .take 11, .take 12, .take 13, .take 14] mixed_ok (by kernel_rfl) (by rw [hc]; rfl) ?_ | refine AWp.draw2 (id := 14) [.take 0, .take 1, .take 2, .take 3, .take 4, .take 5, .take 6, .take 7, .take 8, .take 9, .take 10, .take 11] mixed_ok (by kernel_rfl) (by rw [hc]; rfl) ?_ | refine AWp.draw2 (id := 20) [.take 0, .take 1, .take 2, .take 3, .take 4, .take 5, .take 6, .take 7, .take 8, .take 9, .take 10, .take 11, .take 12, .take 13, .take 14, .take 15, .take 16, .take 17, .take 18, .take 19, .take 20, .take 21, .take 22, .take 23, .take 24, .take 25, .take 26] mixed_ok (by kernel_rfl) (by rw [hc]; rfl) ?_)
    | ((first | refine planK_step fun K hK => ?_ | refine planK_one fun K hK => ?_); simp -implicitDefEqProofs (maxSteps := 100000000) (disch := omega) only [go_sem, wrap64, Int.tdiv_eq_ediv_of_nonneg, Int.tmod_eq_emod_of_nonneg, Nat.reduceAdd, Nat.reduceMul, Nat.reduceEqDiff, Nat.reduceLT, Nat.reduceLeDiff, Int.reduceEq, Int.reduceNeg, Int.reduceToNat, reduceCtorEq, eq_self, Bool.false_eq_true, Bool.true_eq_false, ↓reduceIte, Int.reduceBNe, Int.reduceBEq, Bool.not_true, Bool.not_false, zC_len, pC_len, zD_len, zC_map, pC_map, zC_toCs, pC_toCs, zC_dCs, pC_dCs, zC_dats0, zC_take, pC_take, pC_take2, pC_get2, zC_get0, zC_get1, zC_drop, pC_drop, pC_drop3, zC_drop2, List.nil_append, List.append_nil, R10, zBx, pBx])
    | (refine planK_end ?_; try (simp -implicitDefEqProofs (maxSteps := 100000000) (disch := omega) only [go_sem, wrap64, Int.tdiv_eq_ediv_of_nonneg, Int.tmod_eq_emod_of_nonneg, Nat.reduceAdd, Nat.reduceMul, Nat.reduceEqDiff, Nat.reduceLT, Nat.reduceLeDiff, Int.reduceEq, Int.reduceNeg, Int.reduceToNat, reduceCtorEq, eq_self, Bool.false_eq_true, Bool.true_eq_false, ↓reduceIte, Int.reduceBNe, Int.reduceBEq, Bool.not_true, Bool.not_false, zC_len, pC_len, zD_len, zC_map, pC_map, zC_toCs, pC_toCs, zC_dCs, pC_dCs, zC_dats0, zC_take, pC_take, pC_take2, pC_get2, zC_get0, zC_get1, zC_drop, pC_drop, pC_drop3, zC_drop2, List.nil_append, List.append_nil, R10, zBx, pBx]))
    | ((first | refine AWp.region (by rw [hc]; rfl) ?_ | refine AWp.skip ?_ | refine AWp.exit ?_ | refine AWp.label ?_ | refine AWp.ret ?_ | refine appK_g ?_); simp -implicitDefEqProofs (maxSteps := 100000000) (disch := omega) only [go_sem, wrap64, Int.tdiv_eq_ediv_of_nonneg, Int.tmod_eq_emod_of_nonneg, Nat.reduceAdd, Nat.reduceMul, Nat.reduceEqDiff, Nat.reduceLT, Nat.reduceLeDiff, Int.reduceEq, Int.reduceNeg, Int.reduceToNat, reduceCtorEq, eq_self, Bool.false_eq_true, Bool.true_eq_false, ↓reduceIte, Int.reduceBNe, Int.reduceBEq, Bool.not_true, Bool.not_false, zC_len, pC_len, zD_len, zC_map, pC_map, zC_toCs, pC_toCs, zC_dCs, pC_dCs, zC_dats0, zC_take, pC_take, pC_take2, pC_get2, zC_get0, zC_get1, zC_drop, pC_drop, pC_drop3, zC_drop2, List.nil_append, List.append_nil, R10, zBx, pBx])
    | (refine hK _ ?_; clear hK)
    | (clear hK; refine hK _ ?_; clear hK)
    | (clear hK; clear hK; refine hK _ ?_; clear hK)
    | (clear hK; clear hK; clear hK; refine hK _ ?_; clear hK)
    | (refine AWp.cond ?_; simp -implicitDefEqProofs (maxSteps := 100000000) (disch := omega) only [go_sem, wrap64, Int.tdiv_eq_ediv_of_nonneg, Int.tmod_eq_emod_of_nonneg, Nat.reduceAdd, Nat.reduceMul, Nat.reduceEqDiff, Nat.reduceLT, Nat.reduceLeDiff, Int.reduceEq, Int.reduceNeg, Int.reduceToNat, reduceCtorEq, eq_self, Bool.false_eq_true, Bool.true_eq_false, ↓reduceIte, Int.reduceBNe, Int.reduceBEq, Bool.not_true, Bool.not_false, zC_len, pC_len, zD_len, zC_map, pC_map, zC_toCs, pC_toCs, zC_dCs, pC_dCs, zC_dats0, zC_take, pC_take, pC_take2, pC_get2, zC_get0, zC_get1, zC_drop, pC_drop, pC_drop3, zC_drop2, List.nil_append, List.append_nil, R10, zBx, pBx]; try (refine ⟨fun hlt => ?_, fun hlt => ?_⟩ <;> (try simp only [decide_eq_true_eq, decide_eq_false_iff_not, beq_iff_eq, bne_iff_ne, ne_eq, beq_eq_false_iff_ne, bne_eq_false_iff_eq, Bool.true_eq_false, Bool.false_eq_true, Int.not_lt, Int.not_le, Decidable.not_not, gt_iff_lt, ge_iff_le, reduceCtorEq] at hlt) <;> (try exact hlt.elim)))
    | (refine AWp.block ?_)
    | ((first | refine gdO_split (fun hlt => ?_) (fun hlt => ?_) | refine tkO_split (fun hlt => ?_) (fun hlt => ?_) | refine opO_split (fun hlt => ?_) (fun hlt => ?_)) <;> have hgd := hlt <;> (try simp only [decide_eq_true_eq, decide_eq_false_iff_not, beq_iff_eq, bne_iff_ne, ne_eq, beq_eq_false_iff_ne, bne_eq_false_iff_eq, Bool.not_eq_true, Bool.not_eq_false, Bool.not_eq_eq_eq_not, Int.not_lt, Int.not_le, Decidable.not_not, gt_iff_lt, ge_iff_le] at hlt) <;> (simp -implicitDefEqProofs (maxSteps := 100000000) (disch := omega) only [go_sem, wrap64, Int.tdiv_eq_ediv_of_nonneg, Int.tmod_eq_emod_of_nonneg, Nat.reduceAdd, Nat.reduceMul, Nat.reduceEqDiff, Nat.reduceLT, Nat.reduceLeDiff, Int.reduceEq, Int.reduceNeg, Int.reduceToNat, reduceCtorEq, eq_self, Bool.false_eq_true, Bool.true_eq_false, ↓reduceIte, Int.reduceBNe, Int.reduceBEq, Bool.not_true, Bool.not_false, zC_len, pC_len, zD_len, zC_map, pC_map, zC_toCs, pC_toCs, zC_dCs, pC_dCs, zC_dats0, zC_take, pC_take, pC_take2, pC_get2, zC_get0, zC_get1, zC_drop, pC_drop, pC_drop3, zC_drop2, List.nil_append, List.append_nil, R10, zBx, pBx, hgd]) <;> clear hgd)
    | (with_reducible refine And.intro ?_ ?_; · first | omega | assumption | exact ⟨_, _, rfl, rfl⟩)
    | ((first | refine ⟨_, hs, ?_⟩ | refine ⟨_, hr, ?_⟩ | refine ⟨_, va, ?_⟩ | refine ⟨_, vb, ?_⟩ | refine ⟨_, vc, ?_⟩ | refine ⟨_, vq, ?_⟩ | refine ⟨_, vr, ?_⟩ | refine ⟨_, f1, ?_⟩ | refine ⟨_, f2, ?_⟩ | refine ⟨_, f3, ?_⟩ | refine ⟨_, f4, ?_⟩ | refine ⟨_, f5, ?_⟩ | refine ⟨_, f6, ?_⟩ | refine ⟨_, f7, ?_⟩ | refine ⟨_, f8, ?_⟩ | refine ⟨_, f9, ?_⟩ | refine ⟨_, t1, ?_⟩ | refine ⟨_, t2, ?_⟩ | refine ⟨_, t3, ?_⟩ | refine ⟨_, t4, ?_⟩ | refine ⟨_, t5, ?_⟩ | refine ⟨_, t6, ?_⟩ | refine ⟨_, t7, ?_⟩ | refine ⟨_, t8, ?_⟩ | refine ⟨_, t9, ?_⟩ | refine ⟨_, t10, ?_⟩ | refine ⟨_, g1, ?_⟩ | refine ⟨_, g2, ?_⟩ | refine ⟨_, g3, ?_⟩ | refine ⟨_, g4, ?_⟩ | refine ⟨_, g5, ?_⟩ | refine ⟨_, v0, ?_⟩ | refine ⟨_, v1, ?_⟩ | refine ⟨_, o0, ?_⟩ | refine ⟨_, o1, ?_⟩ | refine ⟨_, k1, ?_⟩ | refine ⟨_, k2, ?_⟩ | refine ⟨_, ga, ?_⟩ | refine ⟨_, ng, ?_⟩ | refine ⟨_, vn, ?_⟩ | refine ⟨_, dv, ?_⟩ | refine ⟨_, md, ?_⟩ | refine ⟨_, sr, ?_⟩ | refine ⟨_, sB, ?_⟩ | refine ⟨_, sb (by assumption), ?_⟩ | refine ⟨_, g6 (by assumption), ?_⟩ | refine ⟨_, sm' (by assumption), ?_⟩); try (simp -implicitDefEqProofs (maxSteps := 100000000) (disch := omega) only [go_sem, wrap64, Int.tdiv_eq_ediv_of_nonneg, Int.tmod_eq_emod_of_nonneg, Nat.reduceAdd, Nat.reduceMul, Nat.reduceEqDiff, Nat.reduceLT, Nat.reduceLeDiff, Int.reduceEq, Int.reduceNeg, Int.reduceToNat, reduceCtorEq, eq_self, Bool.false_eq_true, Bool.true_eq_false, ↓reduceIte, Int.reduceBNe, Int.reduceBEq, Bool.not_true, Bool.not_false, zC_len, pC_len, zD_len, zC_map, pC_map, zC_toCs, pC_toCs, zC_dCs, pC_dCs, zC_dats0, zC_take, pC_take, pC_take2, pC_get2, zC_get0, zC_get1, zC_drop, pC_drop, pC_drop3, zC_drop2, List.nil_append, List.append_nil, R10, zBx, pBx]))
    | (exact Nat.le_refl 2)
    | (refine AWp.skip ?_)
    | (with_reducible refine And.intro ?_ ?_)
    | fail
  all_goals (try (
    show Sub c _ _
    first
      | (refine Sub.of0 hm id rfl ?_ ?_ (fun _ _ _ _ h => h) <;> (simp -implicitDefEqProofs only [zC, pC, id, go_sem, pms, Nat.reduceAdd, Nat.reduceEqDiff, Nat.blt_eq, Nat.reduceLT, ↓reduceIte, and_true, true_and, reduceCtorEq, Option.some.injEq]) <;> done)
      | (refine Sub.of0 hm (pm 4 5 6) rfl ?_ ?_ (pm_inj (by decide)) <;> (simp -implicitDefEqProofs only [zC, pC, go_sem, pms, Nat.reduceAdd, Nat.reduceEqDiff, Nat.blt_eq, Nat.reduceLT, ↓reduceIte, and_true, true_and, reduceCtorEq, Option.some.injEq]) <;> done)
      | (refine Sub.of0 hm (pm 4 6 5) rfl ?_ ?_ (pm_inj (by decide)) <;> (simp -implicitDefEqProofs only [zC, pC, go_sem, pms, Nat.reduceAdd, Nat.reduceEqDiff, Nat.blt_eq, Nat.reduceLT, ↓reduceIte, and_true, true_and, reduceCtorEq, Option.some.injEq]) <;> done)
      | (refine Sub.of0 hm (pm 5 4 6) rfl ?_ ?_ (pm_inj (by decide)) <;> (simp -implicitDefEqProofs only [zC, pC, go_sem, pms, Nat.reduceAdd, Nat.reduceEqDiff, Nat.blt_eq, Nat.reduceLT, ↓reduceIte, and_true, true_and, reduceCtorEq, Option.some.injEq]) <;> done)
      | (refine Sub.of0 hm (pm 5 6 4) rfl ?_ ?_ (pm_inj (by decide)) <;> (simp -implicitDefEqProofs only [zC, pC, go_sem, pms, Nat.reduceAdd, Nat.reduceEqDiff, Nat.blt_eq, Nat.reduceLT, ↓reduceIte, and_true, true_and, reduceCtorEq, Option.some.injEq]) <;> done)
      | (refine Sub.of0 hm (pm 6 4 5) rfl ?_ ?_ (pm_inj (by decide)) <;> (simp -implicitDefEqProofs only [zC, pC, go_sem, pms, Nat.reduceAdd, Nat.reduceEqDiff, Nat.blt_eq, Nat.reduceLT, ↓reduceIte, and_true, true_and, reduceCtorEq, Option.some.injEq]) <;> done)
      | (refine Sub.of0 hm (pm 6 5 4) rfl ?_ ?_ (pm_inj (by decide)) <;> (simp -implicitDefEqProofs only [zC, pC, go_sem, pms, Nat.reduceAdd, Nat.reduceEqDiff, Nat.blt_eq, Nat.reduceLT, ↓reduceIte, and_true, true_and, reduceCtorEq, Option.some.injEq]) <;> done)))
  · obtain ⟨h1, h2⟩ := hqe.2 (by assumption)
    rw [h1, h2]; rfl
  · rcases hsg (by assumption) with h1 | h1
    · exact absurd ((sg_abs r).2 h1) (by assumption)
    · exact h1
theorem NumRing_ok (na : Bool) (a : List Int) (nb : Bool) (b : List Int) (nc : Bool) (z : List Int) : PC Tryz.prog 10 [Zr na a, Zr nb b, Zr nc z] (B true) := by
  by_cases h : okI na a ∧ okI nb b ∧ okI nc z
  · obtain ⟨h1, h2, h3⟩ := h
    obtain ⟨x, e1, l1⟩ := okI_ex h1
    obtain ⟨y, e2, l2⟩ := okI_ex h2
    obtain ⟨w, e3, l3⟩ := okI_ex h3
    rw [e1, e2, e3]
    exact NumRing_z x y w l1 l2 l3
  · exact NumRing_bad na nb nc a b z h
end Go.Proofs.YthhjcfejgoddlaaGreatDoor
end
