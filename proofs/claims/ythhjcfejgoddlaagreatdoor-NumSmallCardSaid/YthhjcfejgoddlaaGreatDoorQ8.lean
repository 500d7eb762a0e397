/- The contract of the law's function. -/
import Derived.Test.YthhjcfejgoddlaaGreatDoorJb
import Derived.Test.YthhjcfejgoddlaaGreatDoorJc
section
set_option linter.unusedSimpArgs false
set_option linter.unusedVariables false
set_option maxRecDepth 100000
namespace Go.Proofs.YthhjcfejgoddlaaGreatDoor
open Go Go.Abs

/-- Results as pairs: the integer and the error. -/
def limP (z : Int) : Int × Int := if lenZ z ≤ 40 then (z, 0) else (0, 2)
def GP (p : Int × Int) : AV := GZ p.1 p.2
def okP (p : Int × Int) : Prop := lenZ p.1 ≤ 40
theorem lenZ_0 : lenZ 0 ≤ 40 := by unfold lenZ; rw [Int.natAbs_zero, D_zero]; exact Nat.zero_le _
theorem limR_P (z : Int) : limR z = .tup [Z (limP z).1, I (limP z).2] := by
  unfold limR limP
  split
  · rfl
  · show _ = AV.tup [Z 0, I 2]
    rw [Z_zero]
theorem limP_ok (z : Int) : okP (limP z) := by
  unfold limP okP
  split
  · assumption
  · exact lenZ_0
theorem gotP (p : Int × Int) : PC Tryz.prog 24 [Z p.1, I p.2] (GP p) := got_pc _ _ _
theorem got_lim (z : Int) : PC Tryz.prog 24 [Z (limP z).1, I (limP z).2] (GP (limP z)) := gotP _
theorem valP (x : Int) : PC Tryz.prog 21 [Z x] (GP (x, 0)) := val_pc _ _
def sumP (p q : Int × Int) : Int × Int := if p.2 = 0 ∧ q.2 = 0 then limP (p.1 + q.1) else (0, 2)
def timesP (p q : Int × Int) : Int × Int := if p.2 = 0 ∧ q.2 = 0 then limP (p.1 * q.1) else (0, 2)
theorem sumP_ok (p q : Int × Int) : okP (sumP p q) := by unfold sumP; split; exact limP_ok _; exact lenZ_0
theorem timesP_ok (p q : Int × Int) : okP (timesP p q) := by unfold timesP; split; exact limP_ok _; exact lenZ_0
theorem GP_02 : GP (0, 2) = .agg [B false, L [], I 2] := by
  show Gr (decide ((0 : Int) < 0)) (D (Int.natAbs 0)) 2 = _
  rw [Int.natAbs_zero, D_zero]; rfl
theorem PC.weak {f : FuncId} {args : List AV} {r r' : AV} (h : PC Tryz.prog f args r) (k : ∀ A w v, RV φ0 0 A w r v → RV φ0 0 A w r' v) : PC Tryz.prog f args r' :=
  ⟨h.1, fun w A vs hg hl hv => (h.2 w A vs hg hl hv).mono fun e w' ⟨v, he, hb, hrv⟩ => ⟨v, he, hb, k _ _ _ hrv⟩⟩
theorem RV_nilL {A : Nat → Nat → Prop} {w : World} {x y : AV} {v : Value} (h : RV φ0 0 A w (.agg [x, .nil, y]) v) : RV φ0 0 A w (.agg [x, L [], y]) v := by
  cases h with
  | agg _ vs hl h h1 =>
    refine .agg _ vs hl (fun j z hz => ?_) h1
    rcases j with _ | _ | _ | j
    · exact h 0 _ hz
    · have h2 := h 1 _ rfl
      obtain rfl := Option.some.inj hz
      cases hv : vs.getD 1 undef
      all_goals rw [hv] at h2; cases h2
      exact .dat _ _ (.emp _ _)
    · exact h 2 _ hz
    · simp at hz
theorem sum_P (p q : Int × Int) (hp : okP p) (hq : okP q) : PC Tryz.prog 28 [GP p, GP q] (GP (sumP p q)) := by
  obtain ⟨x, e⟩ := p
  obtain ⟨y, f⟩ := q
  have h := Add_ok x y hp hq
  rw [limR_P] at h
  have g := got_lim (x + y)
  unfold sumP
  by_cases h1 : e = 0 <;> by_cases h2 : f = 0
  · subst h1; subst h2
    rw [if_pos ⟨rfl, rfl⟩]
    simp only [GP, GZ, Gr] at g ⊢
    refine PCr.pc (PCr.of tab_ok Tryz.func28 rfl rfl rfl fun c hc hm => ?_)
    rw [show Tryz.f28.ntmps = _ from Tryz.ntmps28] at hc
    simp only [Tryz.f28]
    repeat' first
      | (refine AWp.seq fun K hK => ?_)
      | ((first | refine AWp.region (by rw [hc]; rfl) ?_ | refine AWp.skip ?_ | refine AWp.exit ?_ | refine AWp.label ?_ | refine AWp.ret ?_ | refine appK_g ?_); simp -implicitDefEqProofs (maxSteps := 1000000) (disch := omega) only [go_sem, wrap64, Int.tdiv_eq_ediv_of_nonneg, Int.tmod_eq_emod_of_nonneg, Nat.reduceAdd, Nat.reduceMul, Nat.reduceEqDiff, Nat.reduceLT, Nat.reduceLeDiff, Int.reduceEq, Int.reduceNeg, Int.reduceToNat, reduceCtorEq, eq_self, Bool.false_eq_true, Bool.true_eq_false, ↓reduceIte, Int.reduceBNe])
      | (refine hK _ ?_; clear hK)
      | (clear hK; refine hK _ ?_; clear hK)
      | (clear hK; clear hK; refine hK _ ?_; clear hK)
      | (clear hK; clear hK; clear hK; refine hK _ ?_; clear hK)
      | (refine AWp.cond ?_; simp -implicitDefEqProofs (maxSteps := 1000000) (disch := omega) only [go_sem, wrap64, Int.tdiv_eq_ediv_of_nonneg, Int.tmod_eq_emod_of_nonneg, Nat.reduceAdd, Nat.reduceMul, Nat.reduceEqDiff, Nat.reduceLT, Nat.reduceLeDiff, Int.reduceEq, Int.reduceNeg, Int.reduceToNat, reduceCtorEq, eq_self, Bool.false_eq_true, Bool.true_eq_false, ↓reduceIte, Int.reduceBNe]; try (refine ⟨fun hlt => ?_, fun hlt => ?_⟩ <;> (try simp only [decide_eq_true_eq, decide_eq_false_iff_not, beq_iff_eq, bne_iff_ne, ne_eq, beq_eq_false_iff_ne, bne_eq_false_iff_eq, Bool.true_eq_false, Bool.false_eq_true, Int.not_lt, Int.not_le, Decidable.not_not, gt_iff_lt, ge_iff_le, reduceCtorEq] at hlt) <;> (try exact hlt.elim)))
      | (refine AWp.block ?_)
      | ((first | refine gdO_split (fun hlt => ?_) (fun hlt => ?_) | refine tkO_split (fun hlt => ?_) (fun hlt => ?_) | refine opO_split (fun hlt => ?_) (fun hlt => ?_)) <;> have hgd := hlt <;> (try simp only [decide_eq_true_eq, decide_eq_false_iff_not, beq_iff_eq, bne_iff_ne, ne_eq, beq_eq_false_iff_ne, bne_eq_false_iff_eq, Bool.not_eq_true, Bool.not_eq_false, Bool.not_eq_eq_eq_not, Int.not_lt, Int.not_le, Decidable.not_not, gt_iff_lt, ge_iff_le] at hlt) <;> (simp -implicitDefEqProofs (maxSteps := 1000000) (disch := omega) only [go_sem, wrap64, Int.tdiv_eq_ediv_of_nonneg, Int.tmod_eq_emod_of_nonneg, Nat.reduceAdd, Nat.reduceMul, Nat.reduceEqDiff, Nat.reduceLT, Nat.reduceLeDiff, Int.reduceEq, Int.reduceNeg, Int.reduceToNat, reduceCtorEq, eq_self, Bool.false_eq_true, Bool.true_eq_false, ↓reduceIte, Int.reduceBNe, hgd]) <;> clear hgd)
      | (with_reducible refine And.intro ?_ ?_; · first | omega | assumption | exact ⟨_, _, rfl, rfl⟩)
      | ((first | refine ⟨_, h, ?_⟩ | refine ⟨_, g, ?_⟩); simp -implicitDefEqProofs (maxSteps := 1000000) (disch := omega) only [go_sem, wrap64, Int.tdiv_eq_ediv_of_nonneg, Int.tmod_eq_emod_of_nonneg, Nat.reduceAdd, Nat.reduceMul, Nat.reduceEqDiff, Nat.reduceLT, Nat.reduceLeDiff, Int.reduceEq, Int.reduceNeg, Int.reduceToNat, reduceCtorEq, eq_self, Bool.false_eq_true, Bool.true_eq_false, ↓reduceIte, Int.reduceBNe])
      | fail
  all_goals
    rw [if_neg (by simp only [h1, h2]; decide), GP_02]
    simp only [GP, GZ, Gr]
    refine PCr.pc (PCr.of tab_ok Tryz.func28 rfl rfl rfl fun c hc hm => ?_)
    rw [show Tryz.f28.ntmps = _ from Tryz.ntmps28] at hc
    simp only [Tryz.f28]
    repeat' first
      | (refine AWp.seq fun K hK => ?_)
      | ((first | refine AWp.region (by rw [hc]; rfl) ?_ | refine AWp.skip ?_ | refine AWp.exit ?_ | refine AWp.label ?_ | refine AWp.ret ?_ | refine appK_g ?_); simp -implicitDefEqProofs (maxSteps := 1000000) (disch := omega) only [go_sem, wrap64, Int.tdiv_eq_ediv_of_nonneg, Int.tmod_eq_emod_of_nonneg, Nat.reduceAdd, Nat.reduceMul, Nat.reduceEqDiff, Nat.reduceLT, Nat.reduceLeDiff, Int.reduceEq, Int.reduceNeg, Int.reduceToNat, reduceCtorEq, eq_self, Bool.false_eq_true, Bool.true_eq_false, ↓reduceIte, Int.reduceBNe])
      | (refine hK _ ?_; clear hK)
      | (clear hK; refine hK _ ?_; clear hK)
      | (clear hK; clear hK; refine hK _ ?_; clear hK)
      | (clear hK; clear hK; clear hK; refine hK _ ?_; clear hK)
      | (refine AWp.cond ?_; simp -implicitDefEqProofs (maxSteps := 1000000) (disch := omega) only [go_sem, wrap64, Int.tdiv_eq_ediv_of_nonneg, Int.tmod_eq_emod_of_nonneg, Nat.reduceAdd, Nat.reduceMul, Nat.reduceEqDiff, Nat.reduceLT, Nat.reduceLeDiff, Int.reduceEq, Int.reduceNeg, Int.reduceToNat, reduceCtorEq, eq_self, Bool.false_eq_true, Bool.true_eq_false, ↓reduceIte, Int.reduceBNe]; try (refine ⟨fun hlt => ?_, fun hlt => ?_⟩ <;> (try simp only [decide_eq_true_eq, decide_eq_false_iff_not, beq_iff_eq, bne_iff_ne, ne_eq, beq_eq_false_iff_ne, bne_eq_false_iff_eq, Bool.true_eq_false, Bool.false_eq_true, Int.not_lt, Int.not_le, Decidable.not_not, gt_iff_lt, ge_iff_le, reduceCtorEq] at hlt) <;> (try exact hlt.elim)))
      | (refine AWp.block ?_)
      | ((first | refine gdO_split (fun hlt => ?_) (fun hlt => ?_) | refine tkO_split (fun hlt => ?_) (fun hlt => ?_) | refine opO_split (fun hlt => ?_) (fun hlt => ?_)) <;> have hgd := hlt <;> (try simp only [decide_eq_true_eq, decide_eq_false_iff_not, beq_iff_eq, bne_iff_ne, ne_eq, beq_eq_false_iff_ne, bne_eq_false_iff_eq, Bool.not_eq_true, Bool.not_eq_false, Bool.not_eq_eq_eq_not, Int.not_lt, Int.not_le, Decidable.not_not, gt_iff_lt, ge_iff_le] at hlt) <;> (simp -implicitDefEqProofs (maxSteps := 1000000) (disch := omega) only [go_sem, wrap64, Int.tdiv_eq_ediv_of_nonneg, Int.tmod_eq_emod_of_nonneg, Nat.reduceAdd, Nat.reduceMul, Nat.reduceEqDiff, Nat.reduceLT, Nat.reduceLeDiff, Int.reduceEq, Int.reduceNeg, Int.reduceToNat, reduceCtorEq, eq_self, Bool.false_eq_true, Bool.true_eq_false, ↓reduceIte, Int.reduceBNe, hgd]) <;> clear hgd)
      | (with_reducible refine And.intro ?_ ?_; · first | omega | assumption | exact ⟨_, _, rfl, rfl⟩)
      | fail
    all_goals first | rfl | contradiction
theorem times_P (p q : Int × Int) (hp : okP p) (hq : okP q) : PC Tryz.prog 20 [GP p, GP q] (GP (timesP p q)) := by
  obtain ⟨x, e⟩ := p
  obtain ⟨y, f⟩ := q
  have h := Mul_ok x y hp hq
  rw [limR_P] at h
  have g := got_lim (x * y)
  unfold timesP
  by_cases h1 : e = 0 <;> by_cases h2 : f = 0
  · subst h1; subst h2
    rw [if_pos ⟨rfl, rfl⟩]
    simp only [GP, GZ, Gr] at g ⊢
    refine PCr.pc (PCr.of tab_ok Tryz.func20 rfl rfl rfl fun c hc hm => ?_)
    rw [show Tryz.f20.ntmps = _ from Tryz.ntmps20] at hc
    simp only [Tryz.f20]
    repeat' first
      | (refine AWp.seq fun K hK => ?_)
      | ((first | refine AWp.region (by rw [hc]; rfl) ?_ | refine AWp.skip ?_ | refine AWp.exit ?_ | refine AWp.label ?_ | refine AWp.ret ?_ | refine appK_g ?_); simp -implicitDefEqProofs (maxSteps := 1000000) (disch := omega) only [go_sem, wrap64, Int.tdiv_eq_ediv_of_nonneg, Int.tmod_eq_emod_of_nonneg, Nat.reduceAdd, Nat.reduceMul, Nat.reduceEqDiff, Nat.reduceLT, Nat.reduceLeDiff, Int.reduceEq, Int.reduceNeg, Int.reduceToNat, reduceCtorEq, eq_self, Bool.false_eq_true, Bool.true_eq_false, ↓reduceIte, Int.reduceBNe])
      | (refine hK _ ?_; clear hK)
      | (clear hK; refine hK _ ?_; clear hK)
      | (clear hK; clear hK; refine hK _ ?_; clear hK)
      | (clear hK; clear hK; clear hK; refine hK _ ?_; clear hK)
      | (refine AWp.cond ?_; simp -implicitDefEqProofs (maxSteps := 1000000) (disch := omega) only [go_sem, wrap64, Int.tdiv_eq_ediv_of_nonneg, Int.tmod_eq_emod_of_nonneg, Nat.reduceAdd, Nat.reduceMul, Nat.reduceEqDiff, Nat.reduceLT, Nat.reduceLeDiff, Int.reduceEq, Int.reduceNeg, Int.reduceToNat, reduceCtorEq, eq_self, Bool.false_eq_true, Bool.true_eq_false, ↓reduceIte, Int.reduceBNe]; try (refine ⟨fun hlt => ?_, fun hlt => ?_⟩ <;> (try simp only [decide_eq_true_eq, decide_eq_false_iff_not, beq_iff_eq, bne_iff_ne, ne_eq, beq_eq_false_iff_ne, bne_eq_false_iff_eq, Bool.true_eq_false, Bool.false_eq_true, Int.not_lt, Int.not_le, Decidable.not_not, gt_iff_lt, ge_iff_le, reduceCtorEq] at hlt) <;> (try exact hlt.elim)))
      | (refine AWp.block ?_)
      | ((first | refine gdO_split (fun hlt => ?_) (fun hlt => ?_) | refine tkO_split (fun hlt => ?_) (fun hlt => ?_) | refine opO_split (fun hlt => ?_) (fun hlt => ?_)) <;> have hgd := hlt <;> (try simp only [decide_eq_true_eq, decide_eq_false_iff_not, beq_iff_eq, bne_iff_ne, ne_eq, beq_eq_false_iff_ne, bne_eq_false_iff_eq, Bool.not_eq_true, Bool.not_eq_false, Bool.not_eq_eq_eq_not, Int.not_lt, Int.not_le, Decidable.not_not, gt_iff_lt, ge_iff_le] at hlt) <;> (simp -implicitDefEqProofs (maxSteps := 1000000) (disch := omega) only [go_sem, wrap64, Int.tdiv_eq_ediv_of_nonneg, Int.tmod_eq_emod_of_nonneg, Nat.reduceAdd, Nat.reduceMul, Nat.reduceEqDiff, Nat.reduceLT, Nat.reduceLeDiff, Int.reduceEq, Int.reduceNeg, Int.reduceToNat, reduceCtorEq, eq_self, Bool.false_eq_true, Bool.true_eq_false, ↓reduceIte, Int.reduceBNe, hgd]) <;> clear hgd)
      | (with_reducible refine And.intro ?_ ?_; · first | omega | assumption | exact ⟨_, _, rfl, rfl⟩)
      | ((first | refine ⟨_, h, ?_⟩ | refine ⟨_, g, ?_⟩); simp -implicitDefEqProofs (maxSteps := 1000000) (disch := omega) only [go_sem, wrap64, Int.tdiv_eq_ediv_of_nonneg, Int.tmod_eq_emod_of_nonneg, Nat.reduceAdd, Nat.reduceMul, Nat.reduceEqDiff, Nat.reduceLT, Nat.reduceLeDiff, Int.reduceEq, Int.reduceNeg, Int.reduceToNat, reduceCtorEq, eq_self, Bool.false_eq_true, Bool.true_eq_false, ↓reduceIte, Int.reduceBNe])
      | fail
  all_goals
    rw [if_neg (by simp only [h1, h2]; decide), GP_02]
    simp only [GP, GZ, Gr]
    refine PCr.pc (PCr.of tab_ok Tryz.func20 rfl rfl rfl fun c hc hm => ?_)
    rw [show Tryz.f20.ntmps = _ from Tryz.ntmps20] at hc
    simp only [Tryz.f20]
    repeat' first
      | (refine AWp.seq fun K hK => ?_)
      | ((first | refine AWp.region (by rw [hc]; rfl) ?_ | refine AWp.skip ?_ | refine AWp.exit ?_ | refine AWp.label ?_ | refine AWp.ret ?_ | refine appK_g ?_); simp -implicitDefEqProofs (maxSteps := 1000000) (disch := omega) only [go_sem, wrap64, Int.tdiv_eq_ediv_of_nonneg, Int.tmod_eq_emod_of_nonneg, Nat.reduceAdd, Nat.reduceMul, Nat.reduceEqDiff, Nat.reduceLT, Nat.reduceLeDiff, Int.reduceEq, Int.reduceNeg, Int.reduceToNat, reduceCtorEq, eq_self, Bool.false_eq_true, Bool.true_eq_false, ↓reduceIte, Int.reduceBNe])
      | (refine hK _ ?_; clear hK)
      | (clear hK; refine hK _ ?_; clear hK)
      | (clear hK; clear hK; refine hK _ ?_; clear hK)
      | (clear hK; clear hK; clear hK; refine hK _ ?_; clear hK)
      | (refine AWp.cond ?_; simp -implicitDefEqProofs (maxSteps := 1000000) (disch := omega) only [go_sem, wrap64, Int.tdiv_eq_ediv_of_nonneg, Int.tmod_eq_emod_of_nonneg, Nat.reduceAdd, Nat.reduceMul, Nat.reduceEqDiff, Nat.reduceLT, Nat.reduceLeDiff, Int.reduceEq, Int.reduceNeg, Int.reduceToNat, reduceCtorEq, eq_self, Bool.false_eq_true, Bool.true_eq_false, ↓reduceIte, Int.reduceBNe]; try (refine ⟨fun hlt => ?_, fun hlt => ?_⟩ <;> (try simp only [decide_eq_true_eq, decide_eq_false_iff_not, beq_iff_eq, bne_iff_ne, ne_eq, beq_eq_false_iff_ne, bne_eq_false_iff_eq, Bool.true_eq_false, Bool.false_eq_true, Int.not_lt, Int.not_le, Decidable.not_not, gt_iff_lt, ge_iff_le, reduceCtorEq] at hlt) <;> (try exact hlt.elim)))
      | (refine AWp.block ?_)
      | ((first | refine gdO_split (fun hlt => ?_) (fun hlt => ?_) | refine tkO_split (fun hlt => ?_) (fun hlt => ?_) | refine opO_split (fun hlt => ?_) (fun hlt => ?_)) <;> have hgd := hlt <;> (try simp only [decide_eq_true_eq, decide_eq_false_iff_not, beq_iff_eq, bne_iff_ne, ne_eq, beq_eq_false_iff_ne, bne_eq_false_iff_eq, Bool.not_eq_true, Bool.not_eq_false, Bool.not_eq_eq_eq_not, Int.not_lt, Int.not_le, Decidable.not_not, gt_iff_lt, ge_iff_le] at hlt) <;> (simp -implicitDefEqProofs (maxSteps := 1000000) (disch := omega) only [go_sem, wrap64, Int.tdiv_eq_ediv_of_nonneg, Int.tmod_eq_emod_of_nonneg, Nat.reduceAdd, Nat.reduceMul, Nat.reduceEqDiff, Nat.reduceLT, Nat.reduceLeDiff, Int.reduceEq, Int.reduceNeg, Int.reduceToNat, reduceCtorEq, eq_self, Bool.false_eq_true, Bool.true_eq_false, ↓reduceIte, Int.reduceBNe, hgd]) <;> clear hgd)
      | (with_reducible refine And.intro ?_ ?_; · first | omega | assumption | exact ⟨_, _, rfl, rfl⟩)
      | fail
    all_goals first | rfl | contradiction
theorem same_P (p q : Int × Int) (hp : okP p) (hq : okP q) : PC Tryz.prog 26 [GP p, GP q] (B (decide (p = q))) := by
  have h := same_Z p.1 q.1 p.2 q.2 (Nat.le_trans hp (by decide)) (Nat.le_trans hq (by decide))
  rwa [show decide (p.2 = q.2 ∧ p.1 = q.1) = decide (p = q) by rw [decide_eq_decide, Prod.ext_iff]; exact And.comm] at h
theorem agree_P (p q : Int × Int) (hp : okP p) (hq : okP q) : PC Tryz.prog 31 [GP p, GP q] (B (decide (p.2 = 0 ∧ q.2 = 0 → p.1 = q.1))) := by
  obtain ⟨x, e⟩ := p
  obtain ⟨y, f⟩ := q
  have h := Same_Z x y (Nat.le_trans hp (by decide)) (Nat.le_trans hq (by decide))
  simp only [GP, GZ, Gr]
  refine PCr.pc (PCr.of tab_ok Tryz.func31 rfl rfl rfl fun c hc hm => ?_)
  rw [show Tryz.f31.ntmps = _ from Tryz.ntmps31] at hc
  simp only [Tryz.f31]
  repeat' first
    | (refine AWp.seq fun K hK => ?_)
    | ((first | refine AWp.region (by rw [hc]; rfl) ?_ | refine AWp.skip ?_ | refine AWp.exit ?_ | refine AWp.label ?_ | refine AWp.ret ?_ | refine appK_g ?_); simp -implicitDefEqProofs (maxSteps := 1000000) (disch := omega) only [go_sem, wrap64, Int.tdiv_eq_ediv_of_nonneg, Int.tmod_eq_emod_of_nonneg, Nat.reduceAdd, Nat.reduceMul, Nat.reduceEqDiff, Nat.reduceLT, Nat.reduceLeDiff, Int.reduceEq, Int.reduceNeg, Int.reduceToNat, reduceCtorEq, eq_self, Bool.false_eq_true, Bool.true_eq_false, ↓reduceIte, Int.reduceBNe])
    | (refine hK _ ?_; clear hK)
    | (clear hK; refine hK _ ?_; clear hK)
    | (clear hK; clear hK; refine hK _ ?_; clear hK)
    | (clear hK; clear hK; clear hK; refine hK _ ?_; clear hK)
    | (refine AWp.cond ?_; simp -implicitDefEqProofs (maxSteps := 1000000) (disch := omega) only [go_sem, wrap64, Int.tdiv_eq_ediv_of_nonneg, Int.tmod_eq_emod_of_nonneg, Nat.reduceAdd, Nat.reduceMul, Nat.reduceEqDiff, Nat.reduceLT, Nat.reduceLeDiff, Int.reduceEq, Int.reduceNeg, Int.reduceToNat, reduceCtorEq, eq_self, Bool.false_eq_true, Bool.true_eq_false, ↓reduceIte, Int.reduceBNe]; try (refine ⟨fun hlt => ?_, fun hlt => ?_⟩ <;> (try simp only [decide_eq_true_eq, decide_eq_false_iff_not, beq_iff_eq, bne_iff_ne, ne_eq, beq_eq_false_iff_ne, bne_eq_false_iff_eq, Bool.true_eq_false, Bool.false_eq_true, Int.not_lt, Int.not_le, Decidable.not_not, gt_iff_lt, ge_iff_le, reduceCtorEq] at hlt) <;> (try exact hlt.elim)))
    | (refine AWp.block ?_)
    | ((first | refine gdO_split (fun hlt => ?_) (fun hlt => ?_) | refine tkO_split (fun hlt => ?_) (fun hlt => ?_) | refine opO_split (fun hlt => ?_) (fun hlt => ?_)) <;> have hgd := hlt <;> (try simp only [decide_eq_true_eq, decide_eq_false_iff_not, beq_iff_eq, bne_iff_ne, ne_eq, beq_eq_false_iff_ne, bne_eq_false_iff_eq, Bool.not_eq_true, Bool.not_eq_false, Bool.not_eq_eq_eq_not, Int.not_lt, Int.not_le, Decidable.not_not, gt_iff_lt, ge_iff_le] at hlt) <;> (simp -implicitDefEqProofs (maxSteps := 1000000) (disch := omega) only [go_sem, wrap64, Int.tdiv_eq_ediv_of_nonneg, Int.tmod_eq_emod_of_nonneg, Nat.reduceAdd, Nat.reduceMul, Nat.reduceEqDiff, Nat.reduceLT, Nat.reduceLeDiff, Int.reduceEq, Int.reduceNeg, Int.reduceToNat, reduceCtorEq, eq_self, Bool.false_eq_true, Bool.true_eq_false, ↓reduceIte, Int.reduceBNe, hgd]) <;> clear hgd)
    | (with_reducible refine And.intro ?_ ?_; · first | omega | assumption | exact ⟨_, _, rfl, rfl⟩)
    | ((first | refine ⟨_, h, ?_⟩); simp -implicitDefEqProofs (maxSteps := 1000000) (disch := omega) only [go_sem, wrap64, Int.tdiv_eq_ediv_of_nonneg, Int.tmod_eq_emod_of_nonneg, Nat.reduceAdd, Nat.reduceMul, Nat.reduceEqDiff, Nat.reduceLT, Nat.reduceLeDiff, Int.reduceEq, Int.reduceNeg, Int.reduceToNat, reduceCtorEq, eq_self, Bool.false_eq_true, Bool.true_eq_false, ↓reduceIte, Int.reduceBNe])
    | fail
  all_goals first
    | (refine (decide_eq_true ?_).symm; rintro ⟨h1, h2⟩; contradiction)
    | (rw [decide_eq_decide]; exact ⟨fun h _ => h, fun h => h ⟨by assumption, by assumption⟩⟩)
theorem smaller_Z (x y : Int) (lx : lenZ x ≤ 1000000) (ly : lenZ y ≤ 1000000) : PC Tryz.prog 35 [Z x, Z y] (B (decide (x.natAbs < y.natAbs))) := by
  have h := Compare_Z x.natAbs y.natAbs (by unfold lenZ at *; rwa [Int.natAbs_natCast]) (by unfold lenZ at *; rwa [Int.natAbs_natCast])
  have e : ∀ n : Nat, Z (n : Int) = Zr false (D n) := fun n => by
    show Zr (decide ((n : Int) < 0)) (D (n : Int).natAbs) = _
    rw [Int.natAbs_natCast, decide_eq_false (by omega)]
  rw [e, e] at h
  refine PCr.pc (PCr.of tab_ok Tryz.func35 rfl rfl rfl fun c hc hm => ?_)
  rw [show Tryz.f35.ntmps = _ from Tryz.ntmps35] at hc
  simp only [Tryz.f35]
  repeat' first
    | (refine AWp.seq fun K hK => ?_)
    | ((first | refine AWp.region (by rw [hc]; rfl) ?_ | refine AWp.skip ?_ | refine AWp.exit ?_ | refine AWp.label ?_ | refine AWp.ret ?_ | refine appK_g ?_); simp -implicitDefEqProofs (maxSteps := 1000000) (disch := omega) only [go_sem, wrap64, Int.tdiv_eq_ediv_of_nonneg, Int.tmod_eq_emod_of_nonneg, Nat.reduceAdd, Nat.reduceMul, Nat.reduceEqDiff, Nat.reduceLT, Nat.reduceLeDiff, Int.reduceEq, Int.reduceNeg, Int.reduceToNat, reduceCtorEq, eq_self, Bool.false_eq_true, Bool.true_eq_false, ↓reduceIte])
    | (refine hK _ ?_; clear hK)
    | (clear hK; refine hK _ ?_; clear hK)
    | (clear hK; clear hK; refine hK _ ?_; clear hK)
    | (clear hK; clear hK; clear hK; refine hK _ ?_; clear hK)
    | (refine AWp.cond ?_; simp -implicitDefEqProofs (maxSteps := 1000000) (disch := omega) only [go_sem, wrap64, Int.tdiv_eq_ediv_of_nonneg, Int.tmod_eq_emod_of_nonneg, Nat.reduceAdd, Nat.reduceMul, Nat.reduceEqDiff, Nat.reduceLT, Nat.reduceLeDiff, Int.reduceEq, Int.reduceNeg, Int.reduceToNat, reduceCtorEq, eq_self, Bool.false_eq_true, Bool.true_eq_false, ↓reduceIte]; try (refine ⟨fun hlt => ?_, fun hlt => ?_⟩ <;> (try simp only [decide_eq_true_eq, decide_eq_false_iff_not, beq_iff_eq, bne_iff_ne, ne_eq, beq_eq_false_iff_ne, bne_eq_false_iff_eq, Bool.true_eq_false, Bool.false_eq_true, Int.not_lt, Int.not_le, Decidable.not_not, gt_iff_lt, ge_iff_le, reduceCtorEq] at hlt) <;> (try exact hlt.elim)))
    | (refine AWp.block ?_)
    | ((first | refine gdO_split (fun hlt => ?_) (fun hlt => ?_) | refine tkO_split (fun hlt => ?_) (fun hlt => ?_) | refine opO_split (fun hlt => ?_) (fun hlt => ?_)) <;> have hgd := hlt <;> (try simp only [decide_eq_true_eq, decide_eq_false_iff_not, beq_iff_eq, bne_iff_ne, ne_eq, beq_eq_false_iff_ne, bne_eq_false_iff_eq, Bool.not_eq_true, Bool.not_eq_false, Bool.not_eq_eq_eq_not, Int.not_lt, Int.not_le, Decidable.not_not, gt_iff_lt, ge_iff_le] at hlt) <;> (simp -implicitDefEqProofs (maxSteps := 1000000) (disch := omega) only [go_sem, wrap64, Int.tdiv_eq_ediv_of_nonneg, Int.tmod_eq_emod_of_nonneg, Nat.reduceAdd, Nat.reduceMul, Nat.reduceEqDiff, Nat.reduceLT, Nat.reduceLeDiff, Int.reduceEq, Int.reduceNeg, Int.reduceToNat, reduceCtorEq, eq_self, Bool.false_eq_true, Bool.true_eq_false, ↓reduceIte, hgd]) <;> clear hgd)
    | (with_reducible refine And.intro ?_ ?_; · first | omega | assumption | exact ⟨_, _, rfl, rfl⟩)
    | ((first | refine ⟨_, h, ?_⟩); simp -implicitDefEqProofs (maxSteps := 1000000) (disch := omega) only [go_sem, wrap64, Int.tdiv_eq_ediv_of_nonneg, Int.tmod_eq_emod_of_nonneg, Nat.reduceAdd, Nat.reduceMul, Nat.reduceEqDiff, Nat.reduceLT, Nat.reduceLeDiff, Int.reduceEq, Int.reduceNeg, Int.reduceToNat, reduceCtorEq, eq_self, Bool.false_eq_true, Bool.true_eq_false, ↓reduceIte])
    | fail
  rw [decide_eq_decide]
  simp only [cmpI]; (repeat' split) <;> omega
end Go.Proofs.YthhjcfejgoddlaaGreatDoor
end

section
set_option linter.unusedSimpArgs false
set_option linter.unusedVariables false
set_option maxRecDepth 100000
namespace Go.Proofs.YthhjcfejgoddlaaGreatDoor
open Go Go.Abs

theorem limP_of' {z : Int} (h : lenZ z ≤ 40) : limP z = (z, 0) := if_pos h
theorem len_i64 {x : Int} (h0 : -9223372036854775808 ≤ x) (h1 : x ≤ 9223372036854775807) : lenZ x ≤ 5 := by
  have e : lenZ x ≤ lenZ ((1000000000 : Int) * (1000000000 * 999999999)) := lenZ_le (by omega)
  have e1 := lenZ_mul 1000000000 (1000000000 * 999999999)
  have e2 := lenZ_mul 1000000000 999999999
  have e3 : lenZ 999999999 ≤ 1 := lenZ_small (by decide)
  have e4 : lenZ 1000000000 ≤ 2 := by
    unfold lenZ; rw [show (1000000000 : Int).natAbs = 0 + 1000000000 * 1 from rfl, D_two (by decide) (by decide) (by decide)]; decide
  omega
/-- The closure 'is': the result is there, and it is the number wanted. -/
theorem is_pc (z want : Int) (h0 : -9223372036854775808 ≤ z) (h1 : z ≤ 9223372036854775807) : PC Tryz.prog 38 [GP (z, 0), I want] (B (decide (z = want))) := by
  have h := ToInt_ok z (Nat.le_trans (len_i64 h0 h1) (by decide))
  rw [toIntR, if_pos ⟨h0, h1⟩] at h
  simp only [GP, GZ, Gr]
  refine PCr.pc (PCr.of tab_ok Tryz.func38 rfl rfl rfl fun c hc hm => ?_)
  rw [show Tryz.f38.ntmps = _ from Tryz.ntmps38] at hc
  simp only [Tryz.f38]
  repeat' first
    | (exact absurd hlt (by decide))
    | (refine AWp.seq fun K hK => ?_)
    | ((first | refine AWp.region (by rw [hc]; rfl) ?_ | refine AWp.skip ?_ | refine AWp.exit ?_ | refine AWp.label ?_ | refine AWp.ret ?_ | refine appK_g ?_); simp -implicitDefEqProofs (maxSteps := 1000000) (disch := omega) only [go_sem, wrap64, Int.tdiv_eq_ediv_of_nonneg, Int.tmod_eq_emod_of_nonneg, Nat.reduceAdd, Nat.reduceMul, Nat.reduceEqDiff, Nat.reduceLT, Nat.reduceLeDiff, Int.reduceEq, Int.reduceNeg, Int.reduceToNat, reduceCtorEq, eq_self, Bool.false_eq_true, Bool.true_eq_false, ↓reduceIte, Int.reduceBNe, Int.reduceBEq, Bool.not_true, Bool.not_false])
    | (refine hK _ ?_; clear hK)
    | (clear hK; refine hK _ ?_; clear hK)
    | (clear hK; clear hK; refine hK _ ?_; clear hK)
    | (clear hK; clear hK; clear hK; refine hK _ ?_; clear hK)
    | (refine AWp.cond ?_; simp -implicitDefEqProofs (maxSteps := 1000000) (disch := omega) only [go_sem, wrap64, Int.tdiv_eq_ediv_of_nonneg, Int.tmod_eq_emod_of_nonneg, Nat.reduceAdd, Nat.reduceMul, Nat.reduceEqDiff, Nat.reduceLT, Nat.reduceLeDiff, Int.reduceEq, Int.reduceNeg, Int.reduceToNat, reduceCtorEq, eq_self, Bool.false_eq_true, Bool.true_eq_false, ↓reduceIte, Int.reduceBNe, Int.reduceBEq, Bool.not_true, Bool.not_false]; try (refine ⟨fun hlt => ?_, fun hlt => ?_⟩ <;> (try simp only [decide_eq_true_eq, decide_eq_false_iff_not, beq_iff_eq, bne_iff_ne, ne_eq, beq_eq_false_iff_ne, bne_eq_false_iff_eq, Bool.true_eq_false, Bool.false_eq_true, Int.not_lt, Int.not_le, Decidable.not_not, gt_iff_lt, ge_iff_le, reduceCtorEq] at hlt) <;> (try exact hlt.elim)))
    | (refine AWp.block ?_)
    | ((first | refine gdO_split (fun hlt => ?_) (fun hlt => ?_) | refine tkO_split (fun hlt => ?_) (fun hlt => ?_) | refine opO_split (fun hlt => ?_) (fun hlt => ?_)) <;> have hgd := hlt <;> (try simp only [decide_eq_true_eq, decide_eq_false_iff_not, beq_iff_eq, bne_iff_ne, ne_eq, beq_eq_false_iff_ne, bne_eq_false_iff_eq, Bool.not_eq_true, Bool.not_eq_false, Bool.not_eq_eq_eq_not, Int.not_lt, Int.not_le, Decidable.not_not, gt_iff_lt, ge_iff_le] at hlt) <;> (simp -implicitDefEqProofs (maxSteps := 1000000) (disch := omega) only [go_sem, wrap64, Int.tdiv_eq_ediv_of_nonneg, Int.tmod_eq_emod_of_nonneg, Nat.reduceAdd, Nat.reduceMul, Nat.reduceEqDiff, Nat.reduceLT, Nat.reduceLeDiff, Int.reduceEq, Int.reduceNeg, Int.reduceToNat, reduceCtorEq, eq_self, Bool.false_eq_true, Bool.true_eq_false, ↓reduceIte, Int.reduceBNe, Int.reduceBEq, Bool.not_true, Bool.not_false, hgd]) <;> clear hgd)
    | (with_reducible refine And.intro ?_ ?_; · first | omega | assumption | exact ⟨_, _, rfl, rfl⟩)
    | ((first | refine ⟨_, h, ?_⟩); simp -implicitDefEqProofs (maxSteps := 1000000) (disch := omega) only [go_sem, wrap64, Int.tdiv_eq_ediv_of_nonneg, Int.tmod_eq_emod_of_nonneg, Nat.reduceAdd, Nat.reduceMul, Nat.reduceEqDiff, Nat.reduceLT, Nat.reduceLeDiff, Int.reduceEq, Int.reduceNeg, Int.reduceToNat, reduceCtorEq, eq_self, Bool.false_eq_true, Bool.true_eq_false, ↓reduceIte, Int.reduceBNe, Int.reduceBEq, Bool.not_true, Bool.not_false])
    | fail
  rfl
def S8 (x y : Int) (k : Nat) : St := ⟨[(k, .dat (.bool false)), (0, I x), (1, I y), (5, .dat (.fn 38 [])), (6, .ptr 0 0), (7, .ptr 1 0)], [(1, .box [B (decide (y < 0)), L (D y.natAbs)] false), (0, .box [B (decide (x < 0)), L (D x.natAbs)] false)], 2, 0⟩
def T8 (x y l : Int) : St := ⟨[(8, I l), (0, I x), (1, I y), (5, .dat (.fn 38 [])), (6, .ptr 0 0), (7, .ptr 1 0)], [(1, .box [B (decide (y < 0)), L (D y.natAbs)] false), (0, .box [B (decide (x < 0)), L (D x.natAbs)] false)], 2, 0⟩
theorem okB {x : Int} (h0 : -9223372036854775808 ≤ x) (h1 : x ≤ 9223372036854775807) : lenZ x ≤ 40 := Nat.le_trans (len_i64 h0 h1) (by decide)
theorem wrap_def (n : Int) : IntKind.i64.wrap n = if 9223372036854775808 ≤ n % 18446744073709551616 then n % 18446744073709551616 - 18446744073709551616 else n % 18446744073709551616 := by
  unfold IntKind.wrap
  show (if (true && decide (n % 18446744073709551616 ≥ 9223372036854775808)) = true then _ else _) = _
  simp only [Bool.true_and, decide_eq_true_eq, ge_iff_le]; rfl
theorem wrap_add {x y : Int} (h0 : -9223372036854775808 ≤ x) (h1 : x ≤ 9223372036854775807) (h2 : -9223372036854775808 ≤ y) (h3 : y ≤ 9223372036854775807) (h : decide (x < IntKind.i64.wrap (x + y)) = decide (0 < y)) : IntKind.i64.wrap (x + y) = x + y ∧ -9223372036854775808 ≤ x + y ∧ x + y ≤ 9223372036854775807 := by
  rw [decide_eq_decide, wrap_def] at h
  rw [wrap_def]
  split at h <;> omega
theorem wrap_sub {x y : Int} (h0 : -9223372036854775808 ≤ x) (h1 : x ≤ 9223372036854775807) (h2 : -9223372036854775808 ≤ y) (h3 : y ≤ 9223372036854775807) (h : decide (IntKind.i64.wrap (x - y) < x) = decide (0 < y)) : IntKind.i64.wrap (x - y) = x - y ∧ -9223372036854775808 ≤ x - y ∧ x - y ≤ 9223372036854775807 := by
  rw [decide_eq_decide, wrap_def] at h
  rw [wrap_def]
  split at h <;> omega
theorem mul_in {x y : Int} (h0 : -2147483648 < x) (h1 : x < 2147483648) (h2 : -2147483648 < y) (h3 : y < 2147483648) : -9223372036854775808 ≤ x * y ∧ x * y ≤ 9223372036854775807 := by
  have e : (x * y).natAbs ≤ 2147483647 * 2147483647 := by rw [Int.natAbs_mul]; exact Nat.mul_le_mul (by omega) (by omega)
  omega
theorem wrap_in {x : Int} (h0 : -9223372036854775808 ≤ x) (h1 : x ≤ 9223372036854775807) : IntKind.i64.wrap x = x := by
  rw [wrap_def]; split <;> omega
theorem lenZ_add2 {x y : Int} (lx : lenZ x ≤ 5) (ly : lenZ y ≤ 5) : lenZ (x + y) ≤ 40 := by
  have e : lenZ (x + y) ≤ 6 := by
    rcases Nat.le_total x.natAbs y.natAbs with h | h
    · have e1 : lenZ (x + y) ≤ lenZ (y * 2) := lenZ_le (by rw [Int.natAbs_mul]; show _ ≤ y.natAbs * 2; omega)
      have e2 := lenZ_mul y 2
      have e3 : lenZ 2 ≤ 1 := lenZ_small (by decide)
      omega
    · have e1 : lenZ (x + y) ≤ lenZ (x * 2) := lenZ_le (by rw [Int.natAbs_mul]; show _ ≤ x.natAbs * 2; omega)
      have e2 := lenZ_mul x 2
      have e3 : lenZ 2 ≤ 1 := lenZ_small (by decide)
      omega
  omega
theorem len_sub {x y : Int} (lx : lenZ x ≤ 5) (ly : lenZ y ≤ 5) : lenZ (x - y) ≤ 40 := by
  rw [Int.sub_eq_add_neg]
  exact lenZ_add2 lx (by unfold lenZ at *; rwa [Int.natAbs_neg])
theorem div_f {x y : Int} (hy : y ≠ 0) : y * x.tdiv y + x.tmod y = x ∧ (x.tmod y).natAbs < y.natAbs ∧ (x.tdiv y).natAbs ≤ x.natAbs ∧ (2 ≤ y.natAbs → 2 * (x.tdiv y).natAbs ≤ x.natAbs) := by
  have h1 := Int.mul_tdiv_add_tmod x y
  have hp : 0 < y.natAbs := by omega
  refine ⟨h1, ?_, ?_, ?_⟩
  · rw [Int.natAbs_tmod]; exact Nat.mod_lt _ hp
  · rw [Int.natAbs_tdiv]; exact Nat.div_le_self _ _
  · intro h2
    rw [Int.natAbs_tdiv, show x.natAbs.div y.natAbs = x.natAbs / y.natAbs from rfl]
    have := Nat.div_le_div_left h2 (show 0 < 2 by decide) (a := x.natAbs)
    omega
theorem div_adj {x y : Int} (hy : y ≠ 0) (h : ¬ x.tmod y = 0 ∧ (!(decide (x.tmod y < 0) == decide (y < 0))) = true) : x.fdiv y = x.tdiv y - 1 ∧ x.fmod y = x.tmod y + y := by
  obtain ⟨h1, h2, _, _⟩ := div_f (x := x) hy
  obtain ⟨h3, h4⟩ := h
  refine fdm x y _ _ ?_ ?_
  · have : y * (x.tdiv y - 1) = y * x.tdiv y - y := by rw [Int.mul_sub, Int.mul_one]
    omega
  · by_cases hy : y < 0 <;> by_cases ht : x.tmod y < 0 <;> simp only [hy, ht, decide_true, decide_false] at h4 <;> first | (exact absurd h4 (by decide)) | omega
theorem div_same {x y : Int} (hy : y ≠ 0) (h : x.tmod y = 0 ∨ (!(decide (x.tmod y < 0) == decide (y < 0))) = false) : x.fdiv y = x.tdiv y ∧ x.fmod y = x.tmod y := by
  obtain ⟨h1, h2, _, _⟩ := div_f (x := x) hy
  refine fdm x y _ _ (by omega) ?_
  rcases h with h4 | h4
  · omega
  · by_cases hy : y < 0 <;> by_cases ht : x.tmod y < 0 <;> simp only [hy, ht, decide_true, decide_false] at h4 <;> first | (exact absurd h4 (by decide)) | omega
theorem div_in {x y : Int} (h0 : -9223372036854775808 ≤ x) (h1 : x ≤ 9223372036854775807) (hy : y ≠ 0) (hm : ¬ (x = -9223372036854775808 ∧ y = -1)) : -9223372036854775808 ≤ x.tdiv y ∧ x.tdiv y ≤ 9223372036854775807 := by
  obtain ⟨e1, e2, e3, e4⟩ := div_f (x := x) hy
  rcases Nat.lt_or_ge y.natAbs 2 with g | g
  · have : y = 1 ∨ y = -1 := by omega
    rcases this with rfl | rfl <;> omega
  · have := e4 g; omega
set_option maxHeartbeats 8000000 in
theorem NumSmall_pc (x y : Int) (h0 : -9223372036854775808 ≤ x) (h1 : x ≤ 9223372036854775807) (h2 : -9223372036854775808 ≤ y) (h3 : y ≤ 9223372036854775807) (l : Int) (hl : cmpI x y = l) (hl1 : (x < y ∧ l = -1) ∨ (y < x ∧ l = 1) ∨ (x = y ∧ l = 0)) : PC Tryz.prog 8 [I x, I y] (B true) := by
  have hs := sane_ok
  have lx := okB h0 h1
  have ly := okB h2 h3
  have lx5 := len_i64 h0 h1
  have ly5 := len_i64 h2 h3
  have o0 := of_pc x h0 h1
  have o1 := of_pc y h2 h3
  have v0 := valP x
  have v1 := valP y
  have i0 := is_pc x x h0 h1
  have i1 := is_pc y y h2 h3
  rw [decide_eq_true rfl] at i0 i1
  have cm := Compare_Z x y (Nat.le_trans lx (by decide)) (Nat.le_trans ly (by decide))
  rw [hl] at cm
  have a1 := Add_ok x y lx ly
  have a2 := Sub_ok x y lx ly
  have a3 := Mul_ok x y lx ly
  have l3 := lenZ_mul x y
  rw [limR_P, limP_of' (lenZ_add2 lx5 ly5)] at a1
  rw [limR_P, limP_of' (len_sub lx5 ly5)] at a2
  rw [limR_P, limP_of' (by omega)] at a3
  have g1 := gotP (x + y, 0)
  have g2 := gotP (x - y, 0)
  have g3 := gotP (x * y, 0)
  have j1 : decide (x < IntKind.i64.wrap (x + y)) = decide (0 < y) → PC Tryz.prog 38 [GP (x + y, 0), I (IntKind.i64.wrap (x + y))] (B true) := fun h => by
    obtain ⟨e, e1, e2⟩ := wrap_add h0 h1 h2 h3 h
    have := is_pc (x + y) (x + y) e1 e2
    rw [decide_eq_true rfl] at this; rw [e]; exact this
  have j2 : decide (IntKind.i64.wrap (x - y) < x) = decide (0 < y) → PC Tryz.prog 38 [GP (x - y, 0), I (IntKind.i64.wrap (x - y))] (B true) := fun h => by
    obtain ⟨e, e1, e2⟩ := wrap_sub h0 h1 h2 h3 h
    have := is_pc (x - y) (x - y) e1 e2
    rw [decide_eq_true rfl] at this; rw [e]; exact this
  have j3 : -2147483648 < x ∧ x < 2147483648 ∧ -2147483648 < y ∧ y < 2147483648 → PC Tryz.prog 38 [GP (x * y, 0), I (IntKind.i64.wrap (x * y))] (B true) := fun ⟨h, h', h'', h3⟩ => by
    obtain ⟨e1, e2⟩ := mul_in h h' h'' h3
    have := is_pc (x * y) (x * y) e1 e2
    rw [decide_eq_true rfl] at this; rw [wrap_in e1 e2]; exact this
  have d1 : y ≠ 0 → PC Tryz.prog 22 [Z x, Z y] (.tup [Z (x.fdiv y), I 0]) := fun hy => by
    have := Div_ok x y hy lx ly
    rwa [limR_P, limP_of' (Nat.le_trans (lenZ_le (fdiv_small _ _)) lx)] at this
  have d2 : y ≠ 0 → PC Tryz.prog 34 [Z x, Z y] (.tup [Z (x.fmod y), I 0]) := fun hy => by
    have := Mod_ok x y hy lx ly
    rwa [limR_P, limP_of' (Nat.le_trans (lenZ_le (by rw [Int.fmod_def]; exact Nat.le_of_lt (fmod_small _ _ hy))) ly)] at this
  have g4 := gotP (x.fdiv y, 0)
  have g5 := gotP (x.fmod y, 0)
  have j4 : (y ≠ 0 ∧ ¬ (x = -9223372036854775808 ∧ y = -1)) → (¬ x.tmod y = 0 ∧ (!(decide (x.tmod y < 0) == decide (y < 0))) = true) → PC Tryz.prog 38 [GP (x.fdiv y, 0), I (IntKind.i64.wrap (IntKind.i64.wrap (x.tdiv y) - 1))] (B true) := fun ⟨hy, hn⟩ h => by
    obtain ⟨e1, e2⟩ := div_adj hy h
    obtain ⟨k1, k2⟩ := div_in h0 h1 hy hn
    obtain ⟨q1, q2, q3, q4⟩ := div_f (x := x) hy
    have k3 : -9223372036854775808 ≤ x.tdiv y - 1 := by
      have := q4 (by omega)
      omega
    have := is_pc (x.fdiv y) (x.fdiv y) (by omega) (by omega)
    rw [decide_eq_true rfl] at this
    rwa [wrap_in k1 k2, wrap_in k3 (by omega), ← e1]
  have j5 : (y ≠ 0 ∧ ¬ (x = -9223372036854775808 ∧ y = -1)) → (x.tmod y = 0 ∨ (!(decide (x.tmod y < 0) == decide (y < 0))) = false) → PC Tryz.prog 38 [GP (x.fdiv y, 0), I (IntKind.i64.wrap (x.tdiv y))] (B true) := fun ⟨hy, hn⟩ h => by
    obtain ⟨e1, e2⟩ := div_same hy h
    obtain ⟨k1, k2⟩ := div_in h0 h1 hy hn
    have := is_pc (x.fdiv y) (x.fdiv y) (by omega) (by omega)
    rw [decide_eq_true rfl] at this
    rwa [wrap_in k1 k2, ← e1]
  have j6 : y ≠ 0 → (¬ x.tmod y = 0 ∧ (!(decide (x.tmod y < 0) == decide (y < 0))) = true) → PC Tryz.prog 38 [GP (x.fmod y, 0), I (IntKind.i64.wrap (x.tmod y + y))] (B true) := fun hy h => by
    obtain ⟨e1, e2⟩ := div_adj hy h
    obtain ⟨q1, q2, q3, q4⟩ := div_f (x := x) hy
    obtain ⟨h3, h4⟩ := h
    have k : -9223372036854775808 ≤ x.tmod y + y ∧ x.tmod y + y ≤ 9223372036854775807 := by
      by_cases hy : y < 0 <;> by_cases ht : x.tmod y < 0 <;> simp only [hy, ht, decide_true, decide_false] at h4 <;> first | (exact absurd h4 (by decide)) | omega
    have := is_pc (x.fmod y) (x.fmod y) (by omega) (by omega)
    rw [decide_eq_true rfl] at this
    rwa [wrap_in k.1 k.2, ← e2]
  have j7 : y ≠ 0 → (x.tmod y = 0 ∨ (!(decide (x.tmod y < 0) == decide (y < 0))) = false) → PC Tryz.prog 38 [GP (x.fmod y, 0), I (x.tmod y)] (B true) := fun hy h => by
    obtain ⟨e1, e2⟩ := div_same hy h
    obtain ⟨q1, q2, q3, q4⟩ := div_f (x := x) hy
    have := is_pc (x.fmod y) (x.fmod y) (by omega) (by omega)
    rw [decide_eq_true rfl] at this
    rwa [← e2]
  simp only [GP, GZ, Gr] at v0 v1 i0 i1 g1 g2 g3 g4 g5 j1 j2 j3 j4 j5 j6 j7
  · skip
    refine PCr.pc (PCr.of tab_ok Tryz.func8 rfl rfl rfl fun c hc hm => ?_)
    rw [show Tryz.f8.ntmps = _ from Tryz.ntmps8] at hc
    simp only [Tryz.f8]
    repeat' first
      | (exact absurd hlt (by decide))
      | (refine AWp.cut (x := .region 20 _ false) (S8 x y 113) ?_ ?_)
      | (refine AWp.cut (x := .region 18 _ false) (S8 x y 85) ?_ ?_)
      | (refine AWp.cut (x := .region 15 _ false) (S8 x y 64) ?_ ?_)
      | (refine AWp.cut (x := .seq (.region 8 _ false) _) (T8 x y l) ?_ ?_)
      | (refine AWp.seq fun K hK => ?_)
      | ((first | refine AWp.draw (id := 24) [.take 0, .take 1, .take 2, .take 3, .take 4, .take 5, .take 6, .take 7] mixed_ok (by kernel_rfl) (by rw [hc]; rfl) ?_ | refine AWp.region (by rw [hc]; rfl) ?_ | refine AWp.skip ?_ | refine AWp.exit ?_ | refine AWp.label ?_ | refine AWp.ret ?_ | refine appK_g ?_); simp -implicitDefEqProofs (maxSteps := 1000000) (disch := omega) only [go_sem, wrap64, Int.tdiv_eq_ediv_of_nonneg, Int.tmod_eq_emod_of_nonneg, Nat.reduceAdd, Nat.reduceMul, Nat.reduceEqDiff, Nat.reduceLT, Nat.reduceLeDiff, Int.reduceEq, Int.reduceNeg, Int.reduceToNat, reduceCtorEq, eq_self, Bool.false_eq_true, Bool.true_eq_false, ↓reduceIte, Int.reduceBNe, Int.reduceBEq, Bool.not_true, Bool.not_false, S8, T8])
      | (refine hK _ ?_; clear hK)
      | (clear hK; refine hK _ ?_; clear hK)
      | (clear hK; clear hK; refine hK _ ?_; clear hK)
      | (clear hK; clear hK; clear hK; refine hK _ ?_; clear hK)
      | (refine AWp.cond ?_; simp -implicitDefEqProofs (maxSteps := 1000000) (disch := omega) only [go_sem, wrap64, Int.tdiv_eq_ediv_of_nonneg, Int.tmod_eq_emod_of_nonneg, Nat.reduceAdd, Nat.reduceMul, Nat.reduceEqDiff, Nat.reduceLT, Nat.reduceLeDiff, Int.reduceEq, Int.reduceNeg, Int.reduceToNat, reduceCtorEq, eq_self, Bool.false_eq_true, Bool.true_eq_false, ↓reduceIte, Int.reduceBNe, Int.reduceBEq, Bool.not_true, Bool.not_false, S8, T8]; try (refine ⟨fun hlt => ?_, fun hlt => ?_⟩ <;> (try simp only [decide_eq_true_eq, decide_eq_false_iff_not, beq_iff_eq, bne_iff_ne, ne_eq, beq_eq_false_iff_ne, bne_eq_false_iff_eq, Bool.true_eq_false, Bool.false_eq_true, Int.not_lt, Int.not_le, Decidable.not_not, gt_iff_lt, ge_iff_le, reduceCtorEq] at hlt) <;> (try exact hlt.elim)))
      | (refine AWp.block ?_)
      | ((first | refine gdO_split (fun hlt => ?_) (fun hlt => ?_) | refine tkO_split (fun hlt => ?_) (fun hlt => ?_) | refine opO_split (fun hlt => ?_) (fun hlt => ?_)) <;> have hgd := hlt <;> (try simp only [decide_eq_true_eq, decide_eq_false_iff_not, beq_iff_eq, bne_iff_ne, ne_eq, beq_eq_false_iff_ne, bne_eq_false_iff_eq, Bool.not_eq_true, Bool.not_eq_false, Bool.not_eq_eq_eq_not, Int.not_lt, Int.not_le, Decidable.not_not, gt_iff_lt, ge_iff_le] at hlt) <;> (simp -implicitDefEqProofs (maxSteps := 1000000) (disch := omega) only [go_sem, wrap64, Int.tdiv_eq_ediv_of_nonneg, Int.tmod_eq_emod_of_nonneg, Nat.reduceAdd, Nat.reduceMul, Nat.reduceEqDiff, Nat.reduceLT, Nat.reduceLeDiff, Int.reduceEq, Int.reduceNeg, Int.reduceToNat, reduceCtorEq, eq_self, Bool.false_eq_true, Bool.true_eq_false, ↓reduceIte, Int.reduceBNe, Int.reduceBEq, Bool.not_true, Bool.not_false, S8, T8, hgd]) <;> clear hgd)
      | (with_reducible refine And.intro ?_ ?_; · first | omega | assumption | exact ⟨_, _, rfl, rfl⟩)
      | ((first | refine ⟨_, hs, ?_⟩ | refine ⟨_, o0, ?_⟩ | refine ⟨_, o1, ?_⟩ | refine ⟨_, v0, ?_⟩ | refine ⟨_, v1, ?_⟩ | refine ⟨_, i0, ?_⟩ | refine ⟨_, i1, ?_⟩ | refine ⟨_, cm, ?_⟩ | refine ⟨_, a1, ?_⟩ | refine ⟨_, a2, ?_⟩ | refine ⟨_, a3, ?_⟩ | refine ⟨_, g1, ?_⟩ | refine ⟨_, g2, ?_⟩ | refine ⟨_, g3, ?_⟩ | refine ⟨_, g4, ?_⟩ | refine ⟨_, g5, ?_⟩ | refine ⟨_, d1 (by assumption), ?_⟩ | refine ⟨_, d2 (by assumption), ?_⟩ | refine ⟨_, j4 (by omega) ⟨by assumption, by assumption⟩, ?_⟩ | refine ⟨_, j5 (by omega) (by first | exact .inl (by assumption) | exact .inr (by assumption)), ?_⟩ | refine ⟨_, j6 (by omega) ⟨by assumption, by assumption⟩, ?_⟩ | refine ⟨_, j7 (by omega) (by first | exact .inl (by assumption) | exact .inr (by assumption)), ?_⟩ | refine ⟨_, j1 (by assumption), ?_⟩ | refine ⟨_, j2 (by assumption), ?_⟩ | refine ⟨_, j3 (by omega), ?_⟩); simp -implicitDefEqProofs (maxSteps := 1000000) (disch := omega) only [go_sem, wrap64, Int.tdiv_eq_ediv_of_nonneg, Int.tmod_eq_emod_of_nonneg, Nat.reduceAdd, Nat.reduceMul, Nat.reduceEqDiff, Nat.reduceLT, Nat.reduceLeDiff, Int.reduceEq, Int.reduceNeg, Int.reduceToNat, reduceCtorEq, eq_self, Bool.false_eq_true, Bool.true_eq_false, ↓reduceIte, Int.reduceBNe, Int.reduceBEq, Bool.not_true, Bool.not_false, S8, T8])
      | (refine AWp.skip ?_)
      | fail
    all_goals (try (show Sub c _ _; refine Sub.of0 hm id rfl ?_ ?_ (fun _ _ _ _ h => h)))
    all_goals (try dsimp only)
    all_goals (first | omega | (simp -implicitDefEqProofs (maxSteps := 1000000) (disch := omega) only [S8, T8, id, go_sem, Nat.blt_eq, Nat.reduceAdd, Nat.reduceSub, Nat.reduceEqDiff, Nat.reduceLT, ↓reduceIte, and_true, true_and, AV.dat.injEq, DV.int.injEq, DV.bool.injEq, DV.lst.injEq, eq_self_iff_true]; first | done | omega | (simp; done) | (simp; omega)) | (simp; done) | (simp; omega) | skip)
end Go.Proofs.YthhjcfejgoddlaaGreatDoor
end
