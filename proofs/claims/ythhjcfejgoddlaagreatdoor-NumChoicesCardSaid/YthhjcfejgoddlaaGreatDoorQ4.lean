/- NumChoices: for every n and k of the kind int the law answers true: Choose obeys Pascal's rule and is the same for k and n - k. -/
import Derived.Test.YthhjcfejgoddlaaGreatDoorJb
import Derived.Test.YthhjcfejgoddlaaGreatDoorJc
import Derived.Test.YthhjcfejgoddlaaGreatDoorKf
import Derived.Test.YthhjcfejgoddlaaGreatDoorCards
import Derived.Test.YthhjcfejgoddlaaGreatDoorTie
import Derived.SevenTiedAt
section
set_option linter.unusedSimpArgs false
set_option linter.unusedVariables false
set_option maxRecDepth 100000
namespace Go.Proofs.YthhjcfejgoddlaaGreatDoor
open Go Go.Abs

/-- Results as pairs: the integer and the error. -/
def limP (z : Int) : Int × Int := if lenZ z ≤ 40 then (z, 0) else (0, 2)
def GP (p : Int × Int) : AV := GZ p.1 p.2
def okP (p : Int × Int) : Prop := lenZ p.1 ≤ 40
theorem lenZ_0 : lenZ 0 ≤ 40 := by unfold lenZ; rw [Int.natAbs_zero, D_zero]; exact Nat.zero_le _
theorem limR_P (z : Int) : limR z = .tup [Z (limP z).1, I (limP z).2] := by
  unfold limR limP
  split
  · rfl
  · show _ = AV.tup [Z 0, I 2]
    rw [Z_zero]
theorem limP_ok (z : Int) : okP (limP z) := by
  unfold limP okP
  split
  · assumption
  · exact lenZ_0
theorem gotP (p : Int × Int) : PC Tryz.prog 24 [Z p.1, I p.2] (GP p) := got_pc _ _ _
theorem got_lim (z : Int) : PC Tryz.prog 24 [Z (limP z).1, I (limP z).2] (GP (limP z)) := gotP _
theorem valP (x : Int) : PC Tryz.prog 21 [Z x] (GP (x, 0)) := val_pc _ _
def sumP (p q : Int × Int) : Int × Int := if p.2 = 0 ∧ q.2 = 0 then limP (p.1 + q.1) else (0, 2)
def timesP (p q : Int × Int) : Int × Int := if p.2 = 0 ∧ q.2 = 0 then limP (p.1 * q.1) else (0, 2)
theorem sumP_ok (p q : Int × Int) : okP (sumP p q) := by unfold sumP; split; exact limP_ok _; exact lenZ_0
theorem timesP_ok (p q : Int × Int) : okP (timesP p q) := by unfold timesP; split; exact limP_ok _; exact lenZ_0
theorem GP_02 : GP (0, 2) = .agg [B false, L [], I 2] := by
  show Gr (decide ((0 : Int) < 0)) (D (Int.natAbs 0)) 2 = _
  rw [Int.natAbs_zero, D_zero]; rfl
theorem PC.weak {f : FuncId} {args : List AV} {r r' : AV} (h : PC Tryz.prog f args r) (k : ∀ A w v, RV φ0 0 A w r v → RV φ0 0 A w r' v) : PC Tryz.prog f args r' :=
  ⟨h.1, fun w A vs hg hl hv => (h.2 w A vs hg hl hv).mono fun e w' ⟨v, he, hb, hrv⟩ => ⟨v, he, hb, k _ _ _ hrv⟩⟩
theorem RV_nilL {A : Nat → Nat → Prop} {w : World} {x y : AV} {v : Value} (h : RV φ0 0 A w (.agg [x, .nil, y]) v) : RV φ0 0 A w (.agg [x, L [], y]) v := by
  cases h with
  | agg _ vs hl h h1 =>
    refine .agg _ vs hl (fun j z hz => ?_) h1
    rcases j with _ | _ | _ | j
    · exact h 0 _ hz
    · have h2 := h 1 _ rfl
      obtain rfl := Option.some.inj hz
      cases hv : vs.getD 1 undef
      all_goals rw [hv] at h2; cases h2
      exact .dat _ _ (.emp _ _)
    · exact h 2 _ hz
    · simp at hz
theorem sum_P (p q : Int × Int) (hp : okP p) (hq : okP q) : PC Tryz.prog 28 [GP p, GP q] (GP (sumP p q)) := by
  obtain ⟨x, e⟩ := p
  obtain ⟨y, f⟩ := q
  have h := Add_ok x y hp hq
  rw [limR_P] at h
  have g := got_lim (x + y)
  unfold sumP
  by_cases h1 : e = 0 <;> by_cases h2 : f = 0
  · subst h1; subst h2
    rw [if_pos ⟨rfl, rfl⟩]
    simp only [GP, GZ, Gr] at g ⊢
    refine PCr.pc (PCr.of tab_ok Tryz.func28 rfl rfl rfl fun c hc hm => ?_)
    rw [show Tryz.f28.ntmps = _ from Tryz.ntmps28] at hc
    simp only [Tryz.f28]
    repeat' first
      | (refine AWp.seq fun K hK => ?_)
      | ((first | refine AWp.region (by rw [hc]; rfl) ?_ | refine AWp.skip ?_ | refine AWp.exit ?_ | refine AWp.label ?_ | refine AWp.ret ?_ | refine appK_g ?_); simp -implicitDefEqProofs (maxSteps := 1000000) (disch := omega) only [go_sem, wrap64, Int.tdiv_eq_ediv_of_nonneg, Int.tmod_eq_emod_of_nonneg, Nat.reduceAdd, Nat.reduceMul, Nat.reduceEqDiff, Nat.reduceLT, Nat.reduceLeDiff, Int.reduceEq, Int.reduceNeg, Int.reduceToNat, reduceCtorEq, eq_self, Bool.false_eq_true, Bool.true_eq_false, ↓reduceIte, Int.reduceBNe])
      | (refine hK _ ?_; clear hK)
      | (clear hK; refine hK _ ?_; clear hK)
      | (clear hK; clear hK; refine hK _ ?_; clear hK)
      | (clear hK; clear hK; clear hK; refine hK _ ?_; clear hK)
      | (refine AWp.cond ?_; simp -implicitDefEqProofs (maxSteps := 1000000) (disch := omega) only [go_sem, wrap64, Int.tdiv_eq_ediv_of_nonneg, Int.tmod_eq_emod_of_nonneg, Nat.reduceAdd, Nat.reduceMul, Nat.reduceEqDiff, Nat.reduceLT, Nat.reduceLeDiff, Int.reduceEq, Int.reduceNeg, Int.reduceToNat, reduceCtorEq, eq_self, Bool.false_eq_true, Bool.true_eq_false, ↓reduceIte, Int.reduceBNe]; try (refine ⟨fun hlt => ?_, fun hlt => ?_⟩ <;> (try simp only [decide_eq_true_eq, decide_eq_false_iff_not, beq_iff_eq, bne_iff_ne, ne_eq, beq_eq_false_iff_ne, bne_eq_false_iff_eq, Bool.true_eq_false, Bool.false_eq_true, Int.not_lt, Int.not_le, Decidable.not_not, gt_iff_lt, ge_iff_le, reduceCtorEq] at hlt) <;> (try exact hlt.elim)))
      | (refine AWp.block ?_)
      | ((first | refine gdO_split (fun hlt => ?_) (fun hlt => ?_) | refine tkO_split (fun hlt => ?_) (fun hlt => ?_) | refine opO_split (fun hlt => ?_) (fun hlt => ?_)) <;> have hgd := hlt <;> (try simp only [decide_eq_true_eq, decide_eq_false_iff_not, beq_iff_eq, bne_iff_ne, ne_eq, beq_eq_false_iff_ne, bne_eq_false_iff_eq, Bool.not_eq_true, Bool.not_eq_false, Bool.not_eq_eq_eq_not, Int.not_lt, Int.not_le, Decidable.not_not, gt_iff_lt, ge_iff_le] at hlt) <;> (simp -implicitDefEqProofs (maxSteps := 1000000) (disch := omega) only [go_sem, wrap64, Int.tdiv_eq_ediv_of_nonneg, Int.tmod_eq_emod_of_nonneg, Nat.reduceAdd, Nat.reduceMul, Nat.reduceEqDiff, Nat.reduceLT, Nat.reduceLeDiff, Int.reduceEq, Int.reduceNeg, Int.reduceToNat, reduceCtorEq, eq_self, Bool.false_eq_true, Bool.true_eq_false, ↓reduceIte, Int.reduceBNe, hgd]) <;> clear hgd)
      | (with_reducible refine And.intro ?_ ?_; · first | omega | assumption | exact ⟨_, _, rfl, rfl⟩)
      | ((first | refine ⟨_, h, ?_⟩ | refine ⟨_, g, ?_⟩); simp -implicitDefEqProofs (maxSteps := 1000000) (disch := omega) only [go_sem, wrap64, Int.tdiv_eq_ediv_of_nonneg, Int.tmod_eq_emod_of_nonneg, Nat.reduceAdd, Nat.reduceMul, Nat.reduceEqDiff, Nat.reduceLT, Nat.reduceLeDiff, Int.reduceEq, Int.reduceNeg, Int.reduceToNat, reduceCtorEq, eq_self, Bool.false_eq_true, Bool.true_eq_false, ↓reduceIte, Int.reduceBNe])
      | fail
  all_goals
    rw [if_neg (by simp only [h1, h2]; decide), GP_02]
    simp only [GP, GZ, Gr]
    refine PCr.pc (PCr.of tab_ok Tryz.func28 rfl rfl rfl fun c hc hm => ?_)
    rw [show Tryz.f28.ntmps = _ from Tryz.ntmps28] at hc
    simp only [Tryz.f28]
    repeat' first
      | (refine AWp.seq fun K hK => ?_)
      | ((first | refine AWp.region (by rw [hc]; rfl) ?_ | refine AWp.skip ?_ | refine AWp.exit ?_ | refine AWp.label ?_ | refine AWp.ret ?_ | refine appK_g ?_); simp -implicitDefEqProofs (maxSteps := 1000000) (disch := omega) only [go_sem, wrap64, Int.tdiv_eq_ediv_of_nonneg, Int.tmod_eq_emod_of_nonneg, Nat.reduceAdd, Nat.reduceMul, Nat.reduceEqDiff, Nat.reduceLT, Nat.reduceLeDiff, Int.reduceEq, Int.reduceNeg, Int.reduceToNat, reduceCtorEq, eq_self, Bool.false_eq_true, Bool.true_eq_false, ↓reduceIte, Int.reduceBNe])
      | (refine hK _ ?_; clear hK)
      | (clear hK; refine hK _ ?_; clear hK)
      | (clear hK; clear hK; refine hK _ ?_; clear hK)
      | (clear hK; clear hK; clear hK; refine hK _ ?_; clear hK)
      | (refine AWp.cond ?_; simp -implicitDefEqProofs (maxSteps := 1000000) (disch := omega) only [go_sem, wrap64, Int.tdiv_eq_ediv_of_nonneg, Int.tmod_eq_emod_of_nonneg, Nat.reduceAdd, Nat.reduceMul, Nat.reduceEqDiff, Nat.reduceLT, Nat.reduceLeDiff, Int.reduceEq, Int.reduceNeg, Int.reduceToNat, reduceCtorEq, eq_self, Bool.false_eq_true, Bool.true_eq_false, ↓reduceIte, Int.reduceBNe]; try (refine ⟨fun hlt => ?_, fun hlt => ?_⟩ <;> (try simp only [decide_eq_true_eq, decide_eq_false_iff_not, beq_iff_eq, bne_iff_ne, ne_eq, beq_eq_false_iff_ne, bne_eq_false_iff_eq, Bool.true_eq_false, Bool.false_eq_true, Int.not_lt, Int.not_le, Decidable.not_not, gt_iff_lt, ge_iff_le, reduceCtorEq] at hlt) <;> (try exact hlt.elim)))
      | (refine AWp.block ?_)
      | ((first | refine gdO_split (fun hlt => ?_) (fun hlt => ?_) | refine tkO_split (fun hlt => ?_) (fun hlt => ?_) | refine opO_split (fun hlt => ?_) (fun hlt => ?_)) <;> have hgd := hlt <;> (try simp only [decide_eq_true_eq, decide_eq_false_iff_not, beq_iff_eq, bne_iff_ne, ne_eq, beq_eq_false_iff_ne, bne_eq_false_iff_eq, Bool.not_eq_true, Bool.not_eq_false, Bool.not_eq_eq_eq_not, Int.not_lt, Int.not_le, Decidable.not_not, gt_iff_lt, ge_iff_le] at hlt) <;> (simp -implicitDefEqProofs (maxSteps := 1000000) (disch := omega) only [go_sem, wrap64, Int.tdiv_eq_ediv_of_nonneg, Int.tmod_eq_emod_of_nonneg, Nat.reduceAdd, Nat.reduceMul, Nat.reduceEqDiff, Nat.reduceLT, Nat.reduceLeDiff, Int.reduceEq, Int.reduceNeg, Int.reduceToNat, reduceCtorEq, eq_self, Bool.false_eq_true, Bool.true_eq_false, ↓reduceIte, Int.reduceBNe, hgd]) <;> clear hgd)
      | (with_reducible refine And.intro ?_ ?_; · first | omega | assumption | exact ⟨_, _, rfl, rfl⟩)
      | fail
    all_goals first | rfl | contradiction
theorem times_P (p q : Int × Int) (hp : okP p) (hq : okP q) : PC Tryz.prog 20 [GP p, GP q] (GP (timesP p q)) := by
  obtain ⟨x, e⟩ := p
  obtain ⟨y, f⟩ := q
  have h := Mul_ok x y hp hq
  rw [limR_P] at h
  have g := got_lim (x * y)
  unfold timesP
  by_cases h1 : e = 0 <;> by_cases h2 : f = 0
  · subst h1; subst h2
    rw [if_pos ⟨rfl, rfl⟩]
    simp only [GP, GZ, Gr] at g ⊢
    refine PCr.pc (PCr.of tab_ok Tryz.func20 rfl rfl rfl fun c hc hm => ?_)
    rw [show Tryz.f20.ntmps = _ from Tryz.ntmps20] at hc
    simp only [Tryz.f20]
    repeat' first
      | (refine AWp.seq fun K hK => ?_)
      | ((first | refine AWp.region (by rw [hc]; rfl) ?_ | refine AWp.skip ?_ | refine AWp.exit ?_ | refine AWp.label ?_ | refine AWp.ret ?_ | refine appK_g ?_); simp -implicitDefEqProofs (maxSteps := 1000000) (disch := omega) only [go_sem, wrap64, Int.tdiv_eq_ediv_of_nonneg, Int.tmod_eq_emod_of_nonneg, Nat.reduceAdd, Nat.reduceMul, Nat.reduceEqDiff, Nat.reduceLT, Nat.reduceLeDiff, Int.reduceEq, Int.reduceNeg, Int.reduceToNat, reduceCtorEq, eq_self, Bool.false_eq_true, Bool.true_eq_false, ↓reduceIte, Int.reduceBNe])
      | (refine hK _ ?_; clear hK)
      | (clear hK; refine hK _ ?_; clear hK)
      | (clear hK; clear hK; refine hK _ ?_; clear hK)
      | (clear hK; clear hK; clear hK; refine hK _ ?_; clear hK)
      | (refine AWp.cond ?_; simp -implicitDefEqProofs (maxSteps := 1000000) (disch := omega) only [go_sem, wrap64, Int.tdiv_eq_ediv_of_nonneg, Int.tmod_eq_emod_of_nonneg, Nat.reduceAdd, Nat.reduceMul, Nat.reduceEqDiff, Nat.reduceLT, Nat.reduceLeDiff, Int.reduceEq, Int.reduceNeg, Int.reduceToNat, reduceCtorEq, eq_self, Bool.false_eq_true, Bool.true_eq_false, ↓reduceIte, Int.reduceBNe]; try (refine ⟨fun hlt => ?_, fun hlt => ?_⟩ <;> (try simp only [decide_eq_true_eq, decide_eq_false_iff_not, beq_iff_eq, bne_iff_ne, ne_eq, beq_eq_false_iff_ne, bne_eq_false_iff_eq, Bool.true_eq_false, Bool.false_eq_true, Int.not_lt, Int.not_le, Decidable.not_not, gt_iff_lt, ge_iff_le, reduceCtorEq] at hlt) <;> (try exact hlt.elim)))
      | (refine AWp.block ?_)
      | ((first | refine gdO_split (fun hlt => ?_) (fun hlt => ?_) | refine tkO_split (fun hlt => ?_) (fun hlt => ?_) | refine opO_split (fun hlt => ?_) (fun hlt => ?_)) <;> have hgd := hlt <;> (try simp only [decide_eq_true_eq, decide_eq_false_iff_not, beq_iff_eq, bne_iff_ne, ne_eq, beq_eq_false_iff_ne, bne_eq_false_iff_eq, Bool.not_eq_true, Bool.not_eq_false, Bool.not_eq_eq_eq_not, Int.not_lt, Int.not_le, Decidable.not_not, gt_iff_lt, ge_iff_le] at hlt) <;> (simp -implicitDefEqProofs (maxSteps := 1000000) (disch := omega) only [go_sem, wrap64, Int.tdiv_eq_ediv_of_nonneg, Int.tmod_eq_emod_of_nonneg, Nat.reduceAdd, Nat.reduceMul, Nat.reduceEqDiff, Nat.reduceLT, Nat.reduceLeDiff, Int.reduceEq, Int.reduceNeg, Int.reduceToNat, reduceCtorEq, eq_self, Bool.false_eq_true, Bool.true_eq_false, ↓reduceIte, Int.reduceBNe, hgd]) <;> clear hgd)
      | (with_reducible refine And.intro ?_ ?_; · first | omega | assumption | exact ⟨_, _, rfl, rfl⟩)
      | ((first | refine ⟨_, h, ?_⟩ | refine ⟨_, g, ?_⟩); simp -implicitDefEqProofs (maxSteps := 1000000) (disch := omega) only [go_sem, wrap64, Int.tdiv_eq_ediv_of_nonneg, Int.tmod_eq_emod_of_nonneg, Nat.reduceAdd, Nat.reduceMul, Nat.reduceEqDiff, Nat.reduceLT, Nat.reduceLeDiff, Int.reduceEq, Int.reduceNeg, Int.reduceToNat, reduceCtorEq, eq_self, Bool.false_eq_true, Bool.true_eq_false, ↓reduceIte, Int.reduceBNe])
      | fail
  all_goals
    rw [if_neg (by simp only [h1, h2]; decide), GP_02]
    simp only [GP, GZ, Gr]
    refine PCr.pc (PCr.of tab_ok Tryz.func20 rfl rfl rfl fun c hc hm => ?_)
    rw [show Tryz.f20.ntmps = _ from Tryz.ntmps20] at hc
    simp only [Tryz.f20]
    repeat' first
      | (refine AWp.seq fun K hK => ?_)
      | ((first | refine AWp.region (by rw [hc]; rfl) ?_ | refine AWp.skip ?_ | refine AWp.exit ?_ | refine AWp.label ?_ | refine AWp.ret ?_ | refine appK_g ?_); simp -implicitDefEqProofs (maxSteps := 1000000) (disch := omega) only [go_sem, wrap64, Int.tdiv_eq_ediv_of_nonneg, Int.tmod_eq_emod_of_nonneg, Nat.reduceAdd, Nat.reduceMul, Nat.reduceEqDiff, Nat.reduceLT, Nat.reduceLeDiff, Int.reduceEq, Int.reduceNeg, Int.reduceToNat, reduceCtorEq, eq_self, Bool.false_eq_true, Bool.true_eq_false, ↓reduceIte, Int.reduceBNe])
      | (refine hK _ ?_; clear hK)
      | (clear hK; refine hK _ ?_; clear hK)
      | (clear hK; clear hK; refine hK _ ?_; clear hK)
      | (clear hK; clear hK; clear hK; refine hK _ ?_; clear hK)
      | (refine AWp.cond ?_; simp -implicitDefEqProofs (maxSteps := 1000000) (disch := omega) only [go_sem, wrap64, Int.tdiv_eq_ediv_of_nonneg, Int.tmod_eq_emod_of_nonneg, Nat.reduceAdd, Nat.reduceMul, Nat.reduceEqDiff, Nat.reduceLT, Nat.reduceLeDiff, Int.reduceEq, Int.reduceNeg, Int.reduceToNat, reduceCtorEq, eq_self, Bool.false_eq_true, Bool.true_eq_false, ↓reduceIte, Int.reduceBNe]; try (refine ⟨fun hlt => ?_, fun hlt => ?_⟩ <;> (try simp only [decide_eq_true_eq, decide_eq_false_iff_not, beq_iff_eq, bne_iff_ne, ne_eq, beq_eq_false_iff_ne, bne_eq_false_iff_eq, Bool.true_eq_false, Bool.false_eq_true, Int.not_lt, Int.not_le, Decidable.not_not, gt_iff_lt, ge_iff_le, reduceCtorEq] at hlt) <;> (try exact hlt.elim)))
      | (refine AWp.block ?_)
      | ((first | refine gdO_split (fun hlt => ?_) (fun hlt => ?_) | refine tkO_split (fun hlt => ?_) (fun hlt => ?_) | refine opO_split (fun hlt => ?_) (fun hlt => ?_)) <;> have hgd := hlt <;> (try simp only [decide_eq_true_eq, decide_eq_false_iff_not, beq_iff_eq, bne_iff_ne, ne_eq, beq_eq_false_iff_ne, bne_eq_false_iff_eq, Bool.not_eq_true, Bool.not_eq_false, Bool.not_eq_eq_eq_not, Int.not_lt, Int.not_le, Decidable.not_not, gt_iff_lt, ge_iff_le] at hlt) <;> (simp -implicitDefEqProofs (maxSteps := 1000000) (disch := omega) only [go_sem, wrap64, Int.tdiv_eq_ediv_of_nonneg, Int.tmod_eq_emod_of_nonneg, Nat.reduceAdd, Nat.reduceMul, Nat.reduceEqDiff, Nat.reduceLT, Nat.reduceLeDiff, Int.reduceEq, Int.reduceNeg, Int.reduceToNat, reduceCtorEq, eq_self, Bool.false_eq_true, Bool.true_eq_false, ↓reduceIte, Int.reduceBNe, hgd]) <;> clear hgd)
      | (with_reducible refine And.intro ?_ ?_; · first | omega | assumption | exact ⟨_, _, rfl, rfl⟩)
      | fail
    all_goals first | rfl | contradiction
theorem same_P (p q : Int × Int) (hp : okP p) (hq : okP q) : PC Tryz.prog 26 [GP p, GP q] (B (decide (p = q))) := by
  have h := same_Z p.1 q.1 p.2 q.2 (Nat.le_trans hp (by decide)) (Nat.le_trans hq (by decide))
  rwa [show decide (p.2 = q.2 ∧ p.1 = q.1) = decide (p = q) by rw [decide_eq_decide, Prod.ext_iff]; exact And.comm] at h
theorem agree_P (p q : Int × Int) (hp : okP p) (hq : okP q) : PC Tryz.prog 31 [GP p, GP q] (B (decide (p.2 = 0 ∧ q.2 = 0 → p.1 = q.1))) := by
  obtain ⟨x, e⟩ := p
  obtain ⟨y, f⟩ := q
  have h := Same_Z x y (Nat.le_trans hp (by decide)) (Nat.le_trans hq (by decide))
  simp only [GP, GZ, Gr]
  refine PCr.pc (PCr.of tab_ok Tryz.func31 rfl rfl rfl fun c hc hm => ?_)
  rw [show Tryz.f31.ntmps = _ from Tryz.ntmps31] at hc
  simp only [Tryz.f31]
  repeat' first
    | (refine AWp.seq fun K hK => ?_)
    | ((first | refine AWp.region (by rw [hc]; rfl) ?_ | refine AWp.skip ?_ | refine AWp.exit ?_ | refine AWp.label ?_ | refine AWp.ret ?_ | refine appK_g ?_); simp -implicitDefEqProofs (maxSteps := 1000000) (disch := omega) only [go_sem, wrap64, Int.tdiv_eq_ediv_of_nonneg, Int.tmod_eq_emod_of_nonneg, Nat.reduceAdd, Nat.reduceMul, Nat.reduceEqDiff, Nat.reduceLT, Nat.reduceLeDiff, Int.reduceEq, Int.reduceNeg, Int.reduceToNat, reduceCtorEq, eq_self, Bool.false_eq_true, Bool.true_eq_false, ↓reduceIte, Int.reduceBNe])
    | (refine hK _ ?_; clear hK)
    | (clear hK; refine hK _ ?_; clear hK)
    | (clear hK; clear hK; refine hK _ ?_; clear hK)
    | (clear hK; clear hK; clear hK; refine hK _ ?_; clear hK)
    | (refine AWp.cond ?_; simp -implicitDefEqProofs (maxSteps := 1000000) (disch := omega) only [go_sem, wrap64, Int.tdiv_eq_ediv_of_nonneg, Int.tmod_eq_emod_of_nonneg, Nat.reduceAdd, Nat.reduceMul, Nat.reduceEqDiff, Nat.reduceLT, Nat.reduceLeDiff, Int.reduceEq, Int.reduceNeg, Int.reduceToNat, reduceCtorEq, eq_self, Bool.false_eq_true, Bool.true_eq_false, ↓reduceIte, Int.reduceBNe]; try (refine ⟨fun hlt => ?_, fun hlt => ?_⟩ <;> (try simp only [decide_eq_true_eq, decide_eq_false_iff_not, beq_iff_eq, bne_iff_ne, ne_eq, beq_eq_false_iff_ne, bne_eq_false_iff_eq, Bool.true_eq_false, Bool.false_eq_true, Int.not_lt, Int.not_le, Decidable.not_not, gt_iff_lt, ge_iff_le, reduceCtorEq] at hlt) <;> (try exact hlt.elim)))
    | (refine AWp.block ?_)
    | ((first | refine gdO_split (fun hlt => ?_) (fun hlt => ?_) | refine tkO_split (fun hlt => ?_) (fun hlt => ?_) | refine opO_split (fun hlt => ?_) (fun hlt => ?_)) <;> have hgd := hlt <;> (try simp only [decide_eq_true_eq, decide_eq_false_iff_not, beq_iff_eq, bne_iff_ne, ne_eq, beq_eq_false_iff_ne, bne_eq_false_iff_eq, Bool.not_eq_true, Bool.not_eq_false, Bool.not_eq_eq_eq_not, Int.not_lt, Int.not_le, Decidable.not_not, gt_iff_lt, ge_iff_le] at hlt) <;> (simp -implicitDefEqProofs (maxSteps := 1000000) (disch := omega) only [go_sem, wrap64, Int.tdiv_eq_ediv_of_nonneg, Int.tmod_eq_emod_of_nonneg, Nat.reduceAdd, Nat.reduceMul, Nat.reduceEqDiff, Nat.reduceLT, Nat.reduceLeDiff, Int.reduceEq, Int.reduceNeg, Int.reduceToNat, reduceCtorEq, eq_self, Bool.false_eq_true, Bool.true_eq_false, ↓reduceIte, Int.reduceBNe, hgd]) <;> clear hgd)
    | (with_reducible refine And.intro ?_ ?_; · first | omega | assumption | exact ⟨_, _, rfl, rfl⟩)
    | ((first | refine ⟨_, h, ?_⟩); simp -implicitDefEqProofs (maxSteps := 1000000) (disch := omega) only [go_sem, wrap64, Int.tdiv_eq_ediv_of_nonneg, Int.tmod_eq_emod_of_nonneg, Nat.reduceAdd, Nat.reduceMul, Nat.reduceEqDiff, Nat.reduceLT, Nat.reduceLeDiff, Int.reduceEq, Int.reduceNeg, Int.reduceToNat, reduceCtorEq, eq_self, Bool.false_eq_true, Bool.true_eq_false, ↓reduceIte, Int.reduceBNe])
    | fail
  all_goals first
    | (refine (decide_eq_true ?_).symm; rintro ⟨h1, h2⟩; contradiction)
    | (rw [decide_eq_decide]; exact ⟨fun h _ => h, fun h => h ⟨by assumption, by assumption⟩⟩)
theorem smaller_Z (x y : Int) (lx : lenZ x ≤ 1000000) (ly : lenZ y ≤ 1000000) : PC Tryz.prog 35 [Z x, Z y] (B (decide (x.natAbs < y.natAbs))) := by
  have h := Compare_Z x.natAbs y.natAbs (by unfold lenZ at *; rwa [Int.natAbs_natCast]) (by unfold lenZ at *; rwa [Int.natAbs_natCast])
  have e : ∀ n : Nat, Z (n : Int) = Zr false (D n) := fun n => by
    show Zr (decide ((n : Int) < 0)) (D (n : Int).natAbs) = _
    rw [Int.natAbs_natCast, decide_eq_false (by omega)]
  rw [e, e] at h
  refine PCr.pc (PCr.of tab_ok Tryz.func35 rfl rfl rfl fun c hc hm => ?_)
  rw [show Tryz.f35.ntmps = _ from Tryz.ntmps35] at hc
  simp only [Tryz.f35]
  repeat' first
    | (refine AWp.seq fun K hK => ?_)
    | ((first | refine AWp.region (by rw [hc]; rfl) ?_ | refine AWp.skip ?_ | refine AWp.exit ?_ | refine AWp.label ?_ | refine AWp.ret ?_ | refine appK_g ?_); simp -implicitDefEqProofs (maxSteps := 1000000) (disch := omega) only [go_sem, wrap64, Int.tdiv_eq_ediv_of_nonneg, Int.tmod_eq_emod_of_nonneg, Nat.reduceAdd, Nat.reduceMul, Nat.reduceEqDiff, Nat.reduceLT, Nat.reduceLeDiff, Int.reduceEq, Int.reduceNeg, Int.reduceToNat, reduceCtorEq, eq_self, Bool.false_eq_true, Bool.true_eq_false, ↓reduceIte])
    | (refine hK _ ?_; clear hK)
    | (clear hK; refine hK _ ?_; clear hK)
    | (clear hK; clear hK; refine hK _ ?_; clear hK)
    | (clear hK; clear hK; clear hK; refine hK _ ?_; clear hK)
    | (refine AWp.cond ?_; simp -implicitDefEqProofs (maxSteps := 1000000) (disch := omega) only [go_sem, wrap64, Int.tdiv_eq_ediv_of_nonneg, Int.tmod_eq_emod_of_nonneg, Nat.reduceAdd, Nat.reduceMul, Nat.reduceEqDiff, Nat.reduceLT, Nat.reduceLeDiff, Int.reduceEq, Int.reduceNeg, Int.reduceToNat, reduceCtorEq, eq_self, Bool.false_eq_true, Bool.true_eq_false, ↓reduceIte]; try (refine ⟨fun hlt => ?_, fun hlt => ?_⟩ <;> (try simp only [decide_eq_true_eq, decide_eq_false_iff_not, beq_iff_eq, bne_iff_ne, ne_eq, beq_eq_false_iff_ne, bne_eq_false_iff_eq, Bool.true_eq_false, Bool.false_eq_true, Int.not_lt, Int.not_le, Decidable.not_not, gt_iff_lt, ge_iff_le, reduceCtorEq] at hlt) <;> (try exact hlt.elim)))
    | (refine AWp.block ?_)
    | ((first | refine gdO_split (fun hlt => ?_) (fun hlt => ?_) | refine tkO_split (fun hlt => ?_) (fun hlt => ?_) | refine opO_split (fun hlt => ?_) (fun hlt => ?_)) <;> have hgd := hlt <;> (try simp only [decide_eq_true_eq, decide_eq_false_iff_not, beq_iff_eq, bne_iff_ne, ne_eq, beq_eq_false_iff_ne, bne_eq_false_iff_eq, Bool.not_eq_true, Bool.not_eq_false, Bool.not_eq_eq_eq_not, Int.not_lt, Int.not_le, Decidable.not_not, gt_iff_lt, ge_iff_le] at hlt) <;> (simp -implicitDefEqProofs (maxSteps := 1000000) (disch := omega) only [go_sem, wrap64, Int.tdiv_eq_ediv_of_nonneg, Int.tmod_eq_emod_of_nonneg, Nat.reduceAdd, Nat.reduceMul, Nat.reduceEqDiff, Nat.reduceLT, Nat.reduceLeDiff, Int.reduceEq, Int.reduceNeg, Int.reduceToNat, reduceCtorEq, eq_self, Bool.false_eq_true, Bool.true_eq_false, ↓reduceIte, hgd]) <;> clear hgd)
    | (with_reducible refine And.intro ?_ ?_; · first | omega | assumption | exact ⟨_, _, rfl, rfl⟩)
    | ((first | refine ⟨_, h, ?_⟩); simp -implicitDefEqProofs (maxSteps := 1000000) (disch := omega) only [go_sem, wrap64, Int.tdiv_eq_ediv_of_nonneg, Int.tmod_eq_emod_of_nonneg, Nat.reduceAdd, Nat.reduceMul, Nat.reduceEqDiff, Nat.reduceLT, Nat.reduceLeDiff, Int.reduceEq, Int.reduceNeg, Int.reduceToNat, reduceCtorEq, eq_self, Bool.false_eq_true, Bool.true_eq_false, ↓reduceIte])
    | fail
  rw [decide_eq_decide]
  simp only [cmpI]; (repeat' split) <;> omega
end Go.Proofs.YthhjcfejgoddlaaGreatDoor
end

section
set_option linter.unusedSimpArgs false
set_option linter.unusedVariables false
set_option maxRecDepth 100000
namespace Go.Proofs.YthhjcfejgoddlaaGreatDoor
open Go Go.Abs

def chooseP (n k : Int) : Int × Int := if n < 0 ∨ 4000 < n then (0, 1) else if k < 0 ∨ n < k then (0, 0) else limP (bnm (n - k).toNat k.toNat : Nat)
theorem chooseP_ok (n k : Int) : okP (chooseP n k) := by
  unfold chooseP
  split
  · exact lenZ_0
  · split
    · exact lenZ_0
    · exact limP_ok _
theorem Choose_P (n k : Int) (h0 : -9223372036854775808 ≤ n) (h1 : n ≤ 9223372036854775807) (h2 : -9223372036854775808 ≤ k) (h3 : k ≤ 9223372036854775807) : PC Tryz.prog 25 [I n, I k] (.tup [Z (chooseP n k).1, I (chooseP n k).2]) := by
  have h := Choose_pc n k h0 h1 h2 h3
  unfold chooseR at h
  unfold chooseP
  split
  · rename_i g; rw [if_pos g] at h; rw [show Z ((0 : Int), (1 : Int)).1 = Zr false [] from Z_zero]; exact h
  · rename_i g
    rw [if_neg g] at h
    split
    · rename_i g'; rw [if_pos g'] at h; rw [show Z ((0 : Int), (0 : Int)).1 = Zr false [] from Z_zero]; exact h
    · rename_i g'; rw [if_neg g', limR_P] at h; exact h
theorem chooseP_symm {n k : Int} (h : ¬ (k < 0 ∨ n < k)) : chooseP n (n - k) = chooseP n k := by
  unfold chooseP
  split
  · rfl
  · rw [if_neg (by omega)]; try rw [if_neg h]
    rw [show n - (n - k) = k by omega, bnm_symm _ _ _ (Nat.le_refl _)]
theorem limP_err {z : Int} (h : (limP z).2 ≠ 0) : limP z = (0, 2) := by
  unfold limP at h ⊢
  split
  · rename_i g; rw [if_pos g] at h; exact absurd rfl h
  · rfl
theorem limP_val {z : Int} (h : (limP z).2 = 0) : limP z = (z, 0) ∧ lenZ z ≤ 40 := by
  unfold limP at h ⊢
  split
  · rename_i g; exact ⟨rfl, g⟩
  · rename_i g; rw [if_neg g] at h; exact absurd h (by decide)
theorem limP_of {z : Int} (h : lenZ z ≤ 40) : limP z = (z, 0) := if_pos h
/-- Pascal's rule. -/
theorem pascal {n k : Int} (h0 : 0 < n) (h1 : n ≤ 4000) (h2 : 0 ≤ k) (h3 : k ≤ n) (h : (chooseP n k).2 = 0) :
    sumP (chooseP (n - 1) (k - 1)) (chooseP (n - 1) k) = chooseP n k := by
  have e : chooseP n k = limP (bnm (n - k).toNat k.toNat : Nat) := by unfold chooseP; rw [if_neg (by omega), if_neg (by omega)]
  rw [e] at h ⊢
  obtain ⟨e1, e2⟩ := limP_val h
  rw [e1]
  have key : ∀ l r : Nat, l + r = bnm (n - k).toNat k.toNat → chooseP (n - 1) (k - 1) = limP (l : Int) → chooseP (n - 1) k = limP (r : Int) → sumP (chooseP (n - 1) (k - 1)) (chooseP (n - 1) k) = (((bnm (n - k).toNat k.toNat : Nat) : Int), 0) := by
    intro l r hlr hl hr
    have l1 : lenZ (l : Int) ≤ 40 := Nat.le_trans (lenZ_le (b := (bnm (n - k).toNat k.toNat : Nat)) (by omega)) e2
    have l2 : lenZ (r : Int) ≤ 40 := Nat.le_trans (lenZ_le (b := (bnm (n - k).toNat k.toNat : Nat)) (by omega)) e2
    rw [hl, hr, limP_of l1, limP_of l2]
    unfold sumP
    rw [if_pos ⟨rfl, rfl⟩, ← limP_of e2]
    congr 1
    show (l : Int) + r = _
    omega
  have lz : limP 0 = (0, 0) := limP_of lenZ_0
  rcases Int.lt_or_eq_of_le h2 with g | g
  · rcases Int.lt_or_eq_of_le h3 with g' | g'
    · refine key (bnm (n - k).toNat (k - 1).toNat) (bnm (n - k - 1).toNat k.toNat) ?_ ?_ ?_
      · obtain ⟨a, ha⟩ : ∃ a : Nat, n - k = a + 1 := ⟨(n - k - 1).toNat, by omega⟩
        obtain ⟨b, hb⟩ : ∃ b : Nat, k = b + 1 := ⟨(k - 1).toNat, by omega⟩
        rw [ha, hb, show ((a : Int) + 1).toNat = a + 1 by omega, show ((b : Int) + 1).toNat = b + 1 by omega, show ((b : Int) + 1 - 1).toNat = b by omega, show ((a : Int) + 1 - 1).toNat = a by omega, bnm]
        omega
      · unfold chooseP; rw [if_neg (by omega), if_neg (by omega)]; congr 3 <;> omega
      · unfold chooseP; rw [if_neg (by omega), if_neg (by omega)]; congr 3 <;> omega
    · subst g'
      refine key 1 0 ?_ ?_ ?_
      · rw [show (k - k).toNat = 0 by omega]; simp [bnm]
      · unfold chooseP; rw [if_neg (by omega), if_neg (by omega), show (k - 1 - (k - 1)).toNat = 0 by omega]; simp [bnm]
      · unfold chooseP; rw [if_neg (by omega), if_pos (by omega)]; exact lz.symm
  · subst g
    refine key 0 1 ?_ ?_ ?_
    · rw [show (0 : Int).toNat = 0 by omega, bnm_z]
    · unfold chooseP; rw [if_neg (by omega), if_pos (by omega)]; exact lz.symm
    · unfold chooseP; rw [if_neg (by omega), if_neg (by omega), show (0 : Int).toNat = 0 by omega, bnm_z]
theorem choose_pos {n k : Int} (h1 : ¬ (n < 0 ∨ 4000 < n)) (h2 : ¬ (k < 0 ∨ n < k)) (h : (chooseP n k).2 = 0) : 0 < (chooseP n k).1 := by
  unfold chooseP at h ⊢
  rw [if_neg h1, if_neg h2] at h ⊢
  rw [(limP_val h).1]
  have := bnm_pos (n - k).toNat k.toNat
  show (0 : Int) < (bnm _ _ : Nat)
  omega
theorem choose_e {n k : Int} (h1 : ¬ (n < 0 ∨ 4000 < n)) (h2 : ¬ (k < 0 ∨ n < k)) (h : (chooseP n k).2 ≠ 0) : chooseP n k = (0, 2) := by
  unfold chooseP at h ⊢
  rw [if_neg h1, if_neg h2] at h ⊢
  exact limP_err h

set_option maxHeartbeats 4000000 in
theorem NumChoices_pc (n k : Int) (h0 : -9223372036854775808 ≤ n) (h1 : n ≤ 9223372036854775807) (h2 : -9223372036854775808 ≤ k) (h3 : k ≤ 9223372036854775807) : PC Tryz.prog 4 [I n, I k] (B true) := by
  have hs := sane_ok
  have ch := Choose_P n k h0 h1 h2 h3
  have hg := gotP (chooseP n k)
  have o0 : PC Tryz.prog 27 [I 0] (Z 0) := of_pc 0 (by omega) (by omega)
  have o1 : PC Tryz.prog 27 [I 1] (Z 1) := of_pc 1 (by omega) (by omega)
  have v0 := valP 0
  have v1 := valP 1
  simp only [GP, GZ, Gr] at v0 v1
  by_cases hn : n < 0 ∨ 4000 < n
  · have e : chooseP n k = (0, 1) := by unfold chooseP; rw [if_pos hn]
    rw [e] at ch hg
    simp only [GP, GZ, Gr] at hg
    refine PCr.pc (PCr.of tab_ok Tryz.func4 rfl rfl rfl fun c hc hm => ?_)
    rw [show Tryz.f4.ntmps = _ from Tryz.ntmps4] at hc
    simp only [Tryz.f4]
    repeat' first
      | (exact absurd hlt (by decide))
      | (refine AWp.seq fun K hK => ?_)
      | ((first | refine AWp.draw (id := 7) [.take 0, .take 1, .take 2, .take 3, .take 4] mixed_ok (by kernel_rfl) (by rw [hc]; rfl) ?_ | refine AWp.draw (id := 8) [.take 0, .take 1, .take 2, .take 3, .take 4, .take 5, .take 6, .take 7, .take 8, .take 9, .take 10, .take 11, .take 12, .take 13, .take 14, .take 15, .take 16, .take 17, .take 18, .take 19, .take 20, .take 21] mixed_ok (by kernel_rfl) (by rw [hc]; rfl) ?_ | refine AWp.draw (id := 11) [.take 0, .take 1, .take 2, .take 3, .take 4] mixed_ok (by kernel_rfl) (by rw [hc]; rfl) ?_ | refine AWp.draw (id := 13) [.take 0, .take 1, .take 2, .take 3, .take 4, .take 5, .take 6, .take 7, .take 8, .take 9, .take 10] mixed_ok (by kernel_rfl) (by rw [hc]; rfl) ?_ | refine AWp.region (by rw [hc]; rfl) ?_ | refine AWp.skip ?_ | refine AWp.exit ?_ | refine AWp.label ?_ | refine AWp.ret ?_ | refine appK_g ?_); simp -implicitDefEqProofs (maxSteps := 1000000) (disch := omega) only [go_sem, wrap64, Int.tdiv_eq_ediv_of_nonneg, Int.tmod_eq_emod_of_nonneg, Nat.reduceAdd, Nat.reduceMul, Nat.reduceEqDiff, Nat.reduceLT, Nat.reduceLeDiff, Int.reduceEq, Int.reduceNeg, Int.reduceToNat, reduceCtorEq, eq_self, Bool.false_eq_true, Bool.true_eq_false, ↓reduceIte, Int.reduceBNe, Int.reduceBEq, Bool.not_true, Bool.not_false])
      | (refine hK _ ?_; clear hK)
      | (clear hK; refine hK _ ?_; clear hK)
      | (clear hK; clear hK; refine hK _ ?_; clear hK)
      | (clear hK; clear hK; clear hK; refine hK _ ?_; clear hK)
      | (refine AWp.cond ?_; simp -implicitDefEqProofs (maxSteps := 1000000) (disch := omega) only [go_sem, wrap64, Int.tdiv_eq_ediv_of_nonneg, Int.tmod_eq_emod_of_nonneg, Nat.reduceAdd, Nat.reduceMul, Nat.reduceEqDiff, Nat.reduceLT, Nat.reduceLeDiff, Int.reduceEq, Int.reduceNeg, Int.reduceToNat, reduceCtorEq, eq_self, Bool.false_eq_true, Bool.true_eq_false, ↓reduceIte, Int.reduceBNe, Int.reduceBEq, Bool.not_true, Bool.not_false]; try (refine ⟨fun hlt => ?_, fun hlt => ?_⟩ <;> (try simp only [decide_eq_true_eq, decide_eq_false_iff_not, beq_iff_eq, bne_iff_ne, ne_eq, beq_eq_false_iff_ne, bne_eq_false_iff_eq, Bool.true_eq_false, Bool.false_eq_true, Int.not_lt, Int.not_le, Decidable.not_not, gt_iff_lt, ge_iff_le, reduceCtorEq] at hlt) <;> (try exact hlt.elim)))
      | (refine AWp.block ?_)
      | ((first | refine gdO_split (fun hlt => ?_) (fun hlt => ?_) | refine tkO_split (fun hlt => ?_) (fun hlt => ?_) | refine opO_split (fun hlt => ?_) (fun hlt => ?_)) <;> have hgd := hlt <;> (try simp only [decide_eq_true_eq, decide_eq_false_iff_not, beq_iff_eq, bne_iff_ne, ne_eq, beq_eq_false_iff_ne, bne_eq_false_iff_eq, Bool.not_eq_true, Bool.not_eq_false, Bool.not_eq_eq_eq_not, Int.not_lt, Int.not_le, Decidable.not_not, gt_iff_lt, ge_iff_le] at hlt) <;> (simp -implicitDefEqProofs (maxSteps := 1000000) (disch := omega) only [go_sem, wrap64, Int.tdiv_eq_ediv_of_nonneg, Int.tmod_eq_emod_of_nonneg, Nat.reduceAdd, Nat.reduceMul, Nat.reduceEqDiff, Nat.reduceLT, Nat.reduceLeDiff, Int.reduceEq, Int.reduceNeg, Int.reduceToNat, reduceCtorEq, eq_self, Bool.false_eq_true, Bool.true_eq_false, ↓reduceIte, Int.reduceBNe, Int.reduceBEq, Bool.not_true, Bool.not_false, hgd]) <;> clear hgd)
      | (with_reducible refine And.intro ?_ ?_; · first | omega | assumption | exact ⟨_, _, rfl, rfl⟩)
      | ((first | refine ⟨_, hs, ?_⟩ | refine ⟨_, ch, ?_⟩ | refine ⟨_, hg, ?_⟩); simp -implicitDefEqProofs (maxSteps := 1000000) (disch := omega) only [go_sem, wrap64, Int.tdiv_eq_ediv_of_nonneg, Int.tmod_eq_emod_of_nonneg, Nat.reduceAdd, Nat.reduceMul, Nat.reduceEqDiff, Nat.reduceLT, Nat.reduceLeDiff, Int.reduceEq, Int.reduceNeg, Int.reduceToNat, reduceCtorEq, eq_self, Bool.false_eq_true, Bool.true_eq_false, ↓reduceIte, Int.reduceBNe, Int.reduceBEq, Bool.not_true, Bool.not_false])
      | fail
    all_goals try (exfalso; omega)
  · by_cases hk : k < 0 ∨ n < k
    · have e : chooseP n k = (0, 0) := by unfold chooseP; rw [if_neg hn, if_pos hk]
      rw [e] at ch hg
      have sm := same_P (0, 0) (0, 0) lenZ_0 lenZ_0
      rw [decide_eq_true rfl] at sm
      simp only [GP, GZ, Gr] at hg sm
      refine PCr.pc (PCr.of tab_ok Tryz.func4 rfl rfl rfl fun c hc hm => ?_)
      rw [show Tryz.f4.ntmps = _ from Tryz.ntmps4] at hc
      simp only [Tryz.f4]
      repeat' first
        | (exact absurd hlt (by decide))
        | (refine AWp.seq fun K hK => ?_)
        | ((first | refine AWp.draw (id := 7) [.take 0, .take 1, .take 2, .take 3, .take 4] mixed_ok (by kernel_rfl) (by rw [hc]; rfl) ?_ | refine AWp.draw (id := 8) [.take 0, .take 1, .take 2, .take 3, .take 4, .take 5, .take 6, .take 7, .take 8, .take 9, .take 10, .take 11, .take 12, .take 13, .take 14, .take 15, .take 16, .take 17, .take 18, .take 19, .take 20, .take 21] mixed_ok (by kernel_rfl) (by rw [hc]; rfl) ?_ | refine AWp.draw (id := 11) [.take 0, .take 1, .take 2, .take 3, .take 4] mixed_ok (by kernel_rfl) (by rw [hc]; rfl) ?_ | refine AWp.draw (id := 13) [.take 0, .take 1, .take 2, .take 3, .take 4, .take 5, .take 6, .take 7, .take 8, .take 9, .take 10] mixed_ok (by kernel_rfl) (by rw [hc]; rfl) ?_ | refine AWp.region (by rw [hc]; rfl) ?_ | refine AWp.skip ?_ | refine AWp.exit ?_ | refine AWp.label ?_ | refine AWp.ret ?_ | refine appK_g ?_); simp -implicitDefEqProofs (maxSteps := 1000000) (disch := omega) only [go_sem, wrap64, Int.tdiv_eq_ediv_of_nonneg, Int.tmod_eq_emod_of_nonneg, Nat.reduceAdd, Nat.reduceMul, Nat.reduceEqDiff, Nat.reduceLT, Nat.reduceLeDiff, Int.reduceEq, Int.reduceNeg, Int.reduceToNat, reduceCtorEq, eq_self, Bool.false_eq_true, Bool.true_eq_false, ↓reduceIte, Int.reduceBNe, Int.reduceBEq, Bool.not_true, Bool.not_false])
        | (refine hK _ ?_; clear hK)
        | (clear hK; refine hK _ ?_; clear hK)
        | (clear hK; clear hK; refine hK _ ?_; clear hK)
        | (clear hK; clear hK; clear hK; refine hK _ ?_; clear hK)
        | (refine AWp.cond ?_; simp -implicitDefEqProofs (maxSteps := 1000000) (disch := omega) only [go_sem, wrap64, Int.tdiv_eq_ediv_of_nonneg, Int.tmod_eq_emod_of_nonneg, Nat.reduceAdd, Nat.reduceMul, Nat.reduceEqDiff, Nat.reduceLT, Nat.reduceLeDiff, Int.reduceEq, Int.reduceNeg, Int.reduceToNat, reduceCtorEq, eq_self, Bool.false_eq_true, Bool.true_eq_false, ↓reduceIte, Int.reduceBNe, Int.reduceBEq, Bool.not_true, Bool.not_false]; try (refine ⟨fun hlt => ?_, fun hlt => ?_⟩ <;> (try simp only [decide_eq_true_eq, decide_eq_false_iff_not, beq_iff_eq, bne_iff_ne, ne_eq, beq_eq_false_iff_ne, bne_eq_false_iff_eq, Bool.true_eq_false, Bool.false_eq_true, Int.not_lt, Int.not_le, Decidable.not_not, gt_iff_lt, ge_iff_le, reduceCtorEq] at hlt) <;> (try exact hlt.elim)))
        | (refine AWp.block ?_)
        | ((first | refine gdO_split (fun hlt => ?_) (fun hlt => ?_) | refine tkO_split (fun hlt => ?_) (fun hlt => ?_) | refine opO_split (fun hlt => ?_) (fun hlt => ?_)) <;> have hgd := hlt <;> (try simp only [decide_eq_true_eq, decide_eq_false_iff_not, beq_iff_eq, bne_iff_ne, ne_eq, beq_eq_false_iff_ne, bne_eq_false_iff_eq, Bool.not_eq_true, Bool.not_eq_false, Bool.not_eq_eq_eq_not, Int.not_lt, Int.not_le, Decidable.not_not, gt_iff_lt, ge_iff_le] at hlt) <;> (simp -implicitDefEqProofs (maxSteps := 1000000) (disch := omega) only [go_sem, wrap64, Int.tdiv_eq_ediv_of_nonneg, Int.tmod_eq_emod_of_nonneg, Nat.reduceAdd, Nat.reduceMul, Nat.reduceEqDiff, Nat.reduceLT, Nat.reduceLeDiff, Int.reduceEq, Int.reduceNeg, Int.reduceToNat, reduceCtorEq, eq_self, Bool.false_eq_true, Bool.true_eq_false, ↓reduceIte, Int.reduceBNe, Int.reduceBEq, Bool.not_true, Bool.not_false, hgd]) <;> clear hgd)
        | (with_reducible refine And.intro ?_ ?_; · first | omega | assumption | exact ⟨_, _, rfl, rfl⟩)
        | ((first | refine ⟨_, hs, ?_⟩ | refine ⟨_, ch, ?_⟩ | refine ⟨_, hg, ?_⟩ | refine ⟨_, o0, ?_⟩ | refine ⟨_, v0, ?_⟩ | refine ⟨_, sm, ?_⟩); simp -implicitDefEqProofs (maxSteps := 1000000) (disch := omega) only [go_sem, wrap64, Int.tdiv_eq_ediv_of_nonneg, Int.tmod_eq_emod_of_nonneg, Nat.reduceAdd, Nat.reduceMul, Nat.reduceEqDiff, Nat.reduceLT, Nat.reduceLeDiff, Int.reduceEq, Int.reduceNeg, Int.reduceToNat, reduceCtorEq, eq_self, Bool.false_eq_true, Bool.true_eq_false, ↓reduceIte, Int.reduceBNe, Int.reduceBEq, Bool.not_true, Bool.not_false])
        | fail
      all_goals try (exfalso; omega)
    · have hy := Choose_P n (n - k) h0 h1 (by omega) (by omega)
      rw [chooseP_symm hk] at hy
      have sm := same_P (chooseP n k) (chooseP n k) (chooseP_ok _ _) (chooseP_ok _ _)
      rw [decide_eq_true rfl] at sm
      have cl := Choose_P (n - 1) (k - 1) (by omega) (by omega) (by omega) (by omega)
      have gl := gotP (chooseP (n - 1) (k - 1))
      have cr := Choose_P (n - 1) k (by omega) (by omega) (by omega) (by omega)
      have gr := gotP (chooseP (n - 1) k)
      have su := sum_P (chooseP (n - 1) (k - 1)) (chooseP (n - 1) k) (chooseP_ok _ _) (chooseP_ok _ _)
      by_cases he : (chooseP n k).2 = 0
      · have hp := choose_pos hn hk he
        have ps := fun g => pascal (n := n) (k := k) g (by omega) (by omega) (by omega) he
        have h00 : n = 0 → (chooseP n k).1 = 1 := fun g => by
          rw [show k = 0 by omega, g]
          unfold chooseP
          rw [if_neg (by decide), if_neg (by decide), show bnm (Int.toNat (0 - 0)) (Int.toNat 0) = 1 from bnm_z _, limP_of (Nat.le_trans (lenZ_small (by decide)) (by decide))]; rfl
        have hv : chooseP n k = ((chooseP n k).1, 0) := Prod.ext rfl he
        generalize (chooseP n k).1 = v at *
        rw [hv] at ch hy hg sm ps
        have sg := Sign_Z v
        rw [show sgI v = 1 by unfold sgI; rw [if_neg (by omega), if_neg (by omega)]] at sg
        by_cases hz : n = 0
        · have e1 := h00 hz
          subst e1
          simp only [GP, GZ, Gr] at hg sm
          refine PCr.pc (PCr.of tab_ok Tryz.func4 rfl rfl rfl fun c hc hm => ?_)
          rw [show Tryz.f4.ntmps = _ from Tryz.ntmps4] at hc
          simp only [Tryz.f4]
          repeat' first
            | (exact absurd hlt (by decide))
            | (refine AWp.seq fun K hK => ?_)
            | ((first | refine AWp.draw (id := 7) [.take 0, .take 1, .take 2, .take 3, .take 4] mixed_ok (by kernel_rfl) (by rw [hc]; rfl) ?_ | refine AWp.draw (id := 8) [.take 0, .take 1, .take 2, .take 3, .take 4, .take 5, .take 6, .take 7, .take 8, .take 9, .take 10, .take 11, .take 12, .take 13, .take 14, .take 15, .take 16, .take 17, .take 18, .take 19, .take 20, .take 21] mixed_ok (by kernel_rfl) (by rw [hc]; rfl) ?_ | refine AWp.draw (id := 11) [.take 0, .take 1, .take 2, .take 3, .take 4] mixed_ok (by kernel_rfl) (by rw [hc]; rfl) ?_ | refine AWp.draw (id := 13) [.take 0, .take 1, .take 2, .take 3, .take 4, .take 5, .take 6, .take 7, .take 8, .take 9, .take 10] mixed_ok (by kernel_rfl) (by rw [hc]; rfl) ?_ | refine AWp.region (by rw [hc]; rfl) ?_ | refine AWp.skip ?_ | refine AWp.exit ?_ | refine AWp.label ?_ | refine AWp.ret ?_ | refine appK_g ?_); simp -implicitDefEqProofs (maxSteps := 1000000) (disch := omega) only [go_sem, wrap64, Int.tdiv_eq_ediv_of_nonneg, Int.tmod_eq_emod_of_nonneg, Nat.reduceAdd, Nat.reduceMul, Nat.reduceEqDiff, Nat.reduceLT, Nat.reduceLeDiff, Int.reduceEq, Int.reduceNeg, Int.reduceToNat, reduceCtorEq, eq_self, Bool.false_eq_true, Bool.true_eq_false, ↓reduceIte, Int.reduceBNe, Int.reduceBEq, Bool.not_true, Bool.not_false])
            | (refine hK _ ?_; clear hK)
            | (clear hK; refine hK _ ?_; clear hK)
            | (clear hK; clear hK; refine hK _ ?_; clear hK)
            | (clear hK; clear hK; clear hK; refine hK _ ?_; clear hK)
            | (refine AWp.cond ?_; simp -implicitDefEqProofs (maxSteps := 1000000) (disch := omega) only [go_sem, wrap64, Int.tdiv_eq_ediv_of_nonneg, Int.tmod_eq_emod_of_nonneg, Nat.reduceAdd, Nat.reduceMul, Nat.reduceEqDiff, Nat.reduceLT, Nat.reduceLeDiff, Int.reduceEq, Int.reduceNeg, Int.reduceToNat, reduceCtorEq, eq_self, Bool.false_eq_true, Bool.true_eq_false, ↓reduceIte, Int.reduceBNe, Int.reduceBEq, Bool.not_true, Bool.not_false]; try (refine ⟨fun hlt => ?_, fun hlt => ?_⟩ <;> (try simp only [decide_eq_true_eq, decide_eq_false_iff_not, beq_iff_eq, bne_iff_ne, ne_eq, beq_eq_false_iff_ne, bne_eq_false_iff_eq, Bool.true_eq_false, Bool.false_eq_true, Int.not_lt, Int.not_le, Decidable.not_not, gt_iff_lt, ge_iff_le, reduceCtorEq] at hlt) <;> (try exact hlt.elim)))
            | (refine AWp.block ?_)
            | ((first | refine gdO_split (fun hlt => ?_) (fun hlt => ?_) | refine tkO_split (fun hlt => ?_) (fun hlt => ?_) | refine opO_split (fun hlt => ?_) (fun hlt => ?_)) <;> have hgd := hlt <;> (try simp only [decide_eq_true_eq, decide_eq_false_iff_not, beq_iff_eq, bne_iff_ne, ne_eq, beq_eq_false_iff_ne, bne_eq_false_iff_eq, Bool.not_eq_true, Bool.not_eq_false, Bool.not_eq_eq_eq_not, Int.not_lt, Int.not_le, Decidable.not_not, gt_iff_lt, ge_iff_le] at hlt) <;> (simp -implicitDefEqProofs (maxSteps := 1000000) (disch := omega) only [go_sem, wrap64, Int.tdiv_eq_ediv_of_nonneg, Int.tmod_eq_emod_of_nonneg, Nat.reduceAdd, Nat.reduceMul, Nat.reduceEqDiff, Nat.reduceLT, Nat.reduceLeDiff, Int.reduceEq, Int.reduceNeg, Int.reduceToNat, reduceCtorEq, eq_self, Bool.false_eq_true, Bool.true_eq_false, ↓reduceIte, Int.reduceBNe, Int.reduceBEq, Bool.not_true, Bool.not_false, hgd]) <;> clear hgd)
            | (with_reducible refine And.intro ?_ ?_; · first | omega | assumption | exact ⟨_, _, rfl, rfl⟩)
            | ((first | refine ⟨_, hs, ?_⟩ | refine ⟨_, ch, ?_⟩ | refine ⟨_, hy, ?_⟩ | refine ⟨_, hg, ?_⟩ | refine ⟨_, sm, ?_⟩ | refine ⟨_, sg, ?_⟩ | refine ⟨_, o1, ?_⟩ | refine ⟨_, v1, ?_⟩); simp -implicitDefEqProofs (maxSteps := 1000000) (disch := omega) only [go_sem, wrap64, Int.tdiv_eq_ediv_of_nonneg, Int.tmod_eq_emod_of_nonneg, Nat.reduceAdd, Nat.reduceMul, Nat.reduceEqDiff, Nat.reduceLT, Nat.reduceLeDiff, Int.reduceEq, Int.reduceNeg, Int.reduceToNat, reduceCtorEq, eq_self, Bool.false_eq_true, Bool.true_eq_false, ↓reduceIte, Int.reduceBNe, Int.reduceBEq, Bool.not_true, Bool.not_false])
            | fail
          all_goals try (exfalso; omega)
        · rw [ps (by omega)] at su
          generalize chooseP (n - 1) (k - 1) = l at *
          generalize chooseP (n - 1) k = r at *
          simp only [GP, GZ, Gr] at hg sm gl gr su
          refine PCr.pc (PCr.of tab_ok Tryz.func4 rfl rfl rfl fun c hc hm => ?_)
          rw [show Tryz.f4.ntmps = _ from Tryz.ntmps4] at hc
          simp only [Tryz.f4]
          repeat' first
            | (exact absurd hlt (by decide))
            | (refine AWp.seq fun K hK => ?_)
            | ((first | refine AWp.draw (id := 7) [.take 0, .take 1, .take 2, .take 3, .take 4] mixed_ok (by kernel_rfl) (by rw [hc]; rfl) ?_ | refine AWp.draw (id := 8) [.take 0, .take 1, .take 2, .take 3, .take 4, .take 5, .take 6, .take 7, .take 8, .take 9, .take 10, .take 11, .take 12, .take 13, .take 14, .take 15, .take 16, .take 17, .take 18, .take 19, .take 20, .take 21] mixed_ok (by kernel_rfl) (by rw [hc]; rfl) ?_ | refine AWp.draw (id := 11) [.take 0, .take 1, .take 2, .take 3, .take 4] mixed_ok (by kernel_rfl) (by rw [hc]; rfl) ?_ | refine AWp.draw (id := 13) [.take 0, .take 1, .take 2, .take 3, .take 4, .take 5, .take 6, .take 7, .take 8, .take 9, .take 10] mixed_ok (by kernel_rfl) (by rw [hc]; rfl) ?_ | refine AWp.region (by rw [hc]; rfl) ?_ | refine AWp.skip ?_ | refine AWp.exit ?_ | refine AWp.label ?_ | refine AWp.ret ?_ | refine appK_g ?_); simp -implicitDefEqProofs (maxSteps := 1000000) (disch := omega) only [go_sem, wrap64, Int.tdiv_eq_ediv_of_nonneg, Int.tmod_eq_emod_of_nonneg, Nat.reduceAdd, Nat.reduceMul, Nat.reduceEqDiff, Nat.reduceLT, Nat.reduceLeDiff, Int.reduceEq, Int.reduceNeg, Int.reduceToNat, reduceCtorEq, eq_self, Bool.false_eq_true, Bool.true_eq_false, ↓reduceIte, Int.reduceBNe, Int.reduceBEq, Bool.not_true, Bool.not_false])
            | (refine hK _ ?_; clear hK)
            | (clear hK; refine hK _ ?_; clear hK)
            | (clear hK; clear hK; refine hK _ ?_; clear hK)
            | (clear hK; clear hK; clear hK; refine hK _ ?_; clear hK)
            | (refine AWp.cond ?_; simp -implicitDefEqProofs (maxSteps := 1000000) (disch := omega) only [go_sem, wrap64, Int.tdiv_eq_ediv_of_nonneg, Int.tmod_eq_emod_of_nonneg, Nat.reduceAdd, Nat.reduceMul, Nat.reduceEqDiff, Nat.reduceLT, Nat.reduceLeDiff, Int.reduceEq, Int.reduceNeg, Int.reduceToNat, reduceCtorEq, eq_self, Bool.false_eq_true, Bool.true_eq_false, ↓reduceIte, Int.reduceBNe, Int.reduceBEq, Bool.not_true, Bool.not_false]; try (refine ⟨fun hlt => ?_, fun hlt => ?_⟩ <;> (try simp only [decide_eq_true_eq, decide_eq_false_iff_not, beq_iff_eq, bne_iff_ne, ne_eq, beq_eq_false_iff_ne, bne_eq_false_iff_eq, Bool.true_eq_false, Bool.false_eq_true, Int.not_lt, Int.not_le, Decidable.not_not, gt_iff_lt, ge_iff_le, reduceCtorEq] at hlt) <;> (try exact hlt.elim)))
            | (refine AWp.block ?_)
            | ((first | refine gdO_split (fun hlt => ?_) (fun hlt => ?_) | refine tkO_split (fun hlt => ?_) (fun hlt => ?_) | refine opO_split (fun hlt => ?_) (fun hlt => ?_)) <;> have hgd := hlt <;> (try simp only [decide_eq_true_eq, decide_eq_false_iff_not, beq_iff_eq, bne_iff_ne, ne_eq, beq_eq_false_iff_ne, bne_eq_false_iff_eq, Bool.not_eq_true, Bool.not_eq_false, Bool.not_eq_eq_eq_not, Int.not_lt, Int.not_le, Decidable.not_not, gt_iff_lt, ge_iff_le] at hlt) <;> (simp -implicitDefEqProofs (maxSteps := 1000000) (disch := omega) only [go_sem, wrap64, Int.tdiv_eq_ediv_of_nonneg, Int.tmod_eq_emod_of_nonneg, Nat.reduceAdd, Nat.reduceMul, Nat.reduceEqDiff, Nat.reduceLT, Nat.reduceLeDiff, Int.reduceEq, Int.reduceNeg, Int.reduceToNat, reduceCtorEq, eq_self, Bool.false_eq_true, Bool.true_eq_false, ↓reduceIte, Int.reduceBNe, Int.reduceBEq, Bool.not_true, Bool.not_false, hgd]) <;> clear hgd)
            | (with_reducible refine And.intro ?_ ?_; · first | omega | assumption | exact ⟨_, _, rfl, rfl⟩)
            | ((first | refine ⟨_, hs, ?_⟩ | refine ⟨_, ch, ?_⟩ | refine ⟨_, hy, ?_⟩ | refine ⟨_, hg, ?_⟩ | refine ⟨_, sm, ?_⟩ | refine ⟨_, sg, ?_⟩ | refine ⟨_, cl, ?_⟩ | refine ⟨_, gl, ?_⟩ | refine ⟨_, cr, ?_⟩ | refine ⟨_, gr, ?_⟩ | refine ⟨_, su, ?_⟩); simp -implicitDefEqProofs (maxSteps := 1000000) (disch := omega) only [go_sem, wrap64, Int.tdiv_eq_ediv_of_nonneg, Int.tmod_eq_emod_of_nonneg, Nat.reduceAdd, Nat.reduceMul, Nat.reduceEqDiff, Nat.reduceLT, Nat.reduceLeDiff, Int.reduceEq, Int.reduceNeg, Int.reduceToNat, reduceCtorEq, eq_self, Bool.false_eq_true, Bool.true_eq_false, ↓reduceIte, Int.reduceBNe, Int.reduceBEq, Bool.not_true, Bool.not_false])
            | fail
          all_goals try (exfalso; omega)
      · have hv := choose_e hn hk he
        have hz : n ≠ 0 := fun g => by
          apply he
          rw [show k = 0 by omega, g]
          unfold chooseP
          rw [if_neg (by decide), if_neg (by decide), show bnm (Int.toNat (0 - 0)) (Int.toNat 0) = 1 from bnm_z _, limP_of (Nat.le_trans (lenZ_small (by decide)) (by decide))]
        rw [hv] at ch hy hg sm
        generalize chooseP (n - 1) (k - 1) = l at *
        generalize chooseP (n - 1) k = r at *
        simp only [GP, GZ, Gr] at hg sm gl gr su
        refine PCr.pc (PCr.of tab_ok Tryz.func4 rfl rfl rfl fun c hc hm => ?_)
        rw [show Tryz.f4.ntmps = _ from Tryz.ntmps4] at hc
        simp only [Tryz.f4]
        repeat' first
          | (exact absurd hlt (by decide))
          | (refine AWp.seq fun K hK => ?_)
          | ((first | refine AWp.draw (id := 7) [.take 0, .take 1, .take 2, .take 3, .take 4] mixed_ok (by kernel_rfl) (by rw [hc]; rfl) ?_ | refine AWp.draw (id := 8) [.take 0, .take 1, .take 2, .take 3, .take 4, .take 5, .take 6, .take 7, .take 8, .take 9, .take 10, .take 11, .take 12, .take 13, .take 14, .take 15, .take 16, .take 17, .take 18, .take 19, .take 20, .take 21] mixed_ok (by kernel_rfl) (by rw [hc]; rfl) ?_ | refine AWp.draw (id := 11) [.take 0, .take 1, .take 2, .take 3, .take 4] mixed_ok (by kernel_rfl) (by rw [hc]; rfl) ?_ | refine AWp.draw (id := 13) [.take 0, .take 1, .take 2, .take 3, .take 4, .take 5, .take 6, .take 7, .take 8, .take 9, .take 10] mixed_ok (by kernel_rfl) (by rw [hc]; rfl) ?_ | refine AWp.region (by rw [hc]; rfl) ?_ | refine AWp.skip ?_ | refine AWp.exit ?_ | refine AWp.label ?_ | refine AWp.ret ?_ | refine appK_g ?_); simp -implicitDefEqProofs (maxSteps := 1000000) (disch := omega) only [go_sem, wrap64, Int.tdiv_eq_ediv_of_nonneg, Int.tmod_eq_emod_of_nonneg, Nat.reduceAdd, Nat.reduceMul, Nat.reduceEqDiff, Nat.reduceLT, Nat.reduceLeDiff, Int.reduceEq, Int.reduceNeg, Int.reduceToNat, reduceCtorEq, eq_self, Bool.false_eq_true, Bool.true_eq_false, ↓reduceIte, Int.reduceBNe, Int.reduceBEq, Bool.not_true, Bool.not_false])
          | (refine hK _ ?_; clear hK)
          | (clear hK; refine hK _ ?_; clear hK)
          | (clear hK; clear hK; refine hK _ ?_; clear hK)
          | (clear hK; clear hK; clear hK; refine hK _ ?_; clear hK)
          | (refine AWp.cond ?_; simp -implicitDefEqProofs (maxSteps := 1000000) (disch := omega) only [go_sem, wrap64, Int.tdiv_eq_ediv_of_nonneg, Int.tmod_eq_emod_of_nonneg, Nat.reduceAdd, Nat.reduceMul, Nat.reduceEqDiff, Nat.reduceLT, Nat.reduceLeDiff, Int.reduceEq, Int.reduceNeg, Int.reduceToNat, reduceCtorEq, eq_self, Bool.false_eq_true, Bool.true_eq_false, ↓reduceIte, Int.reduceBNe, Int.reduceBEq, Bool.not_true, Bool.not_false]; try (refine ⟨fun hlt => ?_, fun hlt => ?_⟩ <;> (try simp only [decide_eq_true_eq, decide_eq_false_iff_not, beq_iff_eq, bne_iff_ne, ne_eq, beq_eq_false_iff_ne, bne_eq_false_iff_eq, Bool.true_eq_false, Bool.false_eq_true, Int.not_lt, Int.not_le, Decidable.not_not, gt_iff_lt, ge_iff_le, reduceCtorEq] at hlt) <;> (try exact hlt.elim)))
          | (refine AWp.block ?_)
          | ((first | refine gdO_split (fun hlt => ?_) (fun hlt => ?_) | refine tkO_split (fun hlt => ?_) (fun hlt => ?_) | refine opO_split (fun hlt => ?_) (fun hlt => ?_)) <;> have hgd := hlt <;> (try simp only [decide_eq_true_eq, decide_eq_false_iff_not, beq_iff_eq, bne_iff_ne, ne_eq, beq_eq_false_iff_ne, bne_eq_false_iff_eq, Bool.not_eq_true, Bool.not_eq_false, Bool.not_eq_eq_eq_not, Int.not_lt, Int.not_le, Decidable.not_not, gt_iff_lt, ge_iff_le] at hlt) <;> (simp -implicitDefEqProofs (maxSteps := 1000000) (disch := omega) only [go_sem, wrap64, Int.tdiv_eq_ediv_of_nonneg, Int.tmod_eq_emod_of_nonneg, Nat.reduceAdd, Nat.reduceMul, Nat.reduceEqDiff, Nat.reduceLT, Nat.reduceLeDiff, Int.reduceEq, Int.reduceNeg, Int.reduceToNat, reduceCtorEq, eq_self, Bool.false_eq_true, Bool.true_eq_false, ↓reduceIte, Int.reduceBNe, Int.reduceBEq, Bool.not_true, Bool.not_false, hgd]) <;> clear hgd)
          | (with_reducible refine And.intro ?_ ?_; · first | omega | assumption | exact ⟨_, _, rfl, rfl⟩)
          | ((first | refine ⟨_, hs, ?_⟩ | refine ⟨_, ch, ?_⟩ | refine ⟨_, hy, ?_⟩ | refine ⟨_, hg, ?_⟩ | refine ⟨_, sm, ?_⟩ | refine ⟨_, cl, ?_⟩ | refine ⟨_, gl, ?_⟩ | refine ⟨_, cr, ?_⟩ | refine ⟨_, gr, ?_⟩); simp -implicitDefEqProofs (maxSteps := 1000000) (disch := omega) only [go_sem, wrap64, Int.tdiv_eq_ediv_of_nonneg, Int.tmod_eq_emod_of_nonneg, Nat.reduceAdd, Nat.reduceMul, Nat.reduceEqDiff, Nat.reduceLT, Nat.reduceLeDiff, Int.reduceEq, Int.reduceNeg, Int.reduceToNat, reduceCtorEq, eq_self, Bool.false_eq_true, Bool.true_eq_false, ↓reduceIte, Int.reduceBNe, Int.reduceBEq, Bool.not_true, Bool.not_false])
          | fail
        all_goals try (exfalso; omega)
end Go.Proofs.YthhjcfejgoddlaaGreatDoor
end

section
/- NumChoices: the row proved, the card closed. -/
namespace Go.Proofs.YthhjcfejgoddlaaGreatDoor
open Go Go.Abs Go.ChangeShapes Go.WideShapes Go.RowKit
set_option maxRecDepth 100000

theorem numChoices_lifted (os : Os) (started : os.Started) (H : Type) (enc : TypeId × Value → H) :
    ReturnsInHanded {} Tryz.checked os 4 .any (fun w args => (Rows.numChoicesSpec.pre enc Tryz.prog Tryz.f4 [] false w args ∧ laidMetH Tryz.prog laidAll w) ∧ sizedMet enc Tryz.prog Tryz.f4 (OpenSpec.ofChange Rows.numChoicesSpec) false w args)
      (Rows.numChoicesSpec.post enc Tryz.prog Tryz.f4 false true false false) := by
  refine law_words os started H enc rfl (by kernel_rfl) Tryz.func4 (by kernel_rfl) (by kernel_rfl) (fun ds hl => ?_) (fun W args ds p hval hA => ?_) #[.int .i64 0, .int .i64 0] (by kernel_rfl) (by kernel_rfl) (by kernel_rfl) (door_shaped os _) (door_met os _)
  · rw [Tryz.params4] at hl
    match ds, hl with
    | [d1, d2], _ => rfl
  · rw [Tryz.params4] at hA hval ⊢
    obtain ⟨v0, v1, d0, d1, p0, p1, hargs, rfl, rfl, h0, h1⟩ := trodAll_two (args := args.toArray) hA
    obtain rfl : args = [v0, v1] := by simpa using congrArg Array.toList hargs
    obtain ⟨n, rfl, rfl, rfl, hn⟩ := open_int Tryz.underlying3 (hval 0 3 v0 rfl rfl) h0
    obtain ⟨k, rfl, rfl, rfl, hk⟩ := open_int Tryz.underlying3 (hval 1 3 v1 rfl rfl) h1
    refine ⟨rfl, [.dat (.int .i64 n), .dat (.int .i64 k)], ?_, rfl, ?_⟩
    · exact NumChoices_pc n k (wf_lo hn) (wf_hi hn) (wf_lo hk) (wf_hi hk)
    · intro j x hj
      rcases j with _ | _ | j
      · obtain rfl := Option.some.inj hj; exact .dat _ _ (.int _ _)
      · obtain rfl := Option.some.inj hj; exact .dat _ _ (.int _ _)
      · simp at hj
theorem numChoices_holds : Rows.NumChoicesSaid :=
  OpenClaim.holds_of_wide 4 Tryz.f4 rfl rfl rfl rfl rfl rfl rfl ⟨rfl, rfl, rfl, rfl, rfl⟩ rfl rfl rfl rfl rfl (by kernel_rfl) Tryz.func4 (by kernel_rfl)
    (of_decide_eq_true (by kernel_rfl)) (by unfold Func.isWrapper; rw [if_neg (of_decide_eq_false (by kernel_rfl))]; exact ⟨rfl, rfl⟩)
    (fun os started H enc _ => numChoices_lifted os started H enc)
theorem numChoices_card : Rows.NumChoicesCardSaid :=
  Claim7.holds_tied_plain_at .later [] [.data, .data, .data, .sentinel, .sentinel] true (true, "71052e42115e9a5c8fe1e7044380f4a842a6957b7952595d1464e543b10f7a3d") true
    numChoices_holds (fun _ h => by cases h) (by kernel_rfl) (fun _ h => by cases h) numChoices_row_tie rfl ⟨rfl, rfl⟩ (by kernel_rfl) rfl
    (fun f fn hf hfn => by
      obtain rfl : f = 4 := Option.some.inj ((show Tryz.prog.funcNamed "foregone/foregonelaw01.NumChoices" = some 4 by kernel_rfl).symm.trans hf) |>.symm
      obtain rfl : fn = Tryz.f4 := (Option.some.inj (Tryz.func4.symm.trans hfn)).symm
      exact ⟨by kernel_rfl, fun j t ht => by
        rw [Tryz.params4] at ht
        have h3 : t = 3 := by
          rcases j with _ | _ | j
          · simpa using ht.symm
          · simpa using ht.symm
          · simp at ht
        subst h3
        exact (show Tryz.prog.wantsStandIn 3 = false by kernel_rfl)⟩)
    (by kernel_rfl)
end Go.Proofs.YthhjcfejgoddlaaGreatDoor
end
