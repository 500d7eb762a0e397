/- The contract of the law's function. -/
import Derived.Test.YthhjcfejgoddlaaGreatDoorKb
import Derived.Test.YthhjcfejgoddlaaGreatDoorJb
import Derived.Test.YthhjcfejgoddlaaGreatDoorJc
section
set_option maxRecDepth 100000
namespace Go.Abs
open Go
/-! Short names for lists of simp lemmas (what a branch's hypothesis says). -/
theorem cla : (∀ (p : Prop) [Decidable p], (decide p = true) = p) ∧ (∀ (p : Prop) [Decidable p], (decide p = false) = ¬p) ∧ (∀ (x y : Int), (¬ x < y) = (y ≤ x)) ∧ (∀ (x y : Int), (¬ x ≤ y) = (y < x)) ∧ (∀ p : Prop, (¬¬p) = p) ∧ (∀ (x y : Int), (x > y) = (y < x)) ∧ (∀ (x y : Int), (x ≥ y) = (y ≤ x)) ∧ (∀ (x y : Nat), (x > y) = (y < x)) ∧ (∀ (x y : Nat), (x ≥ y) = (y ≤ x)) := by
  refine ⟨?_, ?_, ?_, ?_, ?_, ?_, ?_, ?_, ?_⟩ <;> intros <;> simp
theorem clb.{u} : (∀ (α : Type u) [BEq α] [LawfulBEq α] (a b : α), ((a == b) = true) = (a = b)) ∧ (∀ (α : Type u) [BEq α] [LawfulBEq α] (a b : α), ((a == b) = false) = ¬(a = b)) ∧ (∀ (α : Type u) [BEq α] [LawfulBEq α] (a b : α), ((a != b) = true) = ¬(a = b)) ∧ (∀ (α : Type u) [BEq α] [LawfulBEq α] (a b : α), ((a != b) = false) = (a = b)) := by
  refine ⟨?_, ?_, ?_, ?_⟩ <;> intros <;> simp
theorem cld : (∀ (a b : Bool), ((!a) = b) = (a = !b)) ∧ (∀ (b : Bool), (¬ b = true) = (b = false)) ∧ (∀ (b : Bool), (¬ b = false) = (b = true)) := by
  refine ⟨?_, ?_, ?_⟩ <;> intros <;> simp
end Go.Abs
end

section
set_option linter.unusedSimpArgs false
set_option linter.unusedVariables false
set_option maxRecDepth 100000
namespace Go.Proofs.YthhjcfejgoddlaaGreatDoor
open Go Go.Abs

/-- Results as pairs: the integer and the error. -/
def limP (z : Int) : Int × Int := if lenZ z ≤ 40 then (z, 0) else (0, 2)
def GP (p : Int × Int) : AV := GZ p.1 p.2
def okP (p : Int × Int) : Prop := lenZ p.1 ≤ 40
theorem lenZ_0 : lenZ 0 ≤ 40 := by unfold lenZ; rw [Int.natAbs_zero, D_zero]; exact Nat.zero_le _
theorem limR_P (z : Int) : limR z = .tup [Z (limP z).1, I (limP z).2] := by
  unfold limR limP
  split
  · rfl
  · show _ = AV.tup [Z 0, I 2]
    rw [Z_zero]
theorem limP_ok (z : Int) : okP (limP z) := by
  unfold limP okP
  split
  · assumption
  · exact lenZ_0
theorem gotP (p : Int × Int) : PC Tryz.prog 24 [Z p.1, I p.2] (GP p) := got_pc _ _ _
theorem got_lim (z : Int) : PC Tryz.prog 24 [Z (limP z).1, I (limP z).2] (GP (limP z)) := gotP _
theorem valP (x : Int) : PC Tryz.prog 21 [Z x] (GP (x, 0)) := val_pc _ _
def sumP (p q : Int × Int) : Int × Int := if p.2 = 0 ∧ q.2 = 0 then limP (p.1 + q.1) else (0, 2)
def timesP (p q : Int × Int) : Int × Int := if p.2 = 0 ∧ q.2 = 0 then limP (p.1 * q.1) else (0, 2)
theorem sumP_ok (p q : Int × Int) : okP (sumP p q) := by unfold sumP; split; exact limP_ok _; exact lenZ_0
theorem timesP_ok (p q : Int × Int) : okP (timesP p q) := by unfold timesP; split; exact limP_ok _; exact lenZ_0
theorem GP_02 : GP (0, 2) = .agg [B false, L [], I 2] := by
  show Gr (decide ((0 : Int) < 0)) (D (Int.natAbs 0)) 2 = _
  rw [Int.natAbs_zero, D_zero]; rfl
theorem PC.weak {f : FuncId} {args : List AV} {r r' : AV} (h : PC Tryz.prog f args r) (k : ∀ A w v, RV φ0 0 A w r v → RV φ0 0 A w r' v) : PC Tryz.prog f args r' :=
  ⟨h.1, fun w A vs hg hl hv => (h.2 w A vs hg hl hv).mono fun e w' ⟨v, he, hb, hrv⟩ => ⟨v, he, hb, k _ _ _ hrv⟩⟩
theorem RV_nilL {A : Nat → Nat → Prop} {w : World} {x y : AV} {v : Value} (h : RV φ0 0 A w (.agg [x, .nil, y]) v) : RV φ0 0 A w (.agg [x, L [], y]) v := by
  cases h with
  | agg _ vs hl h h1 =>
    refine .agg _ vs hl (fun j z hz => ?_) h1
    rcases j with _ | _ | _ | j
    · exact h 0 _ hz
    · have h2 := h 1 _ rfl
      obtain rfl := Option.some.inj hz
      cases hv : vs.getD 1 undef
      all_goals rw [hv] at h2; cases h2
      exact .dat _ _ (.emp _ _)
    · exact h 2 _ hz
    · simp at hz
theorem sum_P (p q : Int × Int) (hp : okP p) (hq : okP q) : PC Tryz.prog 28 [GP p, GP q] (GP (sumP p q)) := by
  obtain ⟨x, e⟩ := p
  obtain ⟨y, f⟩ := q
  have h := Add_ok x y hp hq
  rw [limR_P] at h
  have g := got_lim (x + y)
  unfold sumP
  by_cases h1 : e = 0 <;> by_cases h2 : f = 0
  · subst h1; subst h2
    rw [if_pos ⟨rfl, rfl⟩]
    simp only [GP, GZ, Gr] at g ⊢
    refine PCr.pc (PCr.of tab_ok Tryz.func28 rfl rfl rfl fun c hc hm => ?_)
    rw [show Tryz.f28.ntmps = _ from Tryz.ntmps28] at hc
    simp only [Tryz.f28]
    repeat' first
      | (refine AWp.seq fun K hK => ?_)
      | ((first | refine AWp.region (by rw [hc]; rfl) ?_ | refine AWp.skip ?_ | refine AWp.exit ?_ | refine AWp.label ?_ | refine AWp.ret ?_ | refine appK_g ?_); simp -implicitDefEqProofs (maxSteps := 1000000) (disch := omega) only [go_sem, wrap64, Int.tdiv_eq_ediv_of_nonneg, Int.tmod_eq_emod_of_nonneg, Nat.reduceAdd, Nat.reduceMul, Nat.reduceEqDiff, Nat.reduceLT, Nat.reduceLeDiff, Int.reduceEq, Int.reduceNeg, Int.reduceToNat, reduceCtorEq, eq_self, Bool.false_eq_true, Bool.true_eq_false, ↓reduceIte, Int.reduceBNe])
      | (refine hK _ ?_; clear hK)
      | (clear hK; refine hK _ ?_; clear hK)
      | (clear hK; clear hK; refine hK _ ?_; clear hK)
      | (clear hK; clear hK; clear hK; refine hK _ ?_; clear hK)
      | (refine AWp.cond ?_; simp -implicitDefEqProofs (maxSteps := 1000000) (disch := omega) only [go_sem, wrap64, Int.tdiv_eq_ediv_of_nonneg, Int.tmod_eq_emod_of_nonneg, Nat.reduceAdd, Nat.reduceMul, Nat.reduceEqDiff, Nat.reduceLT, Nat.reduceLeDiff, Int.reduceEq, Int.reduceNeg, Int.reduceToNat, reduceCtorEq, eq_self, Bool.false_eq_true, Bool.true_eq_false, ↓reduceIte, Int.reduceBNe]; try (refine ⟨fun hlt => ?_, fun hlt => ?_⟩ <;> (try simp only [decide_eq_true_eq, decide_eq_false_iff_not, beq_iff_eq, bne_iff_ne, ne_eq, beq_eq_false_iff_ne, bne_eq_false_iff_eq, Bool.true_eq_false, Bool.false_eq_true, Int.not_lt, Int.not_le, Decidable.not_not, gt_iff_lt, ge_iff_le, reduceCtorEq] at hlt) <;> (try exact hlt.elim)))
      | (refine AWp.block ?_)
      | ((first | refine gdO_split (fun hlt => ?_) (fun hlt => ?_) | refine tkO_split (fun hlt => ?_) (fun hlt => ?_) | refine opO_split (fun hlt => ?_) (fun hlt => ?_)) <;> have hgd := hlt <;> (try simp only [decide_eq_true_eq, decide_eq_false_iff_not, beq_iff_eq, bne_iff_ne, ne_eq, beq_eq_false_iff_ne, bne_eq_false_iff_eq, Bool.not_eq_true, Bool.not_eq_false, Bool.not_eq_eq_eq_not, Int.not_lt, Int.not_le, Decidable.not_not, gt_iff_lt, ge_iff_le] at hlt) <;> (simp -implicitDefEqProofs (maxSteps := 1000000) (disch := omega) only [go_sem, wrap64, Int.tdiv_eq_ediv_of_nonneg, Int.tmod_eq_emod_of_nonneg, Nat.reduceAdd, Nat.reduceMul, Nat.reduceEqDiff, Nat.reduceLT, Nat.reduceLeDiff, Int.reduceEq, Int.reduceNeg, Int.reduceToNat, reduceCtorEq, eq_self, Bool.false_eq_true, Bool.true_eq_false, ↓reduceIte, Int.reduceBNe, hgd]) <;> clear hgd)
      | (with_reducible refine And.intro ?_ ?_; · first | omega | assumption | exact ⟨_, _, rfl, rfl⟩)
      | ((first | refine ⟨_, h, ?_⟩ | refine ⟨_, g, ?_⟩); simp -implicitDefEqProofs (maxSteps := 1000000) (disch := omega) only [go_sem, wrap64, Int.tdiv_eq_ediv_of_nonneg, Int.tmod_eq_emod_of_nonneg, Nat.reduceAdd, Nat.reduceMul, Nat.reduceEqDiff, Nat.reduceLT, Nat.reduceLeDiff, Int.reduceEq, Int.reduceNeg, Int.reduceToNat, reduceCtorEq, eq_self, Bool.false_eq_true, Bool.true_eq_false, ↓reduceIte, Int.reduceBNe])
      | fail
  all_goals
    rw [if_neg (by simp only [h1, h2]; decide), GP_02]
    simp only [GP, GZ, Gr]
    refine PCr.pc (PCr.of tab_ok Tryz.func28 rfl rfl rfl fun c hc hm => ?_)
    rw [show Tryz.f28.ntmps = _ from Tryz.ntmps28] at hc
    simp only [Tryz.f28]
    repeat' first
      | (refine AWp.seq fun K hK => ?_)
      | ((first | refine AWp.region (by rw [hc]; rfl) ?_ | refine AWp.skip ?_ | refine AWp.exit ?_ | refine AWp.label ?_ | refine AWp.ret ?_ | refine appK_g ?_); simp -implicitDefEqProofs (maxSteps := 1000000) (disch := omega) only [go_sem, wrap64, Int.tdiv_eq_ediv_of_nonneg, Int.tmod_eq_emod_of_nonneg, Nat.reduceAdd, Nat.reduceMul, Nat.reduceEqDiff, Nat.reduceLT, Nat.reduceLeDiff, Int.reduceEq, Int.reduceNeg, Int.reduceToNat, reduceCtorEq, eq_self, Bool.false_eq_true, Bool.true_eq_false, ↓reduceIte, Int.reduceBNe])
      | (refine hK _ ?_; clear hK)
      | (clear hK; refine hK _ ?_; clear hK)
      | (clear hK; clear hK; refine hK _ ?_; clear hK)
      | (clear hK; clear hK; clear hK; refine hK _ ?_; clear hK)
      | (refine AWp.cond ?_; simp -implicitDefEqProofs (maxSteps := 1000000) (disch := omega) only [go_sem, wrap64, Int.tdiv_eq_ediv_of_nonneg, Int.tmod_eq_emod_of_nonneg, Nat.reduceAdd, Nat.reduceMul, Nat.reduceEqDiff, Nat.reduceLT, Nat.reduceLeDiff, Int.reduceEq, Int.reduceNeg, Int.reduceToNat, reduceCtorEq, eq_self, Bool.false_eq_true, Bool.true_eq_false, ↓reduceIte, Int.reduceBNe]; try (refine ⟨fun hlt => ?_, fun hlt => ?_⟩ <;> (try simp only [decide_eq_true_eq, decide_eq_false_iff_not, beq_iff_eq, bne_iff_ne, ne_eq, beq_eq_false_iff_ne, bne_eq_false_iff_eq, Bool.true_eq_false, Bool.false_eq_true, Int.not_lt, Int.not_le, Decidable.not_not, gt_iff_lt, ge_iff_le, reduceCtorEq] at hlt) <;> (try exact hlt.elim)))
      | (refine AWp.block ?_)
      | ((first | refine gdO_split (fun hlt => ?_) (fun hlt => ?_) | refine tkO_split (fun hlt => ?_) (fun hlt => ?_) | refine opO_split (fun hlt => ?_) (fun hlt => ?_)) <;> have hgd := hlt <;> (try simp only [decide_eq_true_eq, decide_eq_false_iff_not, beq_iff_eq, bne_iff_ne, ne_eq, beq_eq_false_iff_ne, bne_eq_false_iff_eq, Bool.not_eq_true, Bool.not_eq_false, Bool.not_eq_eq_eq_not, Int.not_lt, Int.not_le, Decidable.not_not, gt_iff_lt, ge_iff_le] at hlt) <;> (simp -implicitDefEqProofs (maxSteps := 1000000) (disch := omega) only [go_sem, wrap64, Int.tdiv_eq_ediv_of_nonneg, Int.tmod_eq_emod_of_nonneg, Nat.reduceAdd, Nat.reduceMul, Nat.reduceEqDiff, Nat.reduceLT, Nat.reduceLeDiff, Int.reduceEq, Int.reduceNeg, Int.reduceToNat, reduceCtorEq, eq_self, Bool.false_eq_true, Bool.true_eq_false, ↓reduceIte, Int.reduceBNe, hgd]) <;> clear hgd)
      | (with_reducible refine And.intro ?_ ?_; · first | omega | assumption | exact ⟨_, _, rfl, rfl⟩)
      | fail
    all_goals first | rfl | contradiction
theorem times_P (p q : Int × Int) (hp : okP p) (hq : okP q) : PC Tryz.prog 20 [GP p, GP q] (GP (timesP p q)) := by
  obtain ⟨x, e⟩ := p
  obtain ⟨y, f⟩ := q
  have h := Mul_ok x y hp hq
  rw [limR_P] at h
  have g := got_lim (x * y)
  unfold timesP
  by_cases h1 : e = 0 <;> by_cases h2 : f = 0
  · subst h1; subst h2
    rw [if_pos ⟨rfl, rfl⟩]
    simp only [GP, GZ, Gr] at g ⊢
    refine PCr.pc (PCr.of tab_ok Tryz.func20 rfl rfl rfl fun c hc hm => ?_)
    rw [show Tryz.f20.ntmps = _ from Tryz.ntmps20] at hc
    simp only [Tryz.f20]
    repeat' first
      | (refine AWp.seq fun K hK => ?_)
      | ((first | refine AWp.region (by rw [hc]; rfl) ?_ | refine AWp.skip ?_ | refine AWp.exit ?_ | refine AWp.label ?_ | refine AWp.ret ?_ | refine appK_g ?_); simp -implicitDefEqProofs (maxSteps := 1000000) (disch := omega) only [go_sem, wrap64, Int.tdiv_eq_ediv_of_nonneg, Int.tmod_eq_emod_of_nonneg, Nat.reduceAdd, Nat.reduceMul, Nat.reduceEqDiff, Nat.reduceLT, Nat.reduceLeDiff, Int.reduceEq, Int.reduceNeg, Int.reduceToNat, reduceCtorEq, eq_self, Bool.false_eq_true, Bool.true_eq_false, ↓reduceIte, Int.reduceBNe])
      | (refine hK _ ?_; clear hK)
      | (clear hK; refine hK _ ?_; clear hK)
      | (clear hK; clear hK; refine hK _ ?_; clear hK)
      | (clear hK; clear hK; clear hK; refine hK _ ?_; clear hK)
      | (refine AWp.cond ?_; simp -implicitDefEqProofs (maxSteps := 1000000) (disch := omega) only [go_sem, wrap64, Int.tdiv_eq_ediv_of_nonneg, Int.tmod_eq_emod_of_nonneg, Nat.reduceAdd, Nat.reduceMul, Nat.reduceEqDiff, Nat.reduceLT, Nat.reduceLeDiff, Int.reduceEq, Int.reduceNeg, Int.reduceToNat, reduceCtorEq, eq_self, Bool.false_eq_true, Bool.true_eq_false, ↓reduceIte, Int.reduceBNe]; try (refine ⟨fun hlt => ?_, fun hlt => ?_⟩ <;> (try simp only [decide_eq_true_eq, decide_eq_false_iff_not, beq_iff_eq, bne_iff_ne, ne_eq, beq_eq_false_iff_ne, bne_eq_false_iff_eq, Bool.true_eq_false, Bool.false_eq_true, Int.not_lt, Int.not_le, Decidable.not_not, gt_iff_lt, ge_iff_le, reduceCtorEq] at hlt) <;> (try exact hlt.elim)))
      | (refine AWp.block ?_)
      | ((first | refine gdO_split (fun hlt => ?_) (fun hlt => ?_) | refine tkO_split (fun hlt => ?_) (fun hlt => ?_) | refine opO_split (fun hlt => ?_) (fun hlt => ?_)) <;> have hgd := hlt <;> (try simp only [decide_eq_true_eq, decide_eq_false_iff_not, beq_iff_eq, bne_iff_ne, ne_eq, beq_eq_false_iff_ne, bne_eq_false_iff_eq, Bool.not_eq_true, Bool.not_eq_false, Bool.not_eq_eq_eq_not, Int.not_lt, Int.not_le, Decidable.not_not, gt_iff_lt, ge_iff_le] at hlt) <;> (simp -implicitDefEqProofs (maxSteps := 1000000) (disch := omega) only [go_sem, wrap64, Int.tdiv_eq_ediv_of_nonneg, Int.tmod_eq_emod_of_nonneg, Nat.reduceAdd, Nat.reduceMul, Nat.reduceEqDiff, Nat.reduceLT, Nat.reduceLeDiff, Int.reduceEq, Int.reduceNeg, Int.reduceToNat, reduceCtorEq, eq_self, Bool.false_eq_true, Bool.true_eq_false, ↓reduceIte, Int.reduceBNe, hgd]) <;> clear hgd)
      | (with_reducible refine And.intro ?_ ?_; · first | omega | assumption | exact ⟨_, _, rfl, rfl⟩)
      | ((first | refine ⟨_, h, ?_⟩ | refine ⟨_, g, ?_⟩); simp -implicitDefEqProofs (maxSteps := 1000000) (disch := omega) only [go_sem, wrap64, Int.tdiv_eq_ediv_of_nonneg, Int.tmod_eq_emod_of_nonneg, Nat.reduceAdd, Nat.reduceMul, Nat.reduceEqDiff, Nat.reduceLT, Nat.reduceLeDiff, Int.reduceEq, Int.reduceNeg, Int.reduceToNat, reduceCtorEq, eq_self, Bool.false_eq_true, Bool.true_eq_false, ↓reduceIte, Int.reduceBNe])
      | fail
  all_goals
    rw [if_neg (by simp only [h1, h2]; decide), GP_02]
    simp only [GP, GZ, Gr]
    refine PCr.pc (PCr.of tab_ok Tryz.func20 rfl rfl rfl fun c hc hm => ?_)
    rw [show Tryz.f20.ntmps = _ from Tryz.ntmps20] at hc
    simp only [Tryz.f20]
    repeat' first
      | (refine AWp.seq fun K hK => ?_)
      | ((first | refine AWp.region (by rw [hc]; rfl) ?_ | refine AWp.skip ?_ | refine AWp.exit ?_ | refine AWp.label ?_ | refine AWp.ret ?_ | refine appK_g ?_); simp -implicitDefEqProofs (maxSteps := 1000000) (disch := omega) only [go_sem, wrap64, Int.tdiv_eq_ediv_of_nonneg, Int.tmod_eq_emod_of_nonneg, Nat.reduceAdd, Nat.reduceMul, Nat.reduceEqDiff, Nat.reduceLT, Nat.reduceLeDiff, Int.reduceEq, Int.reduceNeg, Int.reduceToNat, reduceCtorEq, eq_self, Bool.false_eq_true, Bool.true_eq_false, ↓reduceIte, Int.reduceBNe])
      | (refine hK _ ?_; clear hK)
      | (clear hK; refine hK _ ?_; clear hK)
      | (clear hK; clear hK; refine hK _ ?_; clear hK)
      | (clear hK; clear hK; clear hK; refine hK _ ?_; clear hK)
      | (refine AWp.cond ?_; simp -implicitDefEqProofs (maxSteps := 1000000) (disch := omega) only [go_sem, wrap64, Int.tdiv_eq_ediv_of_nonneg, Int.tmod_eq_emod_of_nonneg, Nat.reduceAdd, Nat.reduceMul, Nat.reduceEqDiff, Nat.reduceLT, Nat.reduceLeDiff, Int.reduceEq, Int.reduceNeg, Int.reduceToNat, reduceCtorEq, eq_self, Bool.false_eq_true, Bool.true_eq_false, ↓reduceIte, Int.reduceBNe]; try (refine ⟨fun hlt => ?_, fun hlt => ?_⟩ <;> (try simp only [decide_eq_true_eq, decide_eq_false_iff_not, beq_iff_eq, bne_iff_ne, ne_eq, beq_eq_false_iff_ne, bne_eq_false_iff_eq, Bool.true_eq_false, Bool.false_eq_true, Int.not_lt, Int.not_le, Decidable.not_not, gt_iff_lt, ge_iff_le, reduceCtorEq] at hlt) <;> (try exact hlt.elim)))
      | (refine AWp.block ?_)
      | ((first | refine gdO_split (fun hlt => ?_) (fun hlt => ?_) | refine tkO_split (fun hlt => ?_) (fun hlt => ?_) | refine opO_split (fun hlt => ?_) (fun hlt => ?_)) <;> have hgd := hlt <;> (try simp only [decide_eq_true_eq, decide_eq_false_iff_not, beq_iff_eq, bne_iff_ne, ne_eq, beq_eq_false_iff_ne, bne_eq_false_iff_eq, Bool.not_eq_true, Bool.not_eq_false, Bool.not_eq_eq_eq_not, Int.not_lt, Int.not_le, Decidable.not_not, gt_iff_lt, ge_iff_le] at hlt) <;> (simp -implicitDefEqProofs (maxSteps := 1000000) (disch := omega) only [go_sem, wrap64, Int.tdiv_eq_ediv_of_nonneg, Int.tmod_eq_emod_of_nonneg, Nat.reduceAdd, Nat.reduceMul, Nat.reduceEqDiff, Nat.reduceLT, Nat.reduceLeDiff, Int.reduceEq, Int.reduceNeg, Int.reduceToNat, reduceCtorEq, eq_self, Bool.false_eq_true, Bool.true_eq_false, ↓reduceIte, Int.reduceBNe, hgd]) <;> clear hgd)
      | (with_reducible refine And.intro ?_ ?_; · first | omega | assumption | exact ⟨_, _, rfl, rfl⟩)
      | fail
    all_goals first | rfl | contradiction
theorem same_P (p q : Int × Int) (hp : okP p) (hq : okP q) : PC Tryz.prog 26 [GP p, GP q] (B (decide (p = q))) := by
  have h := same_Z p.1 q.1 p.2 q.2 (Nat.le_trans hp (by decide)) (Nat.le_trans hq (by decide))
  rwa [show decide (p.2 = q.2 ∧ p.1 = q.1) = decide (p = q) by rw [decide_eq_decide, Prod.ext_iff]; exact And.comm] at h
theorem agree_P (p q : Int × Int) (hp : okP p) (hq : okP q) : PC Tryz.prog 31 [GP p, GP q] (B (decide (p.2 = 0 ∧ q.2 = 0 → p.1 = q.1))) := by
  obtain ⟨x, e⟩ := p
  obtain ⟨y, f⟩ := q
  have h := Same_Z x y (Nat.le_trans hp (by decide)) (Nat.le_trans hq (by decide))
  simp only [GP, GZ, Gr]
  refine PCr.pc (PCr.of tab_ok Tryz.func31 rfl rfl rfl fun c hc hm => ?_)
  rw [show Tryz.f31.ntmps = _ from Tryz.ntmps31] at hc
  simp only [Tryz.f31]
  repeat' first
    | (refine AWp.seq fun K hK => ?_)
    | ((first | refine AWp.region (by rw [hc]; rfl) ?_ | refine AWp.skip ?_ | refine AWp.exit ?_ | refine AWp.label ?_ | refine AWp.ret ?_ | refine appK_g ?_); simp -implicitDefEqProofs (maxSteps := 1000000) (disch := omega) only [go_sem, wrap64, Int.tdiv_eq_ediv_of_nonneg, Int.tmod_eq_emod_of_nonneg, Nat.reduceAdd, Nat.reduceMul, Nat.reduceEqDiff, Nat.reduceLT, Nat.reduceLeDiff, Int.reduceEq, Int.reduceNeg, Int.reduceToNat, reduceCtorEq, eq_self, Bool.false_eq_true, Bool.true_eq_false, ↓reduceIte, Int.reduceBNe])
    | (refine hK _ ?_; clear hK)
    | (clear hK; refine hK _ ?_; clear hK)
    | (clear hK; clear hK; refine hK _ ?_; clear hK)
    | (clear hK; clear hK; clear hK; refine hK _ ?_; clear hK)
    | (refine AWp.cond ?_; simp -implicitDefEqProofs (maxSteps := 1000000) (disch := omega) only [go_sem, wrap64, Int.tdiv_eq_ediv_of_nonneg, Int.tmod_eq_emod_of_nonneg, Nat.reduceAdd, Nat.reduceMul, Nat.reduceEqDiff, Nat.reduceLT, Nat.reduceLeDiff, Int.reduceEq, Int.reduceNeg, Int.reduceToNat, reduceCtorEq, eq_self, Bool.false_eq_true, Bool.true_eq_false, ↓reduceIte, Int.reduceBNe]; try (refine ⟨fun hlt => ?_, fun hlt => ?_⟩ <;> (try simp only [decide_eq_true_eq, decide_eq_false_iff_not, beq_iff_eq, bne_iff_ne, ne_eq, beq_eq_false_iff_ne, bne_eq_false_iff_eq, Bool.true_eq_false, Bool.false_eq_true, Int.not_lt, Int.not_le, Decidable.not_not, gt_iff_lt, ge_iff_le, reduceCtorEq] at hlt) <;> (try exact hlt.elim)))
    | (refine AWp.block ?_)
    | ((first | refine gdO_split (fun hlt => ?_) (fun hlt => ?_) | refine tkO_split (fun hlt => ?_) (fun hlt => ?_) | refine opO_split (fun hlt => ?_) (fun hlt => ?_)) <;> have hgd := hlt <;> (try simp only [decide_eq_true_eq, decide_eq_false_iff_not, beq_iff_eq, bne_iff_ne, ne_eq, beq_eq_false_iff_ne, bne_eq_false_iff_eq, Bool.not_eq_true, Bool.not_eq_false, Bool.not_eq_eq_eq_not, Int.not_lt, Int.not_le, Decidable.not_not, gt_iff_lt, ge_iff_le] at hlt) <;> (simp -implicitDefEqProofs (maxSteps := 1000000) (disch := omega) only [go_sem, wrap64, Int.tdiv_eq_ediv_of_nonneg, Int.tmod_eq_emod_of_nonneg, Nat.reduceAdd, Nat.reduceMul, Nat.reduceEqDiff, Nat.reduceLT, Nat.reduceLeDiff, Int.reduceEq, Int.reduceNeg, Int.reduceToNat, reduceCtorEq, eq_self, Bool.false_eq_true, Bool.true_eq_false, ↓reduceIte, Int.reduceBNe, hgd]) <;> clear hgd)
    | (with_reducible refine And.intro ?_ ?_; · first | omega | assumption | exact ⟨_, _, rfl, rfl⟩)
    | ((first | refine ⟨_, h, ?_⟩); simp -implicitDefEqProofs (maxSteps := 1000000) (disch := omega) only [go_sem, wrap64, Int.tdiv_eq_ediv_of_nonneg, Int.tmod_eq_emod_of_nonneg, Nat.reduceAdd, Nat.reduceMul, Nat.reduceEqDiff, Nat.reduceLT, Nat.reduceLeDiff, Int.reduceEq, Int.reduceNeg, Int.reduceToNat, reduceCtorEq, eq_self, Bool.false_eq_true, Bool.true_eq_false, ↓reduceIte, Int.reduceBNe])
    | fail
  all_goals first
    | (refine (decide_eq_true ?_).symm; rintro ⟨h1, h2⟩; contradiction)
    | (rw [decide_eq_decide]; exact ⟨fun h _ => h, fun h => h ⟨by assumption, by assumption⟩⟩)
theorem smaller_Z (x y : Int) (lx : lenZ x ≤ 1000000) (ly : lenZ y ≤ 1000000) : PC Tryz.prog 35 [Z x, Z y] (B (decide (x.natAbs < y.natAbs))) := by
  have h := Compare_Z x.natAbs y.natAbs (by unfold lenZ at *; rwa [Int.natAbs_natCast]) (by unfold lenZ at *; rwa [Int.natAbs_natCast])
  have e : ∀ n : Nat, Z (n : Int) = Zr false (D n) := fun n => by
    show Zr (decide ((n : Int) < 0)) (D (n : Int).natAbs) = _
    rw [Int.natAbs_natCast, decide_eq_false (by omega)]
  rw [e, e] at h
  refine PCr.pc (PCr.of tab_ok Tryz.func35 rfl rfl rfl fun c hc hm => ?_)
  rw [show Tryz.f35.ntmps = _ from Tryz.ntmps35] at hc
  simp only [Tryz.f35]
  repeat' first
    | (refine AWp.seq fun K hK => ?_)
    | ((first | refine AWp.region (by rw [hc]; rfl) ?_ | refine AWp.skip ?_ | refine AWp.exit ?_ | refine AWp.label ?_ | refine AWp.ret ?_ | refine appK_g ?_); simp -implicitDefEqProofs (maxSteps := 1000000) (disch := omega) only [go_sem, wrap64, Int.tdiv_eq_ediv_of_nonneg, Int.tmod_eq_emod_of_nonneg, Nat.reduceAdd, Nat.reduceMul, Nat.reduceEqDiff, Nat.reduceLT, Nat.reduceLeDiff, Int.reduceEq, Int.reduceNeg, Int.reduceToNat, reduceCtorEq, eq_self, Bool.false_eq_true, Bool.true_eq_false, ↓reduceIte])
    | (refine hK _ ?_; clear hK)
    | (clear hK; refine hK _ ?_; clear hK)
    | (clear hK; clear hK; refine hK _ ?_; clear hK)
    | (clear hK; clear hK; clear hK; refine hK _ ?_; clear hK)
    | (refine AWp.cond ?_; simp -implicitDefEqProofs (maxSteps := 1000000) (disch := omega) only [go_sem, wrap64, Int.tdiv_eq_ediv_of_nonneg, Int.tmod_eq_emod_of_nonneg, Nat.reduceAdd, Nat.reduceMul, Nat.reduceEqDiff, Nat.reduceLT, Nat.reduceLeDiff, Int.reduceEq, Int.reduceNeg, Int.reduceToNat, reduceCtorEq, eq_self, Bool.false_eq_true, Bool.true_eq_false, ↓reduceIte]; try (refine ⟨fun hlt => ?_, fun hlt => ?_⟩ <;> (try simp only [decide_eq_true_eq, decide_eq_false_iff_not, beq_iff_eq, bne_iff_ne, ne_eq, beq_eq_false_iff_ne, bne_eq_false_iff_eq, Bool.true_eq_false, Bool.false_eq_true, Int.not_lt, Int.not_le, Decidable.not_not, gt_iff_lt, ge_iff_le, reduceCtorEq] at hlt) <;> (try exact hlt.elim)))
    | (refine AWp.block ?_)
    | ((first | refine gdO_split (fun hlt => ?_) (fun hlt => ?_) | refine tkO_split (fun hlt => ?_) (fun hlt => ?_) | refine opO_split (fun hlt => ?_) (fun hlt => ?_)) <;> have hgd := hlt <;> (try simp only [decide_eq_true_eq, decide_eq_false_iff_not, beq_iff_eq, bne_iff_ne, ne_eq, beq_eq_false_iff_ne, bne_eq_false_iff_eq, Bool.not_eq_true, Bool.not_eq_false, Bool.not_eq_eq_eq_not, Int.not_lt, Int.not_le, Decidable.not_not, gt_iff_lt, ge_iff_le] at hlt) <;> (simp -implicitDefEqProofs (maxSteps := 1000000) (disch := omega) only [go_sem, wrap64, Int.tdiv_eq_ediv_of_nonneg, Int.tmod_eq_emod_of_nonneg, Nat.reduceAdd, Nat.reduceMul, Nat.reduceEqDiff, Nat.reduceLT, Nat.reduceLeDiff, Int.reduceEq, Int.reduceNeg, Int.reduceToNat, reduceCtorEq, eq_self, Bool.false_eq_true, Bool.true_eq_false, ↓reduceIte, hgd]) <;> clear hgd)
    | (with_reducible refine And.intro ?_ ?_; · first | omega | assumption | exact ⟨_, _, rfl, rfl⟩)
    | ((first | refine ⟨_, h, ?_⟩); simp -implicitDefEqProofs (maxSteps := 1000000) (disch := omega) only [go_sem, wrap64, Int.tdiv_eq_ediv_of_nonneg, Int.tmod_eq_emod_of_nonneg, Nat.reduceAdd, Nat.reduceMul, Nat.reduceEqDiff, Nat.reduceLT, Nat.reduceLeDiff, Int.reduceEq, Int.reduceNeg, Int.reduceToNat, reduceCtorEq, eq_self, Bool.false_eq_true, Bool.true_eq_false, ↓reduceIte])
    | fail
  rw [decide_eq_decide]
  simp only [cmpI]; (repeat' split) <;> omega
end Go.Proofs.YthhjcfejgoddlaaGreatDoor
end

section
set_option linter.unusedSimpArgs false
set_option linter.unusedVariables false
set_option maxRecDepth 100000
namespace Go.Proofs.YthhjcfejgoddlaaGreatDoor
open Go Go.Abs
attribute [local go_sem] wrap64 Int.tdiv_eq_ediv_of_nonneg Int.tmod_eq_emod_of_nonneg eq_self Bool.false_eq_true Bool.true_eq_false Bool.not_true Bool.not_false
attribute [local go_sem_proc] Nat.reduceAdd Nat.reduceMul Nat.reduceEqDiff Nat.reduceLT Nat.reduceLeDiff Int.reduceEq Int.reduceNeg Int.reduceToNat reduceCtorEq Int.reduceBNe Int.reduceBEq

theorem okI_def (neg : Bool) (d : List Int) : okI neg d ↔ d.length ≤ 40 ∧ (d.length = 0 → neg = false) ∧ (0 < d.length → d.getD (d.length - 1) 0 ≠ 0) ∧ ∀ j, j < d.length → 0 ≤ d.getD j 0 ∧ d.getD j 0 < 1000000000 := by
  rw [okI_iff]
  have e : ((d.any fun x => decide (x < 0 ∨ 1000000000 ≤ x)) = false) ↔ ∀ j, j < d.length → 0 ≤ d.getD j 0 ∧ d.getD j 0 < 1000000000 := by
    rw [List.any_eq_false]
    constructor
    · intro h j hj
      have h1 := h (d.getD j 0) (by simp [hj])
      simp only [decide_eq_true_eq] at h1; omega
    · intro h x hx
      obtain ⟨j, hj, rfl⟩ := List.getElem_of_mem hx
      have h1 := h j hj
      simp only [List.getD, List.getElem?_eq_getElem hj, Option.getD_some] at h1
      simp only [decide_eq_true_eq]; omega
  rw [e]
def F77 (neg : Bool) (d : List Int) (i : Nat) : St := ⟨[(1, .ptr 0 0), (3, I d.length), (4, I i)], [(0, .box [B neg, L d] false)], 1, 0⟩
theorem Is_f (d : List Int) : PC Tryz.prog 77 [Zr false d] (B (decide (okI false d))) := by
  refine PCr.pc (PCr.of tab_ok Tryz.func77 rfl rfl rfl fun c hc hm => ?_)
  rw [show Tryz.f77.ntmps = _ from Tryz.ntmps77] at hc
  simp only [Tryz.f77]
  repeat' first | (refine AWp.seq fun K hK => ?_) | ((first | refine AWp.region (by rw [hc]; rfl) ?_ | refine AWp.skip ?_ | refine AWp.exit ?_ | refine AWp.label ?_ | refine AWp.ret ?_ | refine appK_g ?_); simp -implicitDefEqProofs (maxSteps := 1000000) (disch := omega) only [go_sem, ↓reduceIte]) | ((first | refine hK _ ?_ | (clear hK; first | refine hK _ ?_ | (clear hK; first | refine hK _ ?_ | (clear hK; refine hK _ ?_)))); clear hK) | (refine AWp.cond ?_; simp -implicitDefEqProofs (maxSteps := 1000000) (disch := omega) only [go_sem, ↓reduceIte]; try (refine ⟨fun hlt => ?_, fun hlt => ?_⟩ <;> (try simp only [cla, clb, ne_eq, reduceCtorEq] at hlt) <;> (try exact hlt.elim))) | (refine AWp.block ?_) | ((first | refine gdO_split (fun hlt => ?_) (fun hlt => ?_) | refine tkO_split (fun hlt => ?_) (fun hlt => ?_) | refine opO_split (fun hlt => ?_) (fun hlt => ?_)) <;> have hgd := hlt <;> (try simp only [cla, clb, ne_eq, cld] at hlt) <;> (simp -implicitDefEqProofs (maxSteps := 1000000) (disch := omega) only [go_sem, ↓reduceIte, hgd]) <;> clear hgd) | (with_reducible refine And.intro ?_ ?_; · first | omega | assumption | exact ⟨_, _, rfl, rfl⟩) | fail
  all_goals try (exfalso; omega)
  all_goals try contradiction
  all_goals try (refine (decide_eq_false ?_).symm; rw [okI_def]; rintro ⟨h1, h2, h3, h4⟩; first | omega | (exact h3 (by omega) (by assumption)) | (exact absurd (h2 (by omega)) (by decide)))
  all_goals
    refine AWp.loopInv (F77 false d) (fun i => d.length - i) (fun i => i ≤ d.length ∧ ∀ j, j < i → 0 ≤ d.getD j 0 ∧ d.getD j 0 < 1000000000) 0 ⟨Nat.zero_le _, fun j h => absurd h (Nat.not_lt_zero _)⟩ (Sub.of0 hm id rfl ?_ ?_ (fun _ _ _ _ h => h)) ?_
    all_goals (try dsimp only)
    all_goals (first | omega | (simp -implicitDefEqProofs (maxSteps := 1000000) (disch := omega) only [F77, id, go_sem, Nat.blt_eq, Nat.reduceAdd, Nat.reduceSub, Nat.reduceEqDiff, Nat.reduceLT, ↓reduceIte, and_true, true_and, AV.dat.injEq, DV.int.injEq, DV.bool.injEq, DV.lst.injEq, eq_self_iff_true]; first | done | omega | (simp; done) | (simp; omega)) | (simp; done) | (simp; omega) | skip)
    rintro i ⟨h1, h2⟩ ih
    simp only [F77]
    repeat' first | (refine AWp.seq fun K hK => ?_) | ((first | refine AWp.region (by rw [hc]; rfl) ?_ | refine AWp.skip ?_ | refine AWp.exit ?_ | refine AWp.label ?_ | refine AWp.ret ?_ | refine appK_g ?_); simp -implicitDefEqProofs (maxSteps := 1000000) (disch := omega) only [go_sem, ↓reduceIte]) | ((first | refine hK _ ?_ | (clear hK; first | refine hK _ ?_ | (clear hK; first | refine hK _ ?_ | (clear hK; refine hK _ ?_)))); clear hK) | (refine AWp.cond ?_; simp -implicitDefEqProofs (maxSteps := 1000000) (disch := omega) only [go_sem, ↓reduceIte]; try (refine ⟨fun hlt => ?_, fun hlt => ?_⟩ <;> (try simp only [cla, clb, ne_eq, reduceCtorEq] at hlt) <;> (try exact hlt.elim))) | (refine AWp.block ?_) | ((first | refine gdO_split (fun hlt => ?_) (fun hlt => ?_) | refine tkO_split (fun hlt => ?_) (fun hlt => ?_) | refine opO_split (fun hlt => ?_) (fun hlt => ?_)) <;> have hgd := hlt <;> (try simp only [cla, clb, ne_eq, cld] at hlt) <;> (simp -implicitDefEqProofs (maxSteps := 1000000) (disch := omega) only [go_sem, ↓reduceIte, hgd]) <;> clear hgd) | (with_reducible refine And.intro ?_ ?_; · first | omega | assumption | exact ⟨_, _, rfl, rfl⟩) | fail
    all_goals try (exfalso; omega)
    all_goals try (refine (decide_eq_false ?_).symm; rw [okI_def]; rintro ⟨k1, k2, k3, k4⟩; have := k4 i (by omega); omega)
    all_goals try (refine (decide_eq_true ?_).symm; rw [okI_def]; exact ⟨by omega, fun _ => by first | rfl | omega, fun _ => by first | assumption | omega, fun j hj => h2 j (by omega)⟩)
    all_goals
      refine ih (i + 1) _ ⟨by omega, fun j hj => ?_⟩ (by omega) (Sub.of0 hm id rfl ?_ ?_ (fun _ _ _ _ h => h))
      · by_cases h : j = i
        · subst h; exact ⟨by assumption, by assumption⟩
        · exact h2 j (by omega)
      all_goals (try dsimp only)
      all_goals (first | omega | (simp -implicitDefEqProofs (maxSteps := 1000000) (disch := omega) only [F77, id, go_sem, Nat.blt_eq, Nat.reduceAdd, Nat.reduceSub, Nat.reduceEqDiff, Nat.reduceLT, ↓reduceIte, and_true, true_and, AV.dat.injEq, DV.int.injEq, DV.bool.injEq, DV.lst.injEq, eq_self_iff_true]; first | done | omega | (simp; done) | (simp; omega)) | (simp; done) | (simp; omega) | skip)
theorem Is_t (d : List Int) : PC Tryz.prog 77 [Zr true d] (B (decide (okI true d))) := by
  refine PCr.pc (PCr.of tab_ok Tryz.func77 rfl rfl rfl fun c hc hm => ?_)
  rw [show Tryz.f77.ntmps = _ from Tryz.ntmps77] at hc
  simp only [Tryz.f77]
  repeat' first | (refine AWp.seq fun K hK => ?_) | ((first | refine AWp.region (by rw [hc]; rfl) ?_ | refine AWp.skip ?_ | refine AWp.exit ?_ | refine AWp.label ?_ | refine AWp.ret ?_ | refine appK_g ?_); simp -implicitDefEqProofs (maxSteps := 1000000) (disch := omega) only [go_sem, ↓reduceIte]) | ((first | refine hK _ ?_ | (clear hK; first | refine hK _ ?_ | (clear hK; first | refine hK _ ?_ | (clear hK; refine hK _ ?_)))); clear hK) | (refine AWp.cond ?_; simp -implicitDefEqProofs (maxSteps := 1000000) (disch := omega) only [go_sem, ↓reduceIte]; try (refine ⟨fun hlt => ?_, fun hlt => ?_⟩ <;> (try simp only [cla, clb, ne_eq, reduceCtorEq] at hlt) <;> (try exact hlt.elim))) | (refine AWp.block ?_) | ((first | refine gdO_split (fun hlt => ?_) (fun hlt => ?_) | refine tkO_split (fun hlt => ?_) (fun hlt => ?_) | refine opO_split (fun hlt => ?_) (fun hlt => ?_)) <;> have hgd := hlt <;> (try simp only [cla, clb, ne_eq, cld] at hlt) <;> (simp -implicitDefEqProofs (maxSteps := 1000000) (disch := omega) only [go_sem, ↓reduceIte, hgd]) <;> clear hgd) | (with_reducible refine And.intro ?_ ?_; · first | omega | assumption | exact ⟨_, _, rfl, rfl⟩) | fail
  all_goals try (exfalso; omega)
  all_goals try contradiction
  all_goals try (refine (decide_eq_false ?_).symm; rw [okI_def]; rintro ⟨h1, h2, h3, h4⟩; first | omega | (exact h3 (by omega) (by assumption)) | (exact absurd (h2 (by omega)) (by decide)))
  all_goals
    refine AWp.loopInv (F77 true d) (fun i => d.length - i) (fun i => i ≤ d.length ∧ ∀ j, j < i → 0 ≤ d.getD j 0 ∧ d.getD j 0 < 1000000000) 0 ⟨Nat.zero_le _, fun j h => absurd h (Nat.not_lt_zero _)⟩ (Sub.of0 hm id rfl ?_ ?_ (fun _ _ _ _ h => h)) ?_
    all_goals (try dsimp only)
    all_goals (first | omega | (simp -implicitDefEqProofs (maxSteps := 1000000) (disch := omega) only [F77, id, go_sem, Nat.blt_eq, Nat.reduceAdd, Nat.reduceSub, Nat.reduceEqDiff, Nat.reduceLT, ↓reduceIte, and_true, true_and, AV.dat.injEq, DV.int.injEq, DV.bool.injEq, DV.lst.injEq, eq_self_iff_true]; first | done | omega | (simp; done) | (simp; omega)) | (simp; done) | (simp; omega) | skip)
    rintro i ⟨h1, h2⟩ ih
    simp only [F77]
    repeat' first | (refine AWp.seq fun K hK => ?_) | ((first | refine AWp.region (by rw [hc]; rfl) ?_ | refine AWp.skip ?_ | refine AWp.exit ?_ | refine AWp.label ?_ | refine AWp.ret ?_ | refine appK_g ?_); simp -implicitDefEqProofs (maxSteps := 1000000) (disch := omega) only [go_sem, ↓reduceIte]) | ((first | refine hK _ ?_ | (clear hK; first | refine hK _ ?_ | (clear hK; first | refine hK _ ?_ | (clear hK; refine hK _ ?_)))); clear hK) | (refine AWp.cond ?_; simp -implicitDefEqProofs (maxSteps := 1000000) (disch := omega) only [go_sem, ↓reduceIte]; try (refine ⟨fun hlt => ?_, fun hlt => ?_⟩ <;> (try simp only [cla, clb, ne_eq, reduceCtorEq] at hlt) <;> (try exact hlt.elim))) | (refine AWp.block ?_) | ((first | refine gdO_split (fun hlt => ?_) (fun hlt => ?_) | refine tkO_split (fun hlt => ?_) (fun hlt => ?_) | refine opO_split (fun hlt => ?_) (fun hlt => ?_)) <;> have hgd := hlt <;> (try simp only [cla, clb, ne_eq, cld] at hlt) <;> (simp -implicitDefEqProofs (maxSteps := 1000000) (disch := omega) only [go_sem, ↓reduceIte, hgd]) <;> clear hgd) | (with_reducible refine And.intro ?_ ?_; · first | omega | assumption | exact ⟨_, _, rfl, rfl⟩) | fail
    all_goals try (exfalso; omega)
    all_goals try (refine (decide_eq_false ?_).symm; rw [okI_def]; rintro ⟨k1, k2, k3, k4⟩; have := k4 i (by omega); omega)
    all_goals try (refine (decide_eq_true ?_).symm; rw [okI_def]; exact ⟨by omega, fun _ => by first | rfl | omega, fun _ => by first | assumption | omega, fun j hj => h2 j (by omega)⟩)
    all_goals
      refine ih (i + 1) _ ⟨by omega, fun j hj => ?_⟩ (by omega) (Sub.of0 hm id rfl ?_ ?_ (fun _ _ _ _ h => h))
      · by_cases h : j = i
        · subst h; exact ⟨by assumption, by assumption⟩
        · exact h2 j (by omega)
      all_goals (try dsimp only)
      all_goals (first | omega | (simp -implicitDefEqProofs (maxSteps := 1000000) (disch := omega) only [F77, id, go_sem, Nat.blt_eq, Nat.reduceAdd, Nat.reduceSub, Nat.reduceEqDiff, Nat.reduceLT, ↓reduceIte, and_true, true_and, AV.dat.injEq, DV.int.injEq, DV.bool.injEq, DV.lst.injEq, eq_self_iff_true]; first | done | omega | (simp; done) | (simp; omega)) | (simp; done) | (simp; omega) | skip)
theorem Is_pc (neg : Bool) (d : List Int) : PC Tryz.prog 77 [Zr neg d] (B (decide (okI neg d))) := by
  cases neg
  · exact Is_f d
  · exact Is_t d

theorem right1_pc (neg : Bool) (d : List Int) : PC Tryz.prog 76 [Zr neg d] (B (!decide (okI neg d))) := by
  have h := Is_pc neg d
  refine PCr.pc (PCr.of tab_ok Tryz.func76 rfl rfl rfl fun c hc hm => ?_)
  rw [show Tryz.f76.ntmps = _ from Tryz.ntmps76] at hc
  simp only [Tryz.f76]
  repeat' first | (refine AWp.seq fun K hK => ?_) | ((first | refine AWp.region (by rw [hc]; rfl) ?_ | refine AWp.skip ?_ | refine AWp.exit ?_ | refine AWp.label ?_ | refine AWp.ret ?_ | refine appK_g ?_); simp -implicitDefEqProofs (maxSteps := 1000000) (disch := omega) only [go_sem, ↓reduceIte]) | ((first | refine hK _ ?_ | (clear hK; first | refine hK _ ?_ | (clear hK; first | refine hK _ ?_ | (clear hK; refine hK _ ?_)))); clear hK) | (refine AWp.cond ?_; simp -implicitDefEqProofs (maxSteps := 1000000) (disch := omega) only [go_sem, ↓reduceIte]; try (refine ⟨fun hlt => ?_, fun hlt => ?_⟩ <;> (try simp only [cla, clb, ne_eq, reduceCtorEq] at hlt) <;> (try exact hlt.elim))) | (refine AWp.block ?_) | ((first | refine gdO_split (fun hlt => ?_) (fun hlt => ?_) | refine tkO_split (fun hlt => ?_) (fun hlt => ?_) | refine opO_split (fun hlt => ?_) (fun hlt => ?_)) <;> have hgd := hlt <;> (try simp only [cla, clb, ne_eq, cld] at hlt) <;> (simp -implicitDefEqProofs (maxSteps := 1000000) (disch := omega) only [go_sem, ↓reduceIte, hgd]) <;> clear hgd) | (with_reducible refine And.intro ?_ ?_; · first | omega | assumption | exact ⟨_, _, rfl, rfl⟩) | ((first | refine ⟨_, h, ?_⟩); simp -implicitDefEqProofs (maxSteps := 1000000) (disch := omega) only [go_sem, ↓reduceIte]) | fail
  all_goals try rfl
  rw [decide_eq_false (fun h => by have := h.1; omega)]; rfl

def F122 (zs : List (Bool × List Int)) (f : FuncId) (i : Nat) : St := ⟨[(0, LZ zs), (1, .dat (.fn f [])), (7, I zs.length), (8, I i)], [], 0, 0⟩
theorem idxZ_pc (zs : List (Bool × List Int)) (f : FuncId) (p : Bool × List Int → Bool) (lz : zs.length ≤ 1000000) (hp : ∀ z, PC Tryz.prog f [Zr z.1 z.2] (B (p z))) : PC Tryz.prog 122 [LZ zs, .dat (.fn f [])] (I (idx p zs)) := by
  refine PCr.pc (PCr.of tab_ok Tryz.func122 rfl rfl rfl fun c hc hm => ?_)
  rw [show Tryz.f122.ntmps = _ from Tryz.ntmps122] at hc
  simp only [Tryz.f122]
  repeat' first | (refine AWp.seq fun K hK => ?_) | ((first | refine AWp.region (by rw [hc]; rfl) ?_ | refine AWp.skip ?_ | refine AWp.exit ?_ | refine AWp.label ?_ | refine AWp.ret ?_ | refine appK_g ?_); simp -implicitDefEqProofs (maxSteps := 1000000) (disch := omega) only [go_sem, ↓reduceIte]) | ((first | refine hK _ ?_ | (clear hK; first | refine hK _ ?_ | (clear hK; first | refine hK _ ?_ | (clear hK; refine hK _ ?_)))); clear hK) | (refine AWp.cond ?_; simp -implicitDefEqProofs (maxSteps := 1000000) (disch := omega) only [go_sem, ↓reduceIte]; try (refine ⟨fun hlt => ?_, fun hlt => ?_⟩ <;> (try simp only [cla, clb, ne_eq, reduceCtorEq] at hlt) <;> (try exact hlt.elim))) | (refine AWp.block ?_) | ((first | refine gdO_split (fun hlt => ?_) (fun hlt => ?_) | refine tkO_split (fun hlt => ?_) (fun hlt => ?_) | refine opO_split (fun hlt => ?_) (fun hlt => ?_)) <;> have hgd := hlt <;> (try simp only [cla, clb, ne_eq, cld] at hlt) <;> (simp -implicitDefEqProofs (maxSteps := 1000000) (disch := omega) only [go_sem, ↓reduceIte, hgd]) <;> clear hgd) | (with_reducible refine And.intro ?_ ?_; · first | omega | assumption | exact ⟨_, _, rfl, rfl⟩) | fail
  refine AWp.loopInv (F122 zs f) (fun i => zs.length - i) (fun i => i ≤ zs.length ∧ ∀ j, j < i → p (zs.getD j (false, [])) = false) 0 ⟨Nat.zero_le _, fun j h => absurd h (Nat.not_lt_zero _)⟩ (Sub.of0 hm id rfl ?_ ?_ (fun _ _ _ _ h => h)) ?_
  all_goals (try dsimp only)
  all_goals (first | omega | (simp -implicitDefEqProofs (maxSteps := 1000000) (disch := omega) only [F122, id, go_sem, Nat.blt_eq, Nat.reduceAdd, Nat.reduceSub, Nat.reduceEqDiff, Nat.reduceLT, ↓reduceIte, and_true, true_and, AV.dat.injEq, DV.int.injEq, DV.bool.injEq, DV.lst.injEq, eq_self_iff_true]; first | done | omega | (simp; done) | (simp; omega)) | (simp; done) | (simp; omega) | skip)
  rintro i ⟨h1, h2⟩ ih
  simp only [F122]
  generalize hz : zs.getD i (false, []) = z at *
  have hpi := hp z
  repeat' first | (refine AWp.seq fun K hK => ?_) | ((first | refine AWp.region (by rw [hc]; rfl) ?_ | refine AWp.skip ?_ | refine AWp.exit ?_ | refine AWp.label ?_ | refine AWp.ret ?_ | refine appK_g ?_); simp -implicitDefEqProofs (maxSteps := 1000000) (disch := omega) only [go_sem, ↓reduceIte, hz]) | ((first | refine hK _ ?_ | (clear hK; first | refine hK _ ?_ | (clear hK; first | refine hK _ ?_ | (clear hK; refine hK _ ?_)))); clear hK) | (refine AWp.cond ?_; simp -implicitDefEqProofs (maxSteps := 1000000) (disch := omega) only [go_sem, ↓reduceIte, hz]; try (refine ⟨fun hlt => ?_, fun hlt => ?_⟩ <;> (try simp only [cla, clb, ne_eq, reduceCtorEq] at hlt) <;> (try exact hlt.elim))) | (refine AWp.block ?_) | ((first | refine gdO_split (fun hlt => ?_) (fun hlt => ?_) | refine tkO_split (fun hlt => ?_) (fun hlt => ?_) | refine opO_split (fun hlt => ?_) (fun hlt => ?_)) <;> have hgd := hlt <;> (try simp only [cla, clb, ne_eq, cld] at hlt) <;> (simp -implicitDefEqProofs (maxSteps := 1000000) (disch := omega) only [go_sem, ↓reduceIte, hz, hgd]) <;> clear hgd) | (with_reducible refine And.intro ?_ ?_; · first | omega | assumption | exact ⟨_, _, rfl, rfl⟩) | (refine ⟨_, hpi, ?_⟩; simp -implicitDefEqProofs (maxSteps := 1000000) (disch := omega) only [go_sem, ↓reduceIte]) | fail
  · have hi : i < zs.length := by omega
    have e : ∀ j (hj : j < zs.length), zs.getD j (false, []) = zs[j] := fun j hj => by simp [hj]
    rw [idx_some p zs i hi (by rw [← e, hz]; exact hlt) (fun j hj => by rw [← e]; exact h2 j hj)]
  · refine ih (i + 1) _ ⟨by omega, fun j hj => ?_⟩ (by omega) (Sub.of0 hm id rfl ?_ ?_ (fun _ _ _ _ h => h))
    · by_cases h : j = i
      · subst h; rw [hz]; assumption
      · exact h2 j (by omega)
    all_goals (try dsimp only)
    all_goals (first | omega | (simp -implicitDefEqProofs (maxSteps := 1000000) (disch := omega) only [F122, id, go_sem, Nat.blt_eq, Nat.reduceAdd, Nat.reduceSub, Nat.reduceEqDiff, Nat.reduceLT, ↓reduceIte, and_true, true_and, AV.dat.injEq, DV.int.injEq, DV.bool.injEq, DV.lst.injEq, eq_self_iff_true]; first | done | omega | (simp; done) | (simp; omega)) | (simp; done) | (simp; omega) | skip)
  · rw [idx_none p zs (fun j hj => by have := h2 j (by omega); simpa [hj] using this)]
theorem hasZ_pc (zs : List (Bool × List Int)) (f : FuncId) (p : Bool × List Int → Bool) (lz : zs.length ≤ 1000000) (hp : ∀ z, PC Tryz.prog f [Zr z.1 z.2] (B (p z))) : PC Tryz.prog 75 [LZ zs, .dat (.fn f [])] (B (zs.any p)) := by
  have hi := idxZ_pc zs f p lz hp
  rw [← idx_ge]
  refine PCr.pc (PCr.of tab_ok Tryz.func75 rfl rfl rfl fun c hc hm => ?_)
  rw [show Tryz.f75.ntmps = _ from Tryz.ntmps75] at hc
  simp only [Tryz.f75]
  repeat' first | (refine AWp.seq fun K hK => ?_) | ((first | refine AWp.region (by rw [hc]; rfl) ?_ | refine AWp.skip ?_ | refine AWp.exit ?_ | refine AWp.label ?_ | refine AWp.ret ?_ | refine appK_g ?_); simp -implicitDefEqProofs (maxSteps := 1000000) (disch := omega) only [go_sem, ↓reduceIte]) | ((first | refine hK _ ?_ | (clear hK; first | refine hK _ ?_ | (clear hK; first | refine hK _ ?_ | (clear hK; refine hK _ ?_)))); clear hK) | (refine AWp.cond ?_; simp -implicitDefEqProofs (maxSteps := 1000000) (disch := omega) only [go_sem, ↓reduceIte]; try (refine ⟨fun hlt => ?_, fun hlt => ?_⟩ <;> (try simp only [cla, clb, ne_eq, reduceCtorEq] at hlt) <;> (try exact hlt.elim))) | (refine AWp.block ?_) | ((first | refine gdO_split (fun hlt => ?_) (fun hlt => ?_) | refine tkO_split (fun hlt => ?_) (fun hlt => ?_) | refine opO_split (fun hlt => ?_) (fun hlt => ?_)) <;> have hgd := hlt <;> (try simp only [cla, clb, ne_eq, cld] at hlt) <;> (simp -implicitDefEqProofs (maxSteps := 1000000) (disch := omega) only [go_sem, ↓reduceIte, hgd]) <;> clear hgd) | (with_reducible refine And.intro ?_ ?_; · first | omega | assumption | exact ⟨_, _, rfl, rfl⟩) | ((first | refine ⟨_, hi, ?_⟩); simp -implicitDefEqProofs (maxSteps := 1000000) (disch := omega) only [go_sem, ↓reduceIte]) | fail
theorem right_pc (zs : List (Bool × List Int)) (lz : zs.length ≤ 1000000) : PC Tryz.prog 17 [LZ zs] (B (zs.all fun z => decide (okI z.1 z.2))) := by
  have h := hasZ_pc zs 76 (fun z => !decide (okI z.1 z.2)) lz (fun z => right1_pc z.1 z.2)
  rw [show (zs.all fun z => decide (okI z.1 z.2)) = !(zs.any fun z => !decide (okI z.1 z.2)) by rw [List.all_eq_not_any_not]]
  refine PCr.pc (PCr.of tab_ok Tryz.func17 rfl rfl rfl fun c hc hm => ?_)
  rw [show Tryz.f17.ntmps = _ from Tryz.ntmps17] at hc
  simp only [Tryz.f17]
  repeat' first | (refine AWp.seq fun K hK => ?_) | ((first | refine AWp.region (by rw [hc]; rfl) ?_ | refine AWp.skip ?_ | refine AWp.exit ?_ | refine AWp.label ?_ | refine AWp.ret ?_ | refine appK_g ?_); simp -implicitDefEqProofs (maxSteps := 1000000) (disch := omega) only [go_sem, ↓reduceIte]) | ((first | refine hK _ ?_ | (clear hK; first | refine hK _ ?_ | (clear hK; first | refine hK _ ?_ | (clear hK; refine hK _ ?_)))); clear hK) | (refine AWp.cond ?_; simp -implicitDefEqProofs (maxSteps := 1000000) (disch := omega) only [go_sem, ↓reduceIte]; try (refine ⟨fun hlt => ?_, fun hlt => ?_⟩ <;> (try simp only [cla, clb, ne_eq, reduceCtorEq] at hlt) <;> (try exact hlt.elim))) | (refine AWp.block ?_) | ((first | refine gdO_split (fun hlt => ?_) (fun hlt => ?_) | refine tkO_split (fun hlt => ?_) (fun hlt => ?_) | refine opO_split (fun hlt => ?_) (fun hlt => ?_)) <;> have hgd := hlt <;> (try simp only [cla, clb, ne_eq, cld] at hlt) <;> (simp -implicitDefEqProofs (maxSteps := 1000000) (disch := omega) only [go_sem, ↓reduceIte, hgd]) <;> clear hgd) | (with_reducible refine And.intro ?_ ?_; · first | omega | assumption | exact ⟨_, _, rfl, rfl⟩) | ((first | refine ⟨_, h, ?_⟩); simp -implicitDefEqProofs (maxSteps := 1000000) (disch := omega) only [go_sem, ↓reduceIte]) | fail
end Go.Proofs.YthhjcfejgoddlaaGreatDoor
end

section
/- Where the simplifier need not look: what follows a step is looked at when the walk gets there. -/
namespace Go.Abs
variable {P : Program} {T : Tab} {c : Ctx} {ro : Option Nat}

@[congr] theorem runO_cg {ops l : List Oper} {σ σ' : St} {K : St → Prop} (h : σ = σ') : runO P T ops l σ K = runO P T ops l σ' K := by rw [h]
@[congr] theorem gdO_cg {ops rest : List Oper} {o : Oper} {want : Bool} {σ : St} {K : St → Prop} {q q' : AV} (h : q = q') : gdO P T ops o rest want σ K q = gdO P T ops o rest want σ K q' := by rw [h]
@[congr] theorem stepK_cg {o : Oper} {σ σ' : St} {K : St → Prop} (h : σ = σ') : stepK P T o σ K = stepK P T o σ' K := by rw [h]
@[congr] theorem planK_cg {ops : Array Oper} {l : List Pl} {σ σ' : St} {X : St → Prop} (h : σ = σ') : planK P T ops l σ X = planK P T ops l σ' X := by rw [h]
@[congr] theorem takeQ_cg {ops : Array Oper} {i : Nat} {σ σ' : St} {X : St → Prop} (h : σ = σ') : takeQ P T ops i σ X = takeQ P T ops i σ' X := by rw [h]
@[congr] theorem opQ_cg {ops : Array Oper} {i : Nat} {σ σ' : St} {X : St → Prop} (h : σ = σ') : opQ P T ops i σ X = opQ P T ops i σ' X := by rw [h]
@[congr] theorem tkO_cg {o : Oper} {want : Bool} {σ : St} {X : St → Prop} {q q' : AV} (h : q = q') : tkO P T o want σ X q = tkO P T o want σ X q' := by rw [h]
@[congr] theorem opO_cg {o : Oper} {want : Bool} {σ : St} {X : St → Prop} {q q' : AV} (h : q = q') : opO P T o want σ X q = opO P T o want σ X q' := by rw [h]
@[congr] theorem treeK_cg {ops : Array Oper} {t : Tr} {σ σ' : St} {X : St → Prop} (h : σ = σ') : treeK P T ops t σ X = treeK P T ops t σ' X := by rw [h]
@[congr] theorem takesK_cg {ops : Array Oper} {t : Tr} {l : List Nat} {σ σ' : St} {X : St → Prop} (h : σ = σ') : takesK P T ops t l σ X = takesK P T ops t l σ' X := by rw [h]
@[congr] theorem loadK_cg {s s' : Sto} {t : TypeId} {x x' : AV} {K : AV → Prop} (h : s = s') (h' : x = x') : loadK s T t x K = loadK s' T t x' K := by rw [h, h']
@[congr] theorem storeK_cg {s s' : Sto} {t : TypeId} {x x' y y' : AV} {K : Sto → Prop} (h : s = s') (h' : x = x') (h'' : y = y') : storeK T t x y s K = storeK T t x' y' s' K := by rw [h, h', h'']
@[congr] theorem faddrK_cg {t : TypeId} {f : Nat} {x x' : AV} {K : AV → Prop} (h : x = x') : faddrK T t f x K = faddrK T t f x' K := by rw [h]
@[congr] theorem iaddrK_cg {s s' : Sto} {t : TypeId} {x x' y y' : AV} {K : AV → Prop} (h : s = s') (h' : x = x') (h'' : y = y') : iaddrK s T t x y K = iaddrK s' T t x' y' K := by rw [h, h', h'']
@[congr] theorem binC_cg {op : BinOp} {t : TypeId} {yo : Operand} {x x' y y' : AV} {K : AV → Prop} (h : x = x') (h' : y = y') : binC T op t yo x y K = binC T op t yo x' y' K := by rw [h, h']
@[congr] theorem binK_cg {op : BinOp} {t : TypeId} {x x' y y' : AV} {K : AV → Prop} (h : x = x') (h' : y = y') : binK T op t x y K = binK T op t x' y' K := by rw [h, h']
@[congr] theorem unK_cg {op : UnOp} {x x' : AV} {K : AV → Prop} (h : x = x') : unK op x K = unK op x' K := by rw [h]
@[congr] theorem extK_cg {x x' : AV} {i : Nat} {K : AV → Prop} (h : x = x') : extK x i K = extK x' i K := by rw [h]
@[congr] theorem lenK_cg {s s' : Sto} {t : TypeId} {x x' : AV} {K : AV → Prop} (h : s = s') (h' : x = x') : lenK s T t x K = lenK s' T t x' K := by rw [h, h']
@[congr] theorem pickK_cg {q q' x x' y y' : AV} {K : AV → Prop} (h : q = q') (h' : x = x') (h'' : y = y') : pickK q x y K = pickK q' x' y' K := by rw [h, h', h'']
@[congr] theorem callQ_cg {f f' : AV} {xs xs' : List AV} {K : AV → Prop} (h : f = f') (h' : xs = xs') : callQ P f xs K = callQ P f' xs' K := by rw [h, h']
@[congr] theorem calleeK_cg {s s' : Sto} {f f' : AV} {xs xs' : List AV} {K : AV → Sto → Prop} (h : s = s') (h' : f = f') (h'' : xs = xs') : calleeK P s f xs K = calleeK P s' f' xs' K := by rw [h, h', h'']
@[congr] theorem sliceK_cg {t : TypeId} {len : Nat} {ps ps' : List (Nat × AV)} {s s' : Sto} {n : Nat} {K : AV → Sto → Nat → Prop} (h : ps = ps') (h' : s = s') : sliceK T t len ps s n K = sliceK T t len ps' s' n K := by rw [h, h']
@[congr] theorem rowK_cg {t : TypeId} {len : Nat} {ps ps' : List (Nat × AV)} {K : AV → Prop} (h : ps = ps') : rowK T t len ps K = rowK T t len ps' K := by rw [h]
@[congr] theorem structK_cg {t : TypeId} {ps ps' : List (Nat × AV)} {K : AV → Prop} (h : ps = ps') : structK T t ps K = structK T t ps' K := by rw [h]
@[congr] theorem allocK_cg {t : TypeId} {s s' : Sto} {n n' : Nat} {K : AV → Sto → Nat → Prop} (h : s = s') (h' : n = n') : allocK T t s n K = allocK T t s' n' K := by rw [h, h']
@[congr] theorem boxK_cg {x x' : AV} {s s' : Sto} {n n' : Nat} {K : AV → Sto → Nat → Prop} (h : s = s') (h' : n = n') (h'' : x = x') : boxK x s n K = boxK x' s' n' K := by rw [h, h', h'']
@[congr] theorem condK_cg {q q' : AV} {X Y : Prop} (h : q = q') : condK q X Y = condK q' X Y := by rw [h]
@[congr] theorem AWp_cg {code : Code} {σ σ' : St} {Q : Exit → St → Prop} (h : σ = σ') : AWp P T c ro code σ Q = AWp P T c ro code σ' Q := by rw [h]
@[congr] theorem LoopAt_cg {code : Code} {σ σ' : St} {Q : Exit → St → Prop} (h : σ = σ') : LoopAt P T c ro code σ Q = LoopAt P T c ro code σ' Q := by rw [h]
end Go.Abs
end

section
set_option linter.unusedSimpArgs false
set_option linter.unusedVariables false
set_option maxRecDepth 100000
namespace Go.Proofs.YthhjcfejgoddlaaGreatDoor
open Go Go.Abs

theorem limP_one {z : Int} (h : lenZ z ≤ 40) : limP z = (z, 0) := if_pos h
theorem limP_1 {z : Int} (h : (limP z).2 = 0) : (limP z).1 = z := by
  unfold limP at h ⊢
  split
  · rfl
  · rename_i g; rw [if_neg g] at h; exact absurd h (by decide)
theorem sumP_1 {p q : Int × Int} (h : (sumP p q).2 = 0) : p.2 = 0 ∧ q.2 = 0 ∧ (sumP p q).1 = p.1 + q.1 := by
  unfold sumP at h ⊢
  split
  · rename_i g; rw [if_pos g] at h; exact ⟨g.1, g.2, limP_1 h⟩
  · rename_i g; rw [if_neg g] at h; exact absurd h (by decide)
theorem timesP_1 {p q : Int × Int} (h : (timesP p q).2 = 0) : p.2 = 0 ∧ q.2 = 0 ∧ (timesP p q).1 = p.1 * q.1 := by
  unfold timesP at h ⊢
  split
  · rename_i g; rw [if_pos g] at h; exact ⟨g.1, g.2, limP_1 h⟩
  · rename_i g; rw [if_neg g] at h; exact absurd h (by decide)
theorem sumP_comm (p q : Int × Int) : sumP p q = sumP q p := by
  unfold sumP; simp only [And.comm, Int.add_comm]
theorem timesP_comm (p q : Int × Int) : timesP p q = timesP q p := by
  unfold timesP; simp only [And.comm, Int.mul_comm]
theorem sumP_assoc (p q r : Int × Int) : (sumP (sumP p q) r).2 = 0 ∧ (sumP p (sumP q r)).2 = 0 → (sumP (sumP p q) r).1 = (sumP p (sumP q r)).1 := by
  rintro ⟨h1, h2⟩
  obtain ⟨a1, a2, a3⟩ := sumP_1 h1
  obtain ⟨b1, b2, b3⟩ := sumP_1 a1
  obtain ⟨c1, c2, c3⟩ := sumP_1 h2
  obtain ⟨d1, d2, d3⟩ := sumP_1 c2
  rw [a3, b3, c3, d3, Int.add_assoc]
theorem timesP_assoc (p q r : Int × Int) : (timesP (timesP p q) r).2 = 0 ∧ (timesP p (timesP q r)).2 = 0 → (timesP (timesP p q) r).1 = (timesP p (timesP q r)).1 := by
  rintro ⟨h1, h2⟩
  obtain ⟨a1, a2, a3⟩ := timesP_1 h1
  obtain ⟨b1, b2, b3⟩ := timesP_1 a1
  obtain ⟨c1, c2, c3⟩ := timesP_1 h2
  obtain ⟨d1, d2, d3⟩ := timesP_1 c2
  rw [a3, b3, c3, d3, Int.mul_assoc]
theorem P_distr (p q r : Int × Int) : (timesP p (sumP q r)).2 = 0 ∧ (sumP (timesP p q) (timesP p r)).2 = 0 → (timesP p (sumP q r)).1 = (sumP (timesP p q) (timesP p r)).1 := by
  rintro ⟨h1, h2⟩
  obtain ⟨a1, a2, a3⟩ := timesP_1 h1
  obtain ⟨b1, b2, b3⟩ := sumP_1 a2
  obtain ⟨c1, c2, c3⟩ := sumP_1 h2
  obtain ⟨d1, d2, d3⟩ := timesP_1 c1
  obtain ⟨e1, e2, e3⟩ := timesP_1 c2
  rw [a3, b3, c3, d3, e3, Int.mul_add]
/-- agree, where it answers true. -/
theorem agree_T (p q : Int × Int) (hp : okP p) (hq : okP q) (h : p.2 = 0 ∧ q.2 = 0 → p.1 = q.1) : PC Tryz.prog 31 [GP p, GP q] (B true) := by
  have := agree_P p q hp hq
  rwa [decide_eq_true h] at this
theorem same_T (p q : Int × Int) (hp : okP p) (hq : okP q) (h : p = q) : PC Tryz.prog 26 [GP p, GP q] (B true) := by
  have := same_P p q hp hq
  rwa [decide_eq_true h] at this
/-- An integer, as a number. -/
theorem okI_ex {neg : Bool} {d : List Int} (h : okI neg d) : ∃ x : Int, Zr neg d = Z x ∧ lenZ x ≤ 40 :=
  ⟨_, (okI_Z h).1, (okI_Z h).2.1⟩
theorem LZ3 (na nb nc : Bool) (a b c : List Int) : LZ [(na, a), (nb, b), (nc, c)] = .dat (.lst [[.bool na, .lst (a.map eI)], [.bool nb, .lst (b.map eI)], [.bool nc, .lst (c.map eI)]]) := rfl
theorem LZ1 (na : Bool) (a : List Int) : LZ [(na, a)] = .dat (.lst [[.bool na, .lst (a.map eI)]]) := rfl
theorem rightZ3 (a b c : Int) (la : lenZ a ≤ 40) (lb : lenZ b ≤ 40) (lc : lenZ c ≤ 40) : PC Tryz.prog 17 [LZ [(decide (a < 0), D a.natAbs), (decide (b < 0), D b.natAbs), (decide (c < 0), D c.natAbs)]] (B true) := by
  have h := right_pc [(decide (a < 0), D a.natAbs), (decide (b < 0), D b.natAbs), (decide (c < 0), D c.natAbs)] (by simp)
  rwa [show (List.all [(decide (a < 0), D a.natAbs), (decide (b < 0), D b.natAbs), (decide (c < 0), D c.natAbs)] fun z => decide (okI z.1 z.2)) = true by
    simp only [List.all_cons, List.all_nil, decide_eq_true (okZ la), decide_eq_true (okZ lb), decide_eq_true (okZ lc)]; rfl] at h
/-- Three new boxes, made in any order, behind three that stand: the names turned. -/
def pm (x y z : Nat) (i : Nat) : Nat := if i < 3 then i else if i = 3 then x else if i = 4 then y else z
theorem pm_inj {x y z : Nat} (h : 3 ≤ x ∧ 3 ≤ y ∧ 3 ≤ z ∧ x ≠ y ∧ y ≠ z ∧ x ≠ z) : ∀ i j, i < 6 → j < 6 → pm x y z i = pm x y z j → i = j := by
  intro i j h1 h2 h3
  unfold pm at h3
  (repeat' split at h3) <;> omega
theorem pms (x y z : Nat) : pm x y z 0 = 0 ∧ pm x y z 1 = 1 ∧ pm x y z 2 = 2 ∧ pm x y z 3 = x ∧ pm x y z 4 = y ∧ pm x y z 5 = z := ⟨rfl, rfl, rfl, rfl, rfl, rfl⟩
def bI (x : Int) : Obj' := .box [B (decide (x < 0)), L (D x.natAbs)] false
def bP (p : Int × Int) : Obj' := .box [B (decide (p.1 < 0)), L (D p.1.natAbs), I p.2] false
def S10 (a b z : Int) : St := ⟨[(3, .ptr 0 0), (4, .ptr 1 0), (5, .ptr 2 0), (7, .ptr 3 0), (8, .ptr 4 0), (9, .ptr 5 0)], [(5, bP (z, 0)), (4, bP (b, 0)), (3, bP (a, 0)), (2, bI z), (1, bI b), (0, bI a)], 6, 0⟩
theorem sg_abs (x : Int) : sgI x = 0 ↔ x = 0 := by unfold sgI; (repeat' split) <;> omega
end Go.Proofs.YthhjcfejgoddlaaGreatDoor
end

section
set_option linter.unusedSimpArgs false
set_option linter.unusedVariables false
set_option maxRecDepth 100000
namespace Go.Proofs.YthhjcfejgoddlaaGreatDoor
open Go Go.Abs

/-- The cells of an integer and of a result, kept closed in a walk. -/
def zC (x : Int) : List AV := [B (decide (x < 0)), L (D x.natAbs)]
def pC (p : Int × Int) : List AV := [B (decide (p.1 < 0)), L (D p.1.natAbs), I p.2]
def zD (x : Int) : List DV := [.bool (decide (x < 0)), .lst ((D x.natAbs).map eI)]
def ppD (p : Int × Int) : List DV := [.bool (decide (p.1 < 0)), .lst ((D p.1.natAbs).map eI), .int .i64 p.2]
abbrev zA (x : Int) : AV := .agg (zC x)
abbrev pA (p : Int × Int) : AV := .agg (pC p)
theorem zC_len (x : Int) : (zC x).length = 2 := rfl
theorem pC_len (p : Int × Int) : (pC p).length = 3 := rfl
theorem zD_len (x : Int) : (zD x).length = 2 := rfl
theorem zC_map (x : Int) : (zD x).map .dat = zC x := rfl
theorem pC_map (p : Int × Int) : (ppD p).map .dat = pC p := rfl
theorem zC_toCs (x : Int) (s : Sto) : toCs s (zC x) = some (zD x, s) := rfl
theorem pC_toCs (p : Int × Int) (s : Sto) : toCs s (pC p) = some (ppD p, s) := rfl
theorem zC_dCs (x : Int) : dCs (zC x) = some (zD x) := rfl
theorem pC_dCs (p : Int × Int) : dCs (pC p) = some (ppD p) := rfl
theorem zC_dats0 (x : Int) : dats0 (zC x) = some (zD x) := rfl
theorem zC_take (x : Int) : List.take 2 (zC x) = zC x := rfl
theorem pC_take (p : Int × Int) : List.take 3 (pC p) = pC p := rfl
theorem pC_take2 (p : Int × Int) : List.take 2 (pC p) = zC p.1 := rfl
theorem pC_get2 (p : Int × Int) : (pC p)[2]? = some (I p.2) := rfl
theorem zC_get0 (x : Int) : (zC x)[0]? = some (B (decide (x < 0))) := rfl
theorem zC_get1 (x : Int) : (zC x)[1]? = some (L (D x.natAbs)) := rfl
theorem zC_drop (x : Int) : List.drop 0 (zC x) = zC x := rfl
theorem pC_drop (p : Int × Int) : List.drop 0 (pC p) = pC p := rfl
def zBx (x : Int) : Obj' := .box (zC x) false
def pBx (p : Int × Int) : Obj' := .box (pC p) false
def R10 (a b z : Int) : St := ⟨[(3, .ptr 0 0), (4, .ptr 1 0), (5, .ptr 2 0), (7, .ptr 3 0), (8, .ptr 4 0), (9, .ptr 5 0)], [(5, pBx (z, 0)), (4, pBx (b, 0)), (3, pBx (a, 0)), (2, zBx z), (1, zBx b), (0, zBx a)], 6, 0⟩
end Go.Proofs.YthhjcfejgoddlaaGreatDoor
end

section
set_option linter.unusedSimpArgs false
set_option linter.unusedVariables false
set_option maxRecDepth 100000
namespace Go.Proofs.YthhjcfejgoddlaaGreatDoor
open Go Go.Abs

/-! The contracts over closed cells. -/
theorem sumA (p q : Int × Int) (hp : okP p) (hq : okP q) : PC Tryz.prog 28 [.agg (pC p), .agg (pC q)] (.agg (pC (sumP p q))) := sum_P p q hp hq
theorem timesA (p q : Int × Int) (hp : okP p) (hq : okP q) : PC Tryz.prog 20 [.agg (pC p), .agg (pC q)] (.agg (pC (timesP p q))) := times_P p q hp hq
theorem valA (x : Int) : PC Tryz.prog 21 [.agg (zC x)] (.agg (pC (x, 0))) := valP x
theorem gotA (x e : Int) : PC Tryz.prog 24 [.agg (zC x), I e] (.agg (pC (x, e))) := gotP (x, e)
theorem agreeA (p q : Int × Int) (hp : okP p) (hq : okP q) (h : p.2 = 0 ∧ q.2 = 0 → p.1 = q.1) : PC Tryz.prog 31 [.agg (pC p), .agg (pC q)] (B true) := agree_T p q hp hq h
theorem sameA (p q : Int × Int) (hp : okP p) (hq : okP q) (h : p = q) : PC Tryz.prog 26 [.agg (pC p), .agg (pC q)] (B true) := same_T p q hp hq h
theorem ofA (n : Int) (h0 : -9223372036854775808 ≤ n) (h1 : n ≤ 9223372036854775807) : PC Tryz.prog 27 [I n] (.agg (zC n)) := of_pc n h0 h1
theorem cmpA (x y : Int) (lx : lenZ x ≤ 40) (ly : lenZ y ≤ 40) : PC Tryz.prog 23 [.agg (zC x), .agg (zC y)] (I (cmpI x y)) := Compare_Z x y (Nat.le_trans lx (by decide)) (Nat.le_trans ly (by decide))
theorem rsameA (x y : Int) (lx : lenZ x ≤ 40) (ly : lenZ y ≤ 40) : PC Tryz.prog 36 [.agg (zC x), .agg (zC y)] (B (decide (x = y))) := Same_Z x y (Nat.le_trans lx (by decide)) (Nat.le_trans ly (by decide))
theorem signA (x : Int) : PC Tryz.prog 18 [.agg (zC x)] (I (sgI x)) := Sign_Z x
theorem smallerA (x y : Int) (lx : lenZ x ≤ 40) (ly : lenZ y ≤ 40) : PC Tryz.prog 35 [.agg (zC x), .agg (zC y)] (B (decide (x.natAbs < y.natAbs))) := smaller_Z x y (Nat.le_trans lx (by decide)) (Nat.le_trans ly (by decide))
theorem limR_A (z : Int) : limR z = .tup [.agg (zC (limP z).1), I (limP z).2] := limR_P z
theorem subA (x y : Int) (lx : lenZ x ≤ 40) (ly : lenZ y ≤ 40) : PC Tryz.prog 37 [.agg (zC x), .agg (zC y)] (.tup [.agg (zC (limP (x - y)).1), I (limP (x - y)).2]) := by
  have := Sub_ok x y lx ly
  rwa [limR_A] at this
theorem negA (x : Int) (lx : lenZ x ≤ 40) : PC Tryz.prog 43 [.agg (zC x)] (.tup [.agg (zC (-x)), I 0]) := Neg_ok x lx
def divP (x y : Int) : Int × Int := if y = 0 then (0, 11) else (x.fdiv y, 0)
def modP (x y : Int) : Int × Int := if y = 0 then (0, 11) else (x.fmod y, 0)
theorem fmod_len {x y : Int} (hy : y ≠ 0) (ly : lenZ y ≤ 40) : lenZ (x.fmod y) ≤ 40 :=
  Nat.le_trans (lenZ_le (by rw [Int.fmod_def]; exact Nat.le_of_lt (fmod_small _ _ hy))) ly
theorem fdiv_len {x y : Int} (lx : lenZ x ≤ 40) : lenZ (x.fdiv y) ≤ 40 := Nat.le_trans (lenZ_le (fdiv_small _ _)) lx
theorem divA (x y : Int) (lx : lenZ x ≤ 40) (ly : lenZ y ≤ 40) : PC Tryz.prog 22 [.agg (zC x), .agg (zC y)] (.tup [.agg (zC (divP x y).1), I (divP x y).2]) := by
  unfold divP
  by_cases hy : y = 0
  · subst hy
    rw [if_pos rfl]
    have := Div_zero x lx
    rwa [← Z_zero] at this
  · rw [if_neg hy]
    have := Div_ok x y hy lx ly
    rwa [limR_A, limP_one (fdiv_len lx)] at this
theorem modA (x y : Int) (lx : lenZ x ≤ 40) (ly : lenZ y ≤ 40) : PC Tryz.prog 34 [.agg (zC x), .agg (zC y)] (.tup [.agg (zC (modP x y).1), I (modP x y).2]) := by
  unfold modP
  by_cases hy : y = 0
  · subst hy
    rw [if_pos rfl]
    have := Mod_zero x lx
    rwa [← Z_zero] at this
  · rw [if_neg hy]
    have := Mod_ok x y hy lx ly
    rwa [limR_A, limP_one (fmod_len hy ly)] at this
theorem divP_ok {x y : Int} (lx : lenZ x ≤ 40) : lenZ (divP x y).1 ≤ 40 := by unfold divP; split; exact lenZ_0; exact fdiv_len lx
theorem modP_ok {x y : Int} (ly : lenZ y ≤ 40) : lenZ (modP x y).1 ≤ 40 := by
  unfold modP; split
  · exact lenZ_0
  · rename_i h; exact fmod_len h ly
/-- What right says of numbers. -/
theorem right3A (a b c : Int) (la : lenZ a ≤ 40) (lb : lenZ b ≤ 40) (lc : lenZ c ≤ 40) : PC Tryz.prog 17 [.dat (.lst [zD a, zD b, zD c])] (B true) := rightZ3 a b c la lb lc
theorem right_bad3 (na nb nc : Bool) (a b c : List Int) (h : ¬ (okI na a ∧ okI nb b ∧ okI nc c)) : PC Tryz.prog 17 [.dat (.lst [[.bool na, .lst (a.map eI)], [.bool nb, .lst (b.map eI)], [.bool nc, .lst (c.map eI)]])] (B false) := by
  have hr := right_pc [(na, a), (nb, b), (nc, c)] (by simp)
  rwa [show (List.all [(na, a), (nb, b), (nc, c)] fun z => decide (okI z.1 z.2)) = false by
    simp only [List.all_cons, List.all_nil, Bool.and_true, ← Bool.decide_and]; exact decide_eq_false h] at hr
theorem limP_ok1 (z : Int) : lenZ (limP z).1 ≤ 40 := limP_ok z
end Go.Proofs.YthhjcfejgoddlaaGreatDoor
end

section
namespace Go.Proofs.YthhjcfejgoddlaaGreatDoor
open Go Go.Abs
theorem pC_drop3 (p : Int × Int) : List.drop 3 (pC p) = [] := rfl
theorem zC_drop2 (x : Int) : List.drop 2 (zC x) = [] := rfl
end Go.Proofs.YthhjcfejgoddlaaGreatDoor
end

section
/- Drawn regions, one operation at a time. -/
namespace Go.Abs
variable {P : Program} {T : Tab}
theorem planK_step {ops : Array Oper} {i : Nat} {l : List Pl} {σ : St} {X : St → Prop} (h : ∀ K : St → Prop, (∀ σ', planK P T ops l σ' X → K σ') → takeQ P T ops i σ K) : planK P T ops (.take i :: l) σ X := h _ (fun _ h => h)
theorem planK_one {ops : Array Oper} {i : Nat} {l : List Pl} {σ : St} {X : St → Prop} (h : ∀ K : St → Prop, (∀ σ', planK P T ops l σ' X → K σ') → opQ P T ops i σ K) : planK P T ops (.grp [i] :: l) σ X := by
  rw [plan_one]; exact h _ (fun _ h => h)
theorem planK_end {ops : Array Oper} {σ : St} {X : St → Prop} (h : X σ) : planK P T ops [] σ X := h
/-! Which operations wait for one, reckoned in one go. -/
def wstep (ops : Array Oper) (i : Nat) (r : List Bool) (k : Nat) : Bool :=
  match ops[k]? with
  | some o => o.after.any fun e => Region.binds .any e && (Nat.beq e.on i || r.getD e.on false)
  | none => false
def wl (ops : Array Oper) (i : Nat) : Nat → List Bool
  | 0 => []
  | k + 1 => (fun r => r ++ [wstep ops i r k]) (wl ops i k)
theorem wl_len (ops : Array Oper) (i : Nat) : ∀ k, (wl ops i k).length = k
  | 0 => rfl
  | k + 1 => by simp [wl, wl_len ops i k]
theorem waits_mono {ops : Array Oper} : ∀ {f g : Nat} {j i : Nat}, f ≤ g → waits ops f j i = true → waits ops g j i = true
  | 0, _, j, i, _, h => by simp [waits] at h
  | f + 1, 0, j, i, hg, h => by omega
  | f + 1, g + 1, j, i, hg, h => by
    unfold waits at h ⊢
    split at h
    · rename_i oj hj
      obtain ⟨e, he, hb⟩ := Array.any_eq_true'.1 h
      refine Array.any_eq_true'.2 ⟨e, he, ?_⟩
      simp only [Bool.and_eq_true, Bool.or_eq_true] at hb ⊢
      exact ⟨hb.1, hb.2.imp id (waits_mono (by omega))⟩
    · cases h
theorem wl_ok {ops : Array Oper} {i : Nat} : ∀ k j, (wl ops i k).getD j false = true → waits ops (j + 1) j i = true
  | 0, j, h => by simp [wl] at h
  | k + 1, j, h => by
    have hl := wl_len ops i k
    rw [show wl ops i (k + 1) = wl ops i k ++ [wstep ops i (wl ops i k) k] from rfl] at h
    rcases Nat.lt_trichotomy j k with g | g | g
    · refine wl_ok k j ?_
      simp only [List.getD, List.getElem?_append_left (show j < (wl ops i k).length by omega)] at h ⊢
      exact h
    · subst g
      simp only [List.getD, List.getElem?_append_right (show (wl ops i j).length ≤ j by omega), hl, Nat.sub_self, List.getElem?_cons_zero, Option.getD_some] at h
      unfold wstep at h
      unfold waits
      split at h
      · rename_i oj hj
        obtain ⟨e, he, hb⟩ := Array.any_eq_true'.1 h
        rw [hj]
        refine Array.any_eq_true'.2 ⟨e, he, ?_⟩
        simp only [Bool.and_eq_true, Bool.or_eq_true] at hb ⊢
        refine ⟨hb.1, hb.2.imp id fun h3 => ?_⟩
        have hlt : e.on < j := by
          rcases Nat.lt_or_ge e.on j with g | g
          · exact g
          · rw [List.getD, List.getElem?_eq_none (by omega)] at h3; cases h3
        exact waits_mono (by omega) (wl_ok j e.on h3)
      · cases h
    · rw [List.getD, List.getElem?_eq_none (by simp; omega)] at h; cases h
def takeOk2 (ops : Array Oper) (listed : Array Bool) (i : Nat) : Bool :=
  match ops[i]? with
  | none => false
  | some oi => quietB oi.op && (Region.ready .any ops listed).contains i && (fun r => (List.range ops.size).all fun j => Nat.beq j i || listed.getD j true || (r.getD j false || match ops[j]? with
    | some oj => oi.apart ops oj && (sfree oi.op || quietB oj.op || newB oj.op)
    | none => true)) (wl ops i ops.size)
theorem takeOk_of {ops : Array Oper} {listed : Array Bool} {i : Nat} (h : takeOk2 ops listed i = true) : takeOk ops listed i = true := by
  unfold takeOk2 at h
  unfold takeOk
  cases hi : ops[i]? with
  | none => rw [hi] at h; exact h
  | some oi =>
    rw [hi] at h
    simp only [Bool.and_eq_true, List.all_eq_true, List.mem_range] at h ⊢
    refine ⟨h.1, fun j hj => ?_⟩
    have h0 := h.2 j hj
    rw [Bool.or_eq_true] at h0 ⊢
    rcases h0 with h1 | h1
    · exact .inl h1
    · right
      rw [Bool.or_eq_true] at h1
      rw [Array.getElem?_eq_getElem hj] at h1 ⊢
      simp only at h1 ⊢
      rcases h1 with h1 | h1
      · rw [waits_mono (show j + 1 ≤ ops.size by omega) (wl_ok _ _ h1), Bool.true_or]
      · rw [h1, Bool.or_true]
def planOk2 (ops : Array Oper) : List Pl → Array Bool → Bool
  | [], listed => (Region.ready .any ops listed).isEmpty
  | .take i :: l, listed => takeOk2 ops listed i && planOk2 ops l (listed.setIfInBounds i true)
  | .grp g :: l, listed => permOk ops g.length listed g && planOk2 ops l (g.foldl (fun a i => a.setIfInBounds i true) listed)
theorem planOk_of {ops : Array Oper} : ∀ {l : List Pl} {listed : Array Bool}, planOk2 ops l listed = true → planOk ops l listed = true
  | [], _, h => h
  | .take i :: l, listed, h => by
    simp only [planOk2, planOk, Bool.and_eq_true] at h ⊢
    exact ⟨takeOk_of h.1, planOk_of h.2⟩
  | .grp g :: l, listed, h => by
    simp only [planOk2, planOk, Bool.and_eq_true] at h ⊢
    exact ⟨h.1, planOk_of h.2⟩
def plansOk2 (ops : Array Oper) (l : List Pl) : Bool := Nat.beq (lens l) ops.size && planOk2 ops l (Array.replicate ops.size false)
theorem AWp.draw2 {c : Ctx} {ro : Option Nat} {id : Nat} {ops : Array Oper} {σ : St} {Q : Exit → St → Prop} (l : List Pl) (hm : P.follows .mixedOrders = true) (hp : plansOk2 ops l = true) (hok : ops.toList.all (dstOk c.N) = true)
    (h : planK P T ops l σ fun σ' => Q .normal σ') : AWp P T c ro (.region id ops true) σ Q :=
  AWp.draw l hm (by
    unfold plansOk2 at hp
    unfold plansOk
    rw [Bool.and_eq_true] at hp ⊢
    exact ⟨hp.1, planOk_of hp.2⟩) hok h
end Go.Abs
end

section
set_option linter.unusedSimpArgs false
set_option linter.unusedVariables false
set_option maxRecDepth 100000
namespace Go.Proofs.YthhjcfejgoddlaaGreatDoor
open Go Go.Abs
attribute [local go_sem] wrap64 Int.tdiv_eq_ediv_of_nonneg Int.tmod_eq_emod_of_nonneg eq_self Bool.false_eq_true Bool.true_eq_false Bool.not_true Bool.not_false
attribute [local go_sem_proc] Nat.reduceAdd Nat.reduceMul Nat.reduceEqDiff Nat.reduceLT Nat.reduceLeDiff Int.reduceEq Int.reduceNeg Int.reduceToNat reduceCtorEq Int.reduceBNe Int.reduceBEq

def F113 (xs : List Int) (m : Nat) : St := ⟨[(0, L xs), (3, I m)], [], 0, 0⟩
theorem tr_take {xs : List Int} {m : Nat} (h : m ≤ xs.length) (h2 : tr (xs.take m) = tr xs) (h3 : m = 0 ∨ xs.getD (m - 1) 0 ≠ 0) : tr xs = xs.take m := by
  rcases h3 with h3 | h3
  · subst h3; rw [← h2]; rfl
  · rcases Nat.eq_zero_or_pos m with h0 | h0
    · subst h0; rw [← h2]; rfl
    · rw [← h2, show m = m - 1 + 1 by omega, take_last (by omega), tr_snoc_ne _ h3]
set_option maxHeartbeats 1000000 in
theorem shorn_pc (xs : List Int) (lx : xs.length ≤ 1000000) : PC Tryz.prog 113 [L xs] (L (tr xs)) := by
  refine PCr.pc (PCr.of tab_ok Tryz.func113 rfl rfl rfl fun c hc hm => ?_)
  rw [show Tryz.f113.ntmps = _ from Tryz.ntmps113] at hc
  simp only [Tryz.f113]
  repeat' first | (refine AWp.seq fun K hK => ?_) | ((first | refine AWp.region (by rw [hc]; rfl) ?_ | refine AWp.skip ?_ | refine AWp.exit ?_ | refine AWp.label ?_ | refine AWp.ret ?_ | refine appK_g ?_); simp -implicitDefEqProofs (maxSteps := 1000000) (disch := omega) only [go_sem, ↓reduceIte]) | ((first | refine hK _ ?_ | (clear hK; first | refine hK _ ?_ | (clear hK; first | refine hK _ ?_ | (clear hK; refine hK _ ?_)))); clear hK) | (refine AWp.cond ?_; simp -implicitDefEqProofs (maxSteps := 1000000) (disch := omega) only [go_sem, ↓reduceIte]; try (refine ⟨fun hlt => ?_, fun hlt => ?_⟩ <;> (try simp only [cla, clb, ne_eq, reduceCtorEq] at hlt) <;> (try exact hlt.elim))) | (refine AWp.block ?_) | ((first | refine gdO_split (fun hlt => ?_) (fun hlt => ?_) | refine tkO_split (fun hlt => ?_) (fun hlt => ?_) | refine opO_split (fun hlt => ?_) (fun hlt => ?_)) <;> have hgd := hlt <;> (try simp only [cla, clb, ne_eq, cld] at hlt) <;> (simp -implicitDefEqProofs (maxSteps := 1000000) (disch := omega) only [go_sem, ↓reduceIte, hgd]) <;> clear hgd) | (with_reducible refine And.intro ?_ ?_; · first | omega | assumption | exact ⟨_, _, rfl, rfl⟩) | fail
  refine AWp.loopInv (F113 xs) (fun m => m) (fun m => m ≤ xs.length ∧ tr (xs.take m) = tr xs) xs.length (by simp) (Sub.of0 hm id rfl ?_ ?_ (fun _ _ _ _ h => h)) ?_
  all_goals (try dsimp only)
  all_goals (first | omega | (simp -implicitDefEqProofs (maxSteps := 1000000) (disch := omega) only [F113, id, go_sem, Nat.blt_eq, Nat.reduceAdd, Nat.reduceSub, Nat.reduceEqDiff, Nat.reduceLT, ↓reduceIte, and_true, true_and, AV.dat.injEq, DV.int.injEq, DV.bool.injEq, DV.lst.injEq, eq_self_iff_true]; first | done | omega | (simp; done) | (simp; omega)) | (simp; done) | (simp; omega) | skip)
  rintro m ⟨h1, h2⟩ ih
  simp only [F113]
  have hl : (xs.take m).length = m := by simp; omega
  repeat' first | (refine AWp.seq fun K hK => ?_) | ((first | refine AWp.region (by rw [hc]; rfl) ?_ | refine AWp.skip ?_ | refine AWp.exit ?_ | refine AWp.label ?_ | refine AWp.ret ?_ | refine appK_g ?_); simp -implicitDefEqProofs (maxSteps := 1000000) (disch := omega) only [go_sem, ↓reduceIte]) | ((first | refine hK _ ?_ | (clear hK; first | refine hK _ ?_ | (clear hK; first | refine hK _ ?_ | (clear hK; refine hK _ ?_)))); clear hK) | (refine AWp.cond ?_; simp -implicitDefEqProofs (maxSteps := 1000000) (disch := omega) only [go_sem, ↓reduceIte]; try (refine ⟨fun hlt => ?_, fun hlt => ?_⟩ <;> (try simp only [cla, clb, ne_eq, reduceCtorEq] at hlt) <;> (try exact hlt.elim))) | (refine AWp.block ?_) | ((first | refine gdO_split (fun hlt => ?_) (fun hlt => ?_) | refine tkO_split (fun hlt => ?_) (fun hlt => ?_) | refine opO_split (fun hlt => ?_) (fun hlt => ?_)) <;> have hgd := hlt <;> (try simp only [cla, clb, ne_eq, cld] at hlt) <;> (simp -implicitDefEqProofs (maxSteps := 1000000) (disch := omega) only [go_sem, ↓reduceIte, hgd]) <;> clear hgd) | (with_reducible refine And.intro ?_ ?_; · first | omega | assumption | exact ⟨_, _, rfl, rfl⟩) | fail
  case refine_3.refine_1.refine_2.refine_2.refine_1 =>
    refine ih (m - 1) _ ⟨by omega, ?_⟩ (by omega) (Sub.of0 hm id rfl ?_ ?_ (fun _ _ _ _ h => h))
    · rw [← h2, show List.take m xs = List.take (m - 1) xs ++ [xs.getD (m - 1) 0] by rw [← take_last (by omega)]; congr 1; omega, hlt, tr_snoc]
    all_goals (try dsimp only)
    all_goals (first | omega | (simp -implicitDefEqProofs (maxSteps := 1000000) (disch := omega) only [F113, id, go_sem, Nat.blt_eq, Nat.reduceAdd, Nat.reduceSub, Nat.reduceEqDiff, Nat.reduceLT, ↓reduceIte, and_true, true_and, AV.dat.injEq, DV.int.injEq, DV.bool.injEq, DV.lst.injEq, eq_self_iff_true]; first | done | omega | (simp; done) | (simp; omega)) | (simp; done) | (simp; omega) | skip)
  all_goals
    have ht := tr_take h1 h2 (by first | exact .inr (by assumption) | exact .inl (by omega))
    refine ⟨fun h => ?_, fun h => ⟨by omega, ?_⟩⟩
    all_goals
      first | (refine hK _ ?_; clear hK) | (clear hK; refine hK _ ?_; clear hK) | (clear hK; clear hK; refine hK _ ?_; clear hK) | (clear hK; clear hK; clear hK; refine hK _ ?_; clear hK)
      repeat' first | (refine AWp.seq fun K hK => ?_) | ((first | refine AWp.region (by rw [hc]; rfl) ?_ | refine AWp.skip ?_ | refine AWp.exit ?_ | refine AWp.label ?_ | refine AWp.ret ?_ | refine appK_g ?_); simp -implicitDefEqProofs (maxSteps := 1000000) (disch := omega) only [go_sem, ↓reduceIte]) | ((first | refine hK _ ?_ | (clear hK; first | refine hK _ ?_ | (clear hK; first | refine hK _ ?_ | (clear hK; refine hK _ ?_)))); clear hK) | (refine AWp.cond ?_; simp -implicitDefEqProofs (maxSteps := 1000000) (disch := omega) only [go_sem, ↓reduceIte]; try (refine ⟨fun hlt => ?_, fun hlt => ?_⟩ <;> (try simp only [cla, clb, ne_eq, reduceCtorEq] at hlt) <;> (try exact hlt.elim))) | (refine AWp.block ?_) | ((first | refine gdO_split (fun hlt => ?_) (fun hlt => ?_) | refine tkO_split (fun hlt => ?_) (fun hlt => ?_) | refine opO_split (fun hlt => ?_) (fun hlt => ?_)) <;> have hgd := hlt <;> (try simp only [cla, clb, ne_eq, cld] at hlt) <;> (simp -implicitDefEqProofs (maxSteps := 1000000) (disch := omega) only [go_sem, ↓reduceIte, hgd]) <;> clear hgd) | (with_reducible refine And.intro ?_ ?_; · first | omega | assumption | exact ⟨_, _, rfl, rfl⟩) | fail
    · have h3 : List.take m xs = [] := by simpa using h
      rw [ht, h3]; rfl
    · rw [ht]
theorem made_pc (neg : Bool) (xs : List Int) (lx : xs.length ≤ 1000000) : PC Tryz.prog 100 [B neg, L xs] (if (tr xs).length ≤ 40 then .tup [Zr (neg && decide (0 < (tr xs).length)) (tr xs), I 0] else .tup [Zr false [], I 2]) := by
  have h := shorn_pc xs lx
  by_cases hl : (tr xs).length ≤ 40
  · rw [if_pos hl]
    cases neg
    all_goals
      refine PCr.pc (PCr.of tab_ok Tryz.func100 rfl rfl rfl fun c hc hm => ?_)
      rw [show Tryz.f100.ntmps = _ from Tryz.ntmps100] at hc
      simp only [Tryz.f100]
      repeat' first | (exact absurd hlt (by decide)) | (refine AWp.seq fun K hK => ?_) | ((first | refine AWp.region (by rw [hc]; rfl) ?_ | refine AWp.skip ?_ | refine AWp.exit ?_ | refine AWp.label ?_ | refine AWp.ret ?_ | refine appK_g ?_); simp -implicitDefEqProofs (maxSteps := 1000000) (disch := omega) only [go_sem, ↓reduceIte]) | ((first | refine hK _ ?_ | (clear hK; first | refine hK _ ?_ | (clear hK; first | refine hK _ ?_ | (clear hK; refine hK _ ?_)))); clear hK) | (refine AWp.cond ?_; simp -implicitDefEqProofs (maxSteps := 1000000) (disch := omega) only [go_sem, ↓reduceIte]; try (refine ⟨fun hlt => ?_, fun hlt => ?_⟩ <;> (try simp only [cla, clb, ne_eq, reduceCtorEq] at hlt) <;> (try exact hlt.elim))) | (refine AWp.block ?_) | ((first | refine gdO_split (fun hlt => ?_) (fun hlt => ?_) | refine tkO_split (fun hlt => ?_) (fun hlt => ?_) | refine opO_split (fun hlt => ?_) (fun hlt => ?_)) <;> have hgd := hlt <;> (try simp only [cla, clb, ne_eq, cld] at hlt) <;> (simp -implicitDefEqProofs (maxSteps := 1000000) (disch := omega) only [go_sem, ↓reduceIte, hgd]) <;> clear hgd) | (with_reducible refine And.intro ?_ ?_; · first | omega | assumption | exact ⟨_, _, rfl, rfl⟩) | ((first | refine ⟨_, h, ?_⟩); simp -implicitDefEqProofs (maxSteps := 1000000) (disch := omega) only [go_sem, ↓reduceIte]) | fail
      all_goals first | (exfalso; omega) | rfl | (rw [Bool.true_and, show decide (0 < ((tr xs).length : Int)) = decide (0 < (tr xs).length) by rw [decide_eq_decide]; omega])
  · rw [if_neg hl]
    refine PCr.pc (PCr.of tab_ok Tryz.func100 rfl rfl rfl fun c hc hm => ?_)
    rw [show Tryz.f100.ntmps = _ from Tryz.ntmps100] at hc
    simp only [Tryz.f100]
    repeat' first | (exact absurd hlt (by decide)) | (refine AWp.seq fun K hK => ?_) | ((first | refine AWp.region (by rw [hc]; rfl) ?_ | refine AWp.skip ?_ | refine AWp.exit ?_ | refine AWp.label ?_ | refine AWp.ret ?_ | refine appK_g ?_); simp -implicitDefEqProofs (maxSteps := 1000000) (disch := omega) only [go_sem, ↓reduceIte]) | ((first | refine hK _ ?_ | (clear hK; first | refine hK _ ?_ | (clear hK; first | refine hK _ ?_ | (clear hK; refine hK _ ?_)))); clear hK) | (refine AWp.cond ?_; simp -implicitDefEqProofs (maxSteps := 1000000) (disch := omega) only [go_sem, ↓reduceIte]; try (refine ⟨fun hlt => ?_, fun hlt => ?_⟩ <;> (try simp only [cla, clb, ne_eq, reduceCtorEq] at hlt) <;> (try exact hlt.elim))) | (refine AWp.block ?_) | ((first | refine gdO_split (fun hlt => ?_) (fun hlt => ?_) | refine tkO_split (fun hlt => ?_) (fun hlt => ?_) | refine opO_split (fun hlt => ?_) (fun hlt => ?_)) <;> have hgd := hlt <;> (try simp only [cla, clb, ne_eq, cld] at hlt) <;> (simp -implicitDefEqProofs (maxSteps := 1000000) (disch := omega) only [go_sem, ↓reduceIte, hgd]) <;> clear hgd) | (with_reducible refine And.intro ?_ ?_; · first | omega | assumption | exact ⟨_, _, rfl, rfl⟩) | ((first | refine ⟨_, h, ?_⟩); simp -implicitDefEqProofs (maxSteps := 1000000) (disch := omega) only [go_sem, ↓reduceIte]) | fail
    all_goals first | (exfalso; omega) | rfl
theorem Are_pc (na nb : Bool) (a b : List Int) : PC Tryz.prog 99 [Zr na a, Zr nb b] (B (decide (okI na a ∧ okI nb b))) := by
  have h1 := Is_pc na a
  have h2 := Is_pc nb b
  rw [Bool.decide_and]
  generalize decide (okI na a) = p at *
  generalize decide (okI nb b) = q at *
  cases p
  all_goals
    refine PCr.pc (PCr.of tab_ok Tryz.func99 rfl rfl rfl fun c hc hm => ?_)
    rw [show Tryz.f99.ntmps = _ from Tryz.ntmps99] at hc
    simp only [Tryz.f99]
    repeat' first | (exact absurd hlt (by decide)) | (refine AWp.seq fun K hK => ?_) | ((first | refine AWp.region (by rw [hc]; rfl) ?_ | refine AWp.skip ?_ | refine AWp.exit ?_ | refine AWp.label ?_ | refine AWp.ret ?_ | refine appK_g ?_); simp -implicitDefEqProofs (maxSteps := 1000000) (disch := omega) only [go_sem, ↓reduceIte]) | ((first | refine hK _ ?_ | (clear hK; first | refine hK _ ?_ | (clear hK; first | refine hK _ ?_ | (clear hK; refine hK _ ?_)))); clear hK) | (refine AWp.cond ?_; simp -implicitDefEqProofs (maxSteps := 1000000) (disch := omega) only [go_sem, ↓reduceIte]; try (refine ⟨fun hlt => ?_, fun hlt => ?_⟩ <;> (try simp only [cla, clb, ne_eq, reduceCtorEq] at hlt) <;> (try exact hlt.elim))) | (refine AWp.block ?_) | ((first | refine gdO_split (fun hlt => ?_) (fun hlt => ?_) | refine tkO_split (fun hlt => ?_) (fun hlt => ?_) | refine opO_split (fun hlt => ?_) (fun hlt => ?_)) <;> have hgd := hlt <;> (try simp only [cla, clb, ne_eq, cld] at hlt) <;> (simp -implicitDefEqProofs (maxSteps := 1000000) (disch := omega) only [go_sem, ↓reduceIte, hgd]) <;> clear hgd) | (with_reducible refine And.intro ?_ ?_; · first | omega | assumption | exact ⟨_, _, rfl, rfl⟩) | ((first | refine ⟨_, h1, ?_⟩ | refine ⟨_, h2, ?_⟩); simp -implicitDefEqProofs (maxSteps := 1000000) (disch := omega) only [go_sem, ↓reduceIte]) | fail
    all_goals try rfl

def F101 (xs ys : List Int) : Nat × List Int × Int → St := fun ⟨i, out, carry⟩ =>
  ⟨[(0, L xs), (1, L ys), (5, gL 0 (out.map eI)), (6, I carry), (7, I i)], gS 3 1 0 (out.map eI) false [], 1, 0⟩
theorem atF_lt {xs : List Int} {i : Nat} (h : i < xs.length) : atF xs i = xs.getD i 0 := by unfold atF; rw [if_pos (by omega)]; rfl
theorem atF_ge {xs : List Int} {i : Nat} (h : xs.length ≤ i) : atF xs i = 0 := by unfold atF; rw [if_neg (by omega)]
set_option maxHeartbeats 4000000 in
theorem rsum_pc (xs ys : List Int) (hx : dig xs) (hy : dig ys) (lx : xs.length ≤ 100000) (ly : ys.length ≤ 100000) :
    PC Tryz.prog 101 [L xs, L ys] (L (tr (addF xs ys (max xs.length ys.length) 0 0))) := by
  have hlen : (addF xs ys (max xs.length ys.length) 0 0).length ≤ 1000000 := by
    have := (addF_val xs ys hx hy (max xs.length ys.length) 0 0 (Int.le_refl _) (by decide) (by omega) (by omega)).2.1
    omega
  have hsh := shorn_pc _ hlen
  refine PCr.pc (PCr.of tab_ok Tryz.func101 rfl rfl rfl fun c hc hm => ?_)
  rw [show Tryz.f101.ntmps = _ from Tryz.ntmps101] at hc
  simp only [Tryz.f101]
  generalize hn : max xs.length ys.length = n at *
  repeat' first | (refine AWp.seq fun K hK => ?_) | ((first | refine AWp.region (by rw [hc]; rfl) ?_ | refine AWp.skip ?_ | refine AWp.exit ?_ | refine AWp.label ?_ | refine AWp.ret ?_ | refine appK_g ?_); simp -implicitDefEqProofs (maxSteps := 1000000) (disch := omega) only [go_sem, ↓reduceIte]) | ((first | refine hK _ ?_ | (clear hK; first | refine hK _ ?_ | (clear hK; first | refine hK _ ?_ | (clear hK; refine hK _ ?_)))); clear hK) | (refine AWp.cond ?_; simp -implicitDefEqProofs (maxSteps := 1000000) (disch := omega) only [go_sem, ↓reduceIte]; try (refine ⟨fun hlt => ?_, fun hlt => ?_⟩ <;> (try simp only [cla, clb, ne_eq, reduceCtorEq] at hlt) <;> (try exact hlt.elim))) | (refine AWp.block ?_) | ((first | refine gdO_split (fun hlt => ?_) (fun hlt => ?_) | refine tkO_split (fun hlt => ?_) (fun hlt => ?_) | refine opO_split (fun hlt => ?_) (fun hlt => ?_)) <;> have hgd := hlt <;> (try simp only [cla, clb, ne_eq, cld] at hlt) <;> (simp -implicitDefEqProofs (maxSteps := 1000000) (disch := omega) only [go_sem, ↓reduceIte, hgd]) <;> clear hgd) | (with_reducible refine And.intro ?_ ?_; · first | omega | assumption | exact ⟨_, _, rfl, rfl⟩) | fail
  refine AWp.loopInv (F101 xs ys) (fun a => n - a.1) (fun a => a.1 ≤ n ∧ 0 ≤ a.2.2 ∧ a.2.2 ≤ 1 ∧ a.2.1.length = a.1 ∧ a.2.1 ++ addF xs ys (n - a.1) a.1 a.2.2 = addF xs ys n 0 0) (0, [], 0) (by simp) (Sub.of0 hm id rfl ?_ ?_ (fun _ _ _ _ h => h)) ?_
  all_goals (try dsimp only)
  all_goals (first | omega | (simp -implicitDefEqProofs (maxSteps := 1000000) (disch := omega) only [F101, hn, id, go_sem, Nat.blt_eq, Nat.reduceAdd, Nat.reduceSub, Nat.reduceEqDiff, Nat.reduceLT, ↓reduceIte, and_true, true_and, AV.dat.injEq, DV.int.injEq, DV.bool.injEq, DV.lst.injEq, eq_self_iff_true]; first | done | omega | (simp; done) | (simp; omega)) | (simp; done) | (simp; omega) | skip)
  rintro ⟨i, out, carry⟩ ⟨h1, h2, h3, h4, h5⟩ ih
  simp only at h1 h2 h3 h4 h5
  have a1 := atF_dig hx i
  have a2 := atF_dig hy i
  have d1 := dig_getD hx i
  have d2 := dig_getD hy i
  have hx2 : i = n → PC Tryz.prog 113 [.dat (.lst (out.map eI ++ [[.int .i64 carry]]))] (L (tr (addF xs ys n 0 0))) := fun e => by
    have e2 : addF xs ys n 0 0 = out ++ [carry] := by rw [← h5, e, Nat.sub_self]; rfl
    rw [e2] at hsh ⊢
    rwa [show L (out ++ [carry]) = .dat (.lst (out.map eI ++ [[.int .i64 carry]])) by simp [L, dL, eI]] at hsh
  have key : ∀ x : Int, x = atF xs i + atF ys i + carry → i < n → (out ++ [x % 1000000000]) ++ addF xs ys (n - (i + 1)) (i + 1) (x / 1000000000) = addF xs ys n 0 0 := fun x e hi => by
    rw [← h5, show n - i = (n - (i + 1)) + 1 by omega, e]; simp [addF]
  simp only [F101]
  repeat' first | (refine AWp.seq fun K hK => ?_) | ((first | refine AWp.region (by rw [hc]; rfl) ?_ | refine AWp.skip ?_ | refine AWp.exit ?_ | refine AWp.label ?_ | refine AWp.ret ?_ | refine appK_g ?_); simp -implicitDefEqProofs (maxSteps := 1000000) (disch := omega) only [go_sem, ↓reduceIte]) | ((first | refine hK _ ?_ | (clear hK; first | refine hK _ ?_ | (clear hK; first | refine hK _ ?_ | (clear hK; refine hK _ ?_)))); clear hK) | (refine AWp.cond ?_; simp -implicitDefEqProofs (maxSteps := 1000000) (disch := omega) only [go_sem, ↓reduceIte]; try (refine ⟨fun hlt => ?_, fun hlt => ?_⟩ <;> (try simp only [cla, clb, ne_eq, reduceCtorEq] at hlt) <;> (try exact hlt.elim))) | (refine AWp.block ?_) | ((first | refine gdO_split (fun hlt => ?_) (fun hlt => ?_) | refine tkO_split (fun hlt => ?_) (fun hlt => ?_) | refine opO_split (fun hlt => ?_) (fun hlt => ?_)) <;> have hgd := hlt <;> (try simp only [cla, clb, ne_eq, cld] at hlt) <;> (simp -implicitDefEqProofs (maxSteps := 1000000) (disch := omega) only [go_sem, ↓reduceIte, hgd]) <;> clear hgd) | (with_reducible refine And.intro ?_ ?_; · first | omega | assumption | exact ⟨_, _, rfl, rfl⟩) | ((first | refine ⟨_, hx2 (by omega), ?_⟩); simp -implicitDefEqProofs (maxSteps := 1000000) (disch := omega) only [go_sem, ↓reduceIte]) | fail
  · have e1 := atF_lt (xs := xs) (i := i) (by omega)
    have e2 := atF_lt (xs := ys) (i := i) (by omega)
    have hxx : (carry + xs.getD i 0 + ys.getD i 0) = atF xs i + atF ys i + carry := by omega
    refine ih (i + 1, out ++ [(carry + xs.getD i 0 + ys.getD i 0) % 1000000000], (carry + xs.getD i 0 + ys.getD i 0) / 1000000000) _ ⟨by simp only; omega, by simp only; omega, by simp only; omega, by simp only [List.length_append, List.length_cons, List.length_nil]; omega, key _ hxx (by omega)⟩ (by simp only; omega) (Sub.of0 hm (fun _ => 2) rfl ?_ ?_ ?_)
    all_goals (try dsimp only)
    all_goals (first | omega | (simp -implicitDefEqProofs (maxSteps := 1000000) (disch := omega) only [F101, id, go_sem, Nat.blt_eq, Nat.reduceAdd, Nat.reduceSub, Nat.reduceEqDiff, Nat.reduceLT, ↓reduceIte, and_true, true_and, AV.dat.injEq, DV.int.injEq, DV.bool.injEq, DV.lst.injEq, eq_self_iff_true]; first | done | omega | (simp; done) | (simp; omega)) | (simp; done) | (simp; omega) | skip)
  · have e1 := atF_lt (xs := xs) (i := i) (by omega)
    have e2 := atF_ge (xs := ys) (i := i) (by omega)
    have hxx : (carry + xs.getD i 0) = atF xs i + atF ys i + carry := by omega
    refine ih (i + 1, out ++ [(carry + xs.getD i 0) % 1000000000], (carry + xs.getD i 0) / 1000000000) _ ⟨by simp only; omega, by simp only; omega, by simp only; omega, by simp only [List.length_append, List.length_cons, List.length_nil]; omega, key _ hxx (by omega)⟩ (by simp only; omega) (Sub.of0 hm (fun _ => 2) rfl ?_ ?_ ?_)
    all_goals (try dsimp only)
    all_goals (first | omega | (simp -implicitDefEqProofs (maxSteps := 1000000) (disch := omega) only [F101, id, go_sem, Nat.blt_eq, Nat.reduceAdd, Nat.reduceSub, Nat.reduceEqDiff, Nat.reduceLT, ↓reduceIte, and_true, true_and, AV.dat.injEq, DV.int.injEq, DV.bool.injEq, DV.lst.injEq, eq_self_iff_true]; first | done | omega | (simp; done) | (simp; omega)) | (simp; done) | (simp; omega) | skip)
  · have e1 := atF_ge (xs := xs) (i := i) (by omega)
    have e2 := atF_lt (xs := ys) (i := i) (by omega)
    have hxx : (carry + ys.getD i 0) = atF xs i + atF ys i + carry := by omega
    refine ih (i + 1, out ++ [(carry + ys.getD i 0) % 1000000000], (carry + ys.getD i 0) / 1000000000) _ ⟨by simp only; omega, by simp only; omega, by simp only; omega, by simp only [List.length_append, List.length_cons, List.length_nil]; omega, key _ hxx (by omega)⟩ (by simp only; omega) (Sub.of0 hm (fun _ => 2) rfl ?_ ?_ ?_)
    all_goals (try dsimp only)
    all_goals (first | omega | (simp -implicitDefEqProofs (maxSteps := 1000000) (disch := omega) only [F101, id, go_sem, Nat.blt_eq, Nat.reduceAdd, Nat.reduceSub, Nat.reduceEqDiff, Nat.reduceLT, ↓reduceIte, and_true, true_and, AV.dat.injEq, DV.int.injEq, DV.bool.injEq, DV.lst.injEq, eq_self_iff_true]; first | done | omega | (simp; done) | (simp; omega)) | (simp; done) | (simp; omega) | skip)
  · have e1 := atF_ge (xs := xs) (i := i) (by omega)
    have e2 := atF_ge (xs := ys) (i := i) (by omega)
    have hxx : carry = atF xs i + atF ys i + carry := by omega
    refine ih (i + 1, out ++ [carry % 1000000000], carry / 1000000000) _ ⟨by simp only; omega, by simp only; omega, by simp only; omega, by simp only [List.length_append, List.length_cons, List.length_nil]; omega, key _ hxx (by omega)⟩ (by simp only; omega) (Sub.of0 hm (fun _ => 2) rfl ?_ ?_ ?_)
    all_goals (try dsimp only)
    all_goals (first | omega | (simp -implicitDefEqProofs (maxSteps := 1000000) (disch := omega) only [F101, id, go_sem, Nat.blt_eq, Nat.reduceAdd, Nat.reduceSub, Nat.reduceEqDiff, Nat.reduceLT, ↓reduceIte, and_true, true_and, AV.dat.injEq, DV.int.injEq, DV.bool.injEq, DV.lst.injEq, eq_self_iff_true]; first | done | omega | (simp; done) | (simp; omega)) | (simp; done) | (simp; omega) | skip)
  all_goals trace_state
end Go.Proofs.YthhjcfejgoddlaaGreatDoor
end

section
set_option linter.unusedSimpArgs false
set_option linter.unusedVariables false
set_option maxRecDepth 100000
namespace Go.Proofs.YthhjcfejgoddlaaGreatDoor
open Go Go.Abs
attribute [local go_sem] wrap64 Int.tdiv_eq_ediv_of_nonneg Int.tmod_eq_emod_of_nonneg eq_self Bool.false_eq_true Bool.true_eq_false Bool.not_true Bool.not_false
attribute [local go_sem_proc] Nat.reduceAdd Nat.reduceMul Nat.reduceEqDiff Nat.reduceLT Nat.reduceLeDiff Int.reduceEq Int.reduceNeg Int.reduceToNat reduceCtorEq Int.reduceBNe Int.reduceBEq

theorem rsum_D (m n : Nat) (lm : (D m).length ≤ 100000) (ln : (D n).length ≤ 100000) : PC Tryz.prog 101 [L (D m), L (D n)] (L (D (m + n))) := by
  have h := rsum_pc (D m) (D n) (dig_D m) (dig_D n) lm ln
  obtain ⟨g1, _, g3⟩ := add_D m n
  rwa [tr_D g1, g3, Int.toNat_natCast] at h
theorem made_D (neg : Bool) (n : Nat) (ln : (D n).length ≤ 1000000) : PC Tryz.prog 100 [B neg, L (D n)] (limR (sg neg n)) := by
  have h := made_pc neg (D n) ln
  rw [tr_D (dig_D n), val_D, Int.toNat_natCast] at h
  have e1 : lenZ (sg neg n) = (D n).length := by unfold lenZ; rw [sg_natAbs]
  have e2 : Zr (neg && decide (0 < (D n).length)) (D n) = Z (sg neg n) := by
    show _ = Zr (decide (sg neg n < 0)) (D (sg neg n).natAbs)
    rw [sg_natAbs]
    congr 1
    rw [show decide (0 < (D n).length) = decide (n ≠ 0) by rw [decide_eq_decide]; exact D_len_pos]
    unfold sg
    cases neg
    · simp
    · simp only [Bool.true_and, ↓reduceIte]; rw [decide_eq_decide]; omega
  unfold limR
  rw [e1, ← e2]; exact h
def F103 (xs ys : List Int) : Nat × List Int × Int → St := fun ⟨i, out, b⟩ => ⟨[(0, L xs), (1, L ys), (5, gL 0 (out.map eI)), (6, I b), (7, I i)], gS 3 1 0 (out.map eI) false [], 1, 0⟩
set_option maxHeartbeats 4000000 in
theorem rless_pc (xs ys : List Int) (hx : dig xs) (hy : dig ys) (lx : xs.length ≤ 100000) : PC Tryz.prog 103 [L xs, L ys] (L (tr (subF xs ys xs.length 0 0))) := by
  have hsh := shorn_pc (subF xs ys xs.length 0 0) (by rw [subF_length]; omega)
  refine PCr.pc (PCr.of tab_ok Tryz.func103 rfl rfl rfl fun c hc hm => ?_)
  rw [show Tryz.f103.ntmps = _ from Tryz.ntmps103] at hc
  simp only [Tryz.f103]
  repeat' first | (refine AWp.seq fun K hK => ?_) | ((first | refine AWp.region (by rw [hc]; rfl) ?_ | refine AWp.skip ?_ | refine AWp.exit ?_ | refine AWp.label ?_ | refine AWp.ret ?_ | refine appK_g ?_); simp -implicitDefEqProofs (maxSteps := 1000000) (disch := omega) only [go_sem, ↓reduceIte]) | ((first | refine hK _ ?_ | (clear hK; first | refine hK _ ?_ | (clear hK; first | refine hK _ ?_ | (clear hK; refine hK _ ?_)))); clear hK) | (refine AWp.cond ?_; simp -implicitDefEqProofs (maxSteps := 1000000) (disch := omega) only [go_sem, ↓reduceIte]; try (refine ⟨fun hlt => ?_, fun hlt => ?_⟩ <;> (try simp only [cla, clb, ne_eq, reduceCtorEq] at hlt) <;> (try exact hlt.elim))) | (refine AWp.block ?_) | ((first | refine gdO_split (fun hlt => ?_) (fun hlt => ?_) | refine tkO_split (fun hlt => ?_) (fun hlt => ?_) | refine opO_split (fun hlt => ?_) (fun hlt => ?_)) <;> have hgd := hlt <;> (try simp only [cla, clb, ne_eq, cld] at hlt) <;> (simp -implicitDefEqProofs (maxSteps := 1000000) (disch := omega) only [go_sem, ↓reduceIte, hgd]) <;> clear hgd) | (with_reducible refine And.intro ?_ ?_; · first | omega | assumption | exact ⟨_, _, rfl, rfl⟩) | fail
  refine AWp.loopInv (F103 xs ys) (fun a => xs.length - a.1) (fun a => a.1 ≤ xs.length ∧ 0 ≤ a.2.2 ∧ a.2.2 ≤ 1 ∧ a.2.1.length = a.1 ∧ a.2.1 ++ subF xs ys (xs.length - a.1) a.1 a.2.2 = subF xs ys xs.length 0 0) (0, [], 0) (by simp) (Sub.of0 hm id rfl ?_ ?_ (fun _ _ _ _ h => h)) ?_
  all_goals (try dsimp only)
  all_goals (first | omega | (simp -implicitDefEqProofs (maxSteps := 1000000) (disch := omega) only [F103, id, go_sem, Nat.blt_eq, Nat.reduceAdd, Nat.reduceSub, Nat.reduceEqDiff, Nat.reduceLT, ↓reduceIte, and_true, true_and, AV.dat.injEq, DV.int.injEq, DV.bool.injEq, DV.lst.injEq, eq_self_iff_true]; first | done | omega | (simp; done) | (simp; omega)) | (simp; done) | (simp; omega) | skip)
  rintro ⟨i, out, b⟩ ⟨h1, h2, h3, h4, h5⟩ ih
  simp only at h1 h2 h3 h4 h5
  have d1 := dig_getD hx i
  have d2 := dig_getD hy i
  have hx2 : i = xs.length → PC Tryz.prog 113 [L out] (L (tr (subF xs ys xs.length 0 0))) := fun e => by
    have e2 : subF xs ys xs.length 0 0 = out := by rw [← h5, e, Nat.sub_self]; simp [subF]
    rw [e2] at hsh ⊢; exact hsh
  have key : ∀ x : Int, x = xs.getD i 0 - atF ys i - b → i < xs.length → x < 0 → (out ++ [x + 1000000000]) ++ subF xs ys (xs.length - (i + 1)) (i + 1) 1 = subF xs ys xs.length 0 0 := fun x e hi hlt => by
    rw [← h5, show xs.length - i = (xs.length - (i + 1)) + 1 by omega]; rw [e] at hlt
    simp only [subF, if_pos hlt, e]; simp
  have key2 : ∀ x : Int, x = xs.getD i 0 - atF ys i - b → i < xs.length → 0 ≤ x → (out ++ [x]) ++ subF xs ys (xs.length - (i + 1)) (i + 1) 0 = subF xs ys xs.length 0 0 := fun x e hi hlt => by
    have hn : ¬ xs.getD i 0 - atF ys i - b < 0 := by omega
    rw [← h5, show xs.length - i = (xs.length - (i + 1)) + 1 by omega]
    simp only [subF, if_neg hn, e]; simp
  simp only [F103]
  repeat' first | (refine AWp.seq fun K hK => ?_) | ((first | refine AWp.region (by rw [hc]; rfl) ?_ | refine AWp.skip ?_ | refine AWp.exit ?_ | refine AWp.label ?_ | refine AWp.ret ?_ | refine appK_g ?_); simp -implicitDefEqProofs (maxSteps := 1000000) (disch := omega) only [go_sem, ↓reduceIte]) | ((first | refine hK _ ?_ | (clear hK; first | refine hK _ ?_ | (clear hK; first | refine hK _ ?_ | (clear hK; refine hK _ ?_)))); clear hK) | (refine AWp.cond ?_; simp -implicitDefEqProofs (maxSteps := 1000000) (disch := omega) only [go_sem, ↓reduceIte]; try (refine ⟨fun hlt => ?_, fun hlt => ?_⟩ <;> (try simp only [cla, clb, ne_eq, reduceCtorEq] at hlt) <;> (try exact hlt.elim))) | (refine AWp.block ?_) | ((first | refine gdO_split (fun hlt => ?_) (fun hlt => ?_) | refine tkO_split (fun hlt => ?_) (fun hlt => ?_) | refine opO_split (fun hlt => ?_) (fun hlt => ?_)) <;> have hgd := hlt <;> (try simp only [cla, clb, ne_eq, cld] at hlt) <;> (simp -implicitDefEqProofs (maxSteps := 1000000) (disch := omega) only [go_sem, ↓reduceIte, hgd]) <;> clear hgd) | (with_reducible refine And.intro ?_ ?_; · first | omega | assumption | exact ⟨_, _, rfl, rfl⟩) | (refine ⟨_, hx2 (by omega), ?_⟩; try simp -implicitDefEqProofs (maxSteps := 1000000) (disch := omega) only [go_sem, ↓reduceIte]) | fail
  · have e2 := atF_lt (xs := ys) (i := i) (by omega)
    have hxx : (xs.getD i 0 - b - ys.getD i 0) = xs.getD i 0 - atF ys i - b := by omega
    refine ih (i + 1, out ++ [(xs.getD i 0 - b - ys.getD i 0) + 1000000000], 1) _ ⟨by simp only; omega, by simp, by simp, by simp only [List.length_append, List.length_cons, List.length_nil]; omega, key _ hxx (by omega) (by omega)⟩ (by simp only; omega) (Sub.of0 hm (fun _ => 2) rfl ?_ ?_ ?_)
    all_goals (try dsimp only)
    all_goals (first | omega | (simp -implicitDefEqProofs (maxSteps := 1000000) (disch := omega) only [F103, id, go_sem, Nat.blt_eq, Nat.reduceAdd, Nat.reduceSub, Nat.reduceEqDiff, Nat.reduceLT, ↓reduceIte, and_true, true_and, AV.dat.injEq, DV.int.injEq, DV.bool.injEq, DV.lst.injEq, eq_self_iff_true]; first | done | omega | (simp; done) | (simp; omega)) | (simp; done) | (simp; omega) | skip)
  · have e2 := atF_lt (xs := ys) (i := i) (by omega)
    have hxx : (xs.getD i 0 - b - ys.getD i 0) = xs.getD i 0 - atF ys i - b := by omega
    refine ih (i + 1, out ++ [(xs.getD i 0 - b - ys.getD i 0)], 0) _ ⟨by simp only; omega, by simp, by simp, by simp only [List.length_append, List.length_cons, List.length_nil]; omega, key2 _ hxx (by omega) (by omega)⟩ (by simp only; omega) (Sub.of0 hm (fun _ => 2) rfl ?_ ?_ ?_)
    all_goals (try dsimp only)
    all_goals (first | omega | (simp -implicitDefEqProofs (maxSteps := 1000000) (disch := omega) only [F103, id, go_sem, Nat.blt_eq, Nat.reduceAdd, Nat.reduceSub, Nat.reduceEqDiff, Nat.reduceLT, ↓reduceIte, and_true, true_and, AV.dat.injEq, DV.int.injEq, DV.bool.injEq, DV.lst.injEq, eq_self_iff_true]; first | done | omega | (simp; done) | (simp; omega)) | (simp; done) | (simp; omega) | skip)
  · have e2 := atF_ge (xs := ys) (i := i) (by omega)
    have hxx : (xs.getD i 0 - b) = xs.getD i 0 - atF ys i - b := by omega
    refine ih (i + 1, out ++ [(xs.getD i 0 - b) + 1000000000], 1) _ ⟨by simp only; omega, by simp, by simp, by simp only [List.length_append, List.length_cons, List.length_nil]; omega, key _ hxx (by omega) (by omega)⟩ (by simp only; omega) (Sub.of0 hm (fun _ => 2) rfl ?_ ?_ ?_)
    all_goals (try dsimp only)
    all_goals (first | omega | (simp -implicitDefEqProofs (maxSteps := 1000000) (disch := omega) only [F103, id, go_sem, Nat.blt_eq, Nat.reduceAdd, Nat.reduceSub, Nat.reduceEqDiff, Nat.reduceLT, ↓reduceIte, and_true, true_and, AV.dat.injEq, DV.int.injEq, DV.bool.injEq, DV.lst.injEq, eq_self_iff_true]; first | done | omega | (simp; done) | (simp; omega)) | (simp; done) | (simp; omega) | skip)
  · have e2 := atF_ge (xs := ys) (i := i) (by omega)
    have hxx : (xs.getD i 0 - b) = xs.getD i 0 - atF ys i - b := by omega
    refine ih (i + 1, out ++ [(xs.getD i 0 - b)], 0) _ ⟨by simp only; omega, by simp, by simp, by simp only [List.length_append, List.length_cons, List.length_nil]; omega, key2 _ hxx (by omega) (by omega)⟩ (by simp only; omega) (Sub.of0 hm (fun _ => 2) rfl ?_ ?_ ?_)
    all_goals (try dsimp only)
    all_goals (first | omega | (simp -implicitDefEqProofs (maxSteps := 1000000) (disch := omega) only [F103, id, go_sem, Nat.blt_eq, Nat.reduceAdd, Nat.reduceSub, Nat.reduceEqDiff, Nat.reduceLT, ↓reduceIte, and_true, true_and, AV.dat.injEq, DV.int.injEq, DV.bool.injEq, DV.lst.injEq, eq_self_iff_true]; first | done | omega | (simp; done) | (simp; omega)) | (simp; done) | (simp; omega) | skip)
theorem rless_D (m n : Nat) (h : n ≤ m) (lm : (D m).length ≤ 100000) : PC Tryz.prog 103 [L (D m), L (D n)] (L (D (m - n))) := by
  rw [← sub_D h]; exact rless_pc _ _ (dig_D m) (dig_D n) lm
end Go.Proofs.YthhjcfejgoddlaaGreatDoor
end

section
set_option linter.unusedSimpArgs false
set_option linter.unusedVariables false
set_option maxRecDepth 100000
namespace Go.Proofs.YthhjcfejgoddlaaGreatDoor
open Go Go.Abs
attribute [local go_sem] wrap64 Int.tdiv_eq_ediv_of_nonneg Int.tmod_eq_emod_of_nonneg eq_self Bool.false_eq_true Bool.true_eq_false Bool.not_true Bool.not_false
attribute [local go_sem_proc] Nat.reduceAdd Nat.reduceMul Nat.reduceEqDiff Nat.reduceLT Nat.reduceLeDiff Int.reduceEq Int.reduceNeg Int.reduceToNat reduceCtorEq Int.reduceBNe Int.reduceBEq

theorem Bp_add (i k : Nat) : Bp (i + k) = Bp i * Bp k := by unfold Bp; exact Int.pow_add _ _ _
theorem tk_step {l l' ys : List Int} {i k : Nat} {a cy x : Int} (hk : k < ys.length) (hl : i + k < l'.length) (hx : x = l'.getD (i + k) 0 + a * ys.getD k 0 + cy) (h : val l' + cy * Bp (i + k) = val l + a * val (ys.take k) * Bp i) :
    val (l'.set (i + k) (x % 1000000000)) + x / 1000000000 * Bp (i + (k + 1)) = val l + a * val (ys.take (k + 1)) * Bp i := by
  rw [val_set _ _ _ hl, show i + (k + 1) = (i + k) + 1 by omega, Bp_succ, take_last hk, val_append, List.length_take, Nat.min_eq_left (by omega), show x % 1000000000 = x - 1000000000 * (x / 1000000000) by omega]
  rw [Bp_add] at *
  have e : val [ys.getD k 0] = ys.getD k 0 := by simp [val]
  rw [e]
  generalize x / 1000000000 = q at *
  generalize l'.getD (i + k) 0 = p at *
  subst hx
  grind
def rI (n : Nat) (l : List Int) : Obj' := .row 3 1 (l.map eI) false
def F104 (xs ys : List Int) : Nat × List Int → St := fun ⟨i, l⟩ => ⟨[(0, L xs), (1, L ys), (5, .own 0), (6, I i)], [(0, .row 3 1 (l.map eI) false)], 1, 0⟩
def G104 (xs ys : List Int) (i : Nat) : Nat × Int × List Int → St := fun ⟨k, cy, l⟩ => ⟨[(0, L xs), (1, L ys), (5, .own 0), (6, I i), (7, I cy), (8, I k)], [(0, .row 3 1 (l.map eI) false)], 1, 0⟩
set_option maxHeartbeats 4000000 in
theorem rtimes_pc (xs ys : List Int) (hx : dig xs) (hy : dig ys) (lx : xs.length ≤ 1000) (ly : ys.length ≤ 1000) : PC Tryz.prog 104 [L xs, L ys] (L (D (val xs * val ys).toNat)) := by
  refine PCr.pc (PCr.of tab_ok Tryz.func104 rfl rfl rfl fun c hc hm => ?_)
  rw [show Tryz.f104.ntmps = _ from Tryz.ntmps104] at hc
  simp only [Tryz.f104]
  repeat' first | (refine AWp.seq fun K hK => ?_) | ((first | refine AWp.draw (id := 9) [.take 0, .take 1, .take 2, .take 3, .take 4, .take 5, .take 6, .take 7, .take 8, .take 9, .take 10, .take 11, .take 12, .take 13, .take 14, .take 15, .take 16, .take 17, .take 18] mixed_ok (by kernel_rfl) (by rw [hc]; rfl) ?_ | refine AWp.region (by rw [hc]; rfl) ?_ | refine AWp.skip ?_ | refine AWp.exit ?_ | refine AWp.label ?_ | refine AWp.ret ?_ | refine appK_g ?_); simp -implicitDefEqProofs (maxSteps := 1000000) (disch := omega) only [go_sem, ↓reduceIte]) | ((first | refine hK _ ?_ | (clear hK; first | refine hK _ ?_ | (clear hK; first | refine hK _ ?_ | (clear hK; refine hK _ ?_)))); clear hK) | (refine AWp.cond ?_; simp -implicitDefEqProofs (maxSteps := 1000000) (disch := omega) only [go_sem, ↓reduceIte]; try (refine ⟨fun hlt => ?_, fun hlt => ?_⟩ <;> (try simp only [cla, clb, ne_eq, reduceCtorEq] at hlt) <;> (try exact hlt.elim))) | (refine AWp.block ?_) | ((first | refine gdO_split (fun hlt => ?_) (fun hlt => ?_) | refine tkO_split (fun hlt => ?_) (fun hlt => ?_) | refine opO_split (fun hlt => ?_) (fun hlt => ?_)) <;> have hgd := hlt <;> (try simp only [cla, clb, ne_eq, cld] at hlt) <;> (simp -implicitDefEqProofs (maxSteps := 1000000) (disch := omega) only [go_sem, ↓reduceIte, hgd]) <;> clear hgd) | (with_reducible refine And.intro ?_ ?_; · first | omega | assumption | exact ⟨_, _, rfl, rfl⟩) | fail
  have hrep : (List.replicate (↑xs.length + ↑ys.length + 1 : Int).toNat [DV.int IntKind.i64 0]) = (List.replicate (xs.length + ys.length + 1) (0 : Int)).map eI := by
    rw [List.map_replicate, show (↑xs.length + ↑ys.length + 1 : Int).toNat = xs.length + ys.length + 1 by omega]; rfl
  rw [hrep]
  refine AWp.loopInv (F104 xs ys) (fun a => xs.length - a.1) (fun a => a.1 ≤ xs.length ∧ dig a.2 ∧ a.2.length = xs.length + ys.length + 1 ∧ val a.2 = val (xs.take a.1) * val ys ∧ ∀ j, a.1 + ys.length ≤ j → a.2.getD j 0 = 0) (0, List.replicate (xs.length + ys.length + 1) 0) ⟨Nat.zero_le _, fun x hx => by rw [List.eq_of_mem_replicate hx]; decide, by simp, by rw [val_replicate0]; simp [val], fun j _ => by simp [List.getD, List.getElem?_replicate]; split <;> rfl⟩ (Sub.of0 hm id rfl ?_ ?_ (fun _ _ _ _ h => h)) ?_
  all_goals (try dsimp only)
  all_goals (first | omega | (simp -implicitDefEqProofs (maxSteps := 1000000) (disch := omega) only [F104, id, go_sem, Nat.blt_eq, Nat.reduceAdd, Nat.reduceSub, Nat.reduceEqDiff, Nat.reduceLT, ↓reduceIte, and_true, true_and, AV.dat.injEq, DV.int.injEq, DV.bool.injEq, DV.lst.injEq, eq_self_iff_true]; first | done | omega | (simp; done) | (simp; omega)) | (simp; done) | (simp; omega) | skip)
  rintro ⟨i, l⟩ ⟨h1, h2, h3, h4, h5⟩ ih
  simp only at h1 h2 h3 h4 h5
  simp only [F104]
  repeat' first | (refine AWp.seq fun K hK => ?_) | ((first | refine AWp.draw (id := 9) [.take 0, .take 1, .take 2, .take 3, .take 4, .take 5, .take 6, .take 7, .take 8, .take 9, .take 10, .take 11, .take 12, .take 13, .take 14, .take 15, .take 16, .take 17, .take 18] mixed_ok (by kernel_rfl) (by rw [hc]; rfl) ?_ | refine AWp.region (by rw [hc]; rfl) ?_ | refine AWp.skip ?_ | refine AWp.exit ?_ | refine AWp.label ?_ | refine AWp.ret ?_ | refine appK_g ?_); simp -implicitDefEqProofs (maxSteps := 1000000) (disch := omega) only [go_sem, ↓reduceIte]) | ((first | refine hK _ ?_ | (clear hK; first | refine hK _ ?_ | (clear hK; first | refine hK _ ?_ | (clear hK; refine hK _ ?_)))); clear hK) | (refine AWp.cond ?_; simp -implicitDefEqProofs (maxSteps := 1000000) (disch := omega) only [go_sem, ↓reduceIte]; try (refine ⟨fun hlt => ?_, fun hlt => ?_⟩ <;> (try simp only [cla, clb, ne_eq, reduceCtorEq] at hlt) <;> (try exact hlt.elim))) | (refine AWp.block ?_) | ((first | refine gdO_split (fun hlt => ?_) (fun hlt => ?_) | refine tkO_split (fun hlt => ?_) (fun hlt => ?_) | refine opO_split (fun hlt => ?_) (fun hlt => ?_)) <;> have hgd := hlt <;> (try simp only [cla, clb, ne_eq, cld] at hlt) <;> (simp -implicitDefEqProofs (maxSteps := 1000000) (disch := omega) only [go_sem, ↓reduceIte, hgd]) <;> clear hgd) | (with_reducible refine And.intro ?_ ?_; · first | omega | assumption | exact ⟨_, _, rfl, rfl⟩) | fail
  · have hai := dig_getD hx i
    refine AWp.loopInv (G104 xs ys i) (fun a => ys.length - a.1) (fun a => a.1 ≤ ys.length ∧ 0 ≤ a.2.1 ∧ a.2.1 < 1000000000 ∧ dig a.2.2 ∧ a.2.2.length = xs.length + ys.length + 1 ∧ val a.2.2 + a.2.1 * Bp (i + a.1) = val l + xs.getD i 0 * val (ys.take a.1) * Bp i ∧ ∀ j, i + ys.length ≤ j → a.2.2.getD j 0 = 0) (0, 0, l) ⟨Nat.zero_le _, by simp, by simp, h2, h3, by simp [val], h5⟩ (Sub.of0 hm id rfl ?_ ?_ (fun _ _ _ _ h => h)) ?_
    all_goals (try dsimp only)
    all_goals (first | omega | (simp -implicitDefEqProofs (maxSteps := 1000000) (disch := omega) only [G104, id, go_sem, Nat.blt_eq, Nat.reduceAdd, Nat.reduceSub, Nat.reduceEqDiff, Nat.reduceLT, ↓reduceIte, and_true, true_and, AV.dat.injEq, DV.int.injEq, DV.bool.injEq, DV.lst.injEq, eq_self_iff_true]; first | done | omega | (simp; done) | (simp; omega)) | (simp; done) | (simp; omega) | skip)
    rintro ⟨k, cy, l'⟩ ⟨g1, g2, g3, g4, g5, g6, g7⟩ ih2
    simp only at g1 g2 g3 g4 g5 g6 g7
    have hbk := dig_getD hy k
    have hlk := dig_getD g4 (i + k)
    have hp1 : xs.getD i 0 * ys.getD k 0 ≤ 999999999 * 999999999 := Int.mul_le_mul (by omega) (by omega) hbk.1 (by omega)
    have hp : 0 ≤ xs.getD i 0 * ys.getD k 0 := Int.mul_nonneg hai.1 hbk.1
    have g8 := g7 (i + ys.length) (Nat.le_refl _)
    simp only [G104]
    repeat' first | (refine AWp.seq fun K hK => ?_) | ((first | refine AWp.draw (id := 9) [.take 0, .take 1, .take 2, .take 3, .take 4, .take 5, .take 6, .take 7, .take 8, .take 9, .take 10, .take 11, .take 12, .take 13, .take 14, .take 15, .take 16, .take 17, .take 18] mixed_ok (by kernel_rfl) (by rw [hc]; rfl) ?_ | refine AWp.region (by rw [hc]; rfl) ?_ | refine AWp.skip ?_ | refine AWp.exit ?_ | refine AWp.label ?_ | refine AWp.ret ?_ | refine appK_g ?_); simp -implicitDefEqProofs (maxSteps := 1000000) (disch := omega) only [go_sem, ↓reduceIte, g8, Int.zero_add]) | ((first | refine hK _ ?_ | (clear hK; first | refine hK _ ?_ | (clear hK; first | refine hK _ ?_ | (clear hK; refine hK _ ?_)))); clear hK) | (refine AWp.cond ?_; simp -implicitDefEqProofs (maxSteps := 1000000) (disch := omega) only [go_sem, ↓reduceIte, g8, Int.zero_add]; try (refine ⟨fun hlt => ?_, fun hlt => ?_⟩ <;> (try simp only [cla, clb, ne_eq, reduceCtorEq] at hlt) <;> (try exact hlt.elim))) | (refine AWp.block ?_) | ((first | refine gdO_split (fun hlt => ?_) (fun hlt => ?_) | refine tkO_split (fun hlt => ?_) (fun hlt => ?_) | refine opO_split (fun hlt => ?_) (fun hlt => ?_)) <;> have hgd := hlt <;> (try simp only [cla, clb, ne_eq, cld] at hlt) <;> (simp -implicitDefEqProofs (maxSteps := 1000000) (disch := omega) only [go_sem, ↓reduceIte, g8, Int.zero_add, hgd]) <;> clear hgd) | (with_reducible refine And.intro ?_ ?_; · first | omega | assumption | exact ⟨_, _, rfl, rfl⟩) | fail
    · generalize hxx : l'.getD (i + k) 0 + xs.getD i 0 * ys.getD k 0 + cy = x at *
      refine ih2 (k + 1, x / 1000000000, l'.set (i + k) (x % 1000000000)) _ ⟨by simp only; omega, by simp only; omega, by simp only; omega, dig_set g4 _ (by omega), by simp only [List.length_set]; exact g5, tk_step (by omega) (by omega) hxx.symm g6, fun j hj => ?_⟩ (by simp only; omega) (Sub.of0 hm id rfl ?_ ?_ (fun _ _ _ _ h => h))
      · rw [getD_set_ne _ _ _ _ (by omega)]; exact g7 j hj
      all_goals (try dsimp only)
      all_goals (first | omega | (simp -implicitDefEqProofs (maxSteps := 1000000) (disch := omega) only [G104, id, go_sem, Nat.blt_eq, Nat.reduceAdd, Nat.reduceSub, Nat.reduceEqDiff, Nat.reduceLT, ↓reduceIte, and_true, true_and, AV.dat.injEq, DV.int.injEq, DV.bool.injEq, DV.lst.injEq, eq_self_iff_true]; first | done | omega | (simp; done) | (simp; omega)) | (simp; done) | (simp; omega) | skip)
    · have hke : k = ys.length := by omega
      subst hke
      rw [List.take_length] at g6
      refine ih (i + 1, l'.set (i + ys.length) cy) _ ⟨by simp only; omega, dig_set g4 _ (by omega), by simp only [List.length_set]; exact g5, ?_, fun j hj => ?_⟩ (by simp only; omega) (Sub.of0 hm id rfl ?_ ?_ (fun _ _ _ _ h => h))
      · simp only
        rw [val_set _ _ _ (by omega), g8, Int.sub_zero, g6, h4, take_last (by omega), val_append, List.length_take, Nat.min_eq_left h1]
        have e : val [xs.getD i 0] = xs.getD i 0 := by simp [val]
        rw [e]; grind
      · rw [getD_set_ne _ _ _ _ (by simp only at hj; omega)]; exact g7 j (by simp only at hj; omega)
      all_goals (try dsimp only)
      all_goals (first | omega | (simp -implicitDefEqProofs (maxSteps := 1000000) (disch := omega) only [F104, id, go_sem, Nat.blt_eq, Nat.reduceAdd, Nat.reduceSub, Nat.reduceEqDiff, Nat.reduceLT, ↓reduceIte, and_true, true_and, AV.dat.injEq, DV.int.injEq, DV.bool.injEq, DV.lst.injEq, eq_self_iff_true]; first | done | omega | (simp; done) | (simp; omega)) | (simp; done) | (simp; omega) | skip)
  · have hie : i = xs.length := by omega
    subst hie
    rw [List.take_length] at h4
    have hsh := shorn_pc l (by omega)
    rw [tr_D h2, h4] at hsh
    refine ⟨_, hsh, ?_⟩
    try simp -implicitDefEqProofs (maxSteps := 1000000) (disch := omega) only [go_sem, ↓reduceIte]
    first | (refine hK _ ?_; clear hK) | (clear hK; refine hK _ ?_; clear hK) | (clear hK; clear hK; refine hK _ ?_; clear hK) | (clear hK; clear hK; clear hK; refine hK _ ?_; clear hK)
    repeat' first | (refine AWp.seq fun K hK => ?_) | ((first | refine AWp.draw (id := 9) [.take 0, .take 1, .take 2, .take 3, .take 4, .take 5, .take 6, .take 7, .take 8, .take 9, .take 10, .take 11, .take 12, .take 13, .take 14, .take 15, .take 16, .take 17, .take 18] mixed_ok (by kernel_rfl) (by rw [hc]; rfl) ?_ | refine AWp.region (by rw [hc]; rfl) ?_ | refine AWp.skip ?_ | refine AWp.exit ?_ | refine AWp.label ?_ | refine AWp.ret ?_ | refine appK_g ?_); simp -implicitDefEqProofs (maxSteps := 1000000) (disch := omega) only [go_sem, ↓reduceIte]) | ((first | refine hK _ ?_ | (clear hK; first | refine hK _ ?_ | (clear hK; first | refine hK _ ?_ | (clear hK; refine hK _ ?_)))); clear hK) | (refine AWp.cond ?_; simp -implicitDefEqProofs (maxSteps := 1000000) (disch := omega) only [go_sem, ↓reduceIte]; try (refine ⟨fun hlt => ?_, fun hlt => ?_⟩ <;> (try simp only [cla, clb, ne_eq, reduceCtorEq] at hlt) <;> (try exact hlt.elim))) | (refine AWp.block ?_) | ((first | refine gdO_split (fun hlt => ?_) (fun hlt => ?_) | refine tkO_split (fun hlt => ?_) (fun hlt => ?_) | refine opO_split (fun hlt => ?_) (fun hlt => ?_)) <;> have hgd := hlt <;> (try simp only [cla, clb, ne_eq, cld] at hlt) <;> (simp -implicitDefEqProofs (maxSteps := 1000000) (disch := omega) only [go_sem, ↓reduceIte, hgd]) <;> clear hgd) | (with_reducible refine And.intro ?_ ?_; · first | omega | assumption | exact ⟨_, _, rfl, rfl⟩) | fail
theorem rtimes_D (m n : Nat) (lm : (D m).length ≤ 1000) (ln : (D n).length ≤ 1000) : PC Tryz.prog 104 [L (D m), L (D n)] (L (D (m * n))) := by
  have h := rtimes_pc (D m) (D n) (dig_D m) (dig_D n) lm ln
  rw [val_D, val_D] at h
  rwa [show ((m : Int) * n).toNat = m * n by rw [← Int.natCast_mul]; rfl] at h
end Go.Proofs.YthhjcfejgoddlaaGreatDoor
end

section
set_option linter.unusedSimpArgs false
set_option linter.unusedVariables false
set_option maxRecDepth 100000
namespace Go.Proofs.YthhjcfejgoddlaaGreatDoor
open Go Go.Abs
attribute [local go_sem] wrap64 Int.tdiv_eq_ediv_of_nonneg Int.tmod_eq_emod_of_nonneg eq_self Bool.false_eq_true Bool.true_eq_false Bool.not_true Bool.not_false
attribute [local go_sem_proc] Nat.reduceAdd Nat.reduceMul Nat.reduceEqDiff Nat.reduceLT Nat.reduceLeDiff Int.reduceEq Int.reduceNeg Int.reduceToNat reduceCtorEq Int.reduceBNe Int.reduceBEq

theorem shorn_one (x : Nat) (h : x < 1000000000) : PC Tryz.prog 113 [.dat (.lst [[.int .i64 (x : Int)]])] (L (D x)) := by
  have hs := shorn_pc [(x : Int)] (by simp)
  have hd : dig [(x : Int)] := fun y hy => by rw [List.mem_singleton.1 hy]; omega
  rw [tr_D hd, show val [(x : Int)] = x by simp [val], Int.toNat_natCast] at hs
  exact hs
theorem len1 {x : Nat} (h : x < 1000000000) : (D x).length ≤ 1 := D_one_len h
def F138 (m n : Nat) : Nat × Nat → St := fun ⟨lo, hi⟩ => ⟨[(0, L (D m)), (1, L (D n)), (5, I lo), (6, I hi)], [], 0, 0⟩
set_option maxHeartbeats 2000000 in
theorem rdigit_D (m n : Nat) (hn : 0 < n) (hq : m / n < 1000000000) (lm : (D m).length ≤ 900) (ln : (D n).length ≤ 900) : PC Tryz.prog 138 [L (D m), L (D n)] (I ((m / n : Nat) : Int)) := by
  refine PCr.pc (PCr.of tab_ok Tryz.func138 rfl rfl rfl fun c hc hm => ?_)
  rw [show Tryz.f138.ntmps = _ from Tryz.ntmps138] at hc
  simp only [Tryz.f138]
  repeat' first | (refine AWp.seq fun K hK => ?_) | ((first | refine AWp.region (by rw [hc]; rfl) ?_ | refine AWp.skip ?_ | refine AWp.exit ?_ | refine AWp.label ?_ | refine AWp.ret ?_ | refine appK_g ?_); simp -implicitDefEqProofs (maxSteps := 1000000) (disch := omega) only [go_sem, ↓reduceIte]) | ((first | refine hK _ ?_ | (clear hK; first | refine hK _ ?_ | (clear hK; first | refine hK _ ?_ | (clear hK; refine hK _ ?_)))); clear hK) | (refine AWp.cond ?_; simp -implicitDefEqProofs (maxSteps := 1000000) (disch := omega) only [go_sem, ↓reduceIte]; try (refine ⟨fun hlt => ?_, fun hlt => ?_⟩ <;> (try simp only [cla, clb, ne_eq, reduceCtorEq] at hlt) <;> (try exact hlt.elim))) | (refine AWp.block ?_) | ((first | refine gdO_split (fun hlt => ?_) (fun hlt => ?_) | refine tkO_split (fun hlt => ?_) (fun hlt => ?_) | refine opO_split (fun hlt => ?_) (fun hlt => ?_)) <;> have hgd := hlt <;> (try simp only [cla, clb, ne_eq, cld] at hlt) <;> (simp -implicitDefEqProofs (maxSteps := 1000000) (disch := omega) only [go_sem, ↓reduceIte, hgd]) <;> clear hgd) | (with_reducible refine And.intro ?_ ?_; · first | omega | assumption | exact ⟨_, _, rfl, rfl⟩) | fail
  refine AWp.loopInv (F138 m n) (fun a => a.2 - a.1) (fun a => a.1 ≤ m / n ∧ m / n ≤ a.2 ∧ a.2 ≤ 999999999) (0, 999999999) ⟨Nat.zero_le _, by simp only; omega, by simp⟩ (Sub.of0 hm id rfl ?_ ?_ (fun _ _ _ _ h => h)) ?_
  all_goals (try dsimp only)
  all_goals (first | omega | (simp -implicitDefEqProofs (maxSteps := 1000000) (disch := omega) only [F138, id, go_sem, Nat.blt_eq, Nat.reduceAdd, Nat.reduceSub, Nat.reduceEqDiff, Nat.reduceLT, ↓reduceIte, and_true, true_and, AV.dat.injEq, DV.int.injEq, DV.bool.injEq, DV.lst.injEq, eq_self_iff_true]; first | done | omega | (simp; done) | (simp; omega)) | (simp; done) | (simp; omega) | skip)
  rintro ⟨lo, hi⟩ ⟨h1, h2, h3⟩ ih
  simp only at h1 h2 h3
  simp only [F138]
  have hmid : (lo + hi + 1) / 2 < 1000000000 := by omega
  have s1 := shorn_one ((lo + hi + 1) / 2) hmid
  have e1 : (((lo + hi + 1) / 2 : Nat) : Int) = ((lo : Int) + hi + 1) / 2 := by omega
  rw [e1] at s1
  have t1 := rtimes_D n ((lo + hi + 1) / 2) (by omega) (Nat.le_trans (len1 hmid) (by omega))
  have lp : (D (n * ((lo + hi + 1) / 2))).length ≤ 1000 := by
    have := D_mul_len n ((lo + hi + 1) / 2)
    have := len1 hmid
    omega
  have c1 := size_pc (D (n * ((lo + hi + 1) / 2))) (D m) (by omega) (by omega)
  rw [cmp_D] at c1
  have hiff : cmpI ((n * ((lo + hi + 1) / 2) : Nat) : Int) m ≤ 0 ↔ (lo + hi + 1) / 2 ≤ m / n := by
    rw [Nat.le_div_iff_mul_le hn, Nat.mul_comm n]
    simp only [cmpI]; (repeat' split) <;> omega
  generalize cmpI ((n * ((lo + hi + 1) / 2) : Nat) : Int) m = cc at *
  repeat' first | (refine AWp.seq fun K hK => ?_) | ((first | refine AWp.region (by rw [hc]; rfl) ?_ | refine AWp.skip ?_ | refine AWp.exit ?_ | refine AWp.label ?_ | refine AWp.ret ?_ | refine appK_g ?_); simp -implicitDefEqProofs (maxSteps := 1000000) (disch := omega) only [go_sem, ↓reduceIte]) | ((first | refine hK _ ?_ | (clear hK; first | refine hK _ ?_ | (clear hK; first | refine hK _ ?_ | (clear hK; refine hK _ ?_)))); clear hK) | (refine AWp.cond ?_; simp -implicitDefEqProofs (maxSteps := 1000000) (disch := omega) only [go_sem, ↓reduceIte]; try (refine ⟨fun hlt => ?_, fun hlt => ?_⟩ <;> (try simp only [cla, clb, ne_eq, reduceCtorEq] at hlt) <;> (try exact hlt.elim))) | (refine AWp.block ?_) | ((first | refine gdO_split (fun hlt => ?_) (fun hlt => ?_) | refine tkO_split (fun hlt => ?_) (fun hlt => ?_) | refine opO_split (fun hlt => ?_) (fun hlt => ?_)) <;> have hgd := hlt <;> (try simp only [cla, clb, ne_eq, cld] at hlt) <;> (simp -implicitDefEqProofs (maxSteps := 1000000) (disch := omega) only [go_sem, ↓reduceIte, hgd]) <;> clear hgd) | (with_reducible refine And.intro ?_ ?_; · first | omega | assumption | exact ⟨_, _, rfl, rfl⟩) | ((first | refine ⟨_, s1, ?_⟩ | refine ⟨_, t1, ?_⟩ | refine ⟨_, c1, ?_⟩); simp -implicitDefEqProofs (maxSteps := 1000000) (disch := omega) only [go_sem, ↓reduceIte]) | fail
  · have hle := hiff.1 hlt
    refine ih ((lo + hi + 1) / 2, hi) _ ⟨hle, h2, h3⟩ (by simp only; omega) (Sub.of0 hm id rfl ?_ ?_ (fun _ _ _ _ h => h))
    all_goals (try dsimp only)
    all_goals (first | omega | (simp -implicitDefEqProofs (maxSteps := 1000000) (disch := omega) only [F138, id, go_sem, Nat.blt_eq, Nat.reduceAdd, Nat.reduceSub, Nat.reduceEqDiff, Nat.reduceLT, ↓reduceIte, and_true, true_and, AV.dat.injEq, DV.int.injEq, DV.bool.injEq, DV.lst.injEq, eq_self_iff_true]; first | done | omega | (simp; done) | (simp; omega)) | (simp; done) | (simp; omega) | skip)
  · have hle : ¬ (lo + hi + 1) / 2 ≤ m / n := fun h => by have := hiff.2 h; omega
    refine ih (lo, (lo + hi + 1) / 2 - 1) _ ⟨h1, by simp only; omega, by simp only; omega⟩ (by simp only; omega) (Sub.of0 hm id rfl ?_ ?_ (fun _ _ _ _ h => h))
    all_goals (try dsimp only)
    all_goals (first | omega | (simp -implicitDefEqProofs (maxSteps := 1000000) (disch := omega) only [F138, id, go_sem, Nat.blt_eq, Nat.reduceAdd, Nat.reduceSub, Nat.reduceEqDiff, Nat.reduceLT, ↓reduceIte, and_true, true_and, AV.dat.injEq, DV.int.injEq, DV.bool.injEq, DV.lst.injEq, eq_self_iff_true]; first | done | omega | (simp; done) | (simp; omega)) | (simp; done) | (simp; omega) | skip)
  · omega
theorem D_big {n : Nat} (h : 1000000000 ≤ n) : 1 < (D n).length := by
  rw [D_pos (by omega), List.length_cons]
  have : 0 < (D (n / 1000000000)).length := by
    rw [List.length_pos_iff, ne_eq, D_nil]; omega
  omega
theorem D_sm {n : Nat} (h0 : n ≠ 0) (h1 : n < 1000000000) : D n = [(n : Int)] := by
  rw [D_pos h0, show n / 1000000000 = 0 by omega, D_zero, show n % 1000000000 = n by omega]
theorem small_pc (n : Nat) : PC Tryz.prog 106 [L (D n)] (I ((min n 2000 : Nat) : Int)) := by
  rcases Nat.lt_or_ge n 1000000000 with h1 | h1
  · by_cases h0 : n = 0
    · subst h0
      rw [D_zero]
      refine PCr.pc (PCr.of tab_ok Tryz.func106 rfl rfl rfl fun c hc hm => ?_)
      rw [show Tryz.f106.ntmps = _ from Tryz.ntmps106] at hc
      simp only [Tryz.f106]
      repeat' first | (refine AWp.seq fun K hK => ?_) | ((first | refine AWp.region (by rw [hc]; rfl) ?_ | refine AWp.skip ?_ | refine AWp.exit ?_ | refine AWp.label ?_ | refine AWp.ret ?_ | refine appK_g ?_); simp -implicitDefEqProofs (maxSteps := 1000000) (disch := omega) only [go_sem, ↓reduceIte]) | ((first | refine hK _ ?_ | (clear hK; first | refine hK _ ?_ | (clear hK; first | refine hK _ ?_ | (clear hK; refine hK _ ?_)))); clear hK) | (refine AWp.cond ?_; simp -implicitDefEqProofs (maxSteps := 1000000) (disch := omega) only [go_sem, ↓reduceIte]; try (refine ⟨fun hlt => ?_, fun hlt => ?_⟩ <;> (try simp only [cla, clb, ne_eq, reduceCtorEq] at hlt) <;> (try exact hlt.elim))) | (refine AWp.block ?_) | ((first | refine gdO_split (fun hlt => ?_) (fun hlt => ?_) | refine tkO_split (fun hlt => ?_) (fun hlt => ?_) | refine opO_split (fun hlt => ?_) (fun hlt => ?_)) <;> have hgd := hlt <;> (try simp only [cla, clb, ne_eq, cld] at hlt) <;> (simp -implicitDefEqProofs (maxSteps := 1000000) (disch := omega) only [go_sem, ↓reduceIte, hgd]) <;> clear hgd) | (with_reducible refine And.intro ?_ ?_; · first | omega | assumption | exact ⟨_, _, rfl, rfl⟩) | fail
      all_goals first | rfl | (exfalso; omega) | (exfalso; simp at *; done)
    · rw [D_sm h0 h1]
      refine PCr.pc (PCr.of tab_ok Tryz.func106 rfl rfl rfl fun c hc hm => ?_)
      rw [show Tryz.f106.ntmps = _ from Tryz.ntmps106] at hc
      simp only [Tryz.f106]
      repeat' first | (refine AWp.seq fun K hK => ?_) | ((first | refine AWp.region (by rw [hc]; rfl) ?_ | refine AWp.skip ?_ | refine AWp.exit ?_ | refine AWp.label ?_ | refine AWp.ret ?_ | refine appK_g ?_); simp -implicitDefEqProofs (maxSteps := 1000000) (disch := omega) only [go_sem, ↓reduceIte]) | ((first | refine hK _ ?_ | (clear hK; first | refine hK _ ?_ | (clear hK; first | refine hK _ ?_ | (clear hK; refine hK _ ?_)))); clear hK) | (refine AWp.cond ?_; simp -implicitDefEqProofs (maxSteps := 1000000) (disch := omega) only [go_sem, ↓reduceIte]; try (refine ⟨fun hlt => ?_, fun hlt => ?_⟩ <;> (try simp only [cla, clb, ne_eq, reduceCtorEq] at hlt) <;> (try exact hlt.elim))) | (refine AWp.block ?_) | ((first | refine gdO_split (fun hlt => ?_) (fun hlt => ?_) | refine tkO_split (fun hlt => ?_) (fun hlt => ?_) | refine opO_split (fun hlt => ?_) (fun hlt => ?_)) <;> have hgd := hlt <;> (try simp only [cla, clb, ne_eq, cld] at hlt) <;> (simp -implicitDefEqProofs (maxSteps := 1000000) (disch := omega) only [go_sem, ↓reduceIte, hgd]) <;> clear hgd) | (with_reducible refine And.intro ?_ ?_; · first | omega | assumption | exact ⟨_, _, rfl, rfl⟩) | fail
      all_goals first | omega | (exfalso; omega)
  · have hb := D_big h1
    rw [show min n 2000 = 2000 by omega]
    refine PCr.pc (PCr.of tab_ok Tryz.func106 rfl rfl rfl fun c hc hm => ?_)
    rw [show Tryz.f106.ntmps = _ from Tryz.ntmps106] at hc
    simp only [Tryz.f106]
    repeat' first | (refine AWp.seq fun K hK => ?_) | ((first | refine AWp.region (by rw [hc]; rfl) ?_ | refine AWp.skip ?_ | refine AWp.exit ?_ | refine AWp.label ?_ | refine AWp.ret ?_ | refine appK_g ?_); simp -implicitDefEqProofs (maxSteps := 1000000) (disch := omega) only [go_sem, ↓reduceIte]) | ((first | refine hK _ ?_ | (clear hK; first | refine hK _ ?_ | (clear hK; first | refine hK _ ?_ | (clear hK; refine hK _ ?_)))); clear hK) | (refine AWp.cond ?_; simp -implicitDefEqProofs (maxSteps := 1000000) (disch := omega) only [go_sem, ↓reduceIte]; try (refine ⟨fun hlt => ?_, fun hlt => ?_⟩ <;> (try simp only [cla, clb, ne_eq, reduceCtorEq] at hlt) <;> (try exact hlt.elim))) | (refine AWp.block ?_) | ((first | refine gdO_split (fun hlt => ?_) (fun hlt => ?_) | refine tkO_split (fun hlt => ?_) (fun hlt => ?_) | refine opO_split (fun hlt => ?_) (fun hlt => ?_)) <;> have hgd := hlt <;> (try simp only [cla, clb, ne_eq, cld] at hlt) <;> (simp -implicitDefEqProofs (maxSteps := 1000000) (disch := omega) only [go_sem, ↓reduceIte, hgd]) <;> clear hgd) | (with_reducible refine And.intro ?_ ?_; · first | omega | assumption | exact ⟨_, _, rfl, rfl⟩) | fail
    all_goals first | rfl | (exfalso; omega)
end Go.Proofs.YthhjcfejgoddlaaGreatDoor
end

section
set_option linter.unusedSimpArgs false
set_option linter.unusedVariables false
set_option maxRecDepth 100000
namespace Go.Proofs.YthhjcfejgoddlaaGreatDoor
open Go Go.Abs
attribute [local go_sem] wrap64 Int.tdiv_eq_ediv_of_nonneg Int.tmod_eq_emod_of_nonneg eq_self Bool.false_eq_true Bool.true_eq_false Bool.not_true Bool.not_false
attribute [local go_sem_proc] Nat.reduceAdd Nat.reduceMul Nat.reduceEqDiff Nat.reduceLT Nat.reduceLeDiff Int.reduceEq Int.reduceNeg Int.reduceToNat reduceCtorEq Int.reduceBNe Int.reduceBEq

/-- One more part ahead of a number. -/
theorem shorn_cons (x r : Nat) (h : x < 1000000000) (lr : (D r).length ≤ 900) : PC Tryz.prog 113 [.dat (.lst ([DV.int .i64 (x : Int)] :: (D r).map eI))] (L (D (x + 1000000000 * r))) := by
  have hs := shorn_pc ((x : Int) :: D r) (by simp; omega)
  have hd : dig ((x : Int) :: D r) := fun y hy => by
    rcases List.mem_cons.1 hy with rfl | hy
    · omega
    · exact dig_D r y hy
  rw [tr_D hd, show val ((x : Int) :: D r) = ((x + 1000000000 * r : Nat) : Int) by simp [val, val_D], Int.toNat_natCast] at hs
  exact hs
theorem val_dr (xs : List Int) (i : Nat) : val (xs.drop i) = xs.getD i 0 + 1000000000 * val (xs.drop (i + 1)) := val_drop xs i
def F105 (xs : List Int) (n : Nat) : Nat × Nat × List Int → St := fun ⟨k, r, out⟩ => ⟨[(0, L xs), (1, L (D n)), (6, .own 0), (7, L (D r)), (8, I ((k : Int) - 1))], [(0, .row 3 1 (out.map eI) false)], 1, 0⟩
set_option maxHeartbeats 4000000 in
theorem rdivide_pc (xs : List Int) (n : Nat) (hx : dig xs) (hn : 0 < n) (lx : xs.length ≤ 500) (ln : (D n).length ≤ 500) : PC Tryz.prog 105 [L xs, L (D n)] (.tup [L (D ((val xs).toNat / n)), L (D ((val xs).toNat % n))]) := by
  refine PCr.pc (PCr.of tab_ok Tryz.func105 rfl rfl rfl fun c hc hm => ?_)
  rw [show Tryz.f105.ntmps = _ from Tryz.ntmps105] at hc
  simp only [Tryz.f105]
  repeat' first | (refine AWp.seq fun K hK => ?_) | ((first | refine AWp.region (by rw [hc]; rfl) ?_ | refine AWp.skip ?_ | refine AWp.exit ?_ | refine AWp.label ?_ | refine AWp.ret ?_ | refine appK_g ?_); simp -implicitDefEqProofs (maxSteps := 1000000) (disch := omega) only [go_sem, ↓reduceIte]) | ((first | refine hK _ ?_ | (clear hK; first | refine hK _ ?_ | (clear hK; first | refine hK _ ?_ | (clear hK; refine hK _ ?_)))); clear hK) | (refine AWp.cond ?_; simp -implicitDefEqProofs (maxSteps := 1000000) (disch := omega) only [go_sem, ↓reduceIte]; try (refine ⟨fun hlt => ?_, fun hlt => ?_⟩ <;> (try simp only [cla, clb, ne_eq, reduceCtorEq] at hlt) <;> (try exact hlt.elim))) | (refine AWp.block ?_) | ((first | refine gdO_split (fun hlt => ?_) (fun hlt => ?_) | refine tkO_split (fun hlt => ?_) (fun hlt => ?_) | refine opO_split (fun hlt => ?_) (fun hlt => ?_)) <;> have hgd := hlt <;> (try simp only [cla, clb, ne_eq, cld] at hlt) <;> (simp -implicitDefEqProofs (maxSteps := 1000000) (disch := omega) only [go_sem, ↓reduceIte, hgd]) <;> clear hgd) | (with_reducible refine And.intro ?_ ?_; · first | omega | assumption | exact ⟨_, _, rfl, rfl⟩) | fail
  refine AWp.sub (Sub.toDat 7 rfl) ?_
  have hrep : (List.replicate xs.length [DV.int IntKind.i64 0]) = (List.replicate xs.length (0 : Int)).map eI := by
    rw [List.map_replicate]; rfl
  rw [hrep]
  refine AWp.loopInv (F105 xs n) (fun a => a.1) (fun a => a.1 ≤ xs.length ∧ a.2.1 < n ∧ dig a.2.2 ∧ a.2.2.length = xs.length ∧ val (xs.drop a.1) = n * val (a.2.2.drop a.1) + a.2.1) (xs.length, 0, List.replicate xs.length 0) ⟨Nat.le_refl _, hn, fun x hx => by rw [List.eq_of_mem_replicate hx]; decide, by simp, by simp [val]⟩ (Sub.of0 hm id rfl ?_ ?_ (fun _ _ _ _ h => h)) ?_
  all_goals (try dsimp only)
  all_goals (first | omega | (simp -implicitDefEqProofs (maxSteps := 1000000) (disch := omega) only [F105, D_zero, List.map_nil, id, go_sem, Nat.blt_eq, Nat.reduceAdd, Nat.reduceSub, Nat.reduceEqDiff, Nat.reduceLT, ↓reduceIte, and_true, true_and, AV.dat.injEq, DV.int.injEq, DV.bool.injEq, DV.lst.injEq, eq_self_iff_true]; first | done | omega | (simp; done) | (simp; omega)) | (simp; done) | (simp; omega) | skip)
  rintro ⟨k, r, out⟩ ⟨h1, h2, h3, h4, h5⟩ ih
  simp only at h1 h2 h3 h4 h5
  simp only [F105]
  have lr : (D r).length ≤ 500 := Nat.le_trans (D_len_le (Nat.le_of_lt h2)) ln
  rcases k with _ | i
  · have hv := val_nonneg h3
    rw [List.drop_zero, List.drop_zero] at h5
    obtain ⟨o, ho⟩ : ∃ o : Nat, val out = (o : Int) := ⟨(val out).toNat, by omega⟩
    have hm0 : (val xs).toNat = n * o + r := by
      have e : ((n * o + r : Nat) : Int) = n * (o : Int) + r := by simp
      rw [h5, ho, ← e]; rfl
    have hdiv : (val xs).toNat / n = o := by
      rw [hm0, Nat.mul_add_div hn, Nat.div_eq_of_lt h2, Nat.add_zero]
    have hmod : (val xs).toNat % n = r := by rw [hm0, Nat.mul_add_mod, Nat.mod_eq_of_lt h2]
    have hsh := shorn_pc out (by omega)
    rw [tr_D h3, ho, Int.toNat_natCast] at hsh
    rw [hdiv, hmod]
    repeat' first | (refine AWp.seq fun K hK => ?_) | ((first | refine AWp.region (by rw [hc]; rfl) ?_ | refine AWp.skip ?_ | refine AWp.exit ?_ | refine AWp.label ?_ | refine AWp.ret ?_ | refine appK_g ?_); simp -implicitDefEqProofs (maxSteps := 1000000) (disch := omega) only [go_sem, ↓reduceIte]) | ((first | refine hK _ ?_ | (clear hK; first | refine hK _ ?_ | (clear hK; first | refine hK _ ?_ | (clear hK; refine hK _ ?_)))); clear hK) | (refine AWp.cond ?_; simp -implicitDefEqProofs (maxSteps := 1000000) (disch := omega) only [go_sem, ↓reduceIte]; try (refine ⟨fun hlt => ?_, fun hlt => ?_⟩ <;> (try simp only [cla, clb, ne_eq, reduceCtorEq] at hlt) <;> (try exact hlt.elim))) | (refine AWp.block ?_) | ((first | refine gdO_split (fun hlt => ?_) (fun hlt => ?_) | refine tkO_split (fun hlt => ?_) (fun hlt => ?_) | refine opO_split (fun hlt => ?_) (fun hlt => ?_)) <;> have hgd := hlt <;> (try simp only [cla, clb, ne_eq, cld] at hlt) <;> (simp -implicitDefEqProofs (maxSteps := 1000000) (disch := omega) only [go_sem, ↓reduceIte, hgd]) <;> clear hgd) | (with_reducible refine And.intro ?_ ?_; · first | omega | assumption | exact ⟨_, _, rfl, rfl⟩) | (refine ⟨_, hsh, ?_⟩; try simp -implicitDefEqProofs (maxSteps := 1000000) (disch := omega) only [go_sem, ↓reduceIte]) | fail
    all_goals first | (exfalso; omega) | (rw [hdiv, hmod])
  · have e1 : ((i + 1 : Nat) : Int) - 1 = (i : Int) := by omega
    have hxi := dig_getD hx i
    obtain ⟨a, ha⟩ : ∃ a : Nat, xs.getD i 0 = (a : Int) := ⟨(xs.getD i 0).toNat, by omega⟩
    have hab : a < 1000000000 := by omega
    have s1 := shorn_cons a r hab (by omega)
    have lm : (D (a + 1000000000 * r)).length ≤ 900 := by
      by_cases h0 : a + 1000000000 * r = 0
      · rw [h0, D_zero]; exact Nat.zero_le _
      · rw [D_pos h0, List.length_cons, show (a + 1000000000 * r) / 1000000000 = r by omega]; omega
    have hq : (a + 1000000000 * r) / n < 1000000000 := by
      rw [Nat.div_lt_iff_lt_mul hn]
      have : 1000000000 * r ≤ 1000000000 * (n - 1) := Nat.mul_le_mul_left _ (by omega)
      have e : 1000000000 * (n - 1) = 1000000000 * n - 1000000000 := by rw [Nat.mul_sub]
      have hn1 : 1000000000 ≤ 1000000000 * n := by omega
      rw [Nat.mul_comm]; omega
    have d1 := rdigit_D (a + 1000000000 * r) n hn hq lm (by omega)
    have s2 := shorn_one _ hq
    have t1 := rtimes_D n ((a + 1000000000 * r) / n) (by omega) (Nat.le_trans (len1 hq) (by omega))
    have hle : n * ((a + 1000000000 * r) / n) ≤ a + 1000000000 * r := Nat.mul_div_le _ _
    have l1 := rless_D (a + 1000000000 * r) (n * ((a + 1000000000 * r) / n)) hle (by omega)
    rw [show a + 1000000000 * r - n * ((a + 1000000000 * r) / n) = (a + 1000000000 * r) % n by have := Nat.div_add_mod (a + 1000000000 * r) n; omega] at l1
    have s1' : (D r).map eI = [] → PC Tryz.prog 113 [.dat (.lst [[.int .i64 (a : Int)]])] (L (D (a + 1000000000 * r))) := fun h => by rw [h] at s1; exact s1
    have step : val (xs.drop i) = n * val ((out.set i (((a + 1000000000 * r) / n : Nat) : Int)).drop i) + (((a + 1000000000 * r) % n : Nat) : Int) := by
      rw [val_drop xs i, h5, val_drop _ i, ha]
      rw [show (out.set i (((a + 1000000000 * r) / n : Nat) : Int)).getD i 0 = (((a + 1000000000 * r) / n : Nat) : Int) by simp [List.getD, show i < out.length by omega]]
      rw [show (out.set i (((a + 1000000000 * r) / n : Nat) : Int)).drop (i + 1) = out.drop (i + 1) by rw [List.drop_set_of_lt (by omega)]]
      have hdm : ((n * ((a + 1000000000 * r) / n) + (a + 1000000000 * r) % n : Nat) : Int) = ((a + 1000000000 * r : Nat) : Int) := by rw [Nat.div_add_mod]
      simp only [Int.natCast_add, Int.natCast_mul] at hdm
      generalize (((a + 1000000000 * r) / n : Nat) : Int) = q at *
      generalize (((a + 1000000000 * r) % n : Nat) : Int) = m at *
      generalize val (out.drop (i + 1)) = v
      have : ((1000000000 : Nat) : Int) = 1000000000 := rfl
      rw [this] at hdm
      grind
    simp only [e1]
    have hgs : ∀ q : Int, ((out.set i q).map eI).getD i [] = [DV.int .i64 q] := fun q => by simp [List.getD, show i < out.length by omega, eI]
    generalize hQ : (a + 1000000000 * r) / n = Q at *
    generalize hR : (a + 1000000000 * r) % n = R at *
    have hRn : R < n := by rw [← hR]; exact Nat.mod_lt _ hn
    repeat' first | (refine AWp.seq fun K hK => ?_) | ((first | refine AWp.region (by rw [hc]; rfl) ?_ | refine AWp.skip ?_ | refine AWp.exit ?_ | refine AWp.label ?_ | refine AWp.ret ?_ | refine appK_g ?_); simp -implicitDefEqProofs (maxSteps := 1000000) (disch := omega) only [go_sem, ↓reduceIte, ha]) | ((first | refine hK _ ?_ | (clear hK; first | refine hK _ ?_ | (clear hK; first | refine hK _ ?_ | (clear hK; refine hK _ ?_)))); clear hK) | (refine AWp.cond ?_; simp -implicitDefEqProofs (maxSteps := 1000000) (disch := omega) only [go_sem, ↓reduceIte, ha]; try (refine ⟨fun hlt => ?_, fun hlt => ?_⟩ <;> (try simp only [cla, clb, ne_eq, reduceCtorEq] at hlt) <;> (try exact hlt.elim))) | (refine AWp.block ?_) | ((first | refine gdO_split (fun hlt => ?_) (fun hlt => ?_) | refine tkO_split (fun hlt => ?_) (fun hlt => ?_) | refine opO_split (fun hlt => ?_) (fun hlt => ?_)) <;> have hgd := hlt <;> (try simp only [cla, clb, ne_eq, cld] at hlt) <;> (simp -implicitDefEqProofs (maxSteps := 1000000) (disch := omega) only [go_sem, ↓reduceIte, ha, hgd]) <;> clear hgd) | (with_reducible refine And.intro ?_ ?_; · first | omega | assumption | exact ⟨_, _, rfl, rfl⟩) | fail
    · refine ⟨fun h => ?_, fun h => ⟨by omega, ?_⟩⟩
      · have s1 := s1' h
        first | (refine hK _ ?_; clear hK) | (clear hK; refine hK _ ?_; clear hK) | (clear hK; clear hK; refine hK _ ?_; clear hK) | (clear hK; clear hK; clear hK; refine hK _ ?_; clear hK)
        repeat' first | (refine AWp.seq fun K hK => ?_) | ((first | refine AWp.region (by rw [hc]; rfl) ?_ | refine AWp.skip ?_ | refine AWp.exit ?_ | refine AWp.label ?_ | refine AWp.ret ?_ | refine appK_g ?_); simp -implicitDefEqProofs (maxSteps := 1000000) (disch := omega) only [go_sem, ↓reduceIte, hgs]) | ((first | refine hK _ ?_ | (clear hK; first | refine hK _ ?_ | (clear hK; first | refine hK _ ?_ | (clear hK; refine hK _ ?_)))); clear hK) | (refine AWp.cond ?_; simp -implicitDefEqProofs (maxSteps := 1000000) (disch := omega) only [go_sem, ↓reduceIte, hgs]; try (refine ⟨fun hlt => ?_, fun hlt => ?_⟩ <;> (try simp only [cla, clb, ne_eq, reduceCtorEq] at hlt) <;> (try exact hlt.elim))) | (refine AWp.block ?_) | ((first | refine gdO_split (fun hlt => ?_) (fun hlt => ?_) | refine tkO_split (fun hlt => ?_) (fun hlt => ?_) | refine opO_split (fun hlt => ?_) (fun hlt => ?_)) <;> have hgd := hlt <;> (try simp only [cla, clb, ne_eq, cld] at hlt) <;> (simp -implicitDefEqProofs (maxSteps := 1000000) (disch := omega) only [go_sem, ↓reduceIte, hgs, hgd]) <;> clear hgd) | (with_reducible refine And.intro ?_ ?_; · first | omega | assumption | exact ⟨_, _, rfl, rfl⟩) | (refine ⟨_, s1, ?_⟩; try simp -implicitDefEqProofs (maxSteps := 1000000) (disch := omega) only [go_sem, ↓reduceIte, hgs]) | (refine ⟨_, d1, ?_⟩; try simp -implicitDefEqProofs (maxSteps := 1000000) (disch := omega) only [go_sem, ↓reduceIte, hgs]) | (refine ⟨_, s2, ?_⟩; try simp -implicitDefEqProofs (maxSteps := 1000000) (disch := omega) only [go_sem, ↓reduceIte, hgs]) | (refine ⟨_, t1, ?_⟩; try simp -implicitDefEqProofs (maxSteps := 1000000) (disch := omega) only [go_sem, ↓reduceIte, hgs]) | (refine ⟨_, l1, ?_⟩; try simp -implicitDefEqProofs (maxSteps := 1000000) (disch := omega) only [go_sem, ↓reduceIte, hgs]) | fail
        · refine ih (i, R, out.set i (Q : Int)) _ ⟨by simp only; omega, hRn, dig_set h3 _ (by omega), by simp only [List.length_set]; exact h4, step⟩ (by simp only; omega) (Sub.of0 hm id rfl ?_ ?_ (fun _ _ _ _ h => h))
          all_goals (try dsimp only)
          all_goals (first | omega | (simp -implicitDefEqProofs (maxSteps := 1000000) (disch := omega) only [F105, id, go_sem, Nat.blt_eq, Nat.reduceAdd, Nat.reduceSub, Nat.reduceEqDiff, Nat.reduceLT, ↓reduceIte, and_true, true_and, AV.dat.injEq, DV.int.injEq, DV.bool.injEq, DV.lst.injEq, eq_self_iff_true]; first | done | omega | (simp; done) | (simp; omega)) | (simp; done) | (simp; omega) | skip)
      · skip
        first | (refine hK _ ?_; clear hK) | (clear hK; refine hK _ ?_; clear hK) | (clear hK; clear hK; refine hK _ ?_; clear hK) | (clear hK; clear hK; clear hK; refine hK _ ?_; clear hK)
        repeat' first | (refine AWp.seq fun K hK => ?_) | ((first | refine AWp.region (by rw [hc]; rfl) ?_ | refine AWp.skip ?_ | refine AWp.exit ?_ | refine AWp.label ?_ | refine AWp.ret ?_ | refine appK_g ?_); simp -implicitDefEqProofs (maxSteps := 1000000) (disch := omega) only [go_sem, ↓reduceIte, hgs]) | ((first | refine hK _ ?_ | (clear hK; first | refine hK _ ?_ | (clear hK; first | refine hK _ ?_ | (clear hK; refine hK _ ?_)))); clear hK) | (refine AWp.cond ?_; simp -implicitDefEqProofs (maxSteps := 1000000) (disch := omega) only [go_sem, ↓reduceIte, hgs]; try (refine ⟨fun hlt => ?_, fun hlt => ?_⟩ <;> (try simp only [cla, clb, ne_eq, reduceCtorEq] at hlt) <;> (try exact hlt.elim))) | (refine AWp.block ?_) | ((first | refine gdO_split (fun hlt => ?_) (fun hlt => ?_) | refine tkO_split (fun hlt => ?_) (fun hlt => ?_) | refine opO_split (fun hlt => ?_) (fun hlt => ?_)) <;> have hgd := hlt <;> (try simp only [cla, clb, ne_eq, cld] at hlt) <;> (simp -implicitDefEqProofs (maxSteps := 1000000) (disch := omega) only [go_sem, ↓reduceIte, hgs, hgd]) <;> clear hgd) | (with_reducible refine And.intro ?_ ?_; · first | omega | assumption | exact ⟨_, _, rfl, rfl⟩) | (refine ⟨_, s1, ?_⟩; try simp -implicitDefEqProofs (maxSteps := 1000000) (disch := omega) only [go_sem, ↓reduceIte, hgs]) | (refine ⟨_, d1, ?_⟩; try simp -implicitDefEqProofs (maxSteps := 1000000) (disch := omega) only [go_sem, ↓reduceIte, hgs]) | (refine ⟨_, s2, ?_⟩; try simp -implicitDefEqProofs (maxSteps := 1000000) (disch := omega) only [go_sem, ↓reduceIte, hgs]) | (refine ⟨_, t1, ?_⟩; try simp -implicitDefEqProofs (maxSteps := 1000000) (disch := omega) only [go_sem, ↓reduceIte, hgs]) | (refine ⟨_, l1, ?_⟩; try simp -implicitDefEqProofs (maxSteps := 1000000) (disch := omega) only [go_sem, ↓reduceIte, hgs]) | fail
        · refine ih (i, R, out.set i (Q : Int)) _ ⟨by simp only; omega, hRn, dig_set h3 _ (by omega), by simp only [List.length_set]; exact h4, step⟩ (by simp only; omega) (Sub.of0 hm id rfl ?_ ?_ (fun _ _ _ _ h => h))
          all_goals (try dsimp only)
          all_goals (first | omega | (simp -implicitDefEqProofs (maxSteps := 1000000) (disch := omega) only [F105, id, go_sem, Nat.blt_eq, Nat.reduceAdd, Nat.reduceSub, Nat.reduceEqDiff, Nat.reduceLT, ↓reduceIte, and_true, true_and, AV.dat.injEq, DV.int.injEq, DV.bool.injEq, DV.lst.injEq, eq_self_iff_true]; first | done | omega | (simp; done) | (simp; omega)) | (simp; done) | (simp; omega) | skip)
    · exfalso; omega
theorem rdivide_D (m n : Nat) (hn : 0 < n) (lm : (D m).length ≤ 500) (ln : (D n).length ≤ 500) : PC Tryz.prog 105 [L (D m), L (D n)] (.tup [L (D (m / n)), L (D (m % n))]) := by
  have h := rdivide_pc (D m) n (dig_D m) hn lm ln
  rwa [val_D, Int.toNat_natCast] at h
end Go.Proofs.YthhjcfejgoddlaaGreatDoor
end

section
set_option linter.unusedSimpArgs false
set_option linter.unusedVariables false
set_option maxRecDepth 100000
namespace Go.Proofs.YthhjcfejgoddlaaGreatDoor
open Go Go.Abs
attribute [local go_sem] wrap64 Int.tdiv_eq_ediv_of_nonneg Int.tmod_eq_emod_of_nonneg eq_self Bool.false_eq_true Bool.true_eq_false Bool.not_true Bool.not_false
attribute [local go_sem_proc] Nat.reduceAdd Nat.reduceMul Nat.reduceEqDiff Nat.reduceLT Nat.reduceLeDiff Int.reduceEq Int.reduceNeg Int.reduceToNat reduceCtorEq Int.reduceBNe Int.reduceBEq

theorem D_add_len (m n : Nat) : (D (m + n)).length ≤ (D m).length + (D n).length + 1 := by
  have h2 : (D 2).length ≤ 1 := D_one_len (by decide)
  rcases Nat.le_total m n with h | h
  · have h1 := D_len_le (show m + n ≤ 2 * n by omega)
    have := D_mul_len 2 n
    omega
  · have h1 := D_len_le (show m + n ≤ 2 * m by omega)
    have := D_mul_len 2 m
    omega
theorem negated_pc (neg : Bool) (d : List Int) (ld : d.length ≤ 1000000) : PC Tryz.prog 98 [Zr neg d] (Zr (!neg && decide (0 < d.length)) (tr d)) := by
  have h := shorn_pc d ld
  cases neg
  all_goals
    refine PCr.pc (PCr.of tab_ok Tryz.func98 rfl rfl rfl fun c hc hm => ?_)
    rw [show Tryz.f98.ntmps = _ from Tryz.ntmps98] at hc
    simp only [Tryz.f98]
    repeat' first | (exact absurd hlt (by decide)) | (refine AWp.seq fun K hK => ?_) | (first | refine AWp.draw2 (id := 1) [.take 0, .take 1, .take 2, .take 3, .take 4, .take 5, .take 6, .take 7, .take 8, .take 9, .take 10, .take 11, .take 12, .grp [13]] mixed_ok (by kernel_rfl) (by rw [hc]; rfl) ?_) | ((first | refine planK_step fun K hK => ?_ | refine planK_one fun K hK => ?_); simp -implicitDefEqProofs (maxSteps := 1000000) (disch := omega) only [go_sem, ↓reduceIte]) | (refine planK_end ?_; try (simp -implicitDefEqProofs (maxSteps := 1000000) (disch := omega) only [go_sem, ↓reduceIte])) | ((first | refine AWp.region (by rw [hc]; rfl) ?_ | refine AWp.skip ?_ | refine AWp.exit ?_ | refine AWp.label ?_ | refine AWp.ret ?_ | refine appK_g ?_); simp -implicitDefEqProofs (maxSteps := 1000000) (disch := omega) only [go_sem, ↓reduceIte]) | ((first | refine hK _ ?_ | (clear hK; first | refine hK _ ?_ | (clear hK; first | refine hK _ ?_ | (clear hK; refine hK _ ?_)))); clear hK) | (refine AWp.cond ?_; simp -implicitDefEqProofs (maxSteps := 1000000) (disch := omega) only [go_sem, ↓reduceIte]; try (refine ⟨fun hlt => ?_, fun hlt => ?_⟩ <;> (try simp only [cla, clb, ne_eq, reduceCtorEq] at hlt) <;> (try exact hlt.elim))) | (refine AWp.block ?_) | ((first | refine gdO_split (fun hlt => ?_) (fun hlt => ?_) | refine tkO_split (fun hlt => ?_) (fun hlt => ?_) | refine opO_split (fun hlt => ?_) (fun hlt => ?_)) <;> have hgd := hlt <;> (try simp only [cla, clb, ne_eq, cld] at hlt) <;> (simp -implicitDefEqProofs (maxSteps := 1000000) (disch := omega) only [go_sem, ↓reduceIte, hgd]) <;> clear hgd) | (with_reducible refine And.intro ?_ ?_; · first | omega | assumption | exact ⟨_, _, rfl, rfl⟩) | ((first | refine ⟨_, h, ?_⟩); try (simp -implicitDefEqProofs (maxSteps := 1000000) (disch := omega) only [go_sem, ↓reduceIte])) | fail
    all_goals first | (exfalso; omega) | rfl | (rw [Bool.true_and, show decide (0 < (d.length : Int)) = decide (0 < d.length) by rw [decide_eq_decide]; omega])
theorem negated_Z (x : Int) (lx : lenZ x ≤ 1000000) : PC Tryz.prog 98 [Z x] (Z (-x)) := by
  have h := negated_pc (decide (x < 0)) (D x.natAbs) lx
  rw [tr_D (dig_D _), val_D, Int.toNat_natCast] at h
  have e : Zr (!decide (x < 0) && decide (0 < (D x.natAbs).length)) (D x.natAbs) = Z (-x) := by
    show _ = Zr (decide (-x < 0)) (D (-x).natAbs)
    rw [Int.natAbs_neg]
    congr 1
    rw [show decide (0 < (D x.natAbs).length) = decide (x.natAbs ≠ 0) by rw [decide_eq_decide]; exact D_len_pos, ← decide_not, ← Bool.decide_and, decide_eq_decide]
    omega
  rwa [e] at h
theorem rNeg_ok (x : Int) (lx : lenZ x ≤ 40) : PC Tryz.prog 44 [Z x] (.tup [Z (-x), I 0]) := by
  have h1 := Is_pc (decide (x < 0)) (D x.natAbs)
  rw [decide_eq_true (okZ lx)] at h1
  have h2 := negated_Z x (by omega)
  have e : PC Tryz.prog 98 [Zr (decide (x < 0)) (D x.natAbs)] (Zr (decide (-x < 0)) (D (-x).natAbs)) := h2
  show PC Tryz.prog 44 [Zr (decide (x < 0)) (D x.natAbs)] (.tup [Zr (decide (-x < 0)) (D (-x).natAbs), I 0])
  generalize decide (x < 0) = n1 at *
  generalize decide (-x < 0) = n2 at *
  generalize D x.natAbs = d1 at *
  generalize D (-x).natAbs = d2 at *
  refine PCr.pc (PCr.of tab_ok Tryz.func44 rfl rfl rfl fun c hc hm => ?_)
  rw [show Tryz.f44.ntmps = _ from Tryz.ntmps44] at hc
  simp only [Tryz.f44]
  repeat' first | (exact absurd hlt (by decide)) | (refine AWp.seq fun K hK => ?_) | ((first | refine AWp.region (by rw [hc]; rfl) ?_ | refine AWp.skip ?_ | refine AWp.exit ?_ | refine AWp.label ?_ | refine AWp.ret ?_ | refine appK_g ?_); simp -implicitDefEqProofs (maxSteps := 1000000) (disch := omega) only [go_sem, ↓reduceIte]) | ((first | refine hK _ ?_ | (clear hK; first | refine hK _ ?_ | (clear hK; first | refine hK _ ?_ | (clear hK; refine hK _ ?_)))); clear hK) | (refine AWp.cond ?_; simp -implicitDefEqProofs (maxSteps := 1000000) (disch := omega) only [go_sem, ↓reduceIte]; try (refine ⟨fun hlt => ?_, fun hlt => ?_⟩ <;> (try simp only [cla, clb, ne_eq, reduceCtorEq] at hlt) <;> (try exact hlt.elim))) | (refine AWp.block ?_) | ((first | refine gdO_split (fun hlt => ?_) (fun hlt => ?_) | refine tkO_split (fun hlt => ?_) (fun hlt => ?_) | refine opO_split (fun hlt => ?_) (fun hlt => ?_)) <;> have hgd := hlt <;> (try simp only [cla, clb, ne_eq, cld] at hlt) <;> (simp -implicitDefEqProofs (maxSteps := 1000000) (disch := omega) only [go_sem, ↓reduceIte, hgd]) <;> clear hgd) | (with_reducible refine And.intro ?_ ?_; · first | omega | assumption | exact ⟨_, _, rfl, rfl⟩) | ((first | refine ⟨_, h1, ?_⟩ | refine ⟨_, e, ?_⟩); simp -implicitDefEqProofs (maxSteps := 1000000) (disch := omega) only [go_sem, ↓reduceIte]) | fail
theorem rNeg_bad (neg : Bool) (d : List Int) (hb : ¬ okI neg d) : PC Tryz.prog 44 [Zr neg d] (.tup [Zr false [], I 10]) := by
  have h1 := Is_pc neg d
  rw [decide_eq_false hb] at h1
  refine PCr.pc (PCr.of tab_ok Tryz.func44 rfl rfl rfl fun c hc hm => ?_)
  rw [show Tryz.f44.ntmps = _ from Tryz.ntmps44] at hc
  simp only [Tryz.f44]
  repeat' first | (exact absurd hlt (by decide)) | (refine AWp.seq fun K hK => ?_) | ((first | refine AWp.region (by rw [hc]; rfl) ?_ | refine AWp.skip ?_ | refine AWp.exit ?_ | refine AWp.label ?_ | refine AWp.ret ?_ | refine appK_g ?_); simp -implicitDefEqProofs (maxSteps := 1000000) (disch := omega) only [go_sem, ↓reduceIte]) | ((first | refine hK _ ?_ | (clear hK; first | refine hK _ ?_ | (clear hK; first | refine hK _ ?_ | (clear hK; refine hK _ ?_)))); clear hK) | (refine AWp.cond ?_; simp -implicitDefEqProofs (maxSteps := 1000000) (disch := omega) only [go_sem, ↓reduceIte]; try (refine ⟨fun hlt => ?_, fun hlt => ?_⟩ <;> (try simp only [cla, clb, ne_eq, reduceCtorEq] at hlt) <;> (try exact hlt.elim))) | (refine AWp.block ?_) | ((first | refine gdO_split (fun hlt => ?_) (fun hlt => ?_) | refine tkO_split (fun hlt => ?_) (fun hlt => ?_) | refine opO_split (fun hlt => ?_) (fun hlt => ?_)) <;> have hgd := hlt <;> (try simp only [cla, clb, ne_eq, cld] at hlt) <;> (simp -implicitDefEqProofs (maxSteps := 1000000) (disch := omega) only [go_sem, ↓reduceIte, hgd]) <;> clear hgd) | (with_reducible refine And.intro ?_ ?_; · first | omega | assumption | exact ⟨_, _, rfl, rfl⟩) | ((first | refine ⟨_, h1, ?_⟩); simp -implicitDefEqProofs (maxSteps := 1000000) (disch := omega) only [go_sem, ↓reduceIte]) | fail
/-- A reference function of two numbers refuses what is no integer. -/
theorem Are_bad {na nb : Bool} {a b : List Int} (hb : ¬ (okI na a ∧ okI nb b)) : PC Tryz.prog 99 [Zr na a, Zr nb b] (B false) := by
  have h := Are_pc na nb a b
  rwa [decide_eq_false hb] at h
theorem rAdd_bad (na nb : Bool) (a b : List Int) (hb : ¬ (okI na a ∧ okI nb b)) : PC Tryz.prog 45 [Zr na a, Zr nb b] (.tup [Zr false [], I 10]) := by
  have h1 := Are_bad hb
  refine PCr.pc (PCr.of tab_ok Tryz.func45 rfl rfl rfl fun c hc hm => ?_)
  rw [show Tryz.f45.ntmps = _ from Tryz.ntmps45] at hc
  simp only [Tryz.f45]
  repeat' first | (exact absurd hlt (by decide)) | (refine AWp.seq fun K hK => ?_) | ((first | refine AWp.draw (id := 5) [.take 0, .take 1, .take 2, .take 3, .take 4, .take 5, .take 6, .take 7, .take 8, .take 9, .grp [10], .take 11] mixed_ok (by kernel_rfl) (by rw [hc]; rfl) ?_ | refine AWp.draw (id := 7) [.take 0, .take 1, .take 2, .take 3, .take 4, .take 5, .take 6, .take 7, .take 8, .take 9, .grp [10], .take 11] mixed_ok (by kernel_rfl) (by rw [hc]; rfl) ?_ | refine AWp.draw (id := 8) [.take 0, .take 1, .take 2, .take 3, .take 4, .take 5, .take 6, .take 7, .take 8, .take 9, .grp [10], .take 11] mixed_ok (by kernel_rfl) (by rw [hc]; rfl) ?_ | refine AWp.region (by rw [hc]; rfl) ?_ | refine AWp.skip ?_ | refine AWp.exit ?_ | refine AWp.label ?_ | refine AWp.ret ?_ | refine appK_g ?_); simp -implicitDefEqProofs (maxSteps := 1000000) (disch := omega) only [go_sem, ↓reduceIte]) | ((first | refine hK _ ?_ | (clear hK; first | refine hK _ ?_ | (clear hK; first | refine hK _ ?_ | (clear hK; refine hK _ ?_)))); clear hK) | (refine AWp.cond ?_; simp -implicitDefEqProofs (maxSteps := 1000000) (disch := omega) only [go_sem, ↓reduceIte]; try (refine ⟨fun hlt => ?_, fun hlt => ?_⟩ <;> (try simp only [cla, clb, ne_eq, reduceCtorEq] at hlt) <;> (try exact hlt.elim))) | (refine AWp.block ?_) | ((first | refine gdO_split (fun hlt => ?_) (fun hlt => ?_) | refine tkO_split (fun hlt => ?_) (fun hlt => ?_) | refine opO_split (fun hlt => ?_) (fun hlt => ?_)) <;> have hgd := hlt <;> (try simp only [cla, clb, ne_eq, cld] at hlt) <;> (simp -implicitDefEqProofs (maxSteps := 1000000) (disch := omega) only [go_sem, ↓reduceIte, hgd]) <;> clear hgd) | (with_reducible refine And.intro ?_ ?_; · first | omega | assumption | exact ⟨_, _, rfl, rfl⟩) | ((first | refine ⟨_, h1, ?_⟩); simp -implicitDefEqProofs (maxSteps := 1000000) (disch := omega) only [go_sem, ↓reduceIte]) | fail
theorem rSub_bad (na nb : Bool) (a b : List Int) (hb : ¬ (okI na a ∧ okI nb b)) : PC Tryz.prog 46 [Zr na a, Zr nb b] (.tup [Zr false [], I 10]) := by
  have h1 := Are_bad hb
  refine PCr.pc (PCr.of tab_ok Tryz.func46 rfl rfl rfl fun c hc hm => ?_)
  rw [show Tryz.f46.ntmps = _ from Tryz.ntmps46] at hc
  simp only [Tryz.f46]
  repeat' first | (exact absurd hlt (by decide)) | (refine AWp.seq fun K hK => ?_) | ((first | refine AWp.draw (id := 4) [.take 0, .take 1, .take 2, .take 3, .take 4, .take 5, .grp [6], .take 7] mixed_ok (by kernel_rfl) (by rw [hc]; rfl) ?_ | refine AWp.region (by rw [hc]; rfl) ?_ | refine AWp.skip ?_ | refine AWp.exit ?_ | refine AWp.label ?_ | refine AWp.ret ?_ | refine appK_g ?_); simp -implicitDefEqProofs (maxSteps := 1000000) (disch := omega) only [go_sem, ↓reduceIte]) | ((first | refine hK _ ?_ | (clear hK; first | refine hK _ ?_ | (clear hK; first | refine hK _ ?_ | (clear hK; refine hK _ ?_)))); clear hK) | (refine AWp.cond ?_; simp -implicitDefEqProofs (maxSteps := 1000000) (disch := omega) only [go_sem, ↓reduceIte]; try (refine ⟨fun hlt => ?_, fun hlt => ?_⟩ <;> (try simp only [cla, clb, ne_eq, reduceCtorEq] at hlt) <;> (try exact hlt.elim))) | (refine AWp.block ?_) | ((first | refine gdO_split (fun hlt => ?_) (fun hlt => ?_) | refine tkO_split (fun hlt => ?_) (fun hlt => ?_) | refine opO_split (fun hlt => ?_) (fun hlt => ?_)) <;> have hgd := hlt <;> (try simp only [cla, clb, ne_eq, cld] at hlt) <;> (simp -implicitDefEqProofs (maxSteps := 1000000) (disch := omega) only [go_sem, ↓reduceIte, hgd]) <;> clear hgd) | (with_reducible refine And.intro ?_ ?_; · first | omega | assumption | exact ⟨_, _, rfl, rfl⟩) | ((first | refine ⟨_, h1, ?_⟩); simp -implicitDefEqProofs (maxSteps := 1000000) (disch := omega) only [go_sem, ↓reduceIte]) | fail
theorem rMul_bad (na nb : Bool) (a b : List Int) (hb : ¬ (okI na a ∧ okI nb b)) : PC Tryz.prog 47 [Zr na a, Zr nb b] (.tup [Zr false [], I 10]) := by
  have h1 := Are_bad hb
  refine PCr.pc (PCr.of tab_ok Tryz.func47 rfl rfl rfl fun c hc hm => ?_)
  rw [show Tryz.f47.ntmps = _ from Tryz.ntmps47] at hc
  simp only [Tryz.f47]
  repeat' first | (exact absurd hlt (by decide)) | (refine AWp.seq fun K hK => ?_) | ((first | refine AWp.draw (id := 4) [.take 0, .take 1, .take 2, .take 3, .take 4, .take 5, .take 6, .take 7, .take 8, .take 9, .take 10, .take 11, .take 12, .grp [13], .take 14] mixed_ok (by kernel_rfl) (by rw [hc]; rfl) ?_ | refine AWp.region (by rw [hc]; rfl) ?_ | refine AWp.skip ?_ | refine AWp.exit ?_ | refine AWp.label ?_ | refine AWp.ret ?_ | refine appK_g ?_); simp -implicitDefEqProofs (maxSteps := 1000000) (disch := omega) only [go_sem, ↓reduceIte]) | ((first | refine hK _ ?_ | (clear hK; first | refine hK _ ?_ | (clear hK; first | refine hK _ ?_ | (clear hK; refine hK _ ?_)))); clear hK) | (refine AWp.cond ?_; simp -implicitDefEqProofs (maxSteps := 1000000) (disch := omega) only [go_sem, ↓reduceIte]; try (refine ⟨fun hlt => ?_, fun hlt => ?_⟩ <;> (try simp only [cla, clb, ne_eq, reduceCtorEq] at hlt) <;> (try exact hlt.elim))) | (refine AWp.block ?_) | ((first | refine gdO_split (fun hlt => ?_) (fun hlt => ?_) | refine tkO_split (fun hlt => ?_) (fun hlt => ?_) | refine opO_split (fun hlt => ?_) (fun hlt => ?_)) <;> have hgd := hlt <;> (try simp only [cla, clb, ne_eq, cld] at hlt) <;> (simp -implicitDefEqProofs (maxSteps := 1000000) (disch := omega) only [go_sem, ↓reduceIte, hgd]) <;> clear hgd) | (with_reducible refine And.intro ?_ ?_; · first | omega | assumption | exact ⟨_, _, rfl, rfl⟩) | ((first | refine ⟨_, h1, ?_⟩); simp -implicitDefEqProofs (maxSteps := 1000000) (disch := omega) only [go_sem, ↓reduceIte]) | fail
theorem rDiv_bad (na nb : Bool) (a b : List Int) (hb : ¬ (okI na a ∧ okI nb b)) : PC Tryz.prog 48 [Zr na a, Zr nb b] (.tup [Zr false [], I 10]) := by
  have h1 := Are_bad hb
  refine PCr.pc (PCr.of tab_ok Tryz.func48 rfl rfl rfl fun c hc hm => ?_)
  rw [show Tryz.f48.ntmps = _ from Tryz.ntmps48] at hc
  simp only [Tryz.f48]
  repeat' first | (exact absurd hlt (by decide)) | (refine AWp.seq fun K hK => ?_) | ((first | refine AWp.region (by rw [hc]; rfl) ?_ | refine AWp.skip ?_ | refine AWp.exit ?_ | refine AWp.label ?_ | refine AWp.ret ?_ | refine appK_g ?_); simp -implicitDefEqProofs (maxSteps := 1000000) (disch := omega) only [go_sem, ↓reduceIte]) | ((first | refine hK _ ?_ | (clear hK; first | refine hK _ ?_ | (clear hK; first | refine hK _ ?_ | (clear hK; refine hK _ ?_)))); clear hK) | (refine AWp.cond ?_; simp -implicitDefEqProofs (maxSteps := 1000000) (disch := omega) only [go_sem, ↓reduceIte]; try (refine ⟨fun hlt => ?_, fun hlt => ?_⟩ <;> (try simp only [cla, clb, ne_eq, reduceCtorEq] at hlt) <;> (try exact hlt.elim))) | (refine AWp.block ?_) | ((first | refine gdO_split (fun hlt => ?_) (fun hlt => ?_) | refine tkO_split (fun hlt => ?_) (fun hlt => ?_) | refine opO_split (fun hlt => ?_) (fun hlt => ?_)) <;> have hgd := hlt <;> (try simp only [cla, clb, ne_eq, cld] at hlt) <;> (simp -implicitDefEqProofs (maxSteps := 1000000) (disch := omega) only [go_sem, ↓reduceIte, hgd]) <;> clear hgd) | (with_reducible refine And.intro ?_ ?_; · first | omega | assumption | exact ⟨_, _, rfl, rfl⟩) | ((first | refine ⟨_, h1, ?_⟩); simp -implicitDefEqProofs (maxSteps := 1000000) (disch := omega) only [go_sem, ↓reduceIte]) | fail
theorem rMod_bad (na nb : Bool) (a b : List Int) (hb : ¬ (okI na a ∧ okI nb b)) : PC Tryz.prog 49 [Zr na a, Zr nb b] (.tup [Zr false [], I 10]) := by
  have h1 := Are_bad hb
  refine PCr.pc (PCr.of tab_ok Tryz.func49 rfl rfl rfl fun c hc hm => ?_)
  rw [show Tryz.f49.ntmps = _ from Tryz.ntmps49] at hc
  simp only [Tryz.f49]
  repeat' first | (exact absurd hlt (by decide)) | (refine AWp.seq fun K hK => ?_) | ((first | refine AWp.region (by rw [hc]; rfl) ?_ | refine AWp.skip ?_ | refine AWp.exit ?_ | refine AWp.label ?_ | refine AWp.ret ?_ | refine appK_g ?_); simp -implicitDefEqProofs (maxSteps := 1000000) (disch := omega) only [go_sem, ↓reduceIte]) | ((first | refine hK _ ?_ | (clear hK; first | refine hK _ ?_ | (clear hK; first | refine hK _ ?_ | (clear hK; refine hK _ ?_)))); clear hK) | (refine AWp.cond ?_; simp -implicitDefEqProofs (maxSteps := 1000000) (disch := omega) only [go_sem, ↓reduceIte]; try (refine ⟨fun hlt => ?_, fun hlt => ?_⟩ <;> (try simp only [cla, clb, ne_eq, reduceCtorEq] at hlt) <;> (try exact hlt.elim))) | (refine AWp.block ?_) | ((first | refine gdO_split (fun hlt => ?_) (fun hlt => ?_) | refine tkO_split (fun hlt => ?_) (fun hlt => ?_) | refine opO_split (fun hlt => ?_) (fun hlt => ?_)) <;> have hgd := hlt <;> (try simp only [cla, clb, ne_eq, cld] at hlt) <;> (simp -implicitDefEqProofs (maxSteps := 1000000) (disch := omega) only [go_sem, ↓reduceIte, hgd]) <;> clear hgd) | (with_reducible refine And.intro ?_ ?_; · first | omega | assumption | exact ⟨_, _, rfl, rfl⟩) | ((first | refine ⟨_, h1, ?_⟩); simp -implicitDefEqProofs (maxSteps := 1000000) (disch := omega) only [go_sem, ↓reduceIte]) | fail
theorem rPow_bad (na nb : Bool) (a b : List Int) (hb : ¬ (okI na a ∧ okI nb b)) : PC Tryz.prog 50 [Zr na a, Zr nb b] (.tup [Zr false [], I 10]) := by
  have h1 := Are_bad hb
  refine PCr.pc (PCr.of tab_ok Tryz.func50 rfl rfl rfl fun c hc hm => ?_)
  rw [show Tryz.f50.ntmps = _ from Tryz.ntmps50] at hc
  simp only [Tryz.f50]
  repeat' first | (exact absurd hlt (by decide)) | (refine AWp.seq fun K hK => ?_) | ((first | refine AWp.region (by rw [hc]; rfl) ?_ | refine AWp.skip ?_ | refine AWp.exit ?_ | refine AWp.label ?_ | refine AWp.ret ?_ | refine appK_g ?_); simp -implicitDefEqProofs (maxSteps := 1000000) (disch := omega) only [go_sem, ↓reduceIte]) | ((first | refine hK _ ?_ | (clear hK; first | refine hK _ ?_ | (clear hK; first | refine hK _ ?_ | (clear hK; refine hK _ ?_)))); clear hK) | (refine AWp.cond ?_; simp -implicitDefEqProofs (maxSteps := 1000000) (disch := omega) only [go_sem, ↓reduceIte]; try (refine ⟨fun hlt => ?_, fun hlt => ?_⟩ <;> (try simp only [cla, clb, ne_eq, reduceCtorEq] at hlt) <;> (try exact hlt.elim))) | (refine AWp.block ?_) | ((first | refine gdO_split (fun hlt => ?_) (fun hlt => ?_) | refine tkO_split (fun hlt => ?_) (fun hlt => ?_) | refine opO_split (fun hlt => ?_) (fun hlt => ?_)) <;> have hgd := hlt <;> (try simp only [cla, clb, ne_eq, cld] at hlt) <;> (simp -implicitDefEqProofs (maxSteps := 1000000) (disch := omega) only [go_sem, ↓reduceIte, hgd]) <;> clear hgd) | (with_reducible refine And.intro ?_ ?_; · first | omega | assumption | exact ⟨_, _, rfl, rfl⟩) | ((first | refine ⟨_, h1, ?_⟩); simp -implicitDefEqProofs (maxSteps := 1000000) (disch := omega) only [go_sem, ↓reduceIte]) | fail
theorem Are_ok {x y : Int} (lx : lenZ x ≤ 40) (ly : lenZ y ≤ 40) : PC Tryz.prog 99 [Zr (decide (x < 0)) (D x.natAbs), Zr (decide (y < 0)) (D y.natAbs)] (B true) := by
  have h := Are_pc (decide (x < 0)) (decide (y < 0)) (D x.natAbs) (D y.natAbs)
  rwa [decide_eq_true (⟨okZ lx, okZ ly⟩ : _ ∧ _)] at h
/-- A result of limR, taken apart. -/
theorem limR_ex (z : Int) : ∃ n d e, limR z = .tup [Zr n d, I e] := by
  unfold limR; split
  · exact ⟨_, _, _, rfl⟩
  · exact ⟨_, _, _, rfl⟩
set_option maxHeartbeats 4000000 in
theorem rAdd_ok (x y : Int) (lx : lenZ x ≤ 40) (ly : lenZ y ≤ 40) : PC Tryz.prog 45 [Z x, Z y] (limR (x + y)) := by
  have h1 := Are_ok lx ly
  unfold lenZ at lx ly
  have s1 := rsum_D x.natAbs y.natAbs (by omega) (by omega)
  have c1 := size_pc (D x.natAbs) (D y.natAbs) (by omega) (by omega)
  rw [cmp_D] at c1
  have hc1 : 0 ≤ cmpI x.natAbs y.natAbs → y.natAbs ≤ x.natAbs := by simp only [cmpI]; (repeat' split) <;> omega
  have hc2 : cmpI x.natAbs y.natAbs < 0 → x.natAbs ≤ y.natAbs := by simp only [cmpI]; (repeat' split) <;> omega
  generalize cmpI x.natAbs y.natAbs = cc at *
  have l1 := fun h => rless_D x.natAbs y.natAbs h (by omega)
  have l2 := fun h => rless_D y.natAbs x.natAbs h (by omega)
  have ld1 := D_add_len x.natAbs y.natAbs
  have ld2 : (D (x.natAbs - y.natAbs)).length ≤ 40 := Nat.le_trans (D_len_le (Nat.sub_le _ _)) lx
  have ld3 : (D (y.natAbs - x.natAbs)).length ≤ 40 := Nat.le_trans (D_len_le (Nat.sub_le _ _)) ly
  have m1 := made_D (decide (x < 0)) (x.natAbs + y.natAbs) (by omega)
  have m2 := made_D (decide (x < 0)) (x.natAbs - y.natAbs) (by omega)
  have m3 := made_D (decide (y < 0)) (y.natAbs - x.natAbs) (by omega)
  have e1 : decide (x < 0) = decide (y < 0) → sg (decide (x < 0)) (x.natAbs + y.natAbs) = x + y := by
    rw [decide_eq_decide]; intro h; unfold sg; by_cases hx : x < 0 <;> simp [hx] <;> omega
  have e2 : decide (x < 0) ≠ decide (y < 0) → y.natAbs ≤ x.natAbs → sg (decide (x < 0)) (x.natAbs - y.natAbs) = x + y := by
    rw [ne_eq, decide_eq_decide]; intro h; unfold sg; by_cases hx : x < 0 <;> simp [hx] <;> omega
  have e3 : decide (x < 0) ≠ decide (y < 0) → x.natAbs ≤ y.natAbs → sg (decide (y < 0)) (y.natAbs - x.natAbs) = x + y := by
    rw [ne_eq, decide_eq_decide]; intro h; unfold sg; by_cases hx : y < 0 <;> simp [hx] <;> omega
  show PC Tryz.prog 45 [Zr (decide (x < 0)) (D x.natAbs), Zr (decide (y < 0)) (D y.natAbs)] _
  obtain ⟨n0, d0, r0, hr⟩ := limR_ex (x + y)
  by_cases hs : decide (x < 0) = decide (y < 0)
  · rw [e1 hs, hr] at m1
    rw [hr]
    rw [← hs] at h1 ⊢
    generalize decide (x < 0) = na at *
    refine PCr.pc (PCr.of tab_ok Tryz.func45 rfl rfl rfl fun c hc hm => ?_)
    rw [show Tryz.f45.ntmps = _ from Tryz.ntmps45] at hc
    simp only [Tryz.f45]
    repeat' first | (exact absurd hlt (by decide)) | (refine AWp.seq fun K hK => ?_) | (first | refine AWp.draw2 (id := 5) [.take 0, .take 1, .take 2, .take 3, .take 4, .take 5, .take 6, .take 7, .take 8, .take 9, .grp [10], .take 11] mixed_ok (by kernel_rfl) (by rw [hc]; rfl) ?_ | refine AWp.draw2 (id := 7) [.take 0, .take 1, .take 2, .take 3, .take 4, .take 5, .take 6, .take 7, .take 8, .take 9, .grp [10], .take 11] mixed_ok (by kernel_rfl) (by rw [hc]; rfl) ?_ | refine AWp.draw2 (id := 8) [.take 0, .take 1, .take 2, .take 3, .take 4, .take 5, .take 6, .take 7, .take 8, .take 9, .grp [10], .take 11] mixed_ok (by kernel_rfl) (by rw [hc]; rfl) ?_) | ((first | refine planK_step fun K hK => ?_ | refine planK_one fun K hK => ?_); simp -implicitDefEqProofs (maxSteps := 1000000) (disch := omega) only [go_sem, ↓reduceIte, beq_self_eq_true]) | (refine planK_end ?_; try (simp -implicitDefEqProofs (maxSteps := 1000000) (disch := omega) only [go_sem, ↓reduceIte, beq_self_eq_true])) | ((first | refine AWp.region (by rw [hc]; rfl) ?_ | refine AWp.skip ?_ | refine AWp.exit ?_ | refine AWp.label ?_ | refine AWp.ret ?_ | refine appK_g ?_); simp -implicitDefEqProofs (maxSteps := 1000000) (disch := omega) only [go_sem, ↓reduceIte, beq_self_eq_true]) | ((first | refine hK _ ?_ | (clear hK; first | refine hK _ ?_ | (clear hK; first | refine hK _ ?_ | (clear hK; refine hK _ ?_)))); clear hK) | (refine AWp.cond ?_; simp -implicitDefEqProofs (maxSteps := 1000000) (disch := omega) only [go_sem, ↓reduceIte, beq_self_eq_true]; try (refine ⟨fun hlt => ?_, fun hlt => ?_⟩ <;> (try simp only [cla, clb, ne_eq, reduceCtorEq] at hlt) <;> (try exact hlt.elim))) | (refine AWp.block ?_) | ((first | refine gdO_split (fun hlt => ?_) (fun hlt => ?_) | refine tkO_split (fun hlt => ?_) (fun hlt => ?_) | refine opO_split (fun hlt => ?_) (fun hlt => ?_)) <;> have hgd := hlt <;> (try simp only [cla, clb, ne_eq, cld] at hlt) <;> (simp -implicitDefEqProofs (maxSteps := 1000000) (disch := omega) only [go_sem, ↓reduceIte, beq_self_eq_true, hgd]) <;> clear hgd) | (with_reducible refine And.intro ?_ ?_; · first | omega | assumption | exact ⟨_, _, rfl, rfl⟩) | ((first | refine ⟨_, h1, ?_⟩ | refine ⟨_, s1, ?_⟩ | refine ⟨_, m1, ?_⟩); try (simp -implicitDefEqProofs (maxSteps := 1000000) (disch := omega) only [go_sem, ↓reduceIte, beq_self_eq_true])) | fail
  · have e2 := e2 hs
    have e3 := e3 hs
    have m2 := fun h => (show PC Tryz.prog 100 _ _ from (by rw [e2 h] at m2; rw [hr] at m2; exact m2 : PC Tryz.prog 100 [B (decide (x < 0)), L (D (x.natAbs - y.natAbs))] (.tup [Zr n0 d0, I r0])))
    have m3 := fun h => (show PC Tryz.prog 100 _ _ from (by rw [e3 h] at m3; rw [hr] at m3; exact m3 : PC Tryz.prog 100 [B (decide (y < 0)), L (D (y.natAbs - x.natAbs))] (.tup [Zr n0 d0, I r0])))
    rw [hr]
    generalize decide (x < 0) = na at *
    generalize decide (y < 0) = nb at *
    have hb : (na == nb) = false := by simpa using hs
    refine PCr.pc (PCr.of tab_ok Tryz.func45 rfl rfl rfl fun c hc hm => ?_)
    rw [show Tryz.f45.ntmps = _ from Tryz.ntmps45] at hc
    simp only [Tryz.f45]
    repeat' first | (exact absurd hlt (by decide)) | (refine AWp.seq fun K hK => ?_) | (first | refine AWp.draw2 (id := 5) [.take 0, .take 1, .take 2, .take 3, .take 4, .take 5, .take 6, .take 7, .take 8, .take 9, .grp [10], .take 11] mixed_ok (by kernel_rfl) (by rw [hc]; rfl) ?_ | refine AWp.draw2 (id := 7) [.take 0, .take 1, .take 2, .take 3, .take 4, .take 5, .take 6, .take 7, .take 8, .take 9, .grp [10], .take 11] mixed_ok (by kernel_rfl) (by rw [hc]; rfl) ?_ | refine AWp.draw2 (id := 8) [.take 0, .take 1, .take 2, .take 3, .take 4, .take 5, .take 6, .take 7, .take 8, .take 9, .grp [10], .take 11] mixed_ok (by kernel_rfl) (by rw [hc]; rfl) ?_) | ((first | refine planK_step fun K hK => ?_ | refine planK_one fun K hK => ?_); simp -implicitDefEqProofs (maxSteps := 1000000) (disch := omega) only [go_sem, ↓reduceIte, hb]) | (refine planK_end ?_; try (simp -implicitDefEqProofs (maxSteps := 1000000) (disch := omega) only [go_sem, ↓reduceIte, hb])) | ((first | refine AWp.region (by rw [hc]; rfl) ?_ | refine AWp.skip ?_ | refine AWp.exit ?_ | refine AWp.label ?_ | refine AWp.ret ?_ | refine appK_g ?_); simp -implicitDefEqProofs (maxSteps := 1000000) (disch := omega) only [go_sem, ↓reduceIte, hb]) | ((first | refine hK _ ?_ | (clear hK; first | refine hK _ ?_ | (clear hK; first | refine hK _ ?_ | (clear hK; refine hK _ ?_)))); clear hK) | (refine AWp.cond ?_; simp -implicitDefEqProofs (maxSteps := 1000000) (disch := omega) only [go_sem, ↓reduceIte, hb]; try (refine ⟨fun hlt => ?_, fun hlt => ?_⟩ <;> (try simp only [cla, clb, ne_eq, reduceCtorEq] at hlt) <;> (try exact hlt.elim))) | (refine AWp.block ?_) | ((first | refine gdO_split (fun hlt => ?_) (fun hlt => ?_) | refine tkO_split (fun hlt => ?_) (fun hlt => ?_) | refine opO_split (fun hlt => ?_) (fun hlt => ?_)) <;> have hgd := hlt <;> (try simp only [cla, clb, ne_eq, cld] at hlt) <;> (simp -implicitDefEqProofs (maxSteps := 1000000) (disch := omega) only [go_sem, ↓reduceIte, hb, hgd]) <;> clear hgd) | (with_reducible refine And.intro ?_ ?_; · first | omega | assumption | exact ⟨_, _, rfl, rfl⟩) | ((first | refine ⟨_, h1, ?_⟩ | refine ⟨_, c1, ?_⟩ | refine ⟨_, l1 (by omega), ?_⟩ | refine ⟨_, l2 (by omega), ?_⟩ | refine ⟨_, m2 (by omega), ?_⟩ | refine ⟨_, m3 (by omega), ?_⟩); try (simp -implicitDefEqProofs (maxSteps := 1000000) (disch := omega) only [go_sem, ↓reduceIte, hb])) | fail
end Go.Proofs.YthhjcfejgoddlaaGreatDoor
end

section
set_option linter.unusedSimpArgs false
set_option linter.unusedVariables false
set_option maxRecDepth 100000
namespace Go.Proofs.YthhjcfejgoddlaaGreatDoor
open Go Go.Abs
attribute [local go_sem] wrap64 Int.tdiv_eq_ediv_of_nonneg Int.tmod_eq_emod_of_nonneg eq_self Bool.false_eq_true Bool.true_eq_false Bool.not_true Bool.not_false
attribute [local go_sem_proc] Nat.reduceAdd Nat.reduceMul Nat.reduceEqDiff Nat.reduceLT Nat.reduceLeDiff Int.reduceEq Int.reduceNeg Int.reduceToNat reduceCtorEq Int.reduceBNe Int.reduceBEq

theorem rSub_ok (x y : Int) (lx : lenZ x ≤ 40) (ly : lenZ y ≤ 40) : PC Tryz.prog 46 [Z x, Z y] (limR (x - y)) := by
  have h1 := Are_ok lx ly
  have h2 : PC Tryz.prog 98 [Zr (decide (y < 0)) (D y.natAbs)] (Zr (decide (-y < 0)) (D (-y).natAbs)) := negated_Z y (by omega)
  have h3 : PC Tryz.prog 45 [Zr (decide (x < 0)) (D x.natAbs), Zr (decide (-y < 0)) (D (-y).natAbs)] (limR (x + -y)) := rAdd_ok x (-y) lx (by unfold lenZ at *; rwa [Int.natAbs_neg])
  obtain ⟨n0, d0, r0, hr⟩ := limR_ex (x - y)
  rw [← Int.sub_eq_add_neg, hr] at h3
  rw [hr]
  show PC Tryz.prog 46 [Zr (decide (x < 0)) (D x.natAbs), Zr (decide (y < 0)) (D y.natAbs)] _
  generalize decide (x < 0) = na at *
  generalize decide (y < 0) = nb at *
  generalize decide (-y < 0) = nc at *
  generalize D x.natAbs = a at *
  generalize D y.natAbs = b at *
  generalize D (-y).natAbs = c at *
  refine PCr.pc (PCr.of tab_ok Tryz.func46 rfl rfl rfl fun c hc hm => ?_)
  rw [show Tryz.f46.ntmps = _ from Tryz.ntmps46] at hc
  simp only [Tryz.f46]
  repeat' first | (exact absurd hlt (by decide)) | (refine AWp.seq fun K hK => ?_) | (first | refine AWp.draw2 (id := 4) [.take 0, .take 1, .take 2, .take 3, .take 4, .take 5, .grp [6], .take 7] mixed_ok (by kernel_rfl) (by rw [hc]; rfl) ?_) | ((first | refine planK_step fun K hK => ?_ | refine planK_one fun K hK => ?_); simp -implicitDefEqProofs (maxSteps := 1000000) (disch := omega) only [go_sem, ↓reduceIte]) | (refine planK_end ?_; try (simp -implicitDefEqProofs (maxSteps := 1000000) (disch := omega) only [go_sem, ↓reduceIte])) | ((first | refine AWp.region (by rw [hc]; rfl) ?_ | refine AWp.skip ?_ | refine AWp.exit ?_ | refine AWp.label ?_ | refine AWp.ret ?_ | refine appK_g ?_); simp -implicitDefEqProofs (maxSteps := 1000000) (disch := omega) only [go_sem, ↓reduceIte]) | ((first | refine hK _ ?_ | (clear hK; first | refine hK _ ?_ | (clear hK; first | refine hK _ ?_ | (clear hK; refine hK _ ?_)))); clear hK) | (refine AWp.cond ?_; simp -implicitDefEqProofs (maxSteps := 1000000) (disch := omega) only [go_sem, ↓reduceIte]; try (refine ⟨fun hlt => ?_, fun hlt => ?_⟩ <;> (try simp only [cla, clb, ne_eq, reduceCtorEq] at hlt) <;> (try exact hlt.elim))) | (refine AWp.block ?_) | ((first | refine gdO_split (fun hlt => ?_) (fun hlt => ?_) | refine tkO_split (fun hlt => ?_) (fun hlt => ?_) | refine opO_split (fun hlt => ?_) (fun hlt => ?_)) <;> have hgd := hlt <;> (try simp only [cla, clb, ne_eq, cld] at hlt) <;> (simp -implicitDefEqProofs (maxSteps := 1000000) (disch := omega) only [go_sem, ↓reduceIte, hgd]) <;> clear hgd) | (with_reducible refine And.intro ?_ ?_; · first | omega | assumption | exact ⟨_, _, rfl, rfl⟩) | ((first | refine ⟨_, h1, ?_⟩ | refine ⟨_, h2, ?_⟩ | refine ⟨_, h3, ?_⟩); try (simp -implicitDefEqProofs (maxSteps := 1000000) (disch := omega) only [go_sem, ↓reduceIte])) | fail
theorem rMul_ok (x y : Int) (lx : lenZ x ≤ 40) (ly : lenZ y ≤ 40) : PC Tryz.prog 47 [Z x, Z y] (limR (x * y)) := by
  have h1 := Are_ok lx ly
  unfold lenZ at lx ly
  have t1 := rtimes_D x.natAbs y.natAbs (by omega) (by omega)
  have m1 := made_D (!(decide (x < 0) == decide (y < 0))) (x.natAbs * y.natAbs) (by have := D_mul_len x.natAbs y.natAbs; omega)
  rw [sg_mul, Z_sg, Z_sg] at m1
  obtain ⟨n0, d0, r0, hr⟩ := limR_ex (x * y)
  rw [hr] at m1 ⊢
  show PC Tryz.prog 47 [Zr (decide (x < 0)) (D x.natAbs), Zr (decide (y < 0)) (D y.natAbs)] _
  generalize decide (x < 0) = na at *
  generalize decide (y < 0) = nb at *
  refine PCr.pc (PCr.of tab_ok Tryz.func47 rfl rfl rfl fun c hc hm => ?_)
  rw [show Tryz.f47.ntmps = _ from Tryz.ntmps47] at hc
  simp only [Tryz.f47]
  repeat' first | (exact absurd hlt (by decide)) | (refine AWp.seq fun K hK => ?_) | (first | refine AWp.draw2 (id := 4) [.take 0, .take 1, .take 2, .take 3, .take 4, .take 5, .take 6, .take 7, .take 8, .take 9, .take 10, .take 11, .take 12, .grp [13], .take 14] mixed_ok (by kernel_rfl) (by rw [hc]; rfl) ?_) | ((first | refine planK_step fun K hK => ?_ | refine planK_one fun K hK => ?_); simp -implicitDefEqProofs (maxSteps := 1000000) (disch := omega) only [go_sem, ↓reduceIte]) | (refine planK_end ?_; try (simp -implicitDefEqProofs (maxSteps := 1000000) (disch := omega) only [go_sem, ↓reduceIte])) | ((first | refine AWp.region (by rw [hc]; rfl) ?_ | refine AWp.skip ?_ | refine AWp.exit ?_ | refine AWp.label ?_ | refine AWp.ret ?_ | refine appK_g ?_); simp -implicitDefEqProofs (maxSteps := 1000000) (disch := omega) only [go_sem, ↓reduceIte]) | ((first | refine hK _ ?_ | (clear hK; first | refine hK _ ?_ | (clear hK; first | refine hK _ ?_ | (clear hK; refine hK _ ?_)))); clear hK) | (refine AWp.cond ?_; simp -implicitDefEqProofs (maxSteps := 1000000) (disch := omega) only [go_sem, ↓reduceIte]; try (refine ⟨fun hlt => ?_, fun hlt => ?_⟩ <;> (try simp only [cla, clb, ne_eq, reduceCtorEq] at hlt) <;> (try exact hlt.elim))) | (refine AWp.block ?_) | ((first | refine gdO_split (fun hlt => ?_) (fun hlt => ?_) | refine tkO_split (fun hlt => ?_) (fun hlt => ?_) | refine opO_split (fun hlt => ?_) (fun hlt => ?_)) <;> have hgd := hlt <;> (try simp only [cla, clb, ne_eq, cld] at hlt) <;> (simp -implicitDefEqProofs (maxSteps := 1000000) (disch := omega) only [go_sem, ↓reduceIte, hgd]) <;> clear hgd) | (with_reducible refine And.intro ?_ ?_; · first | omega | assumption | exact ⟨_, _, rfl, rfl⟩) | ((first | refine ⟨_, h1, ?_⟩ | refine ⟨_, t1, ?_⟩ | refine ⟨_, m1, ?_⟩); try (simp -implicitDefEqProofs (maxSteps := 1000000) (disch := omega) only [go_sem, ↓reduceIte])) | fail
theorem fd_sg (na nb : Bool) (m n : Nat) (hn : 0 < n) :
    (sg na m).fdiv (sg nb n) = (if na ≠ nb ∧ m % n ≠ 0 then -((m / n + 1 : Nat) : Int) else sg (!(na == nb)) (m / n)) ∧
    (sg na m).fmod (sg nb n) = (if na ≠ nb ∧ m % n ≠ 0 then sg nb (n - m % n) else sg nb (m % n)) := by
  have hq := Nat.div_add_mod m n
  have hr := Nat.mod_lt m hn
  have hm : (m : Int) = (n : Int) * ((m / n : Nat) : Int) + ((m % n : Nat) : Int) := by rw [← Int.natCast_mul, ← Int.natCast_add, hq]
  generalize m / n = q at *
  generalize m % n = r at *
  refine fdm _ _ _ _ ?_ ?_
  all_goals
    by_cases h0 : r = 0
    · have h0' : (r : Int) = 0 := by omega
      cases na <;> cases nb <;> simp only [sg, h0, ne_eq, not_true, and_false, Bool.false_eq_true, Bool.true_eq_false, ↓reduceIte, beq_self_eq_true, Bool.not_true, Bool.not_false, Bool.true_beq, Bool.false_beq] <;> first | omega | grind
    · have e3 : ((n - r : Nat) : Int) = n - r := by omega
      cases na <;> cases nb <;> simp only [sg, h0, e3, ne_eq, not_true, not_false_eq_true, and_false, and_true, true_and, Bool.false_eq_true, Bool.true_eq_false, ↓reduceIte, beq_self_eq_true, Bool.not_true, Bool.not_false, Bool.true_beq, Bool.false_beq, Int.natCast_add] <;> first | omega | grind
theorem rDiv_zero (x : Int) (lx : lenZ x ≤ 40) : PC Tryz.prog 48 [Z x, Z 0] (.tup [Zr false [], I 11]) := by
  have h1 := Are_ok lx lenZ_0
  rw [show D (Int.natAbs 0) = [] by rw [Int.natAbs_zero, D_zero]] at h1
  show PC Tryz.prog 48 [Zr (decide (x < 0)) (D x.natAbs), Zr (decide ((0 : Int) < 0)) (D (Int.natAbs 0))] _
  rw [show D (Int.natAbs 0) = [] by rw [Int.natAbs_zero, D_zero]]
  generalize decide (x < 0) = na at *
  generalize decide ((0 : Int) < 0) = nb at *
  refine PCr.pc (PCr.of tab_ok Tryz.func48 rfl rfl rfl fun c hc hm => ?_)
  rw [show Tryz.f48.ntmps = _ from Tryz.ntmps48] at hc
  simp only [Tryz.f48]
  repeat' first | (exact absurd hlt (by decide)) | (refine AWp.seq fun K hK => ?_) | ((first | refine AWp.region (by rw [hc]; rfl) ?_ | refine AWp.skip ?_ | refine AWp.exit ?_ | refine AWp.label ?_ | refine AWp.ret ?_ | refine appK_g ?_); simp -implicitDefEqProofs (maxSteps := 1000000) (disch := omega) only [go_sem, ↓reduceIte]) | ((first | refine hK _ ?_ | (clear hK; first | refine hK _ ?_ | (clear hK; first | refine hK _ ?_ | (clear hK; refine hK _ ?_)))); clear hK) | (refine AWp.cond ?_; simp -implicitDefEqProofs (maxSteps := 1000000) (disch := omega) only [go_sem, ↓reduceIte]; try (refine ⟨fun hlt => ?_, fun hlt => ?_⟩ <;> (try simp only [cla, clb, ne_eq, reduceCtorEq] at hlt) <;> (try exact hlt.elim))) | (refine AWp.block ?_) | ((first | refine gdO_split (fun hlt => ?_) (fun hlt => ?_) | refine tkO_split (fun hlt => ?_) (fun hlt => ?_) | refine opO_split (fun hlt => ?_) (fun hlt => ?_)) <;> have hgd := hlt <;> (try simp only [cla, clb, ne_eq, cld] at hlt) <;> (simp -implicitDefEqProofs (maxSteps := 1000000) (disch := omega) only [go_sem, ↓reduceIte, hgd]) <;> clear hgd) | (with_reducible refine And.intro ?_ ?_; · first | omega | assumption | exact ⟨_, _, rfl, rfl⟩) | ((first | refine ⟨_, h1, ?_⟩); simp -implicitDefEqProofs (maxSteps := 1000000) (disch := omega) only [go_sem, ↓reduceIte]) | fail
theorem rMod_zero (x : Int) (lx : lenZ x ≤ 40) : PC Tryz.prog 49 [Z x, Z 0] (.tup [Zr false [], I 11]) := by
  have h1 := Are_ok lx lenZ_0
  rw [show D (Int.natAbs 0) = [] by rw [Int.natAbs_zero, D_zero]] at h1
  show PC Tryz.prog 49 [Zr (decide (x < 0)) (D x.natAbs), Zr (decide ((0 : Int) < 0)) (D (Int.natAbs 0))] _
  rw [show D (Int.natAbs 0) = [] by rw [Int.natAbs_zero, D_zero]]
  generalize decide (x < 0) = na at *
  generalize decide ((0 : Int) < 0) = nb at *
  refine PCr.pc (PCr.of tab_ok Tryz.func49 rfl rfl rfl fun c hc hm => ?_)
  rw [show Tryz.f49.ntmps = _ from Tryz.ntmps49] at hc
  simp only [Tryz.f49]
  repeat' first | (exact absurd hlt (by decide)) | (refine AWp.seq fun K hK => ?_) | ((first | refine AWp.region (by rw [hc]; rfl) ?_ | refine AWp.skip ?_ | refine AWp.exit ?_ | refine AWp.label ?_ | refine AWp.ret ?_ | refine appK_g ?_); simp -implicitDefEqProofs (maxSteps := 1000000) (disch := omega) only [go_sem, ↓reduceIte]) | ((first | refine hK _ ?_ | (clear hK; first | refine hK _ ?_ | (clear hK; first | refine hK _ ?_ | (clear hK; refine hK _ ?_)))); clear hK) | (refine AWp.cond ?_; simp -implicitDefEqProofs (maxSteps := 1000000) (disch := omega) only [go_sem, ↓reduceIte]; try (refine ⟨fun hlt => ?_, fun hlt => ?_⟩ <;> (try simp only [cla, clb, ne_eq, reduceCtorEq] at hlt) <;> (try exact hlt.elim))) | (refine AWp.block ?_) | ((first | refine gdO_split (fun hlt => ?_) (fun hlt => ?_) | refine tkO_split (fun hlt => ?_) (fun hlt => ?_) | refine opO_split (fun hlt => ?_) (fun hlt => ?_)) <;> have hgd := hlt <;> (try simp only [cla, clb, ne_eq, cld] at hlt) <;> (simp -implicitDefEqProofs (maxSteps := 1000000) (disch := omega) only [go_sem, ↓reduceIte, hgd]) <;> clear hgd) | (with_reducible refine And.intro ?_ ?_; · first | omega | assumption | exact ⟨_, _, rfl, rfl⟩) | ((first | refine ⟨_, h1, ?_⟩); simp -implicitDefEqProofs (maxSteps := 1000000) (disch := omega) only [go_sem, ↓reduceIte]) | fail
set_option maxHeartbeats 4000000 in
theorem rDiv_ok (x y : Int) (hy : y ≠ 0) (lx : lenZ x ≤ 40) (ly : lenZ y ≤ 40) : PC Tryz.prog 48 [Z x, Z y] (limR (x.fdiv y)) := by
  have h1 := Are_ok lx ly
  unfold lenZ at lx ly
  have hn : 0 < y.natAbs := by omega
  have hl0 : 0 < (D y.natAbs).length := D_len_pos.2 (by omega)
  have d1 := rdivide_D x.natAbs y.natAbs hn (by omega) (by omega)
  have fd := (fd_sg (decide (x < 0)) (decide (y < 0)) x.natAbs y.natAbs hn).1
  rw [Z_sg, Z_sg] at fd
  have lq : (D (x.natAbs / y.natAbs)).length ≤ 40 := Nat.le_trans (D_len_le (Nat.div_le_self _ _)) lx
  have lr : (D (x.natAbs % y.natAbs)).length ≤ 40 := Nat.le_trans (D_len_le (Nat.le_of_lt (Nat.mod_lt _ hn))) ly
  have hr0 := D_len_pos (n := x.natAbs % y.natAbs)
  show PC Tryz.prog 48 [Zr (decide (x < 0)) (D x.natAbs), Zr (decide (y < 0)) (D y.natAbs)] _
  obtain ⟨n0, d0, r0, hr⟩ := limR_ex (x.fdiv y)
  have a1 : PC Tryz.prog 101 [L (D (x.natAbs / y.natAbs)), .dat (.lst [[.int .i64 1]])] (L (D (x.natAbs / y.natAbs + 1))) := by
    have := rsum_D (x.natAbs / y.natAbs) 1 (by omega) (by rw [D_1]; simp)
    rwa [D_1] at this
  have la : (D (x.natAbs / y.natAbs + 1)).length ≤ 100 := by
    have := D_add_len (x.natAbs / y.natAbs) 1
    rw [D_1] at this; simp at this; omega
  have m1 := made_D (!(decide (x < 0) == decide (y < 0))) (x.natAbs / y.natAbs) (by omega)
  have m2 := made_D (!(decide (x < 0) == decide (y < 0))) (x.natAbs / y.natAbs + 1) (by omega)
  by_cases hc : decide (x < 0) ≠ decide (y < 0) ∧ x.natAbs % y.natAbs ≠ 0
  · rw [if_pos hc] at fd
    have hb : (decide (x < 0) == decide (y < 0)) = false := by simpa using hc.1
    rw [hb, Bool.not_false] at m2
    rw [show sg true (x.natAbs / y.natAbs + 1) = x.fdiv y by rw [fd]; rfl, hr] at m2
    rw [hr]
    have hlr := hr0.2 hc.2
    generalize decide (x < 0) = na at *
    generalize decide (y < 0) = nb at *
    refine PCr.pc (PCr.of tab_ok Tryz.func48 rfl rfl rfl fun c hc hm => ?_)
    rw [show Tryz.f48.ntmps = _ from Tryz.ntmps48] at hc
    simp only [Tryz.f48]
    repeat' first | (exact absurd hlt (by decide)) | (refine AWp.seq fun K hK => ?_) | ((first | refine AWp.region (by rw [hc]; rfl) ?_ | refine AWp.skip ?_ | refine AWp.exit ?_ | refine AWp.label ?_ | refine AWp.ret ?_ | refine appK_g ?_); simp -implicitDefEqProofs (maxSteps := 1000000) (disch := omega) only [go_sem, ↓reduceIte, hb]) | ((first | refine hK _ ?_ | (clear hK; first | refine hK _ ?_ | (clear hK; first | refine hK _ ?_ | (clear hK; refine hK _ ?_)))); clear hK) | (refine AWp.cond ?_; simp -implicitDefEqProofs (maxSteps := 1000000) (disch := omega) only [go_sem, ↓reduceIte, hb]; try (refine ⟨fun hlt => ?_, fun hlt => ?_⟩ <;> (try simp only [cla, clb, ne_eq, reduceCtorEq] at hlt) <;> (try exact hlt.elim))) | (refine AWp.block ?_) | ((first | refine gdO_split (fun hlt => ?_) (fun hlt => ?_) | refine tkO_split (fun hlt => ?_) (fun hlt => ?_) | refine opO_split (fun hlt => ?_) (fun hlt => ?_)) <;> have hgd := hlt <;> (try simp only [cla, clb, ne_eq, cld] at hlt) <;> (simp -implicitDefEqProofs (maxSteps := 1000000) (disch := omega) only [go_sem, ↓reduceIte, hb, hgd]) <;> clear hgd) | (with_reducible refine And.intro ?_ ?_; · first | omega | assumption | exact ⟨_, _, rfl, rfl⟩) | ((first | refine ⟨_, h1, ?_⟩ | refine ⟨_, d1, ?_⟩ | refine ⟨_, a1, ?_⟩ | refine ⟨_, m2, ?_⟩); simp -implicitDefEqProofs (maxSteps := 1000000) (disch := omega) only [go_sem, ↓reduceIte, hb]) | fail
    all_goals first | (exfalso; omega) | (exfalso; simp [hb] at *; done)
  · rw [if_neg hc] at fd
    rw [← fd, hr] at m1
    rw [hr]
    by_cases hb : (decide (x < 0) == decide (y < 0)) = false
    · have hlr : (D (x.natAbs % y.natAbs)).length = 0 := Nat.eq_zero_of_not_pos fun h => hc ⟨by simpa using hb, hr0.1 h⟩
      rw [hb] at m1
      simp only [Bool.not_false, Bool.not_true] at m1
      generalize decide (x < 0) = na at *
      generalize decide (y < 0) = nb at *
      refine PCr.pc (PCr.of tab_ok Tryz.func48 rfl rfl rfl fun c hc hm => ?_)
      rw [show Tryz.f48.ntmps = _ from Tryz.ntmps48] at hc
      simp only [Tryz.f48]
      repeat' first | (exact absurd hlt (by decide)) | (refine AWp.seq fun K hK => ?_) | ((first | refine AWp.region (by rw [hc]; rfl) ?_ | refine AWp.skip ?_ | refine AWp.exit ?_ | refine AWp.label ?_ | refine AWp.ret ?_ | refine appK_g ?_); simp -implicitDefEqProofs (maxSteps := 1000000) (disch := omega) only [go_sem, ↓reduceIte, hb]) | ((first | refine hK _ ?_ | (clear hK; first | refine hK _ ?_ | (clear hK; first | refine hK _ ?_ | (clear hK; refine hK _ ?_)))); clear hK) | (refine AWp.cond ?_; simp -implicitDefEqProofs (maxSteps := 1000000) (disch := omega) only [go_sem, ↓reduceIte, hb]; try (refine ⟨fun hlt => ?_, fun hlt => ?_⟩ <;> (try simp only [cla, clb, ne_eq, reduceCtorEq] at hlt) <;> (try exact hlt.elim))) | (refine AWp.block ?_) | ((first | refine gdO_split (fun hlt => ?_) (fun hlt => ?_) | refine tkO_split (fun hlt => ?_) (fun hlt => ?_) | refine opO_split (fun hlt => ?_) (fun hlt => ?_)) <;> have hgd := hlt <;> (try simp only [cla, clb, ne_eq, cld] at hlt) <;> (simp -implicitDefEqProofs (maxSteps := 1000000) (disch := omega) only [go_sem, ↓reduceIte, hb, hgd]) <;> clear hgd) | (with_reducible refine And.intro ?_ ?_; · first | omega | assumption | exact ⟨_, _, rfl, rfl⟩) | ((first | refine ⟨_, h1, ?_⟩ | refine ⟨_, d1, ?_⟩ | refine ⟨_, m1, ?_⟩); simp -implicitDefEqProofs (maxSteps := 1000000) (disch := omega) only [go_sem, ↓reduceIte, hb]) | fail
      all_goals first | (exfalso; omega) | (exfalso; simp [hb] at *; done)
    · rw [Bool.not_eq_false] at hb
      rw [hb] at m1
      simp only [Bool.not_false, Bool.not_true] at m1
      generalize decide (x < 0) = na at *
      generalize decide (y < 0) = nb at *
      refine PCr.pc (PCr.of tab_ok Tryz.func48 rfl rfl rfl fun c hc hm => ?_)
      rw [show Tryz.f48.ntmps = _ from Tryz.ntmps48] at hc
      simp only [Tryz.f48]
      repeat' first | (exact absurd hlt (by decide)) | (refine AWp.seq fun K hK => ?_) | ((first | refine AWp.region (by rw [hc]; rfl) ?_ | refine AWp.skip ?_ | refine AWp.exit ?_ | refine AWp.label ?_ | refine AWp.ret ?_ | refine appK_g ?_); simp -implicitDefEqProofs (maxSteps := 1000000) (disch := omega) only [go_sem, ↓reduceIte, hb]) | ((first | refine hK _ ?_ | (clear hK; first | refine hK _ ?_ | (clear hK; first | refine hK _ ?_ | (clear hK; refine hK _ ?_)))); clear hK) | (refine AWp.cond ?_; simp -implicitDefEqProofs (maxSteps := 1000000) (disch := omega) only [go_sem, ↓reduceIte, hb]; try (refine ⟨fun hlt => ?_, fun hlt => ?_⟩ <;> (try simp only [cla, clb, ne_eq, reduceCtorEq] at hlt) <;> (try exact hlt.elim))) | (refine AWp.block ?_) | ((first | refine gdO_split (fun hlt => ?_) (fun hlt => ?_) | refine tkO_split (fun hlt => ?_) (fun hlt => ?_) | refine opO_split (fun hlt => ?_) (fun hlt => ?_)) <;> have hgd := hlt <;> (try simp only [cla, clb, ne_eq, cld] at hlt) <;> (simp -implicitDefEqProofs (maxSteps := 1000000) (disch := omega) only [go_sem, ↓reduceIte, hb, hgd]) <;> clear hgd) | (with_reducible refine And.intro ?_ ?_; · first | omega | assumption | exact ⟨_, _, rfl, rfl⟩) | ((first | refine ⟨_, h1, ?_⟩ | refine ⟨_, d1, ?_⟩ | refine ⟨_, m1, ?_⟩); simp -implicitDefEqProofs (maxSteps := 1000000) (disch := omega) only [go_sem, ↓reduceIte, hb]) | fail
      all_goals first | (exfalso; omega) | (exfalso; simp [hb] at *; done)
set_option maxHeartbeats 4000000 in
theorem rMod_ok (x y : Int) (hy : y ≠ 0) (lx : lenZ x ≤ 40) (ly : lenZ y ≤ 40) : PC Tryz.prog 49 [Z x, Z y] (limR (x.fmod y)) := by
  have h1 := Are_ok lx ly
  unfold lenZ at lx ly
  have hn : 0 < y.natAbs := by omega
  have hl0 : 0 < (D y.natAbs).length := D_len_pos.2 (by omega)
  have d1 := rdivide_D x.natAbs y.natAbs hn (by omega) (by omega)
  have fd := (fd_sg (decide (x < 0)) (decide (y < 0)) x.natAbs y.natAbs hn).2
  rw [Z_sg, Z_sg] at fd
  have lr : (D (x.natAbs % y.natAbs)).length ≤ 40 := Nat.le_trans (D_len_le (Nat.le_of_lt (Nat.mod_lt _ hn))) ly
  have ls : (D (y.natAbs - x.natAbs % y.natAbs)).length ≤ 40 := Nat.le_trans (D_len_le (Nat.sub_le _ _)) ly
  have hr0 := D_len_pos (n := x.natAbs % y.natAbs)
  show PC Tryz.prog 49 [Zr (decide (x < 0)) (D x.natAbs), Zr (decide (y < 0)) (D y.natAbs)] _
  obtain ⟨n0, d0, r0, hr⟩ := limR_ex (x.fmod y)
  have a1 := rless_D y.natAbs (x.natAbs % y.natAbs) (Nat.le_of_lt (Nat.mod_lt _ hn)) (by omega)
  have m1 := made_D (decide (y < 0)) (x.natAbs % y.natAbs) (by omega)
  have m2 := made_D (decide (y < 0)) (y.natAbs - x.natAbs % y.natAbs) (by omega)
  by_cases hc : decide (x < 0) ≠ decide (y < 0) ∧ x.natAbs % y.natAbs ≠ 0
  · rw [if_pos hc] at fd
    have hb : (decide (x < 0) == decide (y < 0)) = false := by simpa using hc.1
    rw [← fd, hr] at m2
    rw [hr]
    have hlr := hr0.2 hc.2
    generalize decide (x < 0) = na at *
    generalize decide (y < 0) = nb at *
    refine PCr.pc (PCr.of tab_ok Tryz.func49 rfl rfl rfl fun c hc hm => ?_)
    rw [show Tryz.f49.ntmps = _ from Tryz.ntmps49] at hc
    simp only [Tryz.f49]
    repeat' first | (exact absurd hlt (by decide)) | (refine AWp.seq fun K hK => ?_) | ((first | refine AWp.region (by rw [hc]; rfl) ?_ | refine AWp.skip ?_ | refine AWp.exit ?_ | refine AWp.label ?_ | refine AWp.ret ?_ | refine appK_g ?_); simp -implicitDefEqProofs (maxSteps := 1000000) (disch := omega) only [go_sem, ↓reduceIte, hb]) | ((first | refine hK _ ?_ | (clear hK; first | refine hK _ ?_ | (clear hK; first | refine hK _ ?_ | (clear hK; refine hK _ ?_)))); clear hK) | (refine AWp.cond ?_; simp -implicitDefEqProofs (maxSteps := 1000000) (disch := omega) only [go_sem, ↓reduceIte, hb]; try (refine ⟨fun hlt => ?_, fun hlt => ?_⟩ <;> (try simp only [cla, clb, ne_eq, reduceCtorEq] at hlt) <;> (try exact hlt.elim))) | (refine AWp.block ?_) | ((first | refine gdO_split (fun hlt => ?_) (fun hlt => ?_) | refine tkO_split (fun hlt => ?_) (fun hlt => ?_) | refine opO_split (fun hlt => ?_) (fun hlt => ?_)) <;> have hgd := hlt <;> (try simp only [cla, clb, ne_eq, cld] at hlt) <;> (simp -implicitDefEqProofs (maxSteps := 1000000) (disch := omega) only [go_sem, ↓reduceIte, hb, hgd]) <;> clear hgd) | (with_reducible refine And.intro ?_ ?_; · first | omega | assumption | exact ⟨_, _, rfl, rfl⟩) | ((first | refine ⟨_, h1, ?_⟩ | refine ⟨_, d1, ?_⟩ | refine ⟨_, a1, ?_⟩ | refine ⟨_, m2, ?_⟩); simp -implicitDefEqProofs (maxSteps := 1000000) (disch := omega) only [go_sem, ↓reduceIte, hb]) | fail
    all_goals first | (exfalso; omega) | (exfalso; simp [hb] at *; done)
  · rw [if_neg hc] at fd
    rw [← fd, hr] at m1
    rw [hr]
    by_cases hb : (decide (x < 0) == decide (y < 0)) = false
    · have hlr : (D (x.natAbs % y.natAbs)).length = 0 := Nat.eq_zero_of_not_pos fun h => hc ⟨by simpa using hb, hr0.1 h⟩
      generalize decide (x < 0) = na at *
      generalize decide (y < 0) = nb at *
      refine PCr.pc (PCr.of tab_ok Tryz.func49 rfl rfl rfl fun c hc hm => ?_)
      rw [show Tryz.f49.ntmps = _ from Tryz.ntmps49] at hc
      simp only [Tryz.f49]
      repeat' first | (exact absurd hlt (by decide)) | (refine AWp.seq fun K hK => ?_) | ((first | refine AWp.region (by rw [hc]; rfl) ?_ | refine AWp.skip ?_ | refine AWp.exit ?_ | refine AWp.label ?_ | refine AWp.ret ?_ | refine appK_g ?_); simp -implicitDefEqProofs (maxSteps := 1000000) (disch := omega) only [go_sem, ↓reduceIte, hb]) | ((first | refine hK _ ?_ | (clear hK; first | refine hK _ ?_ | (clear hK; first | refine hK _ ?_ | (clear hK; refine hK _ ?_)))); clear hK) | (refine AWp.cond ?_; simp -implicitDefEqProofs (maxSteps := 1000000) (disch := omega) only [go_sem, ↓reduceIte, hb]; try (refine ⟨fun hlt => ?_, fun hlt => ?_⟩ <;> (try simp only [cla, clb, ne_eq, reduceCtorEq] at hlt) <;> (try exact hlt.elim))) | (refine AWp.block ?_) | ((first | refine gdO_split (fun hlt => ?_) (fun hlt => ?_) | refine tkO_split (fun hlt => ?_) (fun hlt => ?_) | refine opO_split (fun hlt => ?_) (fun hlt => ?_)) <;> have hgd := hlt <;> (try simp only [cla, clb, ne_eq, cld] at hlt) <;> (simp -implicitDefEqProofs (maxSteps := 1000000) (disch := omega) only [go_sem, ↓reduceIte, hb, hgd]) <;> clear hgd) | (with_reducible refine And.intro ?_ ?_; · first | omega | assumption | exact ⟨_, _, rfl, rfl⟩) | ((first | refine ⟨_, h1, ?_⟩ | refine ⟨_, d1, ?_⟩ | refine ⟨_, m1, ?_⟩); simp -implicitDefEqProofs (maxSteps := 1000000) (disch := omega) only [go_sem, ↓reduceIte, hb]) | fail
      all_goals first | (exfalso; omega) | (exfalso; simp [hb] at *; done)
    · rw [Bool.not_eq_false] at hb
      generalize decide (x < 0) = na at *
      generalize decide (y < 0) = nb at *
      refine PCr.pc (PCr.of tab_ok Tryz.func49 rfl rfl rfl fun c hc hm => ?_)
      rw [show Tryz.f49.ntmps = _ from Tryz.ntmps49] at hc
      simp only [Tryz.f49]
      repeat' first | (exact absurd hlt (by decide)) | (refine AWp.seq fun K hK => ?_) | ((first | refine AWp.region (by rw [hc]; rfl) ?_ | refine AWp.skip ?_ | refine AWp.exit ?_ | refine AWp.label ?_ | refine AWp.ret ?_ | refine appK_g ?_); simp -implicitDefEqProofs (maxSteps := 1000000) (disch := omega) only [go_sem, ↓reduceIte, hb]) | ((first | refine hK _ ?_ | (clear hK; first | refine hK _ ?_ | (clear hK; first | refine hK _ ?_ | (clear hK; refine hK _ ?_)))); clear hK) | (refine AWp.cond ?_; simp -implicitDefEqProofs (maxSteps := 1000000) (disch := omega) only [go_sem, ↓reduceIte, hb]; try (refine ⟨fun hlt => ?_, fun hlt => ?_⟩ <;> (try simp only [cla, clb, ne_eq, reduceCtorEq] at hlt) <;> (try exact hlt.elim))) | (refine AWp.block ?_) | ((first | refine gdO_split (fun hlt => ?_) (fun hlt => ?_) | refine tkO_split (fun hlt => ?_) (fun hlt => ?_) | refine opO_split (fun hlt => ?_) (fun hlt => ?_)) <;> have hgd := hlt <;> (try simp only [cla, clb, ne_eq, cld] at hlt) <;> (simp -implicitDefEqProofs (maxSteps := 1000000) (disch := omega) only [go_sem, ↓reduceIte, hb, hgd]) <;> clear hgd) | (with_reducible refine And.intro ?_ ?_; · first | omega | assumption | exact ⟨_, _, rfl, rfl⟩) | ((first | refine ⟨_, h1, ?_⟩ | refine ⟨_, d1, ?_⟩ | refine ⟨_, m1, ?_⟩); simp -implicitDefEqProofs (maxSteps := 1000000) (disch := omega) only [go_sem, ↓reduceIte, hb]) | fail
      all_goals first | (exfalso; omega) | (exfalso; simp [hb] at *; done)
end Go.Proofs.YthhjcfejgoddlaaGreatDoor
end

section
set_option linter.unusedSimpArgs false
set_option linter.unusedVariables false
set_option maxRecDepth 100000
namespace Go.Proofs.YthhjcfejgoddlaaGreatDoor
open Go Go.Abs
attribute [local go_sem] wrap64 Int.tdiv_eq_ediv_of_nonneg Int.tmod_eq_emod_of_nonneg eq_self Bool.false_eq_true Bool.true_eq_false Bool.not_true Bool.not_false
attribute [local go_sem_proc] Nat.reduceAdd Nat.reduceMul Nat.reduceEqDiff Nat.reduceLT Nat.reduceLeDiff Int.reduceEq Int.reduceNeg Int.reduceToNat reduceCtorEq Int.reduceBNe Int.reduceBEq

def F64 (neg : Bool) : Nat × List Int → St := fun ⟨m, out⟩ => ⟨[(2, .ptr 0 0), (0, I (sg neg m)), (3, B neg), (4, gL 1 (out.map eI))], gS 3 1 1 (out.map eI) false [(0, .box [B false, .nil] false)], 2, 0⟩
theorem tmod_neg (m : Nat) : (-(m : Int)).tmod 1000000000 = -((m : Int) % 1000000000) := by
  rw [Int.neg_tmod, Int.tmod_eq_emod_of_nonneg (by omega)]
theorem tdiv_neg (m : Nat) : (-(m : Int)).tdiv 1000000000 = -((m : Int) / 1000000000) := by
  rw [Int.neg_tdiv, Int.tdiv_eq_ediv_of_nonneg (by omega)]
set_option maxHeartbeats 2000000 in
theorem rFromInt_pc (n : Int) (h0 : -9223372036854775808 ≤ n) (h1 : n ≤ 9223372036854775807) : PC Tryz.prog 64 [I n] (Z n) := by
  show PC Tryz.prog 64 [I n] (Zr (decide (n < 0)) (D n.natAbs))
  refine PCr.pc (PCr.of tab_ok Tryz.func64 rfl rfl rfl fun c hc hm => ?_)
  rw [show Tryz.f64.ntmps = _ from Tryz.ntmps64] at hc
  simp only [Tryz.f64]
  repeat' first | (refine AWp.seq fun K hK => ?_) | ((first | refine AWp.region (by rw [hc]; rfl) ?_ | refine AWp.skip ?_ | refine AWp.exit ?_ | refine AWp.label ?_ | refine AWp.ret ?_ | refine appK_g ?_); simp -implicitDefEqProofs (maxSteps := 1000000) (disch := omega) only [go_sem, ↓reduceIte]) | ((first | refine hK _ ?_ | (clear hK; first | refine hK _ ?_ | (clear hK; first | refine hK _ ?_ | (clear hK; refine hK _ ?_)))); clear hK) | (refine AWp.cond ?_; simp -implicitDefEqProofs (maxSteps := 1000000) (disch := omega) only [go_sem, ↓reduceIte]; try (refine ⟨fun hlt => ?_, fun hlt => ?_⟩ <;> (try simp only [cla, clb, ne_eq, reduceCtorEq] at hlt) <;> (try exact hlt.elim))) | (refine AWp.block ?_) | ((first | refine gdO_split (fun hlt => ?_) (fun hlt => ?_) | refine tkO_split (fun hlt => ?_) (fun hlt => ?_) | refine opO_split (fun hlt => ?_) (fun hlt => ?_)) <;> have hgd := hlt <;> (try simp only [cla, clb, ne_eq, cld] at hlt) <;> (simp -implicitDefEqProofs (maxSteps := 1000000) (disch := omega) only [go_sem, ↓reduceIte, hgd]) <;> clear hgd) | (with_reducible refine And.intro ?_ ?_; · first | omega | assumption | exact ⟨_, _, rfl, rfl⟩) | fail
  have e0 : I n = I (sg (decide (n < 0)) n.natAbs) := by rw [Z_sg]
  have hN : n.natAbs ≤ 9223372036854775808 := by omega
  refine AWp.loopInv (F64 (decide (n < 0))) (fun a => a.1) (fun a => a.1 ≤ n.natAbs ∧ a.2 ++ D a.1 = D n.natAbs ∧ a.2.length ≤ 1000) (n.natAbs, []) ⟨Nat.le_refl _, rfl, by simp⟩ (Sub.of0 hm id rfl ?_ ?_ (fun _ _ _ _ h => h)) ?_
  all_goals (try dsimp only)
  all_goals (first | omega | (simp -implicitDefEqProofs (maxSteps := 1000000) (disch := omega) only [F64, Z_sg, id, go_sem, Nat.blt_eq, Nat.reduceAdd, Nat.reduceSub, Nat.reduceEqDiff, Nat.reduceLT, ↓reduceIte, and_true, true_and, AV.dat.injEq, DV.int.injEq, DV.bool.injEq, DV.lst.injEq, eq_self_iff_true]; first | done | omega | (simp; done) | (simp; omega)) | (simp; done) | (simp; omega) | skip)
  rintro ⟨m, out⟩ ⟨g1, g2, g3⟩ ih
  simp only at g1 g2 g3
  simp only [F64]
  by_cases hm0 : m = 0
  · subst hm0
    rw [D_zero, List.append_nil] at g2
    have hsg : sg (decide (n < 0)) 0 = 0 := by unfold sg; split <;> rfl
    rw [hsg]
    generalize decide (n < 0) = neg at *
    rcases out with _ | ⟨o, os⟩
    · repeat' first | (exact absurd hlt (by decide)) | (refine AWp.seq fun K hK => ?_) | ((first | refine AWp.region (by rw [hc]; rfl) ?_ | refine AWp.skip ?_ | refine AWp.exit ?_ | refine AWp.label ?_ | refine AWp.ret ?_ | refine appK_g ?_); simp -implicitDefEqProofs (maxSteps := 1000000) (disch := omega) only [go_sem, ↓reduceIte, gL, gS, List.map_nil]) | ((first | refine hK _ ?_ | (clear hK; first | refine hK _ ?_ | (clear hK; first | refine hK _ ?_ | (clear hK; refine hK _ ?_)))); clear hK) | (refine AWp.cond ?_; simp -implicitDefEqProofs (maxSteps := 1000000) (disch := omega) only [go_sem, ↓reduceIte, gL, gS, List.map_nil]; try (refine ⟨fun hlt => ?_, fun hlt => ?_⟩ <;> (try simp only [cla, clb, ne_eq, reduceCtorEq] at hlt) <;> (try exact hlt.elim))) | (refine AWp.block ?_) | ((first | refine gdO_split (fun hlt => ?_) (fun hlt => ?_) | refine tkO_split (fun hlt => ?_) (fun hlt => ?_) | refine opO_split (fun hlt => ?_) (fun hlt => ?_)) <;> have hgd := hlt <;> (try simp only [cla, clb, ne_eq, cld] at hlt) <;> (simp -implicitDefEqProofs (maxSteps := 1000000) (disch := omega) only [go_sem, ↓reduceIte, gL, gS, List.map_nil, hgd]) <;> clear hgd) | (with_reducible refine And.intro ?_ ?_; · first | omega | assumption | exact ⟨_, _, rfl, rfl⟩) | fail
      rw [← g2]; rfl
    · repeat' first | (exact absurd hlt (by decide)) | (refine AWp.seq fun K hK => ?_) | ((first | refine AWp.region (by rw [hc]; rfl) ?_ | refine AWp.skip ?_ | refine AWp.exit ?_ | refine AWp.label ?_ | refine AWp.ret ?_ | refine appK_g ?_); simp -implicitDefEqProofs (maxSteps := 1000000) (disch := omega) only [go_sem, ↓reduceIte, gL, gS, List.map_cons]) | ((first | refine hK _ ?_ | (clear hK; first | refine hK _ ?_ | (clear hK; first | refine hK _ ?_ | (clear hK; refine hK _ ?_)))); clear hK) | (refine AWp.cond ?_; simp -implicitDefEqProofs (maxSteps := 1000000) (disch := omega) only [go_sem, ↓reduceIte, gL, gS, List.map_cons]; try (refine ⟨fun hlt => ?_, fun hlt => ?_⟩ <;> (try simp only [cla, clb, ne_eq, reduceCtorEq] at hlt) <;> (try exact hlt.elim))) | (refine AWp.block ?_) | ((first | refine gdO_split (fun hlt => ?_) (fun hlt => ?_) | refine tkO_split (fun hlt => ?_) (fun hlt => ?_) | refine opO_split (fun hlt => ?_) (fun hlt => ?_)) <;> have hgd := hlt <;> (try simp only [cla, clb, ne_eq, cld] at hlt) <;> (simp -implicitDefEqProofs (maxSteps := 1000000) (disch := omega) only [go_sem, ↓reduceIte, gL, gS, List.map_cons, hgd]) <;> clear hgd) | (with_reducible refine And.intro ?_ ?_; · first | omega | assumption | exact ⟨_, _, rfl, rfl⟩) | fail
      rw [← g2]; rfl
  · have hlen : ∀ k, (out ++ [k]).length ≤ 1000 := fun k => by
      have h1 := congrArg List.length g2
      rw [List.length_append, D_pos hm0] at h1
      simp only [List.length_cons] at h1
      have h2 : (D n.natAbs).length ≤ 3 := Nat.le_trans (D_len_le (n := 9223372036854775808) hN) (by decide +kernel)
      simp only [List.length_append, List.length_cons, List.length_nil]; omega
    have hstep : (out ++ [((m % 1000000000 : Nat) : Int)]) ++ D (m / 1000000000) = D n.natAbs := by
      rw [← g2, D_pos hm0]; simp
    generalize decide (n < 0) = neg at *
    cases neg
    all_goals
      simp only [sg, Bool.false_eq_true, ↓reduceIte]
      repeat' first | (exact absurd hlt (by decide)) | (refine AWp.seq fun K hK => ?_) | ((first | refine AWp.region (by rw [hc]; rfl) ?_ | refine AWp.skip ?_ | refine AWp.exit ?_ | refine AWp.label ?_ | refine AWp.ret ?_ | refine appK_g ?_); simp -implicitDefEqProofs (maxSteps := 1000000) (disch := omega) only [go_sem, ↓reduceIte, tmod_neg, tdiv_neg]) | ((first | refine hK _ ?_ | (clear hK; first | refine hK _ ?_ | (clear hK; first | refine hK _ ?_ | (clear hK; refine hK _ ?_)))); clear hK) | (refine AWp.cond ?_; simp -implicitDefEqProofs (maxSteps := 1000000) (disch := omega) only [go_sem, ↓reduceIte, tmod_neg, tdiv_neg]; try (refine ⟨fun hlt => ?_, fun hlt => ?_⟩ <;> (try simp only [cla, clb, ne_eq, reduceCtorEq] at hlt) <;> (try exact hlt.elim))) | (refine AWp.block ?_) | ((first | refine gdO_split (fun hlt => ?_) (fun hlt => ?_) | refine tkO_split (fun hlt => ?_) (fun hlt => ?_) | refine opO_split (fun hlt => ?_) (fun hlt => ?_)) <;> have hgd := hlt <;> (try simp only [cla, clb, ne_eq, cld] at hlt) <;> (simp -implicitDefEqProofs (maxSteps := 1000000) (disch := omega) only [go_sem, ↓reduceIte, tmod_neg, tdiv_neg, hgd]) <;> clear hgd) | (with_reducible refine And.intro ?_ ?_; · first | omega | assumption | exact ⟨_, _, rfl, rfl⟩) | fail
      all_goals try (exfalso; omega)
      all_goals
        have e1 : (m : Int) / 1000000000 = ((m / 1000000000 : Nat) : Int) := by omega
        have e2 : (m : Int) % 1000000000 = ((m % 1000000000 : Nat) : Int) := by omega
        have e3 : (0 : Int) - -((m % 1000000000 : Nat) : Int) = ((m % 1000000000 : Nat) : Int) := by omega
        have e4 : 0 ≤ -((m : Int) % 1000000000) → -((m % 1000000000 : Nat) : Int) = ((m % 1000000000 : Nat) : Int) := by omega
        try have e4 := e4 (by omega)
        simp only [e1, e2, e3]
        try simp only [e4]
        refine ih (m / 1000000000, out ++ [((m % 1000000000 : Nat) : Int)]) _ ⟨by simp only; omega, hstep, hlen _⟩ (by simp only; omega) (Sub.of0 hm (fun i => if i = 0 then 0 else 3) rfl ?_ ?_ ?_)
        all_goals (try dsimp only)
        all_goals (first | omega | (simp -implicitDefEqProofs (maxSteps := 1000000) (disch := omega) only [F64, sg, id, go_sem, Nat.blt_eq, Nat.reduceAdd, Nat.reduceSub, Nat.reduceEqDiff, Nat.reduceLT, ↓reduceIte, and_true, true_and, AV.dat.injEq, DV.int.injEq, DV.bool.injEq, DV.lst.injEq, eq_self_iff_true]; first | done | omega | (simp; done) | (simp; omega)) | (simp; done) | (simp; omega) | skip)
        all_goals
          intro a b h1 h2 h
          change a < 2 at h1; change b < 2 at h2
          (split at h <;> split at h) <;> omega
theorem Z1_lim : limR 1 = .tup [Zr false [1], I 0] := by
  unfold limR
  rw [if_pos (by unfold lenZ; rw [show Int.natAbs 1 = 1 from rfl, D_1]; decide), Z_one]
def F50 (na od : Bool) (m y : Nat) : Nat → St := fun i => ⟨[(2, .ptr 0 0), (3, .ptr 1 0), (4, .ptr 2 0), (5, I 0), (7, B od), (8, L (D (m ^ i))), (9, I i)], [(2, .box [B false, .nil] false), (1, .box [B false, L (D y)] false), (0, .box [B na, L (D m)] false)], 3, 0⟩
set_option maxHeartbeats 8000000 in
theorem rPow_D (na od : Bool) (m y : Nat) (hy : 0 < y) (hod : y % 2 = if od then 1 else 0) (lm : (D m).length ≤ 40) (ly : (D y).length ≤ 40) (h1 : PC Tryz.prog 99 [Zr na (D m), Zr false (D y)] (B true)) : PC Tryz.prog 50 [Zr na (D m), Zr false (D y)] (limR (sg (na && od) (m ^ y))) := by
  have hy0 : 0 < (D y).length := D_len_pos.2 (by omega)
  have hy1 : ((D y).getD 0 0).tmod 2 = if od then 1 else 0 := by
    rw [D_par (by omega), Int.tmod_eq_emod_of_nonneg (by omega)]
    cases od <;> simp at hod ⊢ <;> omega
  have s1 := small_pc y
  obtain ⟨n0, d0, r0, hr⟩ := limR_ex (sg (na && od) (m ^ y))
  have hm1 : m ≤ 1 → PC Tryz.prog 100 [B (na && od), L (D m)] (limR (sg (na && od) (m ^ y))) := fun h => by
    have := made_D (na && od) m (by omega)
    rw [show m ^ y = m by rcases (show m = 0 ∨ m = 1 by omega) with rfl | rfl; exact Nat.zero_pow hy; exact Nat.one_pow y]
    exact this
  rw [hr] at hm1 ⊢
  by_cases h2 : m ≤ 1
  · have hm1 := hm1 h2
    rcases (show m = 0 ∨ m = 1 by omega) with rfl | rfl
    all_goals
      first | rw [D_zero] at * | rw [D_1] at *
      cases na <;> cases od
      all_goals
        simp only [Bool.false_eq_true, ↓reduceIte] at hy1
        simp only [Bool.and_true, Bool.and_false] at hm1
        refine PCr.pc (PCr.of tab_ok Tryz.func50 rfl rfl rfl fun c hc hm => ?_)
        rw [show Tryz.f50.ntmps = _ from Tryz.ntmps50] at hc
        simp only [Tryz.f50]
        repeat' first | (exact absurd hlt (by decide)) | (refine AWp.seq fun K hK => ?_) | ((first | refine AWp.region (by rw [hc]; rfl) ?_ | refine AWp.skip ?_ | refine AWp.exit ?_ | refine AWp.label ?_ | refine AWp.ret ?_ | refine appK_g ?_); simp -implicitDefEqProofs (maxSteps := 1000000) (disch := omega) only [go_sem, ↓reduceIte, hy1]) | ((first | refine hK _ ?_ | (clear hK; first | refine hK _ ?_ | (clear hK; first | refine hK _ ?_ | (clear hK; refine hK _ ?_)))); clear hK) | (refine AWp.cond ?_; simp -implicitDefEqProofs (maxSteps := 1000000) (disch := omega) only [go_sem, ↓reduceIte, hy1]; try (refine ⟨fun hlt => ?_, fun hlt => ?_⟩ <;> (try simp only [cla, clb, ne_eq, reduceCtorEq] at hlt) <;> (try exact hlt.elim))) | (refine AWp.block ?_) | ((first | refine gdO_split (fun hlt => ?_) (fun hlt => ?_) | refine tkO_split (fun hlt => ?_) (fun hlt => ?_) | refine opO_split (fun hlt => ?_) (fun hlt => ?_)) <;> have hgd := hlt <;> (try simp only [cla, clb, ne_eq, cld] at hlt) <;> (simp -implicitDefEqProofs (maxSteps := 1000000) (disch := omega) only [go_sem, ↓reduceIte, hy1, hgd]) <;> clear hgd) | (with_reducible refine And.intro ?_ ?_; · first | omega | assumption | exact ⟨_, _, rfl, rfl⟩) | ((first | refine ⟨_, h1, ?_⟩ | refine ⟨_, hm1, ?_⟩); simp -implicitDefEqProofs (maxSteps := 1000000) (disch := omega) only [go_sem, ↓reduceIte, hy1]) | fail
        all_goals first | (exfalso; omega)
  · have t1 := fun i (h : (D (m ^ i)).length ≤ 40) => rtimes_D (m ^ i) m (by omega) (by omega)
    have q0 : 0 < (D m).length := D_len_pos.2 (by omega)
    have hy2 : (((D y).getD 0 0).tmod 2 == 1) = od := by rw [hy1]; cases od <;> rfl
    have big : ∀ i, i ≤ y → (D (m ^ i)).length > 40 → AV.tup [Zr false [], I 2] = AV.tup [Zr n0 d0, I r0] := fun i hi hl => by
      rw [← hr]; unfold limR
      rw [if_neg]
      unfold lenZ; rw [sg_natAbs]
      have := D_len_le (Nat.pow_le_pow_right (show 0 < m by omega) hi)
      omega
    have hend : ∀ i : Nat, (D (m ^ i)).length ≤ 40 → i ≤ 2000 → ((min y 2000 : Nat) : Int) ≤ (i : Int) → i ≤ y → i = y := fun i hl h3 h4 h5 => by
      rcases Nat.lt_or_ge 2000 y with h6 | h6
      · exfalso
        have h7 := huge (x := m) (n := i) (by omega) (by omega)
        unfold lenZ at h7
        rw [Int.natAbs_pow, Int.natAbs_natCast] at h7
        omega
      · omega
    have mt : ∀ i : Nat, (D (m ^ i)).length ≤ 40 → i ≤ 2000 → ((min y 2000 : Nat) : Int) ≤ (i : Int) → i ≤ y → na = true → PC Tryz.prog 100 [B od, L (D (m ^ i))] (.tup [Zr n0 d0, I r0]) := fun i hl h3 h4 h5 h6 => by
      have hi := hend i hl h3 h4 h5
      subst hi
      have := made_D (na && od) (m ^ i) (by omega)
      rw [hr] at this; rwa [h6, Bool.true_and] at this
    have mf : ∀ i : Nat, (D (m ^ i)).length ≤ 40 → i ≤ 2000 → ((min y 2000 : Nat) : Int) ≤ (i : Int) → i ≤ y → na = false → PC Tryz.prog 100 [B false, L (D (m ^ i))] (.tup [Zr n0 d0, I r0]) := fun i hl h3 h4 h5 h6 => by
      have hi := hend i hl h3 h4 h5
      subst hi
      have := made_D (na && od) (m ^ i) (by omega)
      rw [hr] at this; rwa [h6, Bool.false_and] at this
    have q1 : (D m).length = 1 → (D m).getD 0 0 ≠ 1 := fun h => by
      rw [D_par (by omega)]
      intro h3
      have : m < 1000000000 := Nat.lt_of_not_le fun h4 => by have := D_big h4; omega
      omega
    refine PCr.pc (PCr.of tab_ok Tryz.func50 rfl rfl rfl fun c hc hm => ?_)
    rw [show Tryz.f50.ntmps = _ from Tryz.ntmps50] at hc
    simp only [Tryz.f50]
    repeat' first | (exact absurd hlt (by decide)) | (refine AWp.seq fun K hK => ?_) | ((first | refine AWp.region (by rw [hc]; rfl) ?_ | refine AWp.skip ?_ | refine AWp.exit ?_ | refine AWp.label ?_ | refine AWp.ret ?_ | refine appK_g ?_); simp -implicitDefEqProofs (maxSteps := 1000000) (disch := omega) only [go_sem, ↓reduceIte, hy2]) | ((first | refine hK _ ?_ | (clear hK; first | refine hK _ ?_ | (clear hK; first | refine hK _ ?_ | (clear hK; refine hK _ ?_)))); clear hK) | (refine AWp.cond ?_; simp -implicitDefEqProofs (maxSteps := 1000000) (disch := omega) only [go_sem, ↓reduceIte, hy2]; try (refine ⟨fun hlt => ?_, fun hlt => ?_⟩ <;> (try simp only [cla, clb, ne_eq, reduceCtorEq] at hlt) <;> (try exact hlt.elim))) | (refine AWp.block ?_) | ((first | refine gdO_split (fun hlt => ?_) (fun hlt => ?_) | refine tkO_split (fun hlt => ?_) (fun hlt => ?_) | refine opO_split (fun hlt => ?_) (fun hlt => ?_)) <;> have hgd := hlt <;> (try simp only [cla, clb, ne_eq, cld] at hlt) <;> (simp -implicitDefEqProofs (maxSteps := 1000000) (disch := omega) only [go_sem, ↓reduceIte, hy2, hgd]) <;> clear hgd) | (with_reducible refine And.intro ?_ ?_; · first | omega | assumption | exact ⟨_, _, rfl, rfl⟩) | ((first | refine ⟨_, h1, ?_⟩); simp -implicitDefEqProofs (maxSteps := 1000000) (disch := omega) only [go_sem, ↓reduceIte, hy2]) | fail
    all_goals try (exfalso; omega)
    all_goals
      refine AWp.sub (Sub.toDat 8 rfl) ?_
      refine AWp.loopInv (F50 na od m y) (fun i => y - i) (fun i => i ≤ y ∧ i ≤ 2000 ∧ (D (m ^ i)).length ≤ 40) 0 ⟨Nat.zero_le _, by decide, by rw [Nat.pow_zero, D_1]; decide⟩ (Sub.of0 hm id rfl ?_ ?_ (fun _ _ _ _ h => h)) ?_
      all_goals (try dsimp only)
      all_goals (first | omega | (simp -implicitDefEqProofs (maxSteps := 1000000) (disch := omega) only [F50, Nat.pow_zero, D_1, id, go_sem, Nat.blt_eq, Nat.reduceAdd, Nat.reduceSub, Nat.reduceEqDiff, Nat.reduceLT, ↓reduceIte, and_true, true_and, AV.dat.injEq, DV.int.injEq, DV.bool.injEq, DV.lst.injEq, eq_self_iff_true]; first | done | omega | (simp; done) | (simp; omega)) | (simp; done) | (simp; omega) | skip)
      intro i ⟨g1, g2, g3⟩ ih
      simp only [F50]
      have t2 := t1 i g3
      rw [← Nat.pow_succ] at t2
      repeat' first | (refine AWp.seq fun K hK => ?_) | ((first | refine AWp.region (by rw [hc]; rfl) ?_ | refine AWp.skip ?_ | refine AWp.exit ?_ | refine AWp.label ?_ | refine AWp.ret ?_ | refine appK_g ?_); simp -implicitDefEqProofs (maxSteps := 1000000) (disch := omega) only [go_sem, ↓reduceIte]) | ((first | refine hK _ ?_ | (clear hK; first | refine hK _ ?_ | (clear hK; first | refine hK _ ?_ | (clear hK; refine hK _ ?_)))); clear hK) | (refine AWp.cond ?_; simp -implicitDefEqProofs (maxSteps := 1000000) (disch := omega) only [go_sem, ↓reduceIte]; try (refine ⟨fun hlt => ?_, fun hlt => ?_⟩ <;> (try simp only [cla, clb, ne_eq, reduceCtorEq] at hlt) <;> (try exact hlt.elim))) | (refine AWp.block ?_) | ((first | refine gdO_split (fun hlt => ?_) (fun hlt => ?_) | refine tkO_split (fun hlt => ?_) (fun hlt => ?_) | refine opO_split (fun hlt => ?_) (fun hlt => ?_)) <;> have hgd := hlt <;> (try simp only [cla, clb, ne_eq, cld] at hlt) <;> (simp -implicitDefEqProofs (maxSteps := 1000000) (disch := omega) only [go_sem, ↓reduceIte, hgd]) <;> clear hgd) | (with_reducible refine And.intro ?_ ?_; · first | omega | assumption | exact ⟨_, _, rfl, rfl⟩) | ((first | refine ⟨_, s1, ?_⟩ | refine ⟨_, t2, ?_⟩ | refine ⟨_, mt i g3 g2 (by assumption) g1 (by assumption), ?_⟩ | refine ⟨_, mf i g3 g2 (by assumption) g1 (by assumption), ?_⟩); simp -implicitDefEqProofs (maxSteps := 1000000) (disch := omega) only [go_sem, ↓reduceIte]) | fail
      · exact big (i + 1) (by omega) (by show 40 < (D (m ^ (i + 1))).length; exact Int.ofNat_lt.1 hlt)
      · refine ih (i + 1) _ ⟨by omega, by omega, Int.ofNat_le.1 hlt⟩ (by omega) (Sub.of0 hm id rfl ?_ ?_ (fun _ _ _ _ h => h))
        all_goals (try dsimp only)
        all_goals (first | omega | (simp -implicitDefEqProofs (maxSteps := 1000000) (disch := omega) only [F50, id, go_sem, Nat.blt_eq, Nat.reduceAdd, Nat.reduceSub, Nat.reduceEqDiff, Nat.reduceLT, ↓reduceIte, and_true, true_and, AV.dat.injEq, DV.int.injEq, DV.bool.injEq, DV.lst.injEq, eq_self_iff_true]; first | done | omega | (simp; done) | (simp; omega)) | (simp; done) | (simp; omega) | skip)
theorem sg_pow (x : Int) (n : Nat) (od : Bool) (hod : n % 2 = if od then 1 else 0) : sg (decide (x < 0) && od) (x.natAbs ^ n) = x ^ n := by
  unfold sg
  rcases Int.lt_or_le x 0 with h | h
  · have e : x = -(x.natAbs : Int) := by omega
    rw [decide_eq_true h, Bool.true_and]
    generalize x.natAbs = m at *
    subst e
    cases od
    · simp only [Bool.false_eq_true, ↓reduceIte] at hod ⊢
      obtain ⟨k, rfl⟩ : ∃ k, n = 2 * k := ⟨n / 2, by omega⟩
      rw [Int.natCast_pow, Int.pow_mul, Int.pow_mul]
      congr 1; grind
    · simp only [↓reduceIte] at hod ⊢
      obtain ⟨k, rfl⟩ : ∃ k, n = 2 * k + 1 := ⟨n / 2, by omega⟩
      rw [Int.natCast_pow, Int.pow_succ, Int.pow_succ, Int.pow_mul, Int.pow_mul, Int.mul_neg]
      congr 2; grind
  · have e : x = (x.natAbs : Int) := by omega
    rw [decide_eq_false (by omega), Bool.false_and]
    simp only [Bool.false_eq_true, ↓reduceIte]
    generalize x.natAbs = m at *
    subst e
    rw [Int.natCast_pow]
theorem rPow_ok (x y : Int) (lx : lenZ x ≤ 40) (ly : lenZ y ≤ 40) : PC Tryz.prog 50 [Z x, Z y] (powR x y) := by
  have h1 := Are_ok lx ly
  have f1 := rFromInt_pc 1 (by decide) (by decide)
  rw [Z_one] at f1
  show PC Tryz.prog 50 [Zr (decide (x < 0)) (D x.natAbs), Zr (decide (y < 0)) (D y.natAbs)] _
  unfold powR
  rcases Int.lt_or_le y 0 with hy | hy
  · rw [if_pos hy]
    rw [decide_eq_true hy] at h1 ⊢
    generalize decide (x < 0) = na at *
    refine PCr.pc (PCr.of tab_ok Tryz.func50 rfl rfl rfl fun c hc hm => ?_)
    rw [show Tryz.f50.ntmps = _ from Tryz.ntmps50] at hc
    simp only [Tryz.f50]
    repeat' first | (exact absurd hlt (by decide)) | (refine AWp.seq fun K hK => ?_) | ((first | refine AWp.region (by rw [hc]; rfl) ?_ | refine AWp.skip ?_ | refine AWp.exit ?_ | refine AWp.label ?_ | refine AWp.ret ?_ | refine appK_g ?_); simp -implicitDefEqProofs (maxSteps := 1000000) (disch := omega) only [go_sem, ↓reduceIte]) | ((first | refine hK _ ?_ | (clear hK; first | refine hK _ ?_ | (clear hK; first | refine hK _ ?_ | (clear hK; refine hK _ ?_)))); clear hK) | (refine AWp.cond ?_; simp -implicitDefEqProofs (maxSteps := 1000000) (disch := omega) only [go_sem, ↓reduceIte]; try (refine ⟨fun hlt => ?_, fun hlt => ?_⟩ <;> (try simp only [cla, clb, ne_eq, reduceCtorEq] at hlt) <;> (try exact hlt.elim))) | (refine AWp.block ?_) | ((first | refine gdO_split (fun hlt => ?_) (fun hlt => ?_) | refine tkO_split (fun hlt => ?_) (fun hlt => ?_) | refine opO_split (fun hlt => ?_) (fun hlt => ?_)) <;> have hgd := hlt <;> (try simp only [cla, clb, ne_eq, cld] at hlt) <;> (simp -implicitDefEqProofs (maxSteps := 1000000) (disch := omega) only [go_sem, ↓reduceIte, hgd]) <;> clear hgd) | (with_reducible refine And.intro ?_ ?_; · first | omega | assumption | exact ⟨_, _, rfl, rfl⟩) | ((first | refine ⟨_, h1, ?_⟩); simp -implicitDefEqProofs (maxSteps := 1000000) (disch := omega) only [go_sem, ↓reduceIte]) | fail
  · rw [if_neg (by omega)]
    rw [decide_eq_false (show ¬ y < 0 by omega)] at h1 ⊢
    by_cases h0 : y = 0
    · subst h0
      rw [show (0 : Int).toNat = 0 from rfl, Int.pow_zero, Z1_lim]
      rw [show D (Int.natAbs 0) = [] by rw [Int.natAbs_zero, D_zero]] at *
      generalize decide (x < 0) = na at *
      refine PCr.pc (PCr.of tab_ok Tryz.func50 rfl rfl rfl fun c hc hm => ?_)
      rw [show Tryz.f50.ntmps = _ from Tryz.ntmps50] at hc
      simp only [Tryz.f50]
      repeat' first | (exact absurd hlt (by decide)) | (refine AWp.seq fun K hK => ?_) | ((first | refine AWp.region (by rw [hc]; rfl) ?_ | refine AWp.skip ?_ | refine AWp.exit ?_ | refine AWp.label ?_ | refine AWp.ret ?_ | refine appK_g ?_); simp -implicitDefEqProofs (maxSteps := 1000000) (disch := omega) only [go_sem, ↓reduceIte]) | ((first | refine hK _ ?_ | (clear hK; first | refine hK _ ?_ | (clear hK; first | refine hK _ ?_ | (clear hK; refine hK _ ?_)))); clear hK) | (refine AWp.cond ?_; simp -implicitDefEqProofs (maxSteps := 1000000) (disch := omega) only [go_sem, ↓reduceIte]; try (refine ⟨fun hlt => ?_, fun hlt => ?_⟩ <;> (try simp only [cla, clb, ne_eq, reduceCtorEq] at hlt) <;> (try exact hlt.elim))) | (refine AWp.block ?_) | ((first | refine gdO_split (fun hlt => ?_) (fun hlt => ?_) | refine tkO_split (fun hlt => ?_) (fun hlt => ?_) | refine opO_split (fun hlt => ?_) (fun hlt => ?_)) <;> have hgd := hlt <;> (try simp only [cla, clb, ne_eq, cld] at hlt) <;> (simp -implicitDefEqProofs (maxSteps := 1000000) (disch := omega) only [go_sem, ↓reduceIte, hgd]) <;> clear hgd) | (with_reducible refine And.intro ?_ ?_; · first | omega | assumption | exact ⟨_, _, rfl, rfl⟩) | ((first | refine ⟨_, h1, ?_⟩ | refine ⟨_, f1, ?_⟩); simp -implicitDefEqProofs (maxSteps := 1000000) (disch := omega) only [go_sem, ↓reduceIte]) | fail
    · have h := rPow_D (decide (x < 0)) (decide (y.natAbs % 2 = 1)) x.natAbs y.natAbs (by omega) (by by_cases h : y.natAbs % 2 = 1 <;> simp [h]; omega) lx ly h1
      rw [sg_pow _ _ _ (by by_cases h : y.natAbs % 2 = 1 <;> simp [h]; omega)] at h
      rwa [show y.natAbs = y.toNat by omega] at h ⊢
end Go.Proofs.YthhjcfejgoddlaaGreatDoor
end

section
set_option linter.unusedSimpArgs false
set_option linter.unusedVariables false
set_option maxRecDepth 100000
namespace Go.Proofs.YthhjcfejgoddlaaGreatDoor
open Go Go.Abs
attribute [local go_sem] wrap64 Int.tdiv_eq_ediv_of_nonneg Int.tmod_eq_emod_of_nonneg eq_self Bool.false_eq_true Bool.true_eq_false Bool.not_true Bool.not_false
attribute [local go_sem_proc] Nat.reduceAdd Nat.reduceMul Nat.reduceEqDiff Nat.reduceLT Nat.reduceLeDiff Int.reduceEq Int.reduceNeg Int.reduceToNat reduceCtorEq Int.reduceBNe Int.reduceBEq

theorem Pow_bad (na nb : Bool) (a b : List Int) (la : a.length ≤ 1000000) (lb : b.length ≤ 1000000) (h : ¬ (okI na a ∧ okI nb b)) : PC Tryz.prog 30 [Zr na a, Zr nb b] (.tup [Zr false [], I 10]) := by
  have hare := are_pc [(na, a), (nb, b)] (by simp) (by intro z hz; simp at hz; rcases hz with rfl | rfl <;> assumption)
  rw [if_neg (by intro hh; exact h ⟨hh (na, a) (by simp), hh (nb, b) (by simp)⟩), LZ2] at hare
  refine PCr.pc (PCr.of tab_ok Tryz.func30 rfl rfl rfl fun c hc hm => ?_)
  rw [show Tryz.f30.ntmps = _ from Tryz.ntmps30] at hc
  simp only [Tryz.f30]
  repeat' first | (refine AWp.seq fun K hK => ?_) | ((first | refine AWp.region (by rw [hc]; rfl) ?_ | refine AWp.skip ?_ | refine AWp.exit ?_ | refine AWp.label ?_ | refine AWp.ret ?_ | refine appK_g ?_); simp -implicitDefEqProofs (maxSteps := 1000000) (disch := omega) only [go_sem, ↓reduceIte]) | ((first | refine hK _ ?_ | (clear hK; first | refine hK _ ?_ | (clear hK; first | refine hK _ ?_ | (clear hK; refine hK _ ?_)))); clear hK) | (refine AWp.cond ?_; simp -implicitDefEqProofs (maxSteps := 1000000) (disch := omega) only [go_sem, ↓reduceIte]; try (refine ⟨fun hlt => ?_, fun hlt => ?_⟩ <;> (try simp only [cla, clb, ne_eq, reduceCtorEq] at hlt) <;> (try exact hlt.elim))) | (refine AWp.block ?_) | ((first | refine gdO_split (fun hlt => ?_) (fun hlt => ?_) | refine tkO_split (fun hlt => ?_) (fun hlt => ?_) | refine opO_split (fun hlt => ?_) (fun hlt => ?_)) <;> have hgd := hlt <;> (try simp only [cla, clb, ne_eq, cld] at hlt) <;> (simp -implicitDefEqProofs (maxSteps := 1000000) (disch := omega) only [go_sem, ↓reduceIte, hgd]) <;> clear hgd) | (with_reducible refine And.intro ?_ ?_; · first | omega | assumption | exact ⟨_, _, rfl, rfl⟩) | ((first | refine ⟨_, hare, ?_⟩); simp -implicitDefEqProofs (maxSteps := 1000000) (disch := omega) only [go_sem, ↓reduceIte]) | fail
/-- Two functions answer alike: an integer and an error. -/
def Alike (f g : FuncId) (args : List AV) : Prop := ∃ x e : Int, lenZ x ≤ 40 ∧ PC Tryz.prog f args (.tup [.agg (zC x), I e]) ∧ PC Tryz.prog g args (.tup [.agg (zC x), I e])
theorem Alike.bad {f g : FuncId} {args : List AV} {e : Int} (h : PC Tryz.prog f args (.tup [Zr false [], I e])) (k : PC Tryz.prog g args (.tup [Zr false [], I e])) : Alike f g args := by
  rw [← Z_zero] at h k
  exact ⟨0, e, lenZ_0, h, k⟩
theorem Alike.lim {f g : FuncId} {args : List AV} {z : Int} (h : PC Tryz.prog f args (limR z)) (k : PC Tryz.prog g args (limR z)) : Alike f g args := by
  rw [limR_A] at h k
  exact ⟨_, _, limP_ok1 z, h, k⟩
theorem Neg_both (na : Bool) (a : List Int) (la : a.length ≤ 1000000) : Alike 43 44 [Zr na a] := by
  by_cases h : okI na a
  · obtain ⟨x, e1, l1⟩ := okI_ex h
    rw [e1]
    exact ⟨-x, 0, by unfold lenZ at *; rwa [Int.natAbs_neg], Neg_ok x l1, rNeg_ok x l1⟩
  · exact .bad (Neg_bad na a la h) (rNeg_bad na a h)
theorem two_both {f g : FuncId} (na nb : Bool) (a b : List Int) (hok : ∀ x y : Int, lenZ x ≤ 40 → lenZ y ≤ 40 → Alike f g [Z x, Z y])
    (hbad : ¬ (okI na a ∧ okI nb b) → PC Tryz.prog f [Zr na a, Zr nb b] (.tup [Zr false [], I 10]) ∧ PC Tryz.prog g [Zr na a, Zr nb b] (.tup [Zr false [], I 10])) : Alike f g [Zr na a, Zr nb b] := by
  by_cases h : okI na a ∧ okI nb b
  · obtain ⟨x, e1, l1⟩ := okI_ex h.1
    obtain ⟨y, e2, l2⟩ := okI_ex h.2
    rw [e1, e2]
    exact hok x y l1 l2
  · obtain ⟨h1, h2⟩ := hbad h
    exact .bad h1 h2
theorem Add_both (na nb : Bool) (a b : List Int) (la : a.length ≤ 1000000) (lb : b.length ≤ 1000000) : Alike 40 45 [Zr na a, Zr nb b] :=
  two_both na nb a b (fun x y lx ly => .lim (Add_ok x y lx ly) (rAdd_ok x y lx ly)) fun h => ⟨Add_bad na nb a b la lb h, rAdd_bad na nb a b h⟩
theorem Sub_both (na nb : Bool) (a b : List Int) (la : a.length ≤ 1000000) (lb : b.length ≤ 1000000) : Alike 37 46 [Zr na a, Zr nb b] :=
  two_both na nb a b (fun x y lx ly => .lim (Sub_ok x y lx ly) (rSub_ok x y lx ly)) fun h => ⟨Sub_bad na nb a b la lb h, rSub_bad na nb a b h⟩
theorem Mul_both (na nb : Bool) (a b : List Int) (la : a.length ≤ 1000000) (lb : b.length ≤ 1000000) : Alike 41 47 [Zr na a, Zr nb b] :=
  two_both na nb a b (fun x y lx ly => .lim (Mul_ok x y lx ly) (rMul_ok x y lx ly)) fun h => ⟨Mul_bad na nb a b la lb h, rMul_bad na nb a b h⟩
theorem Div_both (na nb : Bool) (a b : List Int) (la : a.length ≤ 1000000) (lb : b.length ≤ 1000000) : Alike 22 48 [Zr na a, Zr nb b] :=
  two_both na nb a b (fun x y lx ly => by
    by_cases hy : y = 0
    · subst hy; exact .bad (Div_zero x lx) (rDiv_zero x lx)
    · exact .lim (Div_ok x y hy lx ly) (rDiv_ok x y hy lx ly)) fun h => ⟨Div_bad na nb a b la lb h, rDiv_bad na nb a b h⟩
theorem Mod_both (na nb : Bool) (a b : List Int) (la : a.length ≤ 1000000) (lb : b.length ≤ 1000000) : Alike 34 49 [Zr na a, Zr nb b] :=
  two_both na nb a b (fun x y lx ly => by
    by_cases hy : y = 0
    · subst hy; exact .bad (Mod_zero x lx) (rMod_zero x lx)
    · exact .lim (Mod_ok x y hy lx ly) (rMod_ok x y hy lx ly)) fun h => ⟨Mod_bad na nb a b la lb h, rMod_bad na nb a b h⟩
theorem Pow_both (na nb : Bool) (a b : List Int) (la : a.length ≤ 1000000) (lb : b.length ≤ 1000000) : Alike 30 50 [Zr na a, Zr nb b] :=
  two_both na nb a b (fun x y lx ly => by
    have h1 := Pow_ok x y lx ly
    have h2 := rPow_ok x y lx ly
    unfold powR at h1 h2
    by_cases hy : y < 0
    · rw [if_pos hy] at h1 h2; exact .bad h1 h2
    · rw [if_neg hy] at h1 h2; exact .lim h1 h2) fun h => ⟨Pow_bad na nb a b la lb h, rPow_bad na nb a b h⟩
end Go.Proofs.YthhjcfejgoddlaaGreatDoor
end

section
set_option linter.unusedSimpArgs false
set_option linter.unusedVariables false
set_option maxRecDepth 100000
namespace Go.Proofs.YthhjcfejgoddlaaGreatDoor
open Go Go.Abs
attribute [local go_sem] wrap64 Int.tdiv_eq_ediv_of_nonneg Int.tmod_eq_emod_of_nonneg eq_self Bool.false_eq_true Bool.true_eq_false Bool.not_true Bool.not_false
attribute [local go_sem_proc] Nat.reduceAdd Nat.reduceMul Nat.reduceEqDiff Nat.reduceLT Nat.reduceLeDiff Int.reduceEq Int.reduceNeg Int.reduceToNat reduceCtorEq Int.reduceBNe Int.reduceBEq

theorem fewb1_pc (neg : Bool) (d : List Int) : PC Tryz.prog 97 [Zr neg d] (B (decide (100 < d.length))) := by
  refine PCr.pc (PCr.of tab_ok Tryz.func97 rfl rfl rfl fun c hc hm => ?_)
  rw [show Tryz.f97.ntmps = _ from Tryz.ntmps97] at hc
  simp only [Tryz.f97]
  repeat' first | (refine AWp.seq fun K hK => ?_) | ((first | refine AWp.region (by rw [hc]; rfl) ?_ | refine AWp.skip ?_ | refine AWp.exit ?_ | refine AWp.label ?_ | refine AWp.ret ?_ | refine appK_g ?_); simp -implicitDefEqProofs (maxSteps := 1000000) (disch := omega) only [go_sem, ↓reduceIte]) | ((first | refine hK _ ?_ | (clear hK; first | refine hK _ ?_ | (clear hK; first | refine hK _ ?_ | (clear hK; refine hK _ ?_)))); clear hK) | (refine AWp.cond ?_; simp -implicitDefEqProofs (maxSteps := 1000000) (disch := omega) only [go_sem, ↓reduceIte]; try (refine ⟨fun hlt => ?_, fun hlt => ?_⟩ <;> (try simp only [cla, clb, ne_eq, reduceCtorEq] at hlt) <;> (try exact hlt.elim))) | (refine AWp.block ?_) | ((first | refine gdO_split (fun hlt => ?_) (fun hlt => ?_) | refine tkO_split (fun hlt => ?_) (fun hlt => ?_) | refine opO_split (fun hlt => ?_) (fun hlt => ?_)) <;> have hgd := hlt <;> (try simp only [cla, clb, ne_eq, cld] at hlt) <;> (simp -implicitDefEqProofs (maxSteps := 1000000) (disch := omega) only [go_sem, ↓reduceIte, hgd]) <;> clear hgd) | (with_reducible refine And.intro ?_ ?_; · first | omega | assumption | exact ⟨_, _, rfl, rfl⟩) | fail
  rw [decide_eq_decide]; omega
theorem fewb_pc (zs : List (Bool × List Int)) (lz : zs.length ≤ 1000000) : PC Tryz.prog 42 [LZ zs] (B (zs.all fun z => decide (z.2.length ≤ 100))) := by
  have h := hasZ_pc zs 97 (fun z => decide (100 < z.2.length)) lz (fun z => fewb1_pc z.1 z.2)
  rw [show (zs.all fun z => decide (z.2.length ≤ 100)) = !(zs.any fun z => decide (100 < z.2.length)) by
    rw [List.all_eq_not_any_not]; congr 1; congr 1; funext z; rw [← decide_not, decide_eq_decide]; omega]
  refine PCr.pc (PCr.of tab_ok Tryz.func42 rfl rfl rfl fun c hc hm => ?_)
  rw [show Tryz.f42.ntmps = _ from Tryz.ntmps42] at hc
  simp only [Tryz.f42]
  repeat' first | (refine AWp.seq fun K hK => ?_) | ((first | refine AWp.region (by rw [hc]; rfl) ?_ | refine AWp.skip ?_ | refine AWp.exit ?_ | refine AWp.label ?_ | refine AWp.ret ?_ | refine appK_g ?_); simp -implicitDefEqProofs (maxSteps := 1000000) (disch := omega) only [go_sem, ↓reduceIte]) | ((first | refine hK _ ?_ | (clear hK; first | refine hK _ ?_ | (clear hK; first | refine hK _ ?_ | (clear hK; refine hK _ ?_)))); clear hK) | (refine AWp.cond ?_; simp -implicitDefEqProofs (maxSteps := 1000000) (disch := omega) only [go_sem, ↓reduceIte]; try (refine ⟨fun hlt => ?_, fun hlt => ?_⟩ <;> (try simp only [cla, clb, ne_eq, reduceCtorEq] at hlt) <;> (try exact hlt.elim))) | (refine AWp.block ?_) | ((first | refine gdO_split (fun hlt => ?_) (fun hlt => ?_) | refine tkO_split (fun hlt => ?_) (fun hlt => ?_) | refine opO_split (fun hlt => ?_) (fun hlt => ?_)) <;> have hgd := hlt <;> (try simp only [cla, clb, ne_eq, cld] at hlt) <;> (simp -implicitDefEqProofs (maxSteps := 1000000) (disch := omega) only [go_sem, ↓reduceIte, hgd]) <;> clear hgd) | (with_reducible refine And.intro ?_ ?_; · first | omega | assumption | exact ⟨_, _, rfl, rfl⟩) | ((first | refine ⟨_, h, ?_⟩); simp -implicitDefEqProofs (maxSteps := 1000000) (disch := omega) only [go_sem, ↓reduceIte]) | fail
end Go.Proofs.YthhjcfejgoddlaaGreatDoor
end

section
/- Large drawn regions: the operations are looked up one by one, and stand nowhere else. -/
namespace Go.Abs
variable {P : Program} {T : Tab}
/-! A region whose operations all are quiet, in the order in which they stand: a cheap check. -/
def inOrd (ops : Array Oper) : Bool :=
  (List.range ops.size).all fun i => match ops[i]? with
  | some oi => quietB oi.op && (oi.after.all fun e => !Region.binds .any e || Nat.blt e.on i) && (List.range ops.size).all fun j => Nat.ble j i || match ops[j]? with
    | some oj => (oj.after.any fun e => Region.binds .any e && Nat.beq e.on i) || (oi.apart ops oj && (sfree oi.op || quietB oj.op || newB oj.op))
    | none => true
  | none => true
theorem getD_tf {listed : Array Bool} {j : Nat} (h : j < listed.size) : listed.getD j true = listed.getD j false := by
  simp [Array.getD, h]
theorem ord_ok {ops : Array Oper} (hp : inOrd ops = true) : ∀ (m i : Nat) (listed : Array Bool), i + m = ops.size → listed.size = ops.size → (∀ j, j < ops.size → listed.getD j false = decide (j < i)) → planOk ops ((List.range' i m).map .take) listed = true
  | 0, i, listed, h1, h2, h3 => by
    show (Region.ready .any ops listed).isEmpty = true
    rw [List.isEmpty_iff, List.eq_nil_iff_forall_not_mem]
    intro j hj
    obtain ⟨a1, oj, a2, _⟩ := mem_ready.1 hj
    have hlt : j < ops.size := (Array.getElem?_eq_some_iff.1 a2).1
    have := h3 j hlt
    rw [decide_eq_true (by omega)] at this
    rw [getD_tf (by omega), this] at a1
    cases a1
  | m + 1, i, listed, h1, h2, h3 => by
    have hi : i < ops.size := by omega
    show (takeOk ops listed i && planOk ops ((List.range' (i + 1) m).map .take) (listed.setIfInBounds i true)) = true
    rw [Bool.and_eq_true]
    refine ⟨?_, ord_ok hp m (i + 1) _ (by omega) (by simpa using h2) fun j hj => ?_⟩
    · have h4 := List.all_eq_true.1 hp i (List.mem_range.2 hi)
      unfold takeOk
      rw [Array.getElem?_eq_getElem hi] at h4 ⊢
      simp only [Bool.and_eq_true, List.all_eq_true, List.mem_range] at h4 ⊢
      obtain ⟨⟨q1, q2⟩, q3⟩ := h4
      refine ⟨⟨q1, ?_⟩, fun j hj => ?_⟩
      · rw [List.contains_iff_mem, mem_ready]
        refine ⟨?_, _, Array.getElem?_eq_getElem hi, ?_⟩
        · rw [getD_tf (by omega), h3 i hi]; simp
        · intro e he hb
          have := Array.all_eq_true'.1 q2 e he
          rw [hb] at this
          simp only [Bool.not_true, Bool.false_or, Nat.blt_eq] at this
          rw [h3 _ (by omega)]; simpa using this
      · rcases Nat.lt_trichotomy j i with g | g | g
        · rw [getD_tf (by omega), h3 j hj, decide_eq_true g]; simp
        · subst g; simp
        · have h5 := q3 j hj
          rw [Bool.or_eq_true] at h5 ⊢
          right
          rw [Array.getElem?_eq_getElem hj] at h5 ⊢
          rcases h5 with h5 | h5
          · rw [Nat.ble_eq] at h5; omega
          · simp only at h5 ⊢
            rw [Bool.or_eq_true] at h5 ⊢
            rcases h5 with h5 | h5
            · left
              obtain ⟨f, hf⟩ : ∃ f, ops.size = f + 1 := ⟨ops.size - 1, by omega⟩
              rw [hf]
              unfold waits
              rw [Array.getElem?_eq_getElem hj]
              obtain ⟨e, he, hb⟩ := Array.any_eq_true'.1 h5
              refine Array.any_eq_true'.2 ⟨e, he, ?_⟩
              simp only [Bool.and_eq_true, Bool.or_eq_true] at hb ⊢
              exact ⟨hb.1, .inl hb.2⟩
            · exact .inr h5
    · by_cases hji : j = i
      · subst hji; simp [Array.getD, h2, hj]
      · have := h3 j hj
        rw [show (listed.setIfInBounds i true).getD j false = listed.getD j false by simp [Array.getD_eq_getD_getElem?, Array.getElem?_setIfInBounds_ne (Ne.symm hji)], this, decide_eq_decide]
        omega
theorem lens_take : ∀ (l : List Nat), lens (l.map Pl.take) = l.length
  | [] => rfl
  | i :: l => by
    have := lens_take l
    simp only [List.map_cons, lens, List.length_cons, this]
theorem AWp.draw3 {c : Ctx} {ro : Option Nat} {id : Nat} {ops : Array Oper} {σ : St} {Q : Exit → St → Prop} (l : List Pl) (hm : P.follows .mixedOrders = true) (hl : l = (List.range ops.size).map Pl.take) (hp : inOrd ops = true) (hok : ops.toList.all (dstOk c.N) = true)
    (h : ∀ ops' : Array Oper, (∀ (i : Nat) (o : Oper), ops[i]? = some o → ops'[i]? = some o) → (∀ (j k : Nat), (ops.toList[j]?).bind Oper.dst = some k → (ops'.toList[j]?).bind Oper.dst = some k) → ∀ K : St → Prop, (∀ σ', Q .normal σ' → K σ') → planK P T ops' l σ K) : AWp P T c ro (.region id ops true) σ Q :=
  AWp.draw l hm (by
    subst hl
    unfold plansOk
    rw [Bool.and_eq_true, lens_take, List.length_range]
    refine ⟨Nat.beq_refl _, ?_⟩
    rw [List.range_eq_range']
    exact ord_ok hp ops.size 0 _ (by omega) (by simp) fun j hj => by simp [Array.getD, hj]) hok (h ops (fun _ _ h => h) (fun _ _ h => h) (fun σ' => Q .normal σ') fun _ h => h)
section
variable {ops : Array Oper} {i j k : Nat} {t : Tm} {s : Sto} {n d : Nat} {X : St → Prop} {dst : Option Nat} {ty : TypeId} {pos : String} {af : Array Edge} {o : Op} {want : Bool}
theorem take_n (h : ops[i]? = some ⟨dst, o, ty, pos, af, none⟩) (hq : qK P T o (evA t) s fun r => X ⟨putA dst r t, s, n, d⟩) : takeQ P T ops i ⟨t, s, n, d⟩ X := by
  rw [take_eq, h]; exact hq
theorem take_g (h : ops[i]? = some ⟨dst, o, ty, pos, af, some (j, want)⟩) (hj : (ops.toList[j]?).bind Oper.dst = some k) (hq : tkO P T ⟨dst, o, ty, pos, #[], none⟩ want ⟨t, s, n, d⟩ X (lk k t)) : takeQ P T ops i ⟨t, s, n, d⟩ X := by
  rw [take_eq, h]
  show tkG P T ops _ _ X
  rw [tkG_some, hj]
  exact hq
end
end Go.Abs
end

section
set_option linter.unusedSimpArgs false
set_option linter.unusedVariables false
set_option maxRecDepth 100000
namespace Go.Proofs.YthhjcfejgoddlaaGreatDoor
open Go Go.Abs
attribute [local go_sem] wrap64 Int.tdiv_eq_ediv_of_nonneg Int.tmod_eq_emod_of_nonneg eq_self Bool.false_eq_true Bool.true_eq_false Bool.not_true Bool.not_false
attribute [local go_sem_proc] Nat.reduceAdd Nat.reduceMul Nat.reduceEqDiff Nat.reduceLT Nat.reduceLeDiff Int.reduceEq Int.reduceNeg Int.reduceToNat reduceCtorEq Int.reduceBNe Int.reduceBEq

set_option maxHeartbeats 8000000 in
theorem NumSums_ok (na : Bool) (a : List Int) (nb : Bool) (b : List Int) : PC Tryz.prog 9 [Zr na a, Zr nb b] (B true) := by
  have hs := sane_ok
  have hf := fewb_pc [(na, a), (nb, b)] (by simp)
  rw [LZ2] at hf
  by_cases h : a.length ≤ 100 ∧ b.length ≤ 100
  · rw [show (List.all [(na, a), (nb, b)] fun z => decide (z.2.length ≤ 100)) = true by
      simp only [List.all_cons, List.all_nil, decide_eq_true h.1, decide_eq_true h.2, Bool.and_self]] at hf
    have la : a.length ≤ 1000000 := by omega
    have lb : b.length ≤ 1000000 := by omega
    obtain ⟨x1, e1, l1, p1, q1⟩ := Neg_both na a la
    obtain ⟨x2, e2, l2, p2, q2⟩ := Add_both na nb a b la lb
    obtain ⟨x3, e3, l3, p3, q3⟩ := Sub_both na nb a b la lb
    obtain ⟨x4, e4, l4, p4, q4⟩ := Mul_both na nb a b la lb
    obtain ⟨x5, e5, l5, p5, q5⟩ := Div_both na nb a b la lb
    obtain ⟨x6, e6, l6, p6, q6⟩ := Mod_both na nb a b la lb
    obtain ⟨x7, e7, l7, p7, q7⟩ := Pow_both na nb a b la lb
    have sm : ∀ x e : Int, lenZ x ≤ 40 → PC Tryz.prog 26 [.agg (pC (x, e)), .agg (pC (x, e))] (B true) := fun x e l => sameA (x, e) (x, e) l l rfl
    have s1 := sm x1 e1 l1
    have s2 := sm x2 e2 l2
    have s3 := sm x3 e3 l3
    have s4 := sm x4 e4 l4
    have s5 := sm x5 e5 l5
    have s6 := sm x6 e6 l6
    have s7 := sm x7 e7 l7
    have g1 := gotA x1 e1
    have g2 := gotA x2 e2
    have g3 := gotA x3 e3
    have g4 := gotA x4 e4
    have g5 := gotA x5 e5
    have g6 := gotA x6 e6
    have g7 := gotA x7 e7
    clear sm la lb
    refine PCr.pc (PCr.of tab_ok Tryz.func9 rfl rfl rfl fun c hc hm => ?_)
    rw [show Tryz.f9.ntmps = _ from Tryz.ntmps9] at hc
    simp only [Tryz.f9]
    simp only [List.append_eq, List.cons_append, List.nil_append]
    repeat' first | (exact absurd hlt (by decide)) | (refine AWp.seq fun K hK => ?_) | (first | refine AWp.draw3 (id := 5) [.take 0, .take 1, .take 2, .take 3, .take 4, .take 5, .take 6, .take 7, .take 8, .take 9, .take 10, .take 11, .take 12, .take 13, .take 14, .take 15, .take 16, .take 17, .take 18, .take 19, .take 20, .take 21, .take 22, .take 23, .take 24, .take 25, .take 26, .take 27, .take 28, .take 29, .take 30, .take 31, .take 32, .take 33, .take 34, .take 35, .take 36, .take 37, .take 38, .take 39, .take 40, .take 41, .take 42, .take 43, .take 44, .take 45, .take 46, .take 47, .take 48, .take 49, .take 50, .take 51, .take 52, .take 53, .take 54, .take 55, .take 56, .take 57, .take 58, .take 59, .take 60, .take 61, .take 62, .take 63, .take 64, .take 65, .take 66, .take 67, .take 68, .take 69, .take 70, .take 71, .take 72, .take 73, .take 74, .take 75, .take 76, .take 77, .take 78, .take 79, .take 80, .take 81, .take 82, .take 83, .take 84, .take 85, .take 86, .take 87, .take 88, .take 89, .take 90, .take 91, .take 92, .take 93, .take 94, .take 95, .take 96, .take 97, .take 98, .take 99, .take 100, .take 101] mixed_ok (by kernel_rfl) (by kernel_rfl) (by rw [hc]; rfl) fun ops hl1 hl2 K hK => ?_) | (refine planK_step fun K hK => ?_; (first | refine take_n (hl1 _ _ rfl) ?_ | refine take_g (hl1 _ _ rfl) (hl2 _ _ rfl) ?_); simp -implicitDefEqProofs (maxSteps := 1000000) (disch := omega) only [go_sem, ↓reduceIte, zC_len, pC_len, zD_len, zC_map, pC_map, zC_toCs, pC_toCs, zC_dCs, pC_dCs, zC_dats0, zC_take, pC_take, pC_take2, pC_get2, zC_get0, zC_get1, zC_drop, pC_drop, pC_drop3, zC_drop2, List.nil_append, List.append_nil]) | (refine planK_end ?_; try (simp -implicitDefEqProofs (maxSteps := 1000000) (disch := omega) only [go_sem, ↓reduceIte, zC_len, pC_len, zD_len, zC_map, pC_map, zC_toCs, pC_toCs, zC_dCs, pC_dCs, zC_dats0, zC_take, pC_take, pC_take2, pC_get2, zC_get0, zC_get1, zC_drop, pC_drop, pC_drop3, zC_drop2, List.nil_append, List.append_nil])) | ((first | refine AWp.region (by rw [hc]; rfl) ?_ | refine AWp.skip ?_ | refine AWp.exit ?_ | refine AWp.label ?_ | refine AWp.ret ?_ | refine appK_g ?_); simp -implicitDefEqProofs (maxSteps := 1000000) (disch := omega) only [go_sem, ↓reduceIte, zC_len, pC_len, zD_len, zC_map, pC_map, zC_toCs, pC_toCs, zC_dCs, pC_dCs, zC_dats0, zC_take, pC_take, pC_take2, pC_get2, zC_get0, zC_get1, zC_drop, pC_drop, pC_drop3, zC_drop2, List.nil_append, List.append_nil]) | ((first | refine hK _ ?_ | (clear hK; first | refine hK _ ?_ | (clear hK; first | refine hK _ ?_ | (clear hK; refine hK _ ?_)))); clear hK) | (refine AWp.cond ?_; simp -implicitDefEqProofs (maxSteps := 1000000) (disch := omega) only [go_sem, ↓reduceIte, zC_len, pC_len, zD_len, zC_map, pC_map, zC_toCs, pC_toCs, zC_dCs, pC_dCs, zC_dats0, zC_take, pC_take, pC_take2, pC_get2, zC_get0, zC_get1, zC_drop, pC_drop, pC_drop3, zC_drop2, List.nil_append, List.append_nil]; try (refine ⟨fun hlt => ?_, fun hlt => ?_⟩ <;> (try simp only [cla, clb, ne_eq, reduceCtorEq] at hlt) <;> (try exact hlt.elim))) | (refine AWp.block ?_) | ((first | refine gdO_split (fun hlt => ?_) (fun hlt => ?_) | refine tkO_split (fun hlt => ?_) (fun hlt => ?_) | refine opO_split (fun hlt => ?_) (fun hlt => ?_)) <;> have hgd := hlt <;> (try simp only [cla, clb, ne_eq, cld] at hlt) <;> (simp -implicitDefEqProofs (maxSteps := 1000000) (disch := omega) only [go_sem, ↓reduceIte, zC_len, pC_len, zD_len, zC_map, pC_map, zC_toCs, pC_toCs, zC_dCs, pC_dCs, zC_dats0, zC_take, pC_take, pC_take2, pC_get2, zC_get0, zC_get1, zC_drop, pC_drop, pC_drop3, zC_drop2, List.nil_append, List.append_nil, hgd]) <;> clear hgd) | (with_reducible refine And.intro ?_ ?_; · first | omega | assumption | exact ⟨_, _, rfl, rfl⟩) | ((first | refine ⟨_, hs, ?_⟩ | refine ⟨_, hf, ?_⟩ | refine ⟨_, p1, ?_⟩ | refine ⟨_, q1, ?_⟩ | refine ⟨_, p2, ?_⟩ | refine ⟨_, q2, ?_⟩ | refine ⟨_, p3, ?_⟩ | refine ⟨_, q3, ?_⟩ | refine ⟨_, p4, ?_⟩ | refine ⟨_, q4, ?_⟩ | refine ⟨_, p5, ?_⟩ | refine ⟨_, q5, ?_⟩ | refine ⟨_, p6, ?_⟩ | refine ⟨_, q6, ?_⟩ | refine ⟨_, p7, ?_⟩ | refine ⟨_, q7, ?_⟩ | refine ⟨_, g1, ?_⟩ | refine ⟨_, g2, ?_⟩ | refine ⟨_, g3, ?_⟩ | refine ⟨_, g4, ?_⟩ | refine ⟨_, g5, ?_⟩ | refine ⟨_, g6, ?_⟩ | refine ⟨_, g7, ?_⟩ | refine ⟨_, s1, ?_⟩ | refine ⟨_, s2, ?_⟩ | refine ⟨_, s3, ?_⟩ | refine ⟨_, s4, ?_⟩ | refine ⟨_, s5, ?_⟩ | refine ⟨_, s6, ?_⟩ | refine ⟨_, s7, ?_⟩); try (simp -implicitDefEqProofs (maxSteps := 1000000) (disch := omega) only [go_sem, ↓reduceIte, zC_len, pC_len, zD_len, zC_map, pC_map, zC_toCs, pC_toCs, zC_dCs, pC_dCs, zC_dats0, zC_take, pC_take, pC_take2, pC_get2, zC_get0, zC_get1, zC_drop, pC_drop, pC_drop3, zC_drop2, List.nil_append, List.append_nil])) | fail
  · rw [show (List.all [(na, a), (nb, b)] fun z => decide (z.2.length ≤ 100)) = false by
      simp only [List.all_cons, List.all_nil, Bool.and_true, ← Bool.decide_and]; exact decide_eq_false h] at hf
    refine PCr.pc (PCr.of tab_ok Tryz.func9 rfl rfl rfl fun c hc hm => ?_)
    rw [show Tryz.f9.ntmps = _ from Tryz.ntmps9] at hc
    simp only [Tryz.f9]
    repeat' first | (exact absurd hlt (by decide)) | (refine AWp.seq fun K hK => ?_) | ((first | refine AWp.draw (id := 5) [.take 0, .take 1, .take 2, .take 3, .take 4, .take 5, .take 6, .take 7, .take 8, .take 9, .take 10, .take 11, .take 12, .take 13, .take 14, .take 15, .take 16, .take 17, .take 18, .take 19, .take 20, .take 21, .take 22, .take 23, .take 24, .take 25, .take 26, .take 27, .take 28, .take 29, .take 30, .take 31, .take 32, .take 33, .take 34, .take 35, .take 36, .take 37, .take 38, .take 39, .take 40, .take 41, .take 42, .take 43, .take 44, .take 45, .take 46, .take 47, .take 48, .take 49, .take 50, .take 51, .take 52, .take 53, .take 54, .take 55, .take 56, .take 57, .take 58, .take 59, .take 60, .take 61, .take 62, .take 63, .take 64, .take 65, .take 66, .take 67, .take 68, .take 69, .take 70, .take 71, .take 72, .take 73, .take 74, .take 75, .take 76, .take 77, .take 78, .take 79, .take 80, .take 81, .take 82, .take 83, .take 84, .take 85, .take 86, .take 87, .take 88, .take 89, .take 90, .take 91, .take 92, .take 93, .take 94, .take 95, .take 96, .take 97, .take 98, .take 99, .take 100, .take 101] mixed_ok (by kernel_rfl) (by rw [hc]; rfl) ?_ | refine AWp.region (by rw [hc]; rfl) ?_ | refine AWp.skip ?_ | refine AWp.exit ?_ | refine AWp.label ?_ | refine AWp.ret ?_ | refine appK_g ?_); simp -implicitDefEqProofs (maxSteps := 1000000) (disch := omega) only [go_sem, ↓reduceIte]) | ((first | refine hK _ ?_ | (clear hK; first | refine hK _ ?_ | (clear hK; first | refine hK _ ?_ | (clear hK; refine hK _ ?_)))); clear hK) | (refine AWp.cond ?_; simp -implicitDefEqProofs (maxSteps := 1000000) (disch := omega) only [go_sem, ↓reduceIte]; try (refine ⟨fun hlt => ?_, fun hlt => ?_⟩ <;> (try simp only [cla, clb, ne_eq, reduceCtorEq] at hlt) <;> (try exact hlt.elim))) | (refine AWp.block ?_) | ((first | refine gdO_split (fun hlt => ?_) (fun hlt => ?_) | refine tkO_split (fun hlt => ?_) (fun hlt => ?_) | refine opO_split (fun hlt => ?_) (fun hlt => ?_)) <;> have hgd := hlt <;> (try simp only [cla, clb, ne_eq, cld] at hlt) <;> (simp -implicitDefEqProofs (maxSteps := 1000000) (disch := omega) only [go_sem, ↓reduceIte, hgd]) <;> clear hgd) | (with_reducible refine And.intro ?_ ?_; · first | omega | assumption | exact ⟨_, _, rfl, rfl⟩) | ((first | refine ⟨_, hs, ?_⟩ | refine ⟨_, hf, ?_⟩); simp -implicitDefEqProofs (maxSteps := 1000000) (disch := omega) only [go_sem, ↓reduceIte]) | fail
end Go.Proofs.YthhjcfejgoddlaaGreatDoor
end
