/- The contract of the law's function. -/
import Derived.Shelf.Strings.Builder1
import Derived.Shelf.Strings.Builder2
import Derived.Shelf.Small.Wraps
import Derived.Shelf.Strings.BuilderF
import Derived.Shelf.Strings.BuilderK
import Derived.Shelf.Strings.Builder2Cap
import Derived.Shelf.Strconv.Atoi
import Derived.Shelf.Strconv.Itoa0
import Derived.Shelf.Strconv.Itoa1
import Derived.Shelf.LaysM
import Derived.Shelf.Strconv.Itoa2
import Derived.Shelf.Strconv.Itoa3
import Derived.Shelf.Strconv.AtoiErrFast
import Derived.Shelf.Strconv.ParseIntEmpty
import Derived.Shelf.Strconv.AtoiFail
import Derived.Shelf.Strconv.Clone
import Derived.Shelf.Strconv.SyntaxError
import Derived.Shelf.LaysC
import Derived.Shelf.Strconv.ToError
import Derived.Shelf.Strconv.Lower
import Derived.Shelf.Strconv.ParseUint10
import Derived.Shelf.Strconv.ParseUint10Empty
import Derived.Shelf.Strconv.ParseUint10Any
import Derived.Shelf.Strconv.ParseInt10
import Derived.Shelf.Strconv.AtoiLong
import Derived.Shelf.Strconv.AtoiInnerAll
import Derived.Shelf.Strconv.RangeError
import Derived.Shelf.Strconv.ToErrorRange
import Derived.Shelf.Strconv.AtoiAll
import Derived.Shelf.Strconv.ErrVarAll
import Derived.Shelf.Strconv.ParseUintEmpty
import Derived.Shelf.Strconv.ParseUint10b64
import Derived.Shelf.Strconv.ParseUint10b32
import Derived.Shelf.Strconv.ParseUint10b16
import Derived.Shelf.Strconv.ParseUint10b8
import Derived.Shelf.Strconv.ParseUint10At
import Derived.Shelf.Strconv.ParseInt10At64
import Derived.Shelf.Strconv.ParseInt10At32
import Derived.Shelf.Strconv.ParseInt10At16
import Derived.Shelf.Strconv.ParseInt10At8
import Derived.Shelf.Strconv.ParseInt10All
import Derived.Shelf.Strconv.ParseIntPublic10
import Derived.Shelf.Strconv.ErrVarParseInt
import Derived.Shelf.GgClosure.StringsIndexFunc
import Derived.Ground.GgwProg
import Derived.Shelf.GgClosure.StringsIndexFuncTop
import Derived.Shelf.GgClosure.StringsRunes
import Derived.Shelf.Strings.Prefix
import Derived.Shelf.Bits.Mul64
import Derived.Shelf.Strings.Repeat
import Derived.Shelf.Strings.FuncGrows
import Derived.Shelf.Strings.BuilderCap
import Derived.Shelf.Slices.Reverse
import Derived.Shelf.Slices.Equal
import Derived.Ground.Names2Prog
import Derived.Shelf.Slices.Clone
import Derived.Shelf.Slices.Cells
import Derived.Shelf.Slices.Empties2
import Derived.Test.YthhjcfejgoddlaaGreatDoorKs
import Derived.Test.YthhjcfejgoddlaaGreatDoorJb
import Derived.Test.YthhjcfejgoddlaaGreatDoorKb
import Derived.Test.YthhjcfejgoddlaaGreatDoorJc
import Derived.Laws.BytesString
section
/-
  DERIVED: THE SHELF's CONTRACTS AT THIS DUMP, IN PLAIN WORDS (tools/lay-plain.mjs out of 'TryzShelf.lean', which tools/lay-shelf.mjs wrote): THE SAME DECLARATIONS UNDER THE SAME NAMES: 'import', 'namespace', 'open', 'def', 'theorem' AND NOTHING ELSE: no command of the shelf's: FOR A HAND-IN. Each laying: the table of numbers ('.._ren') and one theorem, a field a fact of the dump's own or the kernel's comparison; each contract: ONE APPLICATION.
-/
namespace Go.Proofs
open Go.Shelf
def Tryz.lays101_ren : Go.Shelf.Ren := ⟨fun | 101 => 107 | 208 => 139 | 206 => 164 | n => n, fun | 9 => 9 | 4 => 4 | 3 => 3 | n => n, fun | n => n⟩
theorem Tryz.lays101 : Go.Proofs.Lays.n101 Tryz.prog Tryz.lays101_ren := {
  mixed := by kernel_rfl
  f101 := Tryz.func107.trans (congrArg some (by kernel_rfl))
  f206 := Tryz.func164.trans (congrArg some (by kernel_rfl))
  f208 := Tryz.func139.trans (congrArg some (by kernel_rfl))
  t3 := Tryz.underlying3
  a3 := Tryz.isAgg3
  z3 := Tryz.sizeOf3
  v3 := Tryz.zeroValue3
  t4 := Tryz.underlying4
  a4 := Tryz.isAgg4
  z4 := Tryz.sizeOf4
  v4 := Tryz.zeroValue4
  t9 := Tryz.underlying9
  a9 := Tryz.isAgg9
  z9 := Tryz.sizeOf9
  v9 := Tryz.zeroValue9 }
open Go.RowKit Go.Lib in
theorem Tryz.strings_TrimPrefix (s p : ByteArray) (w : World) :
    Calls Tryz.prog 107 #[.string s, .string p] w fun e w' => e = .returned (.string ⟨(Lib.trimPrefix s.data.toList p.data.toList).toArray⟩) ∧ w' = w := Any.strings_TrimPrefix Tryz.lays101 s p w
end Go.Proofs
end

section
set_option linter.unusedSimpArgs false
set_option linter.unusedVariables false
set_option maxRecDepth 100000
namespace Go.Proofs.YthhjcfejgoddlaaGreatDoor
open Go Go.Abs

/-- Results as pairs: the integer and the error. -/
def limP (z : Int) : Int × Int := if lenZ z ≤ 40 then (z, 0) else (0, 2)
def GP (p : Int × Int) : AV := GZ p.1 p.2
def okP (p : Int × Int) : Prop := lenZ p.1 ≤ 40
theorem lenZ_0 : lenZ 0 ≤ 40 := by unfold lenZ; rw [Int.natAbs_zero, D_zero]; exact Nat.zero_le _
theorem limR_P (z : Int) : limR z = .tup [Z (limP z).1, I (limP z).2] := by
  unfold limR limP
  split
  · rfl
  · show _ = AV.tup [Z 0, I 2]
    rw [Z_zero]
theorem limP_ok (z : Int) : okP (limP z) := by
  unfold limP okP
  split
  · assumption
  · exact lenZ_0
theorem gotP (p : Int × Int) : PC Tryz.prog 24 [Z p.1, I p.2] (GP p) := got_pc _ _ _
theorem got_lim (z : Int) : PC Tryz.prog 24 [Z (limP z).1, I (limP z).2] (GP (limP z)) := gotP _
theorem valP (x : Int) : PC Tryz.prog 21 [Z x] (GP (x, 0)) := val_pc _ _
def sumP (p q : Int × Int) : Int × Int := if p.2 = 0 ∧ q.2 = 0 then limP (p.1 + q.1) else (0, 2)
def timesP (p q : Int × Int) : Int × Int := if p.2 = 0 ∧ q.2 = 0 then limP (p.1 * q.1) else (0, 2)
theorem sumP_ok (p q : Int × Int) : okP (sumP p q) := by unfold sumP; split; exact limP_ok _; exact lenZ_0
theorem timesP_ok (p q : Int × Int) : okP (timesP p q) := by unfold timesP; split; exact limP_ok _; exact lenZ_0
theorem GP_02 : GP (0, 2) = .agg [B false, L [], I 2] := by
  show Gr (decide ((0 : Int) < 0)) (D (Int.natAbs 0)) 2 = _
  rw [Int.natAbs_zero, D_zero]; rfl
theorem PC.weak {f : FuncId} {args : List AV} {r r' : AV} (h : PC Tryz.prog f args r) (k : ∀ A w v, RV φ0 0 A w r v → RV φ0 0 A w r' v) : PC Tryz.prog f args r' :=
  ⟨h.1, fun w A vs hg hl hv => (h.2 w A vs hg hl hv).mono fun e w' ⟨v, he, hb, hrv⟩ => ⟨v, he, hb, k _ _ _ hrv⟩⟩
theorem RV_nilL {A : Nat → Nat → Prop} {w : World} {x y : AV} {v : Value} (h : RV φ0 0 A w (.agg [x, .nil, y]) v) : RV φ0 0 A w (.agg [x, L [], y]) v := by
  cases h with
  | agg _ vs hl h h1 =>
    refine .agg _ vs hl (fun j z hz => ?_) h1
    rcases j with _ | _ | _ | j
    · exact h 0 _ hz
    · have h2 := h 1 _ rfl
      obtain rfl := Option.some.inj hz
      cases hv : vs.getD 1 undef
      all_goals rw [hv] at h2; cases h2
      exact .dat _ _ (.emp _ _)
    · exact h 2 _ hz
    · simp at hz
theorem sum_P (p q : Int × Int) (hp : okP p) (hq : okP q) : PC Tryz.prog 28 [GP p, GP q] (GP (sumP p q)) := by
  obtain ⟨x, e⟩ := p
  obtain ⟨y, f⟩ := q
  have h := Add_ok x y hp hq
  rw [limR_P] at h
  have g := got_lim (x + y)
  unfold sumP
  by_cases h1 : e = 0 <;> by_cases h2 : f = 0
  · subst h1; subst h2
    rw [if_pos ⟨rfl, rfl⟩]
    simp only [GP, GZ, Gr] at g ⊢
    refine PCr.pc (PCr.of tab_ok Tryz.func28 rfl rfl rfl fun c hc hm => ?_)
    rw [show Tryz.f28.ntmps = _ from Tryz.ntmps28] at hc
    simp only [Tryz.f28]
    repeat' first
      | (refine AWp.seq fun K hK => ?_)
      | ((first | refine AWp.region (by rw [hc]; rfl) ?_ | refine AWp.skip ?_ | refine AWp.exit ?_ | refine AWp.label ?_ | refine AWp.ret ?_ | refine appK_g ?_); simp -implicitDefEqProofs (maxSteps := 1000000) (disch := omega) only [go_sem, wrap64, Int.tdiv_eq_ediv_of_nonneg, Int.tmod_eq_emod_of_nonneg, Nat.reduceAdd, Nat.reduceMul, Nat.reduceEqDiff, Nat.reduceLT, Nat.reduceLeDiff, Int.reduceEq, Int.reduceNeg, Int.reduceToNat, reduceCtorEq, eq_self, Bool.false_eq_true, Bool.true_eq_false, ↓reduceIte, Int.reduceBNe])
      | (refine hK _ ?_; clear hK)
      | (clear hK; refine hK _ ?_; clear hK)
      | (clear hK; clear hK; refine hK _ ?_; clear hK)
      | (clear hK; clear hK; clear hK; refine hK _ ?_; clear hK)
      | (refine AWp.cond ?_; simp -implicitDefEqProofs (maxSteps := 1000000) (disch := omega) only [go_sem, wrap64, Int.tdiv_eq_ediv_of_nonneg, Int.tmod_eq_emod_of_nonneg, Nat.reduceAdd, Nat.reduceMul, Nat.reduceEqDiff, Nat.reduceLT, Nat.reduceLeDiff, Int.reduceEq, Int.reduceNeg, Int.reduceToNat, reduceCtorEq, eq_self, Bool.false_eq_true, Bool.true_eq_false, ↓reduceIte, Int.reduceBNe]; try (refine ⟨fun hlt => ?_, fun hlt => ?_⟩ <;> (try simp only [decide_eq_true_eq, decide_eq_false_iff_not, beq_iff_eq, bne_iff_ne, ne_eq, beq_eq_false_iff_ne, bne_eq_false_iff_eq, Bool.true_eq_false, Bool.false_eq_true, Int.not_lt, Int.not_le, Decidable.not_not, gt_iff_lt, ge_iff_le, reduceCtorEq] at hlt) <;> (try exact hlt.elim)))
      | (refine AWp.block ?_)
      | ((first | refine gdO_split (fun hlt => ?_) (fun hlt => ?_) | refine tkO_split (fun hlt => ?_) (fun hlt => ?_) | refine opO_split (fun hlt => ?_) (fun hlt => ?_)) <;> have hgd := hlt <;> (try simp only [decide_eq_true_eq, decide_eq_false_iff_not, beq_iff_eq, bne_iff_ne, ne_eq, beq_eq_false_iff_ne, bne_eq_false_iff_eq, Bool.not_eq_true, Bool.not_eq_false, Bool.not_eq_eq_eq_not, Int.not_lt, Int.not_le, Decidable.not_not, gt_iff_lt, ge_iff_le] at hlt) <;> (simp -implicitDefEqProofs (maxSteps := 1000000) (disch := omega) only [go_sem, wrap64, Int.tdiv_eq_ediv_of_nonneg, Int.tmod_eq_emod_of_nonneg, Nat.reduceAdd, Nat.reduceMul, Nat.reduceEqDiff, Nat.reduceLT, Nat.reduceLeDiff, Int.reduceEq, Int.reduceNeg, Int.reduceToNat, reduceCtorEq, eq_self, Bool.false_eq_true, Bool.true_eq_false, ↓reduceIte, Int.reduceBNe, hgd]) <;> clear hgd)
      | (with_reducible refine And.intro ?_ ?_; · first | omega | assumption | exact ⟨_, _, rfl, rfl⟩)
      | ((first | refine ⟨_, h, ?_⟩ | refine ⟨_, g, ?_⟩); simp -implicitDefEqProofs (maxSteps := 1000000) (disch := omega) only [go_sem, wrap64, Int.tdiv_eq_ediv_of_nonneg, Int.tmod_eq_emod_of_nonneg, Nat.reduceAdd, Nat.reduceMul, Nat.reduceEqDiff, Nat.reduceLT, Nat.reduceLeDiff, Int.reduceEq, Int.reduceNeg, Int.reduceToNat, reduceCtorEq, eq_self, Bool.false_eq_true, Bool.true_eq_false, ↓reduceIte, Int.reduceBNe])
      | fail
  all_goals
    rw [if_neg (by simp only [h1, h2]; decide), GP_02]
    simp only [GP, GZ, Gr]
    refine PCr.pc (PCr.of tab_ok Tryz.func28 rfl rfl rfl fun c hc hm => ?_)
    rw [show Tryz.f28.ntmps = _ from Tryz.ntmps28] at hc
    simp only [Tryz.f28]
    repeat' first
      | (refine AWp.seq fun K hK => ?_)
      | ((first | refine AWp.region (by rw [hc]; rfl) ?_ | refine AWp.skip ?_ | refine AWp.exit ?_ | refine AWp.label ?_ | refine AWp.ret ?_ | refine appK_g ?_); simp -implicitDefEqProofs (maxSteps := 1000000) (disch := omega) only [go_sem, wrap64, Int.tdiv_eq_ediv_of_nonneg, Int.tmod_eq_emod_of_nonneg, Nat.reduceAdd, Nat.reduceMul, Nat.reduceEqDiff, Nat.reduceLT, Nat.reduceLeDiff, Int.reduceEq, Int.reduceNeg, Int.reduceToNat, reduceCtorEq, eq_self, Bool.false_eq_true, Bool.true_eq_false, ↓reduceIte, Int.reduceBNe])
      | (refine hK _ ?_; clear hK)
      | (clear hK; refine hK _ ?_; clear hK)
      | (clear hK; clear hK; refine hK _ ?_; clear hK)
      | (clear hK; clear hK; clear hK; refine hK _ ?_; clear hK)
      | (refine AWp.cond ?_; simp -implicitDefEqProofs (maxSteps := 1000000) (disch := omega) only [go_sem, wrap64, Int.tdiv_eq_ediv_of_nonneg, Int.tmod_eq_emod_of_nonneg, Nat.reduceAdd, Nat.reduceMul, Nat.reduceEqDiff, Nat.reduceLT, Nat.reduceLeDiff, Int.reduceEq, Int.reduceNeg, Int.reduceToNat, reduceCtorEq, eq_self, Bool.false_eq_true, Bool.true_eq_false, ↓reduceIte, Int.reduceBNe]; try (refine ⟨fun hlt => ?_, fun hlt => ?_⟩ <;> (try simp only [decide_eq_true_eq, decide_eq_false_iff_not, beq_iff_eq, bne_iff_ne, ne_eq, beq_eq_false_iff_ne, bne_eq_false_iff_eq, Bool.true_eq_false, Bool.false_eq_true, Int.not_lt, Int.not_le, Decidable.not_not, gt_iff_lt, ge_iff_le, reduceCtorEq] at hlt) <;> (try exact hlt.elim)))
      | (refine AWp.block ?_)
      | ((first | refine gdO_split (fun hlt => ?_) (fun hlt => ?_) | refine tkO_split (fun hlt => ?_) (fun hlt => ?_) | refine opO_split (fun hlt => ?_) (fun hlt => ?_)) <;> have hgd := hlt <;> (try simp only [decide_eq_true_eq, decide_eq_false_iff_not, beq_iff_eq, bne_iff_ne, ne_eq, beq_eq_false_iff_ne, bne_eq_false_iff_eq, Bool.not_eq_true, Bool.not_eq_false, Bool.not_eq_eq_eq_not, Int.not_lt, Int.not_le, Decidable.not_not, gt_iff_lt, ge_iff_le] at hlt) <;> (simp -implicitDefEqProofs (maxSteps := 1000000) (disch := omega) only [go_sem, wrap64, Int.tdiv_eq_ediv_of_nonneg, Int.tmod_eq_emod_of_nonneg, Nat.reduceAdd, Nat.reduceMul, Nat.reduceEqDiff, Nat.reduceLT, Nat.reduceLeDiff, Int.reduceEq, Int.reduceNeg, Int.reduceToNat, reduceCtorEq, eq_self, Bool.false_eq_true, Bool.true_eq_false, ↓reduceIte, Int.reduceBNe, hgd]) <;> clear hgd)
      | (with_reducible refine And.intro ?_ ?_; · first | omega | assumption | exact ⟨_, _, rfl, rfl⟩)
      | fail
    all_goals first | rfl | contradiction
theorem times_P (p q : Int × Int) (hp : okP p) (hq : okP q) : PC Tryz.prog 20 [GP p, GP q] (GP (timesP p q)) := by
  obtain ⟨x, e⟩ := p
  obtain ⟨y, f⟩ := q
  have h := Mul_ok x y hp hq
  rw [limR_P] at h
  have g := got_lim (x * y)
  unfold timesP
  by_cases h1 : e = 0 <;> by_cases h2 : f = 0
  · subst h1; subst h2
    rw [if_pos ⟨rfl, rfl⟩]
    simp only [GP, GZ, Gr] at g ⊢
    refine PCr.pc (PCr.of tab_ok Tryz.func20 rfl rfl rfl fun c hc hm => ?_)
    rw [show Tryz.f20.ntmps = _ from Tryz.ntmps20] at hc
    simp only [Tryz.f20]
    repeat' first
      | (refine AWp.seq fun K hK => ?_)
      | ((first | refine AWp.region (by rw [hc]; rfl) ?_ | refine AWp.skip ?_ | refine AWp.exit ?_ | refine AWp.label ?_ | refine AWp.ret ?_ | refine appK_g ?_); simp -implicitDefEqProofs (maxSteps := 1000000) (disch := omega) only [go_sem, wrap64, Int.tdiv_eq_ediv_of_nonneg, Int.tmod_eq_emod_of_nonneg, Nat.reduceAdd, Nat.reduceMul, Nat.reduceEqDiff, Nat.reduceLT, Nat.reduceLeDiff, Int.reduceEq, Int.reduceNeg, Int.reduceToNat, reduceCtorEq, eq_self, Bool.false_eq_true, Bool.true_eq_false, ↓reduceIte, Int.reduceBNe])
      | (refine hK _ ?_; clear hK)
      | (clear hK; refine hK _ ?_; clear hK)
      | (clear hK; clear hK; refine hK _ ?_; clear hK)
      | (clear hK; clear hK; clear hK; refine hK _ ?_; clear hK)
      | (refine AWp.cond ?_; simp -implicitDefEqProofs (maxSteps := 1000000) (disch := omega) only [go_sem, wrap64, Int.tdiv_eq_ediv_of_nonneg, Int.tmod_eq_emod_of_nonneg, Nat.reduceAdd, Nat.reduceMul, Nat.reduceEqDiff, Nat.reduceLT, Nat.reduceLeDiff, Int.reduceEq, Int.reduceNeg, Int.reduceToNat, reduceCtorEq, eq_self, Bool.false_eq_true, Bool.true_eq_false, ↓reduceIte, Int.reduceBNe]; try (refine ⟨fun hlt => ?_, fun hlt => ?_⟩ <;> (try simp only [decide_eq_true_eq, decide_eq_false_iff_not, beq_iff_eq, bne_iff_ne, ne_eq, beq_eq_false_iff_ne, bne_eq_false_iff_eq, Bool.true_eq_false, Bool.false_eq_true, Int.not_lt, Int.not_le, Decidable.not_not, gt_iff_lt, ge_iff_le, reduceCtorEq] at hlt) <;> (try exact hlt.elim)))
      | (refine AWp.block ?_)
      | ((first | refine gdO_split (fun hlt => ?_) (fun hlt => ?_) | refine tkO_split (fun hlt => ?_) (fun hlt => ?_) | refine opO_split (fun hlt => ?_) (fun hlt => ?_)) <;> have hgd := hlt <;> (try simp only [decide_eq_true_eq, decide_eq_false_iff_not, beq_iff_eq, bne_iff_ne, ne_eq, beq_eq_false_iff_ne, bne_eq_false_iff_eq, Bool.not_eq_true, Bool.not_eq_false, Bool.not_eq_eq_eq_not, Int.not_lt, Int.not_le, Decidable.not_not, gt_iff_lt, ge_iff_le] at hlt) <;> (simp -implicitDefEqProofs (maxSteps := 1000000) (disch := omega) only [go_sem, wrap64, Int.tdiv_eq_ediv_of_nonneg, Int.tmod_eq_emod_of_nonneg, Nat.reduceAdd, Nat.reduceMul, Nat.reduceEqDiff, Nat.reduceLT, Nat.reduceLeDiff, Int.reduceEq, Int.reduceNeg, Int.reduceToNat, reduceCtorEq, eq_self, Bool.false_eq_true, Bool.true_eq_false, ↓reduceIte, Int.reduceBNe, hgd]) <;> clear hgd)
      | (with_reducible refine And.intro ?_ ?_; · first | omega | assumption | exact ⟨_, _, rfl, rfl⟩)
      | ((first | refine ⟨_, h, ?_⟩ | refine ⟨_, g, ?_⟩); simp -implicitDefEqProofs (maxSteps := 1000000) (disch := omega) only [go_sem, wrap64, Int.tdiv_eq_ediv_of_nonneg, Int.tmod_eq_emod_of_nonneg, Nat.reduceAdd, Nat.reduceMul, Nat.reduceEqDiff, Nat.reduceLT, Nat.reduceLeDiff, Int.reduceEq, Int.reduceNeg, Int.reduceToNat, reduceCtorEq, eq_self, Bool.false_eq_true, Bool.true_eq_false, ↓reduceIte, Int.reduceBNe])
      | fail
  all_goals
    rw [if_neg (by simp only [h1, h2]; decide), GP_02]
    simp only [GP, GZ, Gr]
    refine PCr.pc (PCr.of tab_ok Tryz.func20 rfl rfl rfl fun c hc hm => ?_)
    rw [show Tryz.f20.ntmps = _ from Tryz.ntmps20] at hc
    simp only [Tryz.f20]
    repeat' first
      | (refine AWp.seq fun K hK => ?_)
      | ((first | refine AWp.region (by rw [hc]; rfl) ?_ | refine AWp.skip ?_ | refine AWp.exit ?_ | refine AWp.label ?_ | refine AWp.ret ?_ | refine appK_g ?_); simp -implicitDefEqProofs (maxSteps := 1000000) (disch := omega) only [go_sem, wrap64, Int.tdiv_eq_ediv_of_nonneg, Int.tmod_eq_emod_of_nonneg, Nat.reduceAdd, Nat.reduceMul, Nat.reduceEqDiff, Nat.reduceLT, Nat.reduceLeDiff, Int.reduceEq, Int.reduceNeg, Int.reduceToNat, reduceCtorEq, eq_self, Bool.false_eq_true, Bool.true_eq_false, ↓reduceIte, Int.reduceBNe])
      | (refine hK _ ?_; clear hK)
      | (clear hK; refine hK _ ?_; clear hK)
      | (clear hK; clear hK; refine hK _ ?_; clear hK)
      | (clear hK; clear hK; clear hK; refine hK _ ?_; clear hK)
      | (refine AWp.cond ?_; simp -implicitDefEqProofs (maxSteps := 1000000) (disch := omega) only [go_sem, wrap64, Int.tdiv_eq_ediv_of_nonneg, Int.tmod_eq_emod_of_nonneg, Nat.reduceAdd, Nat.reduceMul, Nat.reduceEqDiff, Nat.reduceLT, Nat.reduceLeDiff, Int.reduceEq, Int.reduceNeg, Int.reduceToNat, reduceCtorEq, eq_self, Bool.false_eq_true, Bool.true_eq_false, ↓reduceIte, Int.reduceBNe]; try (refine ⟨fun hlt => ?_, fun hlt => ?_⟩ <;> (try simp only [decide_eq_true_eq, decide_eq_false_iff_not, beq_iff_eq, bne_iff_ne, ne_eq, beq_eq_false_iff_ne, bne_eq_false_iff_eq, Bool.true_eq_false, Bool.false_eq_true, Int.not_lt, Int.not_le, Decidable.not_not, gt_iff_lt, ge_iff_le, reduceCtorEq] at hlt) <;> (try exact hlt.elim)))
      | (refine AWp.block ?_)
      | ((first | refine gdO_split (fun hlt => ?_) (fun hlt => ?_) | refine tkO_split (fun hlt => ?_) (fun hlt => ?_) | refine opO_split (fun hlt => ?_) (fun hlt => ?_)) <;> have hgd := hlt <;> (try simp only [decide_eq_true_eq, decide_eq_false_iff_not, beq_iff_eq, bne_iff_ne, ne_eq, beq_eq_false_iff_ne, bne_eq_false_iff_eq, Bool.not_eq_true, Bool.not_eq_false, Bool.not_eq_eq_eq_not, Int.not_lt, Int.not_le, Decidable.not_not, gt_iff_lt, ge_iff_le] at hlt) <;> (simp -implicitDefEqProofs (maxSteps := 1000000) (disch := omega) only [go_sem, wrap64, Int.tdiv_eq_ediv_of_nonneg, Int.tmod_eq_emod_of_nonneg, Nat.reduceAdd, Nat.reduceMul, Nat.reduceEqDiff, Nat.reduceLT, Nat.reduceLeDiff, Int.reduceEq, Int.reduceNeg, Int.reduceToNat, reduceCtorEq, eq_self, Bool.false_eq_true, Bool.true_eq_false, ↓reduceIte, Int.reduceBNe, hgd]) <;> clear hgd)
      | (with_reducible refine And.intro ?_ ?_; · first | omega | assumption | exact ⟨_, _, rfl, rfl⟩)
      | fail
    all_goals first | rfl | contradiction
theorem same_P (p q : Int × Int) (hp : okP p) (hq : okP q) : PC Tryz.prog 26 [GP p, GP q] (B (decide (p = q))) := by
  have h := same_Z p.1 q.1 p.2 q.2 (Nat.le_trans hp (by decide)) (Nat.le_trans hq (by decide))
  rwa [show decide (p.2 = q.2 ∧ p.1 = q.1) = decide (p = q) by rw [decide_eq_decide, Prod.ext_iff]; exact And.comm] at h
theorem agree_P (p q : Int × Int) (hp : okP p) (hq : okP q) : PC Tryz.prog 31 [GP p, GP q] (B (decide (p.2 = 0 ∧ q.2 = 0 → p.1 = q.1))) := by
  obtain ⟨x, e⟩ := p
  obtain ⟨y, f⟩ := q
  have h := Same_Z x y (Nat.le_trans hp (by decide)) (Nat.le_trans hq (by decide))
  simp only [GP, GZ, Gr]
  refine PCr.pc (PCr.of tab_ok Tryz.func31 rfl rfl rfl fun c hc hm => ?_)
  rw [show Tryz.f31.ntmps = _ from Tryz.ntmps31] at hc
  simp only [Tryz.f31]
  repeat' first
    | (refine AWp.seq fun K hK => ?_)
    | ((first | refine AWp.region (by rw [hc]; rfl) ?_ | refine AWp.skip ?_ | refine AWp.exit ?_ | refine AWp.label ?_ | refine AWp.ret ?_ | refine appK_g ?_); simp -implicitDefEqProofs (maxSteps := 1000000) (disch := omega) only [go_sem, wrap64, Int.tdiv_eq_ediv_of_nonneg, Int.tmod_eq_emod_of_nonneg, Nat.reduceAdd, Nat.reduceMul, Nat.reduceEqDiff, Nat.reduceLT, Nat.reduceLeDiff, Int.reduceEq, Int.reduceNeg, Int.reduceToNat, reduceCtorEq, eq_self, Bool.false_eq_true, Bool.true_eq_false, ↓reduceIte, Int.reduceBNe])
    | (refine hK _ ?_; clear hK)
    | (clear hK; refine hK _ ?_; clear hK)
    | (clear hK; clear hK; refine hK _ ?_; clear hK)
    | (clear hK; clear hK; clear hK; refine hK _ ?_; clear hK)
    | (refine AWp.cond ?_; simp -implicitDefEqProofs (maxSteps := 1000000) (disch := omega) only [go_sem, wrap64, Int.tdiv_eq_ediv_of_nonneg, Int.tmod_eq_emod_of_nonneg, Nat.reduceAdd, Nat.reduceMul, Nat.reduceEqDiff, Nat.reduceLT, Nat.reduceLeDiff, Int.reduceEq, Int.reduceNeg, Int.reduceToNat, reduceCtorEq, eq_self, Bool.false_eq_true, Bool.true_eq_false, ↓reduceIte, Int.reduceBNe]; try (refine ⟨fun hlt => ?_, fun hlt => ?_⟩ <;> (try simp only [decide_eq_true_eq, decide_eq_false_iff_not, beq_iff_eq, bne_iff_ne, ne_eq, beq_eq_false_iff_ne, bne_eq_false_iff_eq, Bool.true_eq_false, Bool.false_eq_true, Int.not_lt, Int.not_le, Decidable.not_not, gt_iff_lt, ge_iff_le, reduceCtorEq] at hlt) <;> (try exact hlt.elim)))
    | (refine AWp.block ?_)
    | ((first | refine gdO_split (fun hlt => ?_) (fun hlt => ?_) | refine tkO_split (fun hlt => ?_) (fun hlt => ?_) | refine opO_split (fun hlt => ?_) (fun hlt => ?_)) <;> have hgd := hlt <;> (try simp only [decide_eq_true_eq, decide_eq_false_iff_not, beq_iff_eq, bne_iff_ne, ne_eq, beq_eq_false_iff_ne, bne_eq_false_iff_eq, Bool.not_eq_true, Bool.not_eq_false, Bool.not_eq_eq_eq_not, Int.not_lt, Int.not_le, Decidable.not_not, gt_iff_lt, ge_iff_le] at hlt) <;> (simp -implicitDefEqProofs (maxSteps := 1000000) (disch := omega) only [go_sem, wrap64, Int.tdiv_eq_ediv_of_nonneg, Int.tmod_eq_emod_of_nonneg, Nat.reduceAdd, Nat.reduceMul, Nat.reduceEqDiff, Nat.reduceLT, Nat.reduceLeDiff, Int.reduceEq, Int.reduceNeg, Int.reduceToNat, reduceCtorEq, eq_self, Bool.false_eq_true, Bool.true_eq_false, ↓reduceIte, Int.reduceBNe, hgd]) <;> clear hgd)
    | (with_reducible refine And.intro ?_ ?_; · first | omega | assumption | exact ⟨_, _, rfl, rfl⟩)
    | ((first | refine ⟨_, h, ?_⟩); simp -implicitDefEqProofs (maxSteps := 1000000) (disch := omega) only [go_sem, wrap64, Int.tdiv_eq_ediv_of_nonneg, Int.tmod_eq_emod_of_nonneg, Nat.reduceAdd, Nat.reduceMul, Nat.reduceEqDiff, Nat.reduceLT, Nat.reduceLeDiff, Int.reduceEq, Int.reduceNeg, Int.reduceToNat, reduceCtorEq, eq_self, Bool.false_eq_true, Bool.true_eq_false, ↓reduceIte, Int.reduceBNe])
    | fail
  all_goals first
    | (refine (decide_eq_true ?_).symm; rintro ⟨h1, h2⟩; contradiction)
    | (rw [decide_eq_decide]; exact ⟨fun h _ => h, fun h => h ⟨by assumption, by assumption⟩⟩)
theorem smaller_Z (x y : Int) (lx : lenZ x ≤ 1000000) (ly : lenZ y ≤ 1000000) : PC Tryz.prog 35 [Z x, Z y] (B (decide (x.natAbs < y.natAbs))) := by
  have h := Compare_Z x.natAbs y.natAbs (by unfold lenZ at *; rwa [Int.natAbs_natCast]) (by unfold lenZ at *; rwa [Int.natAbs_natCast])
  have e : ∀ n : Nat, Z (n : Int) = Zr false (D n) := fun n => by
    show Zr (decide ((n : Int) < 0)) (D (n : Int).natAbs) = _
    rw [Int.natAbs_natCast, decide_eq_false (by omega)]
  rw [e, e] at h
  refine PCr.pc (PCr.of tab_ok Tryz.func35 rfl rfl rfl fun c hc hm => ?_)
  rw [show Tryz.f35.ntmps = _ from Tryz.ntmps35] at hc
  simp only [Tryz.f35]
  repeat' first
    | (refine AWp.seq fun K hK => ?_)
    | ((first | refine AWp.region (by rw [hc]; rfl) ?_ | refine AWp.skip ?_ | refine AWp.exit ?_ | refine AWp.label ?_ | refine AWp.ret ?_ | refine appK_g ?_); simp -implicitDefEqProofs (maxSteps := 1000000) (disch := omega) only [go_sem, wrap64, Int.tdiv_eq_ediv_of_nonneg, Int.tmod_eq_emod_of_nonneg, Nat.reduceAdd, Nat.reduceMul, Nat.reduceEqDiff, Nat.reduceLT, Nat.reduceLeDiff, Int.reduceEq, Int.reduceNeg, Int.reduceToNat, reduceCtorEq, eq_self, Bool.false_eq_true, Bool.true_eq_false, ↓reduceIte])
    | (refine hK _ ?_; clear hK)
    | (clear hK; refine hK _ ?_; clear hK)
    | (clear hK; clear hK; refine hK _ ?_; clear hK)
    | (clear hK; clear hK; clear hK; refine hK _ ?_; clear hK)
    | (refine AWp.cond ?_; simp -implicitDefEqProofs (maxSteps := 1000000) (disch := omega) only [go_sem, wrap64, Int.tdiv_eq_ediv_of_nonneg, Int.tmod_eq_emod_of_nonneg, Nat.reduceAdd, Nat.reduceMul, Nat.reduceEqDiff, Nat.reduceLT, Nat.reduceLeDiff, Int.reduceEq, Int.reduceNeg, Int.reduceToNat, reduceCtorEq, eq_self, Bool.false_eq_true, Bool.true_eq_false, ↓reduceIte]; try (refine ⟨fun hlt => ?_, fun hlt => ?_⟩ <;> (try simp only [decide_eq_true_eq, decide_eq_false_iff_not, beq_iff_eq, bne_iff_ne, ne_eq, beq_eq_false_iff_ne, bne_eq_false_iff_eq, Bool.true_eq_false, Bool.false_eq_true, Int.not_lt, Int.not_le, Decidable.not_not, gt_iff_lt, ge_iff_le, reduceCtorEq] at hlt) <;> (try exact hlt.elim)))
    | (refine AWp.block ?_)
    | ((first | refine gdO_split (fun hlt => ?_) (fun hlt => ?_) | refine tkO_split (fun hlt => ?_) (fun hlt => ?_) | refine opO_split (fun hlt => ?_) (fun hlt => ?_)) <;> have hgd := hlt <;> (try simp only [decide_eq_true_eq, decide_eq_false_iff_not, beq_iff_eq, bne_iff_ne, ne_eq, beq_eq_false_iff_ne, bne_eq_false_iff_eq, Bool.not_eq_true, Bool.not_eq_false, Bool.not_eq_eq_eq_not, Int.not_lt, Int.not_le, Decidable.not_not, gt_iff_lt, ge_iff_le] at hlt) <;> (simp -implicitDefEqProofs (maxSteps := 1000000) (disch := omega) only [go_sem, wrap64, Int.tdiv_eq_ediv_of_nonneg, Int.tmod_eq_emod_of_nonneg, Nat.reduceAdd, Nat.reduceMul, Nat.reduceEqDiff, Nat.reduceLT, Nat.reduceLeDiff, Int.reduceEq, Int.reduceNeg, Int.reduceToNat, reduceCtorEq, eq_self, Bool.false_eq_true, Bool.true_eq_false, ↓reduceIte, hgd]) <;> clear hgd)
    | (with_reducible refine And.intro ?_ ?_; · first | omega | assumption | exact ⟨_, _, rfl, rfl⟩)
    | ((first | refine ⟨_, h, ?_⟩); simp -implicitDefEqProofs (maxSteps := 1000000) (disch := omega) only [go_sem, wrap64, Int.tdiv_eq_ediv_of_nonneg, Int.tmod_eq_emod_of_nonneg, Nat.reduceAdd, Nat.reduceMul, Nat.reduceEqDiff, Nat.reduceLT, Nat.reduceLeDiff, Int.reduceEq, Int.reduceNeg, Int.reduceToNat, reduceCtorEq, eq_self, Bool.false_eq_true, Bool.true_eq_false, ↓reduceIte])
    | fail
  rw [decide_eq_decide]
  simp only [cmpI]; (repeat' split) <;> omega
end Go.Proofs.YthhjcfejgoddlaaGreatDoor
end

section
set_option linter.unusedSimpArgs false
set_option linter.unusedVariables false
set_option maxRecDepth 100000
namespace Go.Proofs.YthhjcfejgoddlaaGreatDoor
open Go Go.Abs

theorem okI_def (neg : Bool) (d : List Int) : okI neg d ↔ d.length ≤ 40 ∧ (d.length = 0 → neg = false) ∧ (0 < d.length → d.getD (d.length - 1) 0 ≠ 0) ∧ ∀ j, j < d.length → 0 ≤ d.getD j 0 ∧ d.getD j 0 < 1000000000 := by
  rw [okI_iff]
  have e : ((d.any fun x => decide (x < 0 ∨ 1000000000 ≤ x)) = false) ↔ ∀ j, j < d.length → 0 ≤ d.getD j 0 ∧ d.getD j 0 < 1000000000 := by
    rw [List.any_eq_false]
    constructor
    · intro h j hj
      have h1 := h (d.getD j 0) (by simp [hj])
      simp only [decide_eq_true_eq] at h1; omega
    · intro h x hx
      obtain ⟨j, hj, rfl⟩ := List.getElem_of_mem hx
      have h1 := h j hj
      simp only [List.getD, List.getElem?_eq_getElem hj, Option.getD_some] at h1
      simp only [decide_eq_true_eq]; omega
  rw [e]
def F77 (neg : Bool) (d : List Int) (i : Nat) : St := ⟨[(1, .ptr 0 0), (3, I d.length), (4, I i)], [(0, .box [B neg, L d] false)], 1, 0⟩
theorem Is_f (d : List Int) : PC Tryz.prog 77 [Zr false d] (B (decide (okI false d))) := by
  refine PCr.pc (PCr.of tab_ok Tryz.func77 rfl rfl rfl fun c hc hm => ?_)
  rw [show Tryz.f77.ntmps = _ from Tryz.ntmps77] at hc
  simp only [Tryz.f77]
  repeat' first
    | (refine AWp.seq fun K hK => ?_)
    | ((first | refine AWp.region (by rw [hc]; rfl) ?_ | refine AWp.skip ?_ | refine AWp.exit ?_ | refine AWp.label ?_ | refine AWp.ret ?_ | refine appK_g ?_); simp -implicitDefEqProofs (maxSteps := 1000000) (disch := omega) only [go_sem, wrap64, Int.tdiv_eq_ediv_of_nonneg, Int.tmod_eq_emod_of_nonneg, Nat.reduceAdd, Nat.reduceMul, Nat.reduceEqDiff, Nat.reduceLT, Nat.reduceLeDiff, Int.reduceEq, Int.reduceNeg, Int.reduceToNat, reduceCtorEq, eq_self, Bool.false_eq_true, Bool.true_eq_false, ↓reduceIte])
    | (refine hK _ ?_; clear hK)
    | (clear hK; refine hK _ ?_; clear hK)
    | (clear hK; clear hK; refine hK _ ?_; clear hK)
    | (clear hK; clear hK; clear hK; refine hK _ ?_; clear hK)
    | (refine AWp.cond ?_; simp -implicitDefEqProofs (maxSteps := 1000000) (disch := omega) only [go_sem, wrap64, Int.tdiv_eq_ediv_of_nonneg, Int.tmod_eq_emod_of_nonneg, Nat.reduceAdd, Nat.reduceMul, Nat.reduceEqDiff, Nat.reduceLT, Nat.reduceLeDiff, Int.reduceEq, Int.reduceNeg, Int.reduceToNat, reduceCtorEq, eq_self, Bool.false_eq_true, Bool.true_eq_false, ↓reduceIte]; try (refine ⟨fun hlt => ?_, fun hlt => ?_⟩ <;> (try simp only [decide_eq_true_eq, decide_eq_false_iff_not, beq_iff_eq, bne_iff_ne, ne_eq, beq_eq_false_iff_ne, bne_eq_false_iff_eq, Bool.true_eq_false, Bool.false_eq_true, Int.not_lt, Int.not_le, Decidable.not_not, gt_iff_lt, ge_iff_le, reduceCtorEq] at hlt) <;> (try exact hlt.elim)))
    | (refine AWp.block ?_)
    | ((first | refine gdO_split (fun hlt => ?_) (fun hlt => ?_) | refine tkO_split (fun hlt => ?_) (fun hlt => ?_) | refine opO_split (fun hlt => ?_) (fun hlt => ?_)) <;> have hgd := hlt <;> (try simp only [decide_eq_true_eq, decide_eq_false_iff_not, beq_iff_eq, bne_iff_ne, ne_eq, beq_eq_false_iff_ne, bne_eq_false_iff_eq, Bool.not_eq_true, Bool.not_eq_false, Bool.not_eq_eq_eq_not, Int.not_lt, Int.not_le, Decidable.not_not, gt_iff_lt, ge_iff_le] at hlt) <;> (simp -implicitDefEqProofs (maxSteps := 1000000) (disch := omega) only [go_sem, wrap64, Int.tdiv_eq_ediv_of_nonneg, Int.tmod_eq_emod_of_nonneg, Nat.reduceAdd, Nat.reduceMul, Nat.reduceEqDiff, Nat.reduceLT, Nat.reduceLeDiff, Int.reduceEq, Int.reduceNeg, Int.reduceToNat, reduceCtorEq, eq_self, Bool.false_eq_true, Bool.true_eq_false, ↓reduceIte, hgd]) <;> clear hgd)
    | (with_reducible refine And.intro ?_ ?_; · first | omega | assumption | exact ⟨_, _, rfl, rfl⟩)
    | fail
  all_goals try (exfalso; omega)
  all_goals try contradiction
  all_goals try (refine (decide_eq_false ?_).symm; rw [okI_def]; rintro ⟨h1, h2, h3, h4⟩; first | omega | (exact h3 (by omega) (by assumption)) | (exact absurd (h2 (by omega)) (by decide)))
  all_goals
    refine AWp.loopInv (F77 false d) (fun i => d.length - i) (fun i => i ≤ d.length ∧ ∀ j, j < i → 0 ≤ d.getD j 0 ∧ d.getD j 0 < 1000000000) 0 ⟨Nat.zero_le _, fun j h => absurd h (Nat.not_lt_zero _)⟩ (Sub.of0 hm id rfl ?_ ?_ (fun _ _ _ _ h => h)) ?_
    all_goals (try dsimp only)
    all_goals (first | omega | (simp -implicitDefEqProofs (maxSteps := 1000000) (disch := omega) only [F77, id, go_sem, Nat.blt_eq, Nat.reduceAdd, Nat.reduceSub, Nat.reduceEqDiff, Nat.reduceLT, ↓reduceIte, and_true, true_and, AV.dat.injEq, DV.int.injEq, DV.bool.injEq, DV.lst.injEq, eq_self_iff_true]; first | done | omega | (simp; done) | (simp; omega)) | (simp; done) | (simp; omega) | skip)
    rintro i ⟨h1, h2⟩ ih
    simp only [F77]
    repeat' first
      | (refine AWp.seq fun K hK => ?_)
      | ((first | refine AWp.region (by rw [hc]; rfl) ?_ | refine AWp.skip ?_ | refine AWp.exit ?_ | refine AWp.label ?_ | refine AWp.ret ?_ | refine appK_g ?_); simp -implicitDefEqProofs (maxSteps := 1000000) (disch := omega) only [go_sem, wrap64, Int.tdiv_eq_ediv_of_nonneg, Int.tmod_eq_emod_of_nonneg, Nat.reduceAdd, Nat.reduceMul, Nat.reduceEqDiff, Nat.reduceLT, Nat.reduceLeDiff, Int.reduceEq, Int.reduceNeg, Int.reduceToNat, reduceCtorEq, eq_self, Bool.false_eq_true, Bool.true_eq_false, ↓reduceIte])
      | (refine hK _ ?_; clear hK)
      | (clear hK; refine hK _ ?_; clear hK)
      | (clear hK; clear hK; refine hK _ ?_; clear hK)
      | (clear hK; clear hK; clear hK; refine hK _ ?_; clear hK)
      | (refine AWp.cond ?_; simp -implicitDefEqProofs (maxSteps := 1000000) (disch := omega) only [go_sem, wrap64, Int.tdiv_eq_ediv_of_nonneg, Int.tmod_eq_emod_of_nonneg, Nat.reduceAdd, Nat.reduceMul, Nat.reduceEqDiff, Nat.reduceLT, Nat.reduceLeDiff, Int.reduceEq, Int.reduceNeg, Int.reduceToNat, reduceCtorEq, eq_self, Bool.false_eq_true, Bool.true_eq_false, ↓reduceIte]; try (refine ⟨fun hlt => ?_, fun hlt => ?_⟩ <;> (try simp only [decide_eq_true_eq, decide_eq_false_iff_not, beq_iff_eq, bne_iff_ne, ne_eq, beq_eq_false_iff_ne, bne_eq_false_iff_eq, Bool.true_eq_false, Bool.false_eq_true, Int.not_lt, Int.not_le, Decidable.not_not, gt_iff_lt, ge_iff_le, reduceCtorEq] at hlt) <;> (try exact hlt.elim)))
      | (refine AWp.block ?_)
      | ((first | refine gdO_split (fun hlt => ?_) (fun hlt => ?_) | refine tkO_split (fun hlt => ?_) (fun hlt => ?_) | refine opO_split (fun hlt => ?_) (fun hlt => ?_)) <;> have hgd := hlt <;> (try simp only [decide_eq_true_eq, decide_eq_false_iff_not, beq_iff_eq, bne_iff_ne, ne_eq, beq_eq_false_iff_ne, bne_eq_false_iff_eq, Bool.not_eq_true, Bool.not_eq_false, Bool.not_eq_eq_eq_not, Int.not_lt, Int.not_le, Decidable.not_not, gt_iff_lt, ge_iff_le] at hlt) <;> (simp -implicitDefEqProofs (maxSteps := 1000000) (disch := omega) only [go_sem, wrap64, Int.tdiv_eq_ediv_of_nonneg, Int.tmod_eq_emod_of_nonneg, Nat.reduceAdd, Nat.reduceMul, Nat.reduceEqDiff, Nat.reduceLT, Nat.reduceLeDiff, Int.reduceEq, Int.reduceNeg, Int.reduceToNat, reduceCtorEq, eq_self, Bool.false_eq_true, Bool.true_eq_false, ↓reduceIte, hgd]) <;> clear hgd)
      | (with_reducible refine And.intro ?_ ?_; · first | omega | assumption | exact ⟨_, _, rfl, rfl⟩)
      | fail
    all_goals try (exfalso; omega)
    all_goals try (refine (decide_eq_false ?_).symm; rw [okI_def]; rintro ⟨k1, k2, k3, k4⟩; have := k4 i (by omega); omega)
    all_goals try (refine (decide_eq_true ?_).symm; rw [okI_def]; exact ⟨by omega, fun _ => by first | rfl | omega, fun _ => by first | assumption | omega, fun j hj => h2 j (by omega)⟩)
    all_goals
      refine ih (i + 1) _ ⟨by omega, fun j hj => ?_⟩ (by omega) (Sub.of0 hm id rfl ?_ ?_ (fun _ _ _ _ h => h))
      · by_cases h : j = i
        · subst h; exact ⟨by assumption, by assumption⟩
        · exact h2 j (by omega)
      all_goals (try dsimp only)
      all_goals (first | omega | (simp -implicitDefEqProofs (maxSteps := 1000000) (disch := omega) only [F77, id, go_sem, Nat.blt_eq, Nat.reduceAdd, Nat.reduceSub, Nat.reduceEqDiff, Nat.reduceLT, ↓reduceIte, and_true, true_and, AV.dat.injEq, DV.int.injEq, DV.bool.injEq, DV.lst.injEq, eq_self_iff_true]; first | done | omega | (simp; done) | (simp; omega)) | (simp; done) | (simp; omega) | skip)
theorem Is_t (d : List Int) : PC Tryz.prog 77 [Zr true d] (B (decide (okI true d))) := by
  refine PCr.pc (PCr.of tab_ok Tryz.func77 rfl rfl rfl fun c hc hm => ?_)
  rw [show Tryz.f77.ntmps = _ from Tryz.ntmps77] at hc
  simp only [Tryz.f77]
  repeat' first
    | (refine AWp.seq fun K hK => ?_)
    | ((first | refine AWp.region (by rw [hc]; rfl) ?_ | refine AWp.skip ?_ | refine AWp.exit ?_ | refine AWp.label ?_ | refine AWp.ret ?_ | refine appK_g ?_); simp -implicitDefEqProofs (maxSteps := 1000000) (disch := omega) only [go_sem, wrap64, Int.tdiv_eq_ediv_of_nonneg, Int.tmod_eq_emod_of_nonneg, Nat.reduceAdd, Nat.reduceMul, Nat.reduceEqDiff, Nat.reduceLT, Nat.reduceLeDiff, Int.reduceEq, Int.reduceNeg, Int.reduceToNat, reduceCtorEq, eq_self, Bool.false_eq_true, Bool.true_eq_false, ↓reduceIte])
    | (refine hK _ ?_; clear hK)
    | (clear hK; refine hK _ ?_; clear hK)
    | (clear hK; clear hK; refine hK _ ?_; clear hK)
    | (clear hK; clear hK; clear hK; refine hK _ ?_; clear hK)
    | (refine AWp.cond ?_; simp -implicitDefEqProofs (maxSteps := 1000000) (disch := omega) only [go_sem, wrap64, Int.tdiv_eq_ediv_of_nonneg, Int.tmod_eq_emod_of_nonneg, Nat.reduceAdd, Nat.reduceMul, Nat.reduceEqDiff, Nat.reduceLT, Nat.reduceLeDiff, Int.reduceEq, Int.reduceNeg, Int.reduceToNat, reduceCtorEq, eq_self, Bool.false_eq_true, Bool.true_eq_false, ↓reduceIte]; try (refine ⟨fun hlt => ?_, fun hlt => ?_⟩ <;> (try simp only [decide_eq_true_eq, decide_eq_false_iff_not, beq_iff_eq, bne_iff_ne, ne_eq, beq_eq_false_iff_ne, bne_eq_false_iff_eq, Bool.true_eq_false, Bool.false_eq_true, Int.not_lt, Int.not_le, Decidable.not_not, gt_iff_lt, ge_iff_le, reduceCtorEq] at hlt) <;> (try exact hlt.elim)))
    | (refine AWp.block ?_)
    | ((first | refine gdO_split (fun hlt => ?_) (fun hlt => ?_) | refine tkO_split (fun hlt => ?_) (fun hlt => ?_) | refine opO_split (fun hlt => ?_) (fun hlt => ?_)) <;> have hgd := hlt <;> (try simp only [decide_eq_true_eq, decide_eq_false_iff_not, beq_iff_eq, bne_iff_ne, ne_eq, beq_eq_false_iff_ne, bne_eq_false_iff_eq, Bool.not_eq_true, Bool.not_eq_false, Bool.not_eq_eq_eq_not, Int.not_lt, Int.not_le, Decidable.not_not, gt_iff_lt, ge_iff_le] at hlt) <;> (simp -implicitDefEqProofs (maxSteps := 1000000) (disch := omega) only [go_sem, wrap64, Int.tdiv_eq_ediv_of_nonneg, Int.tmod_eq_emod_of_nonneg, Nat.reduceAdd, Nat.reduceMul, Nat.reduceEqDiff, Nat.reduceLT, Nat.reduceLeDiff, Int.reduceEq, Int.reduceNeg, Int.reduceToNat, reduceCtorEq, eq_self, Bool.false_eq_true, Bool.true_eq_false, ↓reduceIte, hgd]) <;> clear hgd)
    | (with_reducible refine And.intro ?_ ?_; · first | omega | assumption | exact ⟨_, _, rfl, rfl⟩)
    | fail
  all_goals try (exfalso; omega)
  all_goals try contradiction
  all_goals try (refine (decide_eq_false ?_).symm; rw [okI_def]; rintro ⟨h1, h2, h3, h4⟩; first | omega | (exact h3 (by omega) (by assumption)) | (exact absurd (h2 (by omega)) (by decide)))
  all_goals
    refine AWp.loopInv (F77 true d) (fun i => d.length - i) (fun i => i ≤ d.length ∧ ∀ j, j < i → 0 ≤ d.getD j 0 ∧ d.getD j 0 < 1000000000) 0 ⟨Nat.zero_le _, fun j h => absurd h (Nat.not_lt_zero _)⟩ (Sub.of0 hm id rfl ?_ ?_ (fun _ _ _ _ h => h)) ?_
    all_goals (try dsimp only)
    all_goals (first | omega | (simp -implicitDefEqProofs (maxSteps := 1000000) (disch := omega) only [F77, id, go_sem, Nat.blt_eq, Nat.reduceAdd, Nat.reduceSub, Nat.reduceEqDiff, Nat.reduceLT, ↓reduceIte, and_true, true_and, AV.dat.injEq, DV.int.injEq, DV.bool.injEq, DV.lst.injEq, eq_self_iff_true]; first | done | omega | (simp; done) | (simp; omega)) | (simp; done) | (simp; omega) | skip)
    rintro i ⟨h1, h2⟩ ih
    simp only [F77]
    repeat' first
      | (refine AWp.seq fun K hK => ?_)
      | ((first | refine AWp.region (by rw [hc]; rfl) ?_ | refine AWp.skip ?_ | refine AWp.exit ?_ | refine AWp.label ?_ | refine AWp.ret ?_ | refine appK_g ?_); simp -implicitDefEqProofs (maxSteps := 1000000) (disch := omega) only [go_sem, wrap64, Int.tdiv_eq_ediv_of_nonneg, Int.tmod_eq_emod_of_nonneg, Nat.reduceAdd, Nat.reduceMul, Nat.reduceEqDiff, Nat.reduceLT, Nat.reduceLeDiff, Int.reduceEq, Int.reduceNeg, Int.reduceToNat, reduceCtorEq, eq_self, Bool.false_eq_true, Bool.true_eq_false, ↓reduceIte])
      | (refine hK _ ?_; clear hK)
      | (clear hK; refine hK _ ?_; clear hK)
      | (clear hK; clear hK; refine hK _ ?_; clear hK)
      | (clear hK; clear hK; clear hK; refine hK _ ?_; clear hK)
      | (refine AWp.cond ?_; simp -implicitDefEqProofs (maxSteps := 1000000) (disch := omega) only [go_sem, wrap64, Int.tdiv_eq_ediv_of_nonneg, Int.tmod_eq_emod_of_nonneg, Nat.reduceAdd, Nat.reduceMul, Nat.reduceEqDiff, Nat.reduceLT, Nat.reduceLeDiff, Int.reduceEq, Int.reduceNeg, Int.reduceToNat, reduceCtorEq, eq_self, Bool.false_eq_true, Bool.true_eq_false, ↓reduceIte]; try (refine ⟨fun hlt => ?_, fun hlt => ?_⟩ <;> (try simp only [decide_eq_true_eq, decide_eq_false_iff_not, beq_iff_eq, bne_iff_ne, ne_eq, beq_eq_false_iff_ne, bne_eq_false_iff_eq, Bool.true_eq_false, Bool.false_eq_true, Int.not_lt, Int.not_le, Decidable.not_not, gt_iff_lt, ge_iff_le, reduceCtorEq] at hlt) <;> (try exact hlt.elim)))
      | (refine AWp.block ?_)
      | ((first | refine gdO_split (fun hlt => ?_) (fun hlt => ?_) | refine tkO_split (fun hlt => ?_) (fun hlt => ?_) | refine opO_split (fun hlt => ?_) (fun hlt => ?_)) <;> have hgd := hlt <;> (try simp only [decide_eq_true_eq, decide_eq_false_iff_not, beq_iff_eq, bne_iff_ne, ne_eq, beq_eq_false_iff_ne, bne_eq_false_iff_eq, Bool.not_eq_true, Bool.not_eq_false, Bool.not_eq_eq_eq_not, Int.not_lt, Int.not_le, Decidable.not_not, gt_iff_lt, ge_iff_le] at hlt) <;> (simp -implicitDefEqProofs (maxSteps := 1000000) (disch := omega) only [go_sem, wrap64, Int.tdiv_eq_ediv_of_nonneg, Int.tmod_eq_emod_of_nonneg, Nat.reduceAdd, Nat.reduceMul, Nat.reduceEqDiff, Nat.reduceLT, Nat.reduceLeDiff, Int.reduceEq, Int.reduceNeg, Int.reduceToNat, reduceCtorEq, eq_self, Bool.false_eq_true, Bool.true_eq_false, ↓reduceIte, hgd]) <;> clear hgd)
      | (with_reducible refine And.intro ?_ ?_; · first | omega | assumption | exact ⟨_, _, rfl, rfl⟩)
      | fail
    all_goals try (exfalso; omega)
    all_goals try (refine (decide_eq_false ?_).symm; rw [okI_def]; rintro ⟨k1, k2, k3, k4⟩; have := k4 i (by omega); omega)
    all_goals try (refine (decide_eq_true ?_).symm; rw [okI_def]; exact ⟨by omega, fun _ => by first | rfl | omega, fun _ => by first | assumption | omega, fun j hj => h2 j (by omega)⟩)
    all_goals
      refine ih (i + 1) _ ⟨by omega, fun j hj => ?_⟩ (by omega) (Sub.of0 hm id rfl ?_ ?_ (fun _ _ _ _ h => h))
      · by_cases h : j = i
        · subst h; exact ⟨by assumption, by assumption⟩
        · exact h2 j (by omega)
      all_goals (try dsimp only)
      all_goals (first | omega | (simp -implicitDefEqProofs (maxSteps := 1000000) (disch := omega) only [F77, id, go_sem, Nat.blt_eq, Nat.reduceAdd, Nat.reduceSub, Nat.reduceEqDiff, Nat.reduceLT, ↓reduceIte, and_true, true_and, AV.dat.injEq, DV.int.injEq, DV.bool.injEq, DV.lst.injEq, eq_self_iff_true]; first | done | omega | (simp; done) | (simp; omega)) | (simp; done) | (simp; omega) | skip)
theorem Is_pc (neg : Bool) (d : List Int) : PC Tryz.prog 77 [Zr neg d] (B (decide (okI neg d))) := by
  cases neg
  · exact Is_f d
  · exact Is_t d

theorem right1_pc (neg : Bool) (d : List Int) : PC Tryz.prog 76 [Zr neg d] (B (!decide (okI neg d))) := by
  have h := Is_pc neg d
  refine PCr.pc (PCr.of tab_ok Tryz.func76 rfl rfl rfl fun c hc hm => ?_)
  rw [show Tryz.f76.ntmps = _ from Tryz.ntmps76] at hc
  simp only [Tryz.f76]
  repeat' first
    | (refine AWp.seq fun K hK => ?_)
    | ((first | refine AWp.region (by rw [hc]; rfl) ?_ | refine AWp.skip ?_ | refine AWp.exit ?_ | refine AWp.label ?_ | refine AWp.ret ?_ | refine appK_g ?_); simp -implicitDefEqProofs (maxSteps := 1000000) (disch := omega) only [go_sem, wrap64, Int.tdiv_eq_ediv_of_nonneg, Int.tmod_eq_emod_of_nonneg, Nat.reduceAdd, Nat.reduceMul, Nat.reduceEqDiff, Nat.reduceLT, Nat.reduceLeDiff, Int.reduceEq, Int.reduceNeg, Int.reduceToNat, reduceCtorEq, eq_self, Bool.false_eq_true, Bool.true_eq_false, ↓reduceIte])
    | (refine hK _ ?_; clear hK)
    | (clear hK; refine hK _ ?_; clear hK)
    | (clear hK; clear hK; refine hK _ ?_; clear hK)
    | (clear hK; clear hK; clear hK; refine hK _ ?_; clear hK)
    | (refine AWp.cond ?_; simp -implicitDefEqProofs (maxSteps := 1000000) (disch := omega) only [go_sem, wrap64, Int.tdiv_eq_ediv_of_nonneg, Int.tmod_eq_emod_of_nonneg, Nat.reduceAdd, Nat.reduceMul, Nat.reduceEqDiff, Nat.reduceLT, Nat.reduceLeDiff, Int.reduceEq, Int.reduceNeg, Int.reduceToNat, reduceCtorEq, eq_self, Bool.false_eq_true, Bool.true_eq_false, ↓reduceIte]; try (refine ⟨fun hlt => ?_, fun hlt => ?_⟩ <;> (try simp only [decide_eq_true_eq, decide_eq_false_iff_not, beq_iff_eq, bne_iff_ne, ne_eq, beq_eq_false_iff_ne, bne_eq_false_iff_eq, Bool.true_eq_false, Bool.false_eq_true, Int.not_lt, Int.not_le, Decidable.not_not, gt_iff_lt, ge_iff_le, reduceCtorEq] at hlt) <;> (try exact hlt.elim)))
    | (refine AWp.block ?_)
    | ((first | refine gdO_split (fun hlt => ?_) (fun hlt => ?_) | refine tkO_split (fun hlt => ?_) (fun hlt => ?_) | refine opO_split (fun hlt => ?_) (fun hlt => ?_)) <;> have hgd := hlt <;> (try simp only [decide_eq_true_eq, decide_eq_false_iff_not, beq_iff_eq, bne_iff_ne, ne_eq, beq_eq_false_iff_ne, bne_eq_false_iff_eq, Bool.not_eq_true, Bool.not_eq_false, Bool.not_eq_eq_eq_not, Int.not_lt, Int.not_le, Decidable.not_not, gt_iff_lt, ge_iff_le] at hlt) <;> (simp -implicitDefEqProofs (maxSteps := 1000000) (disch := omega) only [go_sem, wrap64, Int.tdiv_eq_ediv_of_nonneg, Int.tmod_eq_emod_of_nonneg, Nat.reduceAdd, Nat.reduceMul, Nat.reduceEqDiff, Nat.reduceLT, Nat.reduceLeDiff, Int.reduceEq, Int.reduceNeg, Int.reduceToNat, reduceCtorEq, eq_self, Bool.false_eq_true, Bool.true_eq_false, ↓reduceIte, hgd]) <;> clear hgd)
    | (with_reducible refine And.intro ?_ ?_; · first | omega | assumption | exact ⟨_, _, rfl, rfl⟩)
    | ((first | refine ⟨_, h, ?_⟩); simp -implicitDefEqProofs (maxSteps := 1000000) (disch := omega) only [go_sem, wrap64, Int.tdiv_eq_ediv_of_nonneg, Int.tmod_eq_emod_of_nonneg, Nat.reduceAdd, Nat.reduceMul, Nat.reduceEqDiff, Nat.reduceLT, Nat.reduceLeDiff, Int.reduceEq, Int.reduceNeg, Int.reduceToNat, reduceCtorEq, eq_self, Bool.false_eq_true, Bool.true_eq_false, ↓reduceIte])
    | fail
  all_goals try rfl
  rw [decide_eq_false (fun h => by have := h.1; omega)]; rfl

def F122 (zs : List (Bool × List Int)) (f : FuncId) (i : Nat) : St := ⟨[(0, LZ zs), (1, .dat (.fn f [])), (7, I zs.length), (8, I i)], [], 0, 0⟩
theorem idxZ_pc (zs : List (Bool × List Int)) (f : FuncId) (p : Bool × List Int → Bool) (lz : zs.length ≤ 1000000) (hp : ∀ z, PC Tryz.prog f [Zr z.1 z.2] (B (p z))) : PC Tryz.prog 122 [LZ zs, .dat (.fn f [])] (I (idx p zs)) := by
  refine PCr.pc (PCr.of tab_ok Tryz.func122 rfl rfl rfl fun c hc hm => ?_)
  rw [show Tryz.f122.ntmps = _ from Tryz.ntmps122] at hc
  simp only [Tryz.f122]
  repeat' first
    | (refine AWp.seq fun K hK => ?_)
    | ((first | refine AWp.region (by rw [hc]; rfl) ?_ | refine AWp.skip ?_ | refine AWp.exit ?_ | refine AWp.label ?_ | refine AWp.ret ?_ | refine appK_g ?_); simp -implicitDefEqProofs (maxSteps := 1000000) (disch := omega) only [go_sem, wrap64, Int.tdiv_eq_ediv_of_nonneg, Int.tmod_eq_emod_of_nonneg, Nat.reduceAdd, Nat.reduceMul, Nat.reduceEqDiff, Nat.reduceLT, Nat.reduceLeDiff, Int.reduceEq, Int.reduceNeg, Int.reduceToNat, reduceCtorEq, eq_self, Bool.false_eq_true, Bool.true_eq_false, ↓reduceIte])
    | (refine hK _ ?_; clear hK)
    | (clear hK; refine hK _ ?_; clear hK)
    | (clear hK; clear hK; refine hK _ ?_; clear hK)
    | (clear hK; clear hK; clear hK; refine hK _ ?_; clear hK)
    | (refine AWp.cond ?_; simp -implicitDefEqProofs (maxSteps := 1000000) (disch := omega) only [go_sem, wrap64, Int.tdiv_eq_ediv_of_nonneg, Int.tmod_eq_emod_of_nonneg, Nat.reduceAdd, Nat.reduceMul, Nat.reduceEqDiff, Nat.reduceLT, Nat.reduceLeDiff, Int.reduceEq, Int.reduceNeg, Int.reduceToNat, reduceCtorEq, eq_self, Bool.false_eq_true, Bool.true_eq_false, ↓reduceIte]; try (refine ⟨fun hlt => ?_, fun hlt => ?_⟩ <;> (try simp only [decide_eq_true_eq, decide_eq_false_iff_not, beq_iff_eq, bne_iff_ne, ne_eq, beq_eq_false_iff_ne, bne_eq_false_iff_eq, Bool.true_eq_false, Bool.false_eq_true, Int.not_lt, Int.not_le, Decidable.not_not, gt_iff_lt, ge_iff_le, reduceCtorEq] at hlt) <;> (try exact hlt.elim)))
    | (refine AWp.block ?_)
    | ((first | refine gdO_split (fun hlt => ?_) (fun hlt => ?_) | refine tkO_split (fun hlt => ?_) (fun hlt => ?_) | refine opO_split (fun hlt => ?_) (fun hlt => ?_)) <;> have hgd := hlt <;> (try simp only [decide_eq_true_eq, decide_eq_false_iff_not, beq_iff_eq, bne_iff_ne, ne_eq, beq_eq_false_iff_ne, bne_eq_false_iff_eq, Bool.not_eq_true, Bool.not_eq_false, Bool.not_eq_eq_eq_not, Int.not_lt, Int.not_le, Decidable.not_not, gt_iff_lt, ge_iff_le] at hlt) <;> (simp -implicitDefEqProofs (maxSteps := 1000000) (disch := omega) only [go_sem, wrap64, Int.tdiv_eq_ediv_of_nonneg, Int.tmod_eq_emod_of_nonneg, Nat.reduceAdd, Nat.reduceMul, Nat.reduceEqDiff, Nat.reduceLT, Nat.reduceLeDiff, Int.reduceEq, Int.reduceNeg, Int.reduceToNat, reduceCtorEq, eq_self, Bool.false_eq_true, Bool.true_eq_false, ↓reduceIte, hgd]) <;> clear hgd)
    | (with_reducible refine And.intro ?_ ?_; · first | omega | assumption | exact ⟨_, _, rfl, rfl⟩)
    | fail
  refine AWp.loopInv (F122 zs f) (fun i => zs.length - i) (fun i => i ≤ zs.length ∧ ∀ j, j < i → p (zs.getD j (false, [])) = false) 0 ⟨Nat.zero_le _, fun j h => absurd h (Nat.not_lt_zero _)⟩ (Sub.of0 hm id rfl ?_ ?_ (fun _ _ _ _ h => h)) ?_
  all_goals (try dsimp only)
  all_goals (first | omega | (simp -implicitDefEqProofs (maxSteps := 1000000) (disch := omega) only [F122, id, go_sem, Nat.blt_eq, Nat.reduceAdd, Nat.reduceSub, Nat.reduceEqDiff, Nat.reduceLT, ↓reduceIte, and_true, true_and, AV.dat.injEq, DV.int.injEq, DV.bool.injEq, DV.lst.injEq, eq_self_iff_true]; first | done | omega | (simp; done) | (simp; omega)) | (simp; done) | (simp; omega) | skip)
  rintro i ⟨h1, h2⟩ ih
  simp only [F122]
  generalize hz : zs.getD i (false, []) = z at *
  have hpi := hp z
  repeat' first
    | (refine AWp.seq fun K hK => ?_)
    | ((first | refine AWp.region (by rw [hc]; rfl) ?_ | refine AWp.skip ?_ | refine AWp.exit ?_ | refine AWp.label ?_ | refine AWp.ret ?_ | refine appK_g ?_); simp -implicitDefEqProofs (maxSteps := 1000000) (disch := omega) only [go_sem, wrap64, Int.tdiv_eq_ediv_of_nonneg, Int.tmod_eq_emod_of_nonneg, Nat.reduceAdd, Nat.reduceMul, Nat.reduceEqDiff, Nat.reduceLT, Nat.reduceLeDiff, Int.reduceEq, Int.reduceNeg, Int.reduceToNat, reduceCtorEq, eq_self, Bool.false_eq_true, Bool.true_eq_false, ↓reduceIte, hz])
    | (refine hK _ ?_; clear hK)
    | (clear hK; refine hK _ ?_; clear hK)
    | (clear hK; clear hK; refine hK _ ?_; clear hK)
    | (clear hK; clear hK; clear hK; refine hK _ ?_; clear hK)
    | (refine AWp.cond ?_; simp -implicitDefEqProofs (maxSteps := 1000000) (disch := omega) only [go_sem, wrap64, Int.tdiv_eq_ediv_of_nonneg, Int.tmod_eq_emod_of_nonneg, Nat.reduceAdd, Nat.reduceMul, Nat.reduceEqDiff, Nat.reduceLT, Nat.reduceLeDiff, Int.reduceEq, Int.reduceNeg, Int.reduceToNat, reduceCtorEq, eq_self, Bool.false_eq_true, Bool.true_eq_false, ↓reduceIte, hz]; try (refine ⟨fun hlt => ?_, fun hlt => ?_⟩ <;> (try simp only [decide_eq_true_eq, decide_eq_false_iff_not, beq_iff_eq, bne_iff_ne, ne_eq, beq_eq_false_iff_ne, bne_eq_false_iff_eq, Bool.true_eq_false, Bool.false_eq_true, Int.not_lt, Int.not_le, Decidable.not_not, gt_iff_lt, ge_iff_le, reduceCtorEq] at hlt) <;> (try exact hlt.elim)))
    | (refine AWp.block ?_)
    | ((first | refine gdO_split (fun hlt => ?_) (fun hlt => ?_) | refine tkO_split (fun hlt => ?_) (fun hlt => ?_) | refine opO_split (fun hlt => ?_) (fun hlt => ?_)) <;> have hgd := hlt <;> (try simp only [decide_eq_true_eq, decide_eq_false_iff_not, beq_iff_eq, bne_iff_ne, ne_eq, beq_eq_false_iff_ne, bne_eq_false_iff_eq, Bool.not_eq_true, Bool.not_eq_false, Bool.not_eq_eq_eq_not, Int.not_lt, Int.not_le, Decidable.not_not, gt_iff_lt, ge_iff_le] at hlt) <;> (simp -implicitDefEqProofs (maxSteps := 1000000) (disch := omega) only [go_sem, wrap64, Int.tdiv_eq_ediv_of_nonneg, Int.tmod_eq_emod_of_nonneg, Nat.reduceAdd, Nat.reduceMul, Nat.reduceEqDiff, Nat.reduceLT, Nat.reduceLeDiff, Int.reduceEq, Int.reduceNeg, Int.reduceToNat, reduceCtorEq, eq_self, Bool.false_eq_true, Bool.true_eq_false, ↓reduceIte, hz, hgd]) <;> clear hgd)
    | (with_reducible refine And.intro ?_ ?_; · first | omega | assumption | exact ⟨_, _, rfl, rfl⟩)
    | (refine ⟨_, hpi, ?_⟩; simp -implicitDefEqProofs (maxSteps := 1000000) (disch := omega) only [go_sem, wrap64, Int.tdiv_eq_ediv_of_nonneg, Int.tmod_eq_emod_of_nonneg, Nat.reduceAdd, Nat.reduceMul, Nat.reduceEqDiff, Nat.reduceLT, Nat.reduceLeDiff, Int.reduceEq, Int.reduceNeg, Int.reduceToNat, reduceCtorEq, eq_self, Bool.false_eq_true, Bool.true_eq_false, ↓reduceIte])
    | fail
  · have hi : i < zs.length := by omega
    have e : ∀ j (hj : j < zs.length), zs.getD j (false, []) = zs[j] := fun j hj => by simp [hj]
    rw [idx_some p zs i hi (by rw [← e, hz]; exact hlt) (fun j hj => by rw [← e]; exact h2 j hj)]
  · refine ih (i + 1) _ ⟨by omega, fun j hj => ?_⟩ (by omega) (Sub.of0 hm id rfl ?_ ?_ (fun _ _ _ _ h => h))
    · by_cases h : j = i
      · subst h; rw [hz]; assumption
      · exact h2 j (by omega)
    all_goals (try dsimp only)
    all_goals (first | omega | (simp -implicitDefEqProofs (maxSteps := 1000000) (disch := omega) only [F122, id, go_sem, Nat.blt_eq, Nat.reduceAdd, Nat.reduceSub, Nat.reduceEqDiff, Nat.reduceLT, ↓reduceIte, and_true, true_and, AV.dat.injEq, DV.int.injEq, DV.bool.injEq, DV.lst.injEq, eq_self_iff_true]; first | done | omega | (simp; done) | (simp; omega)) | (simp; done) | (simp; omega) | skip)
  · rw [idx_none p zs (fun j hj => by have := h2 j (by omega); simpa [hj] using this)]
theorem hasZ_pc (zs : List (Bool × List Int)) (f : FuncId) (p : Bool × List Int → Bool) (lz : zs.length ≤ 1000000) (hp : ∀ z, PC Tryz.prog f [Zr z.1 z.2] (B (p z))) : PC Tryz.prog 75 [LZ zs, .dat (.fn f [])] (B (zs.any p)) := by
  have hi := idxZ_pc zs f p lz hp
  rw [← idx_ge]
  refine PCr.pc (PCr.of tab_ok Tryz.func75 rfl rfl rfl fun c hc hm => ?_)
  rw [show Tryz.f75.ntmps = _ from Tryz.ntmps75] at hc
  simp only [Tryz.f75]
  repeat' first
    | (refine AWp.seq fun K hK => ?_)
    | ((first | refine AWp.region (by rw [hc]; rfl) ?_ | refine AWp.skip ?_ | refine AWp.exit ?_ | refine AWp.label ?_ | refine AWp.ret ?_ | refine appK_g ?_); simp -implicitDefEqProofs (maxSteps := 1000000) (disch := omega) only [go_sem, wrap64, Int.tdiv_eq_ediv_of_nonneg, Int.tmod_eq_emod_of_nonneg, Nat.reduceAdd, Nat.reduceMul, Nat.reduceEqDiff, Nat.reduceLT, Nat.reduceLeDiff, Int.reduceEq, Int.reduceNeg, Int.reduceToNat, reduceCtorEq, eq_self, Bool.false_eq_true, Bool.true_eq_false, ↓reduceIte])
    | (refine hK _ ?_; clear hK)
    | (clear hK; refine hK _ ?_; clear hK)
    | (clear hK; clear hK; refine hK _ ?_; clear hK)
    | (clear hK; clear hK; clear hK; refine hK _ ?_; clear hK)
    | (refine AWp.cond ?_; simp -implicitDefEqProofs (maxSteps := 1000000) (disch := omega) only [go_sem, wrap64, Int.tdiv_eq_ediv_of_nonneg, Int.tmod_eq_emod_of_nonneg, Nat.reduceAdd, Nat.reduceMul, Nat.reduceEqDiff, Nat.reduceLT, Nat.reduceLeDiff, Int.reduceEq, Int.reduceNeg, Int.reduceToNat, reduceCtorEq, eq_self, Bool.false_eq_true, Bool.true_eq_false, ↓reduceIte]; try (refine ⟨fun hlt => ?_, fun hlt => ?_⟩ <;> (try simp only [decide_eq_true_eq, decide_eq_false_iff_not, beq_iff_eq, bne_iff_ne, ne_eq, beq_eq_false_iff_ne, bne_eq_false_iff_eq, Bool.true_eq_false, Bool.false_eq_true, Int.not_lt, Int.not_le, Decidable.not_not, gt_iff_lt, ge_iff_le, reduceCtorEq] at hlt) <;> (try exact hlt.elim)))
    | (refine AWp.block ?_)
    | ((first | refine gdO_split (fun hlt => ?_) (fun hlt => ?_) | refine tkO_split (fun hlt => ?_) (fun hlt => ?_) | refine opO_split (fun hlt => ?_) (fun hlt => ?_)) <;> have hgd := hlt <;> (try simp only [decide_eq_true_eq, decide_eq_false_iff_not, beq_iff_eq, bne_iff_ne, ne_eq, beq_eq_false_iff_ne, bne_eq_false_iff_eq, Bool.not_eq_true, Bool.not_eq_false, Bool.not_eq_eq_eq_not, Int.not_lt, Int.not_le, Decidable.not_not, gt_iff_lt, ge_iff_le] at hlt) <;> (simp -implicitDefEqProofs (maxSteps := 1000000) (disch := omega) only [go_sem, wrap64, Int.tdiv_eq_ediv_of_nonneg, Int.tmod_eq_emod_of_nonneg, Nat.reduceAdd, Nat.reduceMul, Nat.reduceEqDiff, Nat.reduceLT, Nat.reduceLeDiff, Int.reduceEq, Int.reduceNeg, Int.reduceToNat, reduceCtorEq, eq_self, Bool.false_eq_true, Bool.true_eq_false, ↓reduceIte, hgd]) <;> clear hgd)
    | (with_reducible refine And.intro ?_ ?_; · first | omega | assumption | exact ⟨_, _, rfl, rfl⟩)
    | ((first | refine ⟨_, hi, ?_⟩); simp -implicitDefEqProofs (maxSteps := 1000000) (disch := omega) only [go_sem, wrap64, Int.tdiv_eq_ediv_of_nonneg, Int.tmod_eq_emod_of_nonneg, Nat.reduceAdd, Nat.reduceMul, Nat.reduceEqDiff, Nat.reduceLT, Nat.reduceLeDiff, Int.reduceEq, Int.reduceNeg, Int.reduceToNat, reduceCtorEq, eq_self, Bool.false_eq_true, Bool.true_eq_false, ↓reduceIte])
    | fail
theorem right_pc (zs : List (Bool × List Int)) (lz : zs.length ≤ 1000000) : PC Tryz.prog 17 [LZ zs] (B (zs.all fun z => decide (okI z.1 z.2))) := by
  have h := hasZ_pc zs 76 (fun z => !decide (okI z.1 z.2)) lz (fun z => right1_pc z.1 z.2)
  rw [show (zs.all fun z => decide (okI z.1 z.2)) = !(zs.any fun z => !decide (okI z.1 z.2)) by rw [List.all_eq_not_any_not]]
  refine PCr.pc (PCr.of tab_ok Tryz.func17 rfl rfl rfl fun c hc hm => ?_)
  rw [show Tryz.f17.ntmps = _ from Tryz.ntmps17] at hc
  simp only [Tryz.f17]
  repeat' first
    | (refine AWp.seq fun K hK => ?_)
    | ((first | refine AWp.region (by rw [hc]; rfl) ?_ | refine AWp.skip ?_ | refine AWp.exit ?_ | refine AWp.label ?_ | refine AWp.ret ?_ | refine appK_g ?_); simp -implicitDefEqProofs (maxSteps := 1000000) (disch := omega) only [go_sem, wrap64, Int.tdiv_eq_ediv_of_nonneg, Int.tmod_eq_emod_of_nonneg, Nat.reduceAdd, Nat.reduceMul, Nat.reduceEqDiff, Nat.reduceLT, Nat.reduceLeDiff, Int.reduceEq, Int.reduceNeg, Int.reduceToNat, reduceCtorEq, eq_self, Bool.false_eq_true, Bool.true_eq_false, ↓reduceIte])
    | (refine hK _ ?_; clear hK)
    | (clear hK; refine hK _ ?_; clear hK)
    | (clear hK; clear hK; refine hK _ ?_; clear hK)
    | (clear hK; clear hK; clear hK; refine hK _ ?_; clear hK)
    | (refine AWp.cond ?_; simp -implicitDefEqProofs (maxSteps := 1000000) (disch := omega) only [go_sem, wrap64, Int.tdiv_eq_ediv_of_nonneg, Int.tmod_eq_emod_of_nonneg, Nat.reduceAdd, Nat.reduceMul, Nat.reduceEqDiff, Nat.reduceLT, Nat.reduceLeDiff, Int.reduceEq, Int.reduceNeg, Int.reduceToNat, reduceCtorEq, eq_self, Bool.false_eq_true, Bool.true_eq_false, ↓reduceIte]; try (refine ⟨fun hlt => ?_, fun hlt => ?_⟩ <;> (try simp only [decide_eq_true_eq, decide_eq_false_iff_not, beq_iff_eq, bne_iff_ne, ne_eq, beq_eq_false_iff_ne, bne_eq_false_iff_eq, Bool.true_eq_false, Bool.false_eq_true, Int.not_lt, Int.not_le, Decidable.not_not, gt_iff_lt, ge_iff_le, reduceCtorEq] at hlt) <;> (try exact hlt.elim)))
    | (refine AWp.block ?_)
    | ((first | refine gdO_split (fun hlt => ?_) (fun hlt => ?_) | refine tkO_split (fun hlt => ?_) (fun hlt => ?_) | refine opO_split (fun hlt => ?_) (fun hlt => ?_)) <;> have hgd := hlt <;> (try simp only [decide_eq_true_eq, decide_eq_false_iff_not, beq_iff_eq, bne_iff_ne, ne_eq, beq_eq_false_iff_ne, bne_eq_false_iff_eq, Bool.not_eq_true, Bool.not_eq_false, Bool.not_eq_eq_eq_not, Int.not_lt, Int.not_le, Decidable.not_not, gt_iff_lt, ge_iff_le] at hlt) <;> (simp -implicitDefEqProofs (maxSteps := 1000000) (disch := omega) only [go_sem, wrap64, Int.tdiv_eq_ediv_of_nonneg, Int.tmod_eq_emod_of_nonneg, Nat.reduceAdd, Nat.reduceMul, Nat.reduceEqDiff, Nat.reduceLT, Nat.reduceLeDiff, Int.reduceEq, Int.reduceNeg, Int.reduceToNat, reduceCtorEq, eq_self, Bool.false_eq_true, Bool.true_eq_false, ↓reduceIte, hgd]) <;> clear hgd)
    | (with_reducible refine And.intro ?_ ?_; · first | omega | assumption | exact ⟨_, _, rfl, rfl⟩)
    | ((first | refine ⟨_, h, ?_⟩); simp -implicitDefEqProofs (maxSteps := 1000000) (disch := omega) only [go_sem, wrap64, Int.tdiv_eq_ediv_of_nonneg, Int.tmod_eq_emod_of_nonneg, Nat.reduceAdd, Nat.reduceMul, Nat.reduceEqDiff, Nat.reduceLT, Nat.reduceLeDiff, Int.reduceEq, Int.reduceNeg, Int.reduceToNat, reduceCtorEq, eq_self, Bool.false_eq_true, Bool.true_eq_false, ↓reduceIte])
    | fail
end Go.Proofs.YthhjcfejgoddlaaGreatDoor
end

section
/- Where the simplifier need not look: what follows a step is looked at when the walk gets there. -/
namespace Go.Abs
variable {P : Program} {T : Tab} {c : Ctx} {ro : Option Nat}

@[congr] theorem runO_cg {ops l : List Oper} {σ σ' : St} {K : St → Prop} (h : σ = σ') : runO P T ops l σ K = runO P T ops l σ' K := by rw [h]
@[congr] theorem gdO_cg {ops rest : List Oper} {o : Oper} {want : Bool} {σ : St} {K : St → Prop} {q q' : AV} (h : q = q') : gdO P T ops o rest want σ K q = gdO P T ops o rest want σ K q' := by rw [h]
@[congr] theorem stepK_cg {o : Oper} {σ σ' : St} {K : St → Prop} (h : σ = σ') : stepK P T o σ K = stepK P T o σ' K := by rw [h]
@[congr] theorem planK_cg {ops : Array Oper} {l : List Pl} {σ σ' : St} {X : St → Prop} (h : σ = σ') : planK P T ops l σ X = planK P T ops l σ' X := by rw [h]
@[congr] theorem takeQ_cg {ops : Array Oper} {i : Nat} {σ σ' : St} {X : St → Prop} (h : σ = σ') : takeQ P T ops i σ X = takeQ P T ops i σ' X := by rw [h]
@[congr] theorem opQ_cg {ops : Array Oper} {i : Nat} {σ σ' : St} {X : St → Prop} (h : σ = σ') : opQ P T ops i σ X = opQ P T ops i σ' X := by rw [h]
@[congr] theorem tkO_cg {o : Oper} {want : Bool} {σ : St} {X : St → Prop} {q q' : AV} (h : q = q') : tkO P T o want σ X q = tkO P T o want σ X q' := by rw [h]
@[congr] theorem opO_cg {o : Oper} {want : Bool} {σ : St} {X : St → Prop} {q q' : AV} (h : q = q') : opO P T o want σ X q = opO P T o want σ X q' := by rw [h]
@[congr] theorem treeK_cg {ops : Array Oper} {t : Tr} {σ σ' : St} {X : St → Prop} (h : σ = σ') : treeK P T ops t σ X = treeK P T ops t σ' X := by rw [h]
@[congr] theorem takesK_cg {ops : Array Oper} {t : Tr} {l : List Nat} {σ σ' : St} {X : St → Prop} (h : σ = σ') : takesK P T ops t l σ X = takesK P T ops t l σ' X := by rw [h]
@[congr] theorem loadK_cg {s s' : Sto} {t : TypeId} {x x' : AV} {K : AV → Prop} (h : s = s') (h' : x = x') : loadK s T t x K = loadK s' T t x' K := by rw [h, h']
@[congr] theorem storeK_cg {s s' : Sto} {t : TypeId} {x x' y y' : AV} {K : Sto → Prop} (h : s = s') (h' : x = x') (h'' : y = y') : storeK T t x y s K = storeK T t x' y' s' K := by rw [h, h', h'']
@[congr] theorem faddrK_cg {t : TypeId} {f : Nat} {x x' : AV} {K : AV → Prop} (h : x = x') : faddrK T t f x K = faddrK T t f x' K := by rw [h]
@[congr] theorem iaddrK_cg {s s' : Sto} {t : TypeId} {x x' y y' : AV} {K : AV → Prop} (h : s = s') (h' : x = x') (h'' : y = y') : iaddrK s T t x y K = iaddrK s' T t x' y' K := by rw [h, h', h'']
@[congr] theorem binC_cg {op : BinOp} {t : TypeId} {yo : Operand} {x x' y y' : AV} {K : AV → Prop} (h : x = x') (h' : y = y') : binC T op t yo x y K = binC T op t yo x' y' K := by rw [h, h']
@[congr] theorem binK_cg {op : BinOp} {t : TypeId} {x x' y y' : AV} {K : AV → Prop} (h : x = x') (h' : y = y') : binK T op t x y K = binK T op t x' y' K := by rw [h, h']
@[congr] theorem unK_cg {op : UnOp} {x x' : AV} {K : AV → Prop} (h : x = x') : unK op x K = unK op x' K := by rw [h]
@[congr] theorem extK_cg {x x' : AV} {i : Nat} {K : AV → Prop} (h : x = x') : extK x i K = extK x' i K := by rw [h]
@[congr] theorem lenK_cg {s s' : Sto} {t : TypeId} {x x' : AV} {K : AV → Prop} (h : s = s') (h' : x = x') : lenK s T t x K = lenK s' T t x' K := by rw [h, h']
@[congr] theorem pickK_cg {q q' x x' y y' : AV} {K : AV → Prop} (h : q = q') (h' : x = x') (h'' : y = y') : pickK q x y K = pickK q' x' y' K := by rw [h, h', h'']
@[congr] theorem callQ_cg {f f' : AV} {xs xs' : List AV} {K : AV → Prop} (h : f = f') (h' : xs = xs') : callQ P f xs K = callQ P f' xs' K := by rw [h, h']
@[congr] theorem calleeK_cg {s s' : Sto} {f f' : AV} {xs xs' : List AV} {K : AV → Sto → Prop} (h : s = s') (h' : f = f') (h'' : xs = xs') : calleeK P s f xs K = calleeK P s' f' xs' K := by rw [h, h', h'']
@[congr] theorem sliceK_cg {t : TypeId} {len : Nat} {ps ps' : List (Nat × AV)} {s s' : Sto} {n : Nat} {K : AV → Sto → Nat → Prop} (h : ps = ps') (h' : s = s') : sliceK T t len ps s n K = sliceK T t len ps' s' n K := by rw [h, h']
@[congr] theorem rowK_cg {t : TypeId} {len : Nat} {ps ps' : List (Nat × AV)} {K : AV → Prop} (h : ps = ps') : rowK T t len ps K = rowK T t len ps' K := by rw [h]
@[congr] theorem structK_cg {t : TypeId} {ps ps' : List (Nat × AV)} {K : AV → Prop} (h : ps = ps') : structK T t ps K = structK T t ps' K := by rw [h]
@[congr] theorem allocK_cg {t : TypeId} {s s' : Sto} {n n' : Nat} {K : AV → Sto → Nat → Prop} (h : s = s') (h' : n = n') : allocK T t s n K = allocK T t s' n' K := by rw [h, h']
@[congr] theorem boxK_cg {x x' : AV} {s s' : Sto} {n n' : Nat} {K : AV → Sto → Nat → Prop} (h : s = s') (h' : n = n') (h'' : x = x') : boxK x s n K = boxK x' s' n' K := by rw [h, h', h'']
@[congr] theorem condK_cg {q q' : AV} {X Y : Prop} (h : q = q') : condK q X Y = condK q' X Y := by rw [h]
@[congr] theorem AWp_cg {code : Code} {σ σ' : St} {Q : Exit → St → Prop} (h : σ = σ') : AWp P T c ro code σ Q = AWp P T c ro code σ' Q := by rw [h]
@[congr] theorem LoopAt_cg {code : Code} {σ σ' : St} {Q : Exit → St → Prop} (h : σ = σ') : LoopAt P T c ro code σ Q = LoopAt P T c ro code σ' Q := by rw [h]
end Go.Abs
end

section
set_option linter.unusedSimpArgs false
set_option linter.unusedVariables false
set_option maxRecDepth 100000
namespace Go.Proofs.YthhjcfejgoddlaaGreatDoor
open Go Go.Abs

theorem limP_one {z : Int} (h : lenZ z ≤ 40) : limP z = (z, 0) := if_pos h
theorem limP_1 {z : Int} (h : (limP z).2 = 0) : (limP z).1 = z := by
  unfold limP at h ⊢
  split
  · rfl
  · rename_i g; rw [if_neg g] at h; exact absurd h (by decide)
theorem sumP_1 {p q : Int × Int} (h : (sumP p q).2 = 0) : p.2 = 0 ∧ q.2 = 0 ∧ (sumP p q).1 = p.1 + q.1 := by
  unfold sumP at h ⊢
  split
  · rename_i g; rw [if_pos g] at h; exact ⟨g.1, g.2, limP_1 h⟩
  · rename_i g; rw [if_neg g] at h; exact absurd h (by decide)
theorem timesP_1 {p q : Int × Int} (h : (timesP p q).2 = 0) : p.2 = 0 ∧ q.2 = 0 ∧ (timesP p q).1 = p.1 * q.1 := by
  unfold timesP at h ⊢
  split
  · rename_i g; rw [if_pos g] at h; exact ⟨g.1, g.2, limP_1 h⟩
  · rename_i g; rw [if_neg g] at h; exact absurd h (by decide)
theorem sumP_comm (p q : Int × Int) : sumP p q = sumP q p := by
  unfold sumP; simp only [And.comm, Int.add_comm]
theorem timesP_comm (p q : Int × Int) : timesP p q = timesP q p := by
  unfold timesP; simp only [And.comm, Int.mul_comm]
theorem sumP_assoc (p q r : Int × Int) : (sumP (sumP p q) r).2 = 0 ∧ (sumP p (sumP q r)).2 = 0 → (sumP (sumP p q) r).1 = (sumP p (sumP q r)).1 := by
  rintro ⟨h1, h2⟩
  obtain ⟨a1, a2, a3⟩ := sumP_1 h1
  obtain ⟨b1, b2, b3⟩ := sumP_1 a1
  obtain ⟨c1, c2, c3⟩ := sumP_1 h2
  obtain ⟨d1, d2, d3⟩ := sumP_1 c2
  rw [a3, b3, c3, d3, Int.add_assoc]
theorem timesP_assoc (p q r : Int × Int) : (timesP (timesP p q) r).2 = 0 ∧ (timesP p (timesP q r)).2 = 0 → (timesP (timesP p q) r).1 = (timesP p (timesP q r)).1 := by
  rintro ⟨h1, h2⟩
  obtain ⟨a1, a2, a3⟩ := timesP_1 h1
  obtain ⟨b1, b2, b3⟩ := timesP_1 a1
  obtain ⟨c1, c2, c3⟩ := timesP_1 h2
  obtain ⟨d1, d2, d3⟩ := timesP_1 c2
  rw [a3, b3, c3, d3, Int.mul_assoc]
theorem P_distr (p q r : Int × Int) : (timesP p (sumP q r)).2 = 0 ∧ (sumP (timesP p q) (timesP p r)).2 = 0 → (timesP p (sumP q r)).1 = (sumP (timesP p q) (timesP p r)).1 := by
  rintro ⟨h1, h2⟩
  obtain ⟨a1, a2, a3⟩ := timesP_1 h1
  obtain ⟨b1, b2, b3⟩ := sumP_1 a2
  obtain ⟨c1, c2, c3⟩ := sumP_1 h2
  obtain ⟨d1, d2, d3⟩ := timesP_1 c1
  obtain ⟨e1, e2, e3⟩ := timesP_1 c2
  rw [a3, b3, c3, d3, e3, Int.mul_add]
/-- agree, where it answers true. -/
theorem agree_T (p q : Int × Int) (hp : okP p) (hq : okP q) (h : p.2 = 0 ∧ q.2 = 0 → p.1 = q.1) : PC Tryz.prog 31 [GP p, GP q] (B true) := by
  have := agree_P p q hp hq
  rwa [decide_eq_true h] at this
theorem same_T (p q : Int × Int) (hp : okP p) (hq : okP q) (h : p = q) : PC Tryz.prog 26 [GP p, GP q] (B true) := by
  have := same_P p q hp hq
  rwa [decide_eq_true h] at this
/-- An integer, as a number. -/
theorem okI_ex {neg : Bool} {d : List Int} (h : okI neg d) : ∃ x : Int, Zr neg d = Z x ∧ lenZ x ≤ 40 :=
  ⟨_, (okI_Z h).1, (okI_Z h).2.1⟩
theorem LZ3 (na nb nc : Bool) (a b c : List Int) : LZ [(na, a), (nb, b), (nc, c)] = .dat (.lst [[.bool na, .lst (a.map eI)], [.bool nb, .lst (b.map eI)], [.bool nc, .lst (c.map eI)]]) := rfl
theorem LZ1 (na : Bool) (a : List Int) : LZ [(na, a)] = .dat (.lst [[.bool na, .lst (a.map eI)]]) := rfl
theorem rightZ3 (a b c : Int) (la : lenZ a ≤ 40) (lb : lenZ b ≤ 40) (lc : lenZ c ≤ 40) : PC Tryz.prog 17 [LZ [(decide (a < 0), D a.natAbs), (decide (b < 0), D b.natAbs), (decide (c < 0), D c.natAbs)]] (B true) := by
  have h := right_pc [(decide (a < 0), D a.natAbs), (decide (b < 0), D b.natAbs), (decide (c < 0), D c.natAbs)] (by simp)
  rwa [show (List.all [(decide (a < 0), D a.natAbs), (decide (b < 0), D b.natAbs), (decide (c < 0), D c.natAbs)] fun z => decide (okI z.1 z.2)) = true by
    simp only [List.all_cons, List.all_nil, decide_eq_true (okZ la), decide_eq_true (okZ lb), decide_eq_true (okZ lc)]; rfl] at h
/-- Three new boxes, made in any order, behind three that stand: the names turned. -/
def pm (x y z : Nat) (i : Nat) : Nat := if i < 3 then i else if i = 3 then x else if i = 4 then y else z
theorem pm_inj {x y z : Nat} (h : 3 ≤ x ∧ 3 ≤ y ∧ 3 ≤ z ∧ x ≠ y ∧ y ≠ z ∧ x ≠ z) : ∀ i j, i < 6 → j < 6 → pm x y z i = pm x y z j → i = j := by
  intro i j h1 h2 h3
  unfold pm at h3
  (repeat' split at h3) <;> omega
theorem pms (x y z : Nat) : pm x y z 0 = 0 ∧ pm x y z 1 = 1 ∧ pm x y z 2 = 2 ∧ pm x y z 3 = x ∧ pm x y z 4 = y ∧ pm x y z 5 = z := ⟨rfl, rfl, rfl, rfl, rfl, rfl⟩
def bI (x : Int) : Obj' := .box [B (decide (x < 0)), L (D x.natAbs)] false
def bP (p : Int × Int) : Obj' := .box [B (decide (p.1 < 0)), L (D p.1.natAbs), I p.2] false
def S10 (a b z : Int) : St := ⟨[(3, .ptr 0 0), (4, .ptr 1 0), (5, .ptr 2 0), (7, .ptr 3 0), (8, .ptr 4 0), (9, .ptr 5 0)], [(5, bP (z, 0)), (4, bP (b, 0)), (3, bP (a, 0)), (2, bI z), (1, bI b), (0, bI a)], 6, 0⟩
theorem sg_abs (x : Int) : sgI x = 0 ↔ x = 0 := by unfold sgI; (repeat' split) <;> omega
end Go.Proofs.YthhjcfejgoddlaaGreatDoor
end

section
set_option linter.unusedSimpArgs false
set_option linter.unusedVariables false
set_option maxRecDepth 100000
namespace Go.Proofs.YthhjcfejgoddlaaGreatDoor
open Go Go.Abs

/-- The cells of an integer and of a result, kept closed in a walk. -/
def zC (x : Int) : List AV := [B (decide (x < 0)), L (D x.natAbs)]
def pC (p : Int × Int) : List AV := [B (decide (p.1 < 0)), L (D p.1.natAbs), I p.2]
def zD (x : Int) : List DV := [.bool (decide (x < 0)), .lst ((D x.natAbs).map eI)]
def ppD (p : Int × Int) : List DV := [.bool (decide (p.1 < 0)), .lst ((D p.1.natAbs).map eI), .int .i64 p.2]
abbrev zA (x : Int) : AV := .agg (zC x)
abbrev pA (p : Int × Int) : AV := .agg (pC p)
theorem zC_len (x : Int) : (zC x).length = 2 := rfl
theorem pC_len (p : Int × Int) : (pC p).length = 3 := rfl
theorem zD_len (x : Int) : (zD x).length = 2 := rfl
theorem zC_map (x : Int) : (zD x).map .dat = zC x := rfl
theorem pC_map (p : Int × Int) : (ppD p).map .dat = pC p := rfl
theorem zC_toCs (x : Int) (s : Sto) : toCs s (zC x) = some (zD x, s) := rfl
theorem pC_toCs (p : Int × Int) (s : Sto) : toCs s (pC p) = some (ppD p, s) := rfl
theorem zC_dCs (x : Int) : dCs (zC x) = some (zD x) := rfl
theorem pC_dCs (p : Int × Int) : dCs (pC p) = some (ppD p) := rfl
theorem zC_dats0 (x : Int) : dats0 (zC x) = some (zD x) := rfl
theorem zC_take (x : Int) : List.take 2 (zC x) = zC x := rfl
theorem pC_take (p : Int × Int) : List.take 3 (pC p) = pC p := rfl
theorem pC_take2 (p : Int × Int) : List.take 2 (pC p) = zC p.1 := rfl
theorem pC_get2 (p : Int × Int) : (pC p)[2]? = some (I p.2) := rfl
theorem zC_get0 (x : Int) : (zC x)[0]? = some (B (decide (x < 0))) := rfl
theorem zC_get1 (x : Int) : (zC x)[1]? = some (L (D x.natAbs)) := rfl
theorem zC_drop (x : Int) : List.drop 0 (zC x) = zC x := rfl
theorem pC_drop (p : Int × Int) : List.drop 0 (pC p) = pC p := rfl
def zBx (x : Int) : Obj' := .box (zC x) false
def pBx (p : Int × Int) : Obj' := .box (pC p) false
def R10 (a b z : Int) : St := ⟨[(3, .ptr 0 0), (4, .ptr 1 0), (5, .ptr 2 0), (7, .ptr 3 0), (8, .ptr 4 0), (9, .ptr 5 0)], [(5, pBx (z, 0)), (4, pBx (b, 0)), (3, pBx (a, 0)), (2, zBx z), (1, zBx b), (0, zBx a)], 6, 0⟩
end Go.Proofs.YthhjcfejgoddlaaGreatDoor
end

section
set_option linter.unusedSimpArgs false
set_option linter.unusedVariables false
set_option maxRecDepth 100000
namespace Go.Proofs.YthhjcfejgoddlaaGreatDoor
open Go Go.Abs

/-! The contracts over closed cells. -/
theorem sumA (p q : Int × Int) (hp : okP p) (hq : okP q) : PC Tryz.prog 28 [.agg (pC p), .agg (pC q)] (.agg (pC (sumP p q))) := sum_P p q hp hq
theorem timesA (p q : Int × Int) (hp : okP p) (hq : okP q) : PC Tryz.prog 20 [.agg (pC p), .agg (pC q)] (.agg (pC (timesP p q))) := times_P p q hp hq
theorem valA (x : Int) : PC Tryz.prog 21 [.agg (zC x)] (.agg (pC (x, 0))) := valP x
theorem gotA (x e : Int) : PC Tryz.prog 24 [.agg (zC x), I e] (.agg (pC (x, e))) := gotP (x, e)
theorem agreeA (p q : Int × Int) (hp : okP p) (hq : okP q) (h : p.2 = 0 ∧ q.2 = 0 → p.1 = q.1) : PC Tryz.prog 31 [.agg (pC p), .agg (pC q)] (B true) := agree_T p q hp hq h
theorem sameA (p q : Int × Int) (hp : okP p) (hq : okP q) (h : p = q) : PC Tryz.prog 26 [.agg (pC p), .agg (pC q)] (B true) := same_T p q hp hq h
theorem ofA (n : Int) (h0 : -9223372036854775808 ≤ n) (h1 : n ≤ 9223372036854775807) : PC Tryz.prog 27 [I n] (.agg (zC n)) := of_pc n h0 h1
theorem cmpA (x y : Int) (lx : lenZ x ≤ 40) (ly : lenZ y ≤ 40) : PC Tryz.prog 23 [.agg (zC x), .agg (zC y)] (I (cmpI x y)) := Compare_Z x y (Nat.le_trans lx (by decide)) (Nat.le_trans ly (by decide))
theorem rsameA (x y : Int) (lx : lenZ x ≤ 40) (ly : lenZ y ≤ 40) : PC Tryz.prog 36 [.agg (zC x), .agg (zC y)] (B (decide (x = y))) := Same_Z x y (Nat.le_trans lx (by decide)) (Nat.le_trans ly (by decide))
theorem signA (x : Int) : PC Tryz.prog 18 [.agg (zC x)] (I (sgI x)) := Sign_Z x
theorem smallerA (x y : Int) (lx : lenZ x ≤ 40) (ly : lenZ y ≤ 40) : PC Tryz.prog 35 [.agg (zC x), .agg (zC y)] (B (decide (x.natAbs < y.natAbs))) := smaller_Z x y (Nat.le_trans lx (by decide)) (Nat.le_trans ly (by decide))
theorem limR_A (z : Int) : limR z = .tup [.agg (zC (limP z).1), I (limP z).2] := limR_P z
theorem subA (x y : Int) (lx : lenZ x ≤ 40) (ly : lenZ y ≤ 40) : PC Tryz.prog 37 [.agg (zC x), .agg (zC y)] (.tup [.agg (zC (limP (x - y)).1), I (limP (x - y)).2]) := by
  have := Sub_ok x y lx ly
  rwa [limR_A] at this
theorem negA (x : Int) (lx : lenZ x ≤ 40) : PC Tryz.prog 43 [.agg (zC x)] (.tup [.agg (zC (-x)), I 0]) := Neg_ok x lx
def divP (x y : Int) : Int × Int := if y = 0 then (0, 11) else (x.fdiv y, 0)
def modP (x y : Int) : Int × Int := if y = 0 then (0, 11) else (x.fmod y, 0)
theorem fmod_len {x y : Int} (hy : y ≠ 0) (ly : lenZ y ≤ 40) : lenZ (x.fmod y) ≤ 40 :=
  Nat.le_trans (lenZ_le (by rw [Int.fmod_def]; exact Nat.le_of_lt (fmod_small _ _ hy))) ly
theorem fdiv_len {x y : Int} (lx : lenZ x ≤ 40) : lenZ (x.fdiv y) ≤ 40 := Nat.le_trans (lenZ_le (fdiv_small _ _)) lx
theorem divA (x y : Int) (lx : lenZ x ≤ 40) (ly : lenZ y ≤ 40) : PC Tryz.prog 22 [.agg (zC x), .agg (zC y)] (.tup [.agg (zC (divP x y).1), I (divP x y).2]) := by
  unfold divP
  by_cases hy : y = 0
  · subst hy
    rw [if_pos rfl]
    have := Div_zero x lx
    rwa [← Z_zero] at this
  · rw [if_neg hy]
    have := Div_ok x y hy lx ly
    rwa [limR_A, limP_one (fdiv_len lx)] at this
theorem modA (x y : Int) (lx : lenZ x ≤ 40) (ly : lenZ y ≤ 40) : PC Tryz.prog 34 [.agg (zC x), .agg (zC y)] (.tup [.agg (zC (modP x y).1), I (modP x y).2]) := by
  unfold modP
  by_cases hy : y = 0
  · subst hy
    rw [if_pos rfl]
    have := Mod_zero x lx
    rwa [← Z_zero] at this
  · rw [if_neg hy]
    have := Mod_ok x y hy lx ly
    rwa [limR_A, limP_one (fmod_len hy ly)] at this
theorem divP_ok {x y : Int} (lx : lenZ x ≤ 40) : lenZ (divP x y).1 ≤ 40 := by unfold divP; split; exact lenZ_0; exact fdiv_len lx
theorem modP_ok {x y : Int} (ly : lenZ y ≤ 40) : lenZ (modP x y).1 ≤ 40 := by
  unfold modP; split
  · exact lenZ_0
  · rename_i h; exact fmod_len h ly
/-- What right says of numbers. -/
theorem right3A (a b c : Int) (la : lenZ a ≤ 40) (lb : lenZ b ≤ 40) (lc : lenZ c ≤ 40) : PC Tryz.prog 17 [.dat (.lst [zD a, zD b, zD c])] (B true) := rightZ3 a b c la lb lc
theorem right_bad3 (na nb nc : Bool) (a b c : List Int) (h : ¬ (okI na a ∧ okI nb b ∧ okI nc c)) : PC Tryz.prog 17 [.dat (.lst [[.bool na, .lst (a.map eI)], [.bool nb, .lst (b.map eI)], [.bool nc, .lst (c.map eI)]])] (B false) := by
  have hr := right_pc [(na, a), (nb, b), (nc, c)] (by simp)
  rwa [show (List.all [(na, a), (nb, b), (nc, c)] fun z => decide (okI z.1 z.2)) = false by
    simp only [List.all_cons, List.all_nil, Bool.and_true, ← Bool.decide_and]; exact decide_eq_false h] at hr
theorem limP_ok1 (z : Int) : lenZ (limP z).1 ≤ 40 := limP_ok z
end Go.Proofs.YthhjcfejgoddlaaGreatDoor
end

section
namespace Go.Proofs.YthhjcfejgoddlaaGreatDoor
open Go Go.Abs
theorem pC_drop3 (p : Int × Int) : List.drop 3 (pC p) = [] := rfl
theorem zC_drop2 (x : Int) : List.drop 2 (zC x) = [] := rfl
end Go.Proofs.YthhjcfejgoddlaaGreatDoor
end

section
/- A string made of one byte. -/
namespace Go.Abs
open Go.RowKit
variable {P : Program} {T : Tab} {c : Ctx} {φ : Nat → Lay} {s : Sto} {n : Nat} {w : World}

theorem convB_ok (hT : TabOk P T) (hm : Mem c φ s n w) {k : Nat} {e t5 src dst : TypeId} {m : Int} {f : Bool} {i j l : TI} {u : Value} {K : AV → Prop} (hk : get k s = some (.row e 1 [[.int .u8 m]] f))
    (hu : RV φ n (c.AA φ s) w (.own k) u) (h1 : tget src T = some i) (h1' : i.desc = .slice t5) (h2 : tget dst T = some j) (h2' : j.desc = .string) (h3 : tget t5 T = some l) (h3' : l.desc = .int .u8)
    (h : K (.dat (.str (ByteArray.empty.push (UInt8.ofNat m.toNat))))) : Val P φ n (c.AA φ s) w (convert src dst u) K := by
  obtain ⟨hb, hn, hz, hsz, hes, hlen, cur, hh, hcl, hlc, hmx, hone, hv⟩ := hm.obj k _ hk
  have hl1 : (φ k).len = 1 := by simpa using hlen.symm
  have u1 := (hT _ _ h1).2
  have u2 := (hT _ _ h2).2
  have u3 := (hT _ _ h3).2
  rw [h1'] at u1
  rw [h2'] at u2
  rw [h3'] at u3
  have hcur : 0 < cur.length := by
    have e0 : cur.length = (φ k).cap := by rw [hcl, Nat.mul_one]
    omega
  have hc0 : cur.getD 0 undef = .int .u8 m := by
    have h0 := hv 0 _ 0 _ rfl rfl
    generalize hx : cur.getD (0 * 1 + 0) undef = x at h0
    cases h0
    rfl
  cases hu with
  | own _ hi =>
    rw [hl1]
    have hld := run_loadCells (P := P) w ⟨(φ k).b, 0, none⟩ 1 (fun _ => .int .u8 m) (fun j hj => by
      have hj0 : j = 0 := by omega
      subst hj0
      show w.cell? ⟨(φ k).b, 0 + 0, none⟩ = _
      rw [cell_of_row w _ _ _ _ _ hh]
      simp only [List.getD, List.getElem?_eq_getElem hcur, Option.getD_some] at hc0
      simp only [Nat.add_zero, List.getElem?_toArray, List.getElem?_eq_getElem hcur, hc0])
    refine ⟨.dat (.str (ByteArray.empty.push (UInt8.ofNat m.toNat))), .string (ByteArray.empty.push (UInt8.ofNat m.toNat)), ?_, .dat _ _ (.str _), h⟩
    have hb := run_bytesToString (P := P) w ⟨(φ k).b, 0, none⟩ 1 (φ k).cap [m] (by rw [hld]; rfl)
    simp only [List.foldl_cons, List.foldl_nil] at hb
    unfold convert
    simp only [Sem.run_bind, run_underlying u1, run_underlying u2, run_underlying u3, Result.andThen_ok, hb]
end Go.Abs
end

section
set_option linter.unusedSimpArgs false
set_option linter.unusedVariables false
set_option maxRecDepth 100000
namespace Go.Proofs.YthhjcfejgoddlaaGreatDoor
open Go Go.Abs

/-! The reference's digits. -/
theorem dv_lin : ∀ (l : List UInt8) (acc : Nat), dv acc l = acc * 10 ^ l.length + dv 0 l
  | [], acc => by simp [dv_nil]
  | x :: r, acc => by
    rw [dv_cons, dv_cons, dv_lin r (acc * 10 + _), dv_lin r (0 * 10 + _), List.length_cons, Nat.pow_succ]
    grind
theorem dv_cons0 (x : UInt8) (r : List UInt8) : dv 0 (x :: r) = (x.toNat - 48) * 10 ^ r.length + dv 0 r := by
  rw [dv_cons, dv_lin, Nat.zero_mul, Nat.zero_add]
theorem dv_lt : ∀ {l : List UInt8}, isD l → dv 0 l < 10 ^ l.length
  | [], _ => by simp [dv_nil]
  | x :: r, h => by
    have h1 := dv_lt (l := r) (fun y hy => h y (by simp [hy]))
    have h2 := h x (by simp)
    rw [dv_cons0, List.length_cons, Nat.pow_succ]
    have h3 : (x.toNat - 48) * 10 ^ r.length ≤ 9 * 10 ^ r.length := Nat.mul_le_mul_right _ (by omega)
    omega
/-- Digits without a zero ahead. -/
def canon (l : List UInt8) : Prop := isD l ∧ 0 < l.length ∧ (l.length = 1 ∨ l.headD 0 ≠ 48)
theorem canon_lo {l : List UInt8} (h : canon l) : l.length = 1 ∨ 10 ^ (l.length - 1) ≤ dv 0 l := by
  obtain ⟨h1, h2, h3⟩ := h
  rcases h3 with h3 | h3
  · exact .inl h3
  · right
    match l, h2 with
    | x :: r, _ =>
      have h4 := h1 x (by simp)
      have h5 : x.toNat ≠ 48 := fun e => h3 (UInt8.toNat_inj.1 e)
      rw [dv_cons0, List.length_cons, Nat.add_sub_cancel]
      have h6 : 1 * 10 ^ r.length ≤ (x.toNat - 48) * 10 ^ r.length := Nat.mul_le_mul_right _ (by omega)
      omega
theorem canon_len {l m : List UInt8} (hl : canon l) (hm : canon m) (e : dv 0 l = dv 0 m) : l.length = m.length := by
  have key : ∀ {l m : List UInt8}, canon l → canon m → dv 0 l = dv 0 m → l.length ≤ m.length := by
    intro l m hl hm e
    rcases canon_lo hl with h | h
    · have := hm.2.1; omega
    · have h2 := dv_lt hm.1
      have h3 : 10 ^ (l.length - 1) < 10 ^ m.length := by omega
      have := (Nat.pow_lt_pow_iff_right (by decide : 1 < 10)).1 h3
      omega
  exact Nat.le_antisymm (key hl hm e) (key hm hl e.symm)
theorem push_bs (x : UInt8) (m : List UInt8) : ByteArray.empty.push x ++ bs m = bs (x :: m) := by
  apply ByteArray.ext; simp [bs]
theorem u8_dig {x : Int} (h : 0 ≤ x) : (UInt8.ofNat (IntKind.u8.wrap (48 + x % 10)).toNat).toNat = 48 + (x % 10).toNat := by
  have e : IntKind.u8.wrap (48 + x % 10) = 48 + x % 10 := by
    unfold IntKind.wrap
    show (if (false && _) = true then _ else (48 + x % 10) % 256) = _
    simp only [Bool.false_and, Bool.false_eq_true, ↓reduceIte]
    omega
  rw [e, show (48 + x % 10).toNat = 48 + (x % 10).toNat by omega, byte_ofNat (by omega)]
theorem val_tk (d : List Int) (i : Nat) (h : i < d.length) : val (d.take (i + 1)) = val (d.take i) + Bp i * d.getD i 0 := by
  rw [List.take_add_one, val_append, List.length_take, Nat.min_eq_left (by omega)]
  simp [List.getElem?_eq_getElem h, val, List.getD]
theorem Bp_nat (i : Nat) : Bp i = ((10 ^ (9 * i) : Nat) : Int) := by
  unfold Bp
  rw [show (1000000000 : Int) = ((10 ^ 9 : Nat) : Int) by decide, ← Int.natCast_pow, ← Nat.pow_mul]

theorem bs_nil : bs [] = ⟨#[]⟩ := rfl
structure DS where
  i : Nat
  l : List UInt8
def F108 (d : List Int) (t : DS) : St := ⟨[(0, L d), (3, .dat (.str (bs t.l))), (4, I t.i)], [], 0, 0⟩
structure DK where
  k : Nat
  x : Int
  m : List UInt8
def G108 (d : List Int) (i : Nat) (t : DK) : St := ⟨[(0, L d), (3, .dat (.str (bs t.m))), (4, I i), (5, I t.x), (6, I t.k)], [], 0, 0⟩
def H108 (m : List UInt8) : St := ⟨[(3, .dat (.str (bs m)))], [], 0, 0⟩
set_option maxHeartbeats 4000000 in
theorem rdig_pc (d : List Int) (hd : dig d) (hl : d.length ≤ 1000) : PCr Tryz.prog 108 [L d] (fun r => ∃ l, r = .dat (.str (bs l)) ∧ canon l ∧ ((dv 0 l : Nat) : Int) = val d) := by
  refine PCr.of tab_ok Tryz.func108 rfl rfl rfl fun c hc hm => ?_
  rw [show Tryz.f108.ntmps = _ from Tryz.ntmps108] at hc
  simp only [Tryz.f108]
  repeat' first
    | (refine AWp.seq fun K hK => ?_)
    | ((first | refine AWp.region (by rw [hc]; rfl) ?_ | refine AWp.skip ?_ | refine AWp.exit ?_ | refine AWp.label ?_ | refine AWp.ret ?_ | refine appK_g ?_); simp -implicitDefEqProofs (maxSteps := 1000000) (disch := omega) only [go_sem, wrap64, Int.tdiv_eq_ediv_of_nonneg, Int.tmod_eq_emod_of_nonneg, Nat.reduceAdd, Nat.reduceMul, Nat.reduceEqDiff, Nat.reduceLT, Nat.reduceLeDiff, Int.reduceEq, Int.reduceNeg, Int.reduceToNat, reduceCtorEq, eq_self, Bool.false_eq_true, Bool.true_eq_false, ↓reduceIte])
    | (refine hK _ ?_; clear hK)
    | (clear hK; refine hK _ ?_; clear hK)
    | (clear hK; clear hK; refine hK _ ?_; clear hK)
    | (clear hK; clear hK; clear hK; refine hK _ ?_; clear hK)
    | (refine AWp.cond ?_; simp -implicitDefEqProofs (maxSteps := 1000000) (disch := omega) only [go_sem, wrap64, Int.tdiv_eq_ediv_of_nonneg, Int.tmod_eq_emod_of_nonneg, Nat.reduceAdd, Nat.reduceMul, Nat.reduceEqDiff, Nat.reduceLT, Nat.reduceLeDiff, Int.reduceEq, Int.reduceNeg, Int.reduceToNat, reduceCtorEq, eq_self, Bool.false_eq_true, Bool.true_eq_false, ↓reduceIte]; try (refine ⟨fun hlt => ?_, fun hlt => ?_⟩ <;> (try simp only [decide_eq_true_eq, decide_eq_false_iff_not, beq_iff_eq, bne_iff_ne, ne_eq, beq_eq_false_iff_ne, bne_eq_false_iff_eq, Bool.true_eq_false, Bool.false_eq_true, Int.not_lt, Int.not_le, Decidable.not_not, gt_iff_lt, ge_iff_le, reduceCtorEq] at hlt) <;> (try exact hlt.elim)))
    | (refine AWp.block ?_)
    | ((first | refine gdO_split (fun hlt => ?_) (fun hlt => ?_) | refine tkO_split (fun hlt => ?_) (fun hlt => ?_) | refine opO_split (fun hlt => ?_) (fun hlt => ?_)) <;> have hgd := hlt <;> (try simp only [decide_eq_true_eq, decide_eq_false_iff_not, beq_iff_eq, bne_iff_ne, ne_eq, beq_eq_false_iff_ne, bne_eq_false_iff_eq, Bool.not_eq_true, Bool.not_eq_false, Bool.not_eq_eq_eq_not, Int.not_lt, Int.not_le, Decidable.not_not, gt_iff_lt, ge_iff_le] at hlt) <;> (simp -implicitDefEqProofs (maxSteps := 1000000) (disch := omega) only [go_sem, wrap64, Int.tdiv_eq_ediv_of_nonneg, Int.tmod_eq_emod_of_nonneg, Nat.reduceAdd, Nat.reduceMul, Nat.reduceEqDiff, Nat.reduceLT, Nat.reduceLeDiff, Int.reduceEq, Int.reduceNeg, Int.reduceToNat, reduceCtorEq, eq_self, Bool.false_eq_true, Bool.true_eq_false, ↓reduceIte, hgd]) <;> clear hgd)
    | (with_reducible refine And.intro ?_ ?_; · first | omega | assumption | exact ⟨_, _, rfl, rfl⟩)
    | fail
  · refine ⟨[48], ?_, ⟨fun x hx => by simp at hx; subst hx; decide, by decide, .inl rfl⟩, ?_⟩
    · rfl
    · rw [List.eq_nil_of_length_eq_zero (by omega : d.length = 0)]; decide
  refine AWp.loopInv (F108 d) (fun t => d.length - t.i) (fun t => t.i ≤ d.length ∧ isD t.l ∧ t.l.length = 9 * t.i ∧ ((dv 0 t.l : Nat) : Int) = val (d.take t.i)) ⟨0, []⟩ ⟨Nat.zero_le _, fun x h => by simp at h, rfl, rfl⟩ (Sub.of0 hm id rfl ?_ ?_ (fun _ _ _ _ h => h)) ?_
  all_goals (try dsimp only)
  all_goals (first | omega | (simp -implicitDefEqProofs (maxSteps := 1000000) (disch := omega) only [F108, bs_nil, id, go_sem, Nat.blt_eq, Nat.reduceAdd, Nat.reduceSub, Nat.reduceEqDiff, Nat.reduceLT, ↓reduceIte, and_true, true_and, AV.dat.injEq, DV.int.injEq, DV.bool.injEq, DV.lst.injEq, eq_self_iff_true]; first | done | omega | (simp; done) | (simp; omega)) | (simp; done) | (simp; omega) | skip)
  rintro ⟨i, l⟩ ⟨h1, h2, h3, h4⟩ ih
  simp only [F108] at h1 h2 h3 h4 ⊢
  repeat' first
    | (refine AWp.seq fun K hK => ?_)
    | ((first | refine AWp.region (by rw [hc]; rfl) ?_ | refine AWp.skip ?_ | refine AWp.exit ?_ | refine AWp.label ?_ | refine AWp.ret ?_ | refine appK_g ?_); simp -implicitDefEqProofs (maxSteps := 1000000) (disch := omega) only [go_sem, wrap64, Int.tdiv_eq_ediv_of_nonneg, Int.tmod_eq_emod_of_nonneg, Nat.reduceAdd, Nat.reduceMul, Nat.reduceEqDiff, Nat.reduceLT, Nat.reduceLeDiff, Int.reduceEq, Int.reduceNeg, Int.reduceToNat, reduceCtorEq, eq_self, Bool.false_eq_true, Bool.true_eq_false, ↓reduceIte])
    | (refine hK _ ?_; clear hK)
    | (clear hK; refine hK _ ?_; clear hK)
    | (clear hK; clear hK; refine hK _ ?_; clear hK)
    | (clear hK; clear hK; clear hK; refine hK _ ?_; clear hK)
    | (refine AWp.cond ?_; simp -implicitDefEqProofs (maxSteps := 1000000) (disch := omega) only [go_sem, wrap64, Int.tdiv_eq_ediv_of_nonneg, Int.tmod_eq_emod_of_nonneg, Nat.reduceAdd, Nat.reduceMul, Nat.reduceEqDiff, Nat.reduceLT, Nat.reduceLeDiff, Int.reduceEq, Int.reduceNeg, Int.reduceToNat, reduceCtorEq, eq_self, Bool.false_eq_true, Bool.true_eq_false, ↓reduceIte]; try (refine ⟨fun hlt => ?_, fun hlt => ?_⟩ <;> (try simp only [decide_eq_true_eq, decide_eq_false_iff_not, beq_iff_eq, bne_iff_ne, ne_eq, beq_eq_false_iff_ne, bne_eq_false_iff_eq, Bool.true_eq_false, Bool.false_eq_true, Int.not_lt, Int.not_le, Decidable.not_not, gt_iff_lt, ge_iff_le, reduceCtorEq] at hlt) <;> (try exact hlt.elim)))
    | (refine AWp.block ?_)
    | ((first | refine gdO_split (fun hlt => ?_) (fun hlt => ?_) | refine tkO_split (fun hlt => ?_) (fun hlt => ?_) | refine opO_split (fun hlt => ?_) (fun hlt => ?_)) <;> have hgd := hlt <;> (try simp only [decide_eq_true_eq, decide_eq_false_iff_not, beq_iff_eq, bne_iff_ne, ne_eq, beq_eq_false_iff_ne, bne_eq_false_iff_eq, Bool.not_eq_true, Bool.not_eq_false, Bool.not_eq_eq_eq_not, Int.not_lt, Int.not_le, Decidable.not_not, gt_iff_lt, ge_iff_le] at hlt) <;> (simp -implicitDefEqProofs (maxSteps := 1000000) (disch := omega) only [go_sem, wrap64, Int.tdiv_eq_ediv_of_nonneg, Int.tmod_eq_emod_of_nonneg, Nat.reduceAdd, Nat.reduceMul, Nat.reduceEqDiff, Nat.reduceLT, Nat.reduceLeDiff, Int.reduceEq, Int.reduceNeg, Int.reduceToNat, reduceCtorEq, eq_self, Bool.false_eq_true, Bool.true_eq_false, ↓reduceIte, hgd]) <;> clear hgd)
    | (with_reducible refine And.intro ?_ ?_; · first | omega | assumption | exact ⟨_, _, rfl, rfl⟩)
    | fail
  · -- one part
    have hdi := dig_getD hd i
    refine AWp.loopInv (G108 d i) (fun t => 9 - t.k) (fun t => t.k ≤ 9 ∧ isD t.m ∧ t.m.length = 9 * i + t.k ∧ 0 ≤ t.x ∧ t.x < 1000000000 ∧ t.x < 10 ^ (9 - t.k) ∧ ((dv 0 t.m : Nat) : Int) + t.x * ((10 ^ (9 * i + t.k) : Nat) : Int) = val (d.take i) + d.getD i 0 * ((10 ^ (9 * i) : Nat) : Int)) ⟨0, d.getD i 0, l⟩ ⟨Nat.zero_le _, h2, h3, hdi.1, hdi.2, hdi.2, by rw [h4]; rfl⟩ (Sub.of0 hm id rfl ?_ ?_ (fun _ _ _ _ h => h)) ?_
    all_goals (try dsimp only)
    all_goals (first | omega | (simp -implicitDefEqProofs (maxSteps := 1000000) (disch := omega) only [G108, id, go_sem, Nat.blt_eq, Nat.reduceAdd, Nat.reduceSub, Nat.reduceEqDiff, Nat.reduceLT, ↓reduceIte, and_true, true_and, AV.dat.injEq, DV.int.injEq, DV.bool.injEq, DV.lst.injEq, eq_self_iff_true]; first | done | omega | (simp; done) | (simp; omega)) | (simp; done) | (simp; omega) | skip)
    rintro ⟨k, x, m⟩ ⟨g1, g2, g3, g4, g7, g5, g6⟩ ih2
    simp only [G108] at g1 g2 g3 g4 g7 g5 g6 ⊢
    repeat' first
      | (refine AWp.regionStp (id := 11) 5 (fun σ1 K => ∃ k m f, evA σ1.t (.tmp 28) = .own k ∧ get k σ1.s = some (.row 5 1 [[.int .u8 m]] f) ∧ K (.dat (.str (ByteArray.empty.push (UInt8.ofNat m.toNat)))) σ1.s σ1.n) rfl rfl (by intro cl h; cases h) (fun φ a w σ1 K hT hR ⟨k, m, f, e1, e2, h⟩ => .of_val hR.mem (convB_ok hT hR.mem e2 (e1 ▸ hR.ev (.tmp 28)) rfl rfl rfl rfl rfl rfl h) rfl) (by rw [hc]; rfl) ?_; simp -implicitDefEqProofs (maxSteps := 1000000) (disch := omega) only [go_sem, wrap64, Int.tdiv_eq_ediv_of_nonneg, Int.tmod_eq_emod_of_nonneg, Nat.reduceAdd, Nat.reduceMul, Nat.reduceEqDiff, Nat.reduceLT, Nat.reduceLeDiff, Int.reduceEq, Int.reduceNeg, Int.reduceToNat, reduceCtorEq, eq_self, Bool.false_eq_true, Bool.true_eq_false, ↓reduceIte])
      | (refine AWp.seq fun K hK => ?_)
      | ((first | refine AWp.region (by rw [hc]; rfl) ?_ | refine AWp.skip ?_ | refine AWp.exit ?_ | refine AWp.label ?_ | refine AWp.ret ?_ | refine appK_g ?_); simp -implicitDefEqProofs (maxSteps := 1000000) (disch := omega) only [go_sem, wrap64, Int.tdiv_eq_ediv_of_nonneg, Int.tmod_eq_emod_of_nonneg, Nat.reduceAdd, Nat.reduceMul, Nat.reduceEqDiff, Nat.reduceLT, Nat.reduceLeDiff, Int.reduceEq, Int.reduceNeg, Int.reduceToNat, reduceCtorEq, eq_self, Bool.false_eq_true, Bool.true_eq_false, ↓reduceIte])
      | (refine hK _ ?_; clear hK)
      | (clear hK; refine hK _ ?_; clear hK)
      | (clear hK; clear hK; refine hK _ ?_; clear hK)
      | (clear hK; clear hK; clear hK; refine hK _ ?_; clear hK)
      | (refine AWp.cond ?_; simp -implicitDefEqProofs (maxSteps := 1000000) (disch := omega) only [go_sem, wrap64, Int.tdiv_eq_ediv_of_nonneg, Int.tmod_eq_emod_of_nonneg, Nat.reduceAdd, Nat.reduceMul, Nat.reduceEqDiff, Nat.reduceLT, Nat.reduceLeDiff, Int.reduceEq, Int.reduceNeg, Int.reduceToNat, reduceCtorEq, eq_self, Bool.false_eq_true, Bool.true_eq_false, ↓reduceIte]; try (refine ⟨fun hlt => ?_, fun hlt => ?_⟩ <;> (try simp only [decide_eq_true_eq, decide_eq_false_iff_not, beq_iff_eq, bne_iff_ne, ne_eq, beq_eq_false_iff_ne, bne_eq_false_iff_eq, Bool.true_eq_false, Bool.false_eq_true, Int.not_lt, Int.not_le, Decidable.not_not, gt_iff_lt, ge_iff_le, reduceCtorEq] at hlt) <;> (try exact hlt.elim)))
      | (refine AWp.block ?_)
      | ((first | refine gdO_split (fun hlt => ?_) (fun hlt => ?_) | refine tkO_split (fun hlt => ?_) (fun hlt => ?_) | refine opO_split (fun hlt => ?_) (fun hlt => ?_)) <;> have hgd := hlt <;> (try simp only [decide_eq_true_eq, decide_eq_false_iff_not, beq_iff_eq, bne_iff_ne, ne_eq, beq_eq_false_iff_ne, bne_eq_false_iff_eq, Bool.not_eq_true, Bool.not_eq_false, Bool.not_eq_eq_eq_not, Int.not_lt, Int.not_le, Decidable.not_not, gt_iff_lt, ge_iff_le] at hlt) <;> (simp -implicitDefEqProofs (maxSteps := 1000000) (disch := omega) only [go_sem, wrap64, Int.tdiv_eq_ediv_of_nonneg, Int.tmod_eq_emod_of_nonneg, Nat.reduceAdd, Nat.reduceMul, Nat.reduceEqDiff, Nat.reduceLT, Nat.reduceLeDiff, Int.reduceEq, Int.reduceNeg, Int.reduceToNat, reduceCtorEq, eq_self, Bool.false_eq_true, Bool.true_eq_false, ↓reduceIte, hgd]) <;> clear hgd)
      | (with_reducible refine And.intro ?_ ?_; · first | omega | assumption | exact ⟨_, _, rfl, rfl⟩)
      | fail
    · refine ⟨0, _, _, rfl, rfl, ?_, ?_⟩
      · rw [bs_size]
        show 1 + m.length ≤ _
        omega
      · have hc8 := u8_dig g4
        rw [push_bs]
        generalize UInt8.ofNat (IntKind.u8.wrap (48 + x % 10)).toNat = c8 at *
        first | (refine hK _ ?_; clear hK) | (clear hK; refine hK _ ?_; clear hK) | (clear hK; clear hK; refine hK _ ?_; clear hK) | (clear hK; clear hK; clear hK; refine hK _ ?_; clear hK)
        repeat' first
          | (refine AWp.seq fun K hK => ?_)
          | ((first | refine AWp.region (by rw [hc]; rfl) ?_ | refine AWp.skip ?_ | refine AWp.exit ?_ | refine AWp.label ?_ | refine AWp.ret ?_ | refine appK_g ?_); simp -implicitDefEqProofs (maxSteps := 1000000) (disch := omega) only [go_sem, wrap64, Int.tdiv_eq_ediv_of_nonneg, Int.tmod_eq_emod_of_nonneg, Nat.reduceAdd, Nat.reduceMul, Nat.reduceEqDiff, Nat.reduceLT, Nat.reduceLeDiff, Int.reduceEq, Int.reduceNeg, Int.reduceToNat, reduceCtorEq, eq_self, Bool.false_eq_true, Bool.true_eq_false, ↓reduceIte])
          | (refine hK _ ?_; clear hK)
          | (clear hK; refine hK _ ?_; clear hK)
          | (clear hK; clear hK; refine hK _ ?_; clear hK)
          | (clear hK; clear hK; clear hK; refine hK _ ?_; clear hK)
          | (refine AWp.cond ?_; simp -implicitDefEqProofs (maxSteps := 1000000) (disch := omega) only [go_sem, wrap64, Int.tdiv_eq_ediv_of_nonneg, Int.tmod_eq_emod_of_nonneg, Nat.reduceAdd, Nat.reduceMul, Nat.reduceEqDiff, Nat.reduceLT, Nat.reduceLeDiff, Int.reduceEq, Int.reduceNeg, Int.reduceToNat, reduceCtorEq, eq_self, Bool.false_eq_true, Bool.true_eq_false, ↓reduceIte]; try (refine ⟨fun hlt => ?_, fun hlt => ?_⟩ <;> (try simp only [decide_eq_true_eq, decide_eq_false_iff_not, beq_iff_eq, bne_iff_ne, ne_eq, beq_eq_false_iff_ne, bne_eq_false_iff_eq, Bool.true_eq_false, Bool.false_eq_true, Int.not_lt, Int.not_le, Decidable.not_not, gt_iff_lt, ge_iff_le, reduceCtorEq] at hlt) <;> (try exact hlt.elim)))
          | (refine AWp.block ?_)
          | ((first | refine gdO_split (fun hlt => ?_) (fun hlt => ?_) | refine tkO_split (fun hlt => ?_) (fun hlt => ?_) | refine opO_split (fun hlt => ?_) (fun hlt => ?_)) <;> have hgd := hlt <;> (try simp only [decide_eq_true_eq, decide_eq_false_iff_not, beq_iff_eq, bne_iff_ne, ne_eq, beq_eq_false_iff_ne, bne_eq_false_iff_eq, Bool.not_eq_true, Bool.not_eq_false, Bool.not_eq_eq_eq_not, Int.not_lt, Int.not_le, Decidable.not_not, gt_iff_lt, ge_iff_le] at hlt) <;> (simp -implicitDefEqProofs (maxSteps := 1000000) (disch := omega) only [go_sem, wrap64, Int.tdiv_eq_ediv_of_nonneg, Int.tmod_eq_emod_of_nonneg, Nat.reduceAdd, Nat.reduceMul, Nat.reduceEqDiff, Nat.reduceLT, Nat.reduceLeDiff, Int.reduceEq, Int.reduceNeg, Int.reduceToNat, reduceCtorEq, eq_self, Bool.false_eq_true, Bool.true_eq_false, ↓reduceIte, hgd]) <;> clear hgd)
          | (with_reducible refine And.intro ?_ ?_; · first | omega | assumption | exact ⟨_, _, rfl, rfl⟩)
          | fail
        refine ih2 ⟨k + 1, x / 10, c8 :: m⟩ _ ⟨by show k + 1 ≤ 9; omega, ?_, by show (c8 :: m).length = 9 * i + (k + 1); rw [List.length_cons, g3]; omega, by show 0 ≤ x / 10; omega, by show x / 10 < 1000000000; omega, ?_, ?_⟩ (by show 9 - (k + 1) < 9 - k; omega) (Sub.of0 hm id rfl ?_ ?_ (fun _ _ _ _ h => h))
        · intro y hy
          rcases List.mem_cons.1 hy with rfl | hy
          · omega
          · exact g2 y hy
        · show x / 10 < 10 ^ (9 - (k + 1))
          rw [show 9 - k = (9 - (k + 1)) + 1 by omega, Int.pow_succ] at g5
          omega
        · show ((dv 0 (c8 :: m) : Nat) : Int) + x / 10 * ((10 ^ (9 * i + (k + 1)) : Nat) : Int) = _
          rw [← g6, dv_cons0, g3, show c8.toNat - 48 = (x % 10).toNat by omega, show 9 * i + (k + 1) = (9 * i + k) + 1 by omega, Nat.pow_succ]
          have e1 : (((x % 10).toNat : Nat) : Int) = x % 10 := by omega
          have e2 : x = 10 * (x / 10) + x % 10 := by omega
          simp only [Int.natCast_add, Int.natCast_mul, e1]
          generalize ((10 ^ (9 * i + k) : Nat) : Int) = p
          generalize x / 10 = q at *
          generalize x % 10 = r at *
          subst e2
          show _ + q * (p * 10) = _
          grind
        all_goals (try dsimp only)
        all_goals (first | omega | (simp -implicitDefEqProofs (maxSteps := 1000000) (disch := omega) only [G108, id, go_sem, Nat.blt_eq, Nat.reduceAdd, Nat.reduceSub, Nat.reduceEqDiff, Nat.reduceLT, ↓reduceIte, and_true, true_and, AV.dat.injEq, DV.int.injEq, DV.bool.injEq, DV.lst.injEq, eq_self_iff_true]; first | done | omega | (simp; done) | (simp; omega)) | (simp; done) | (simp; omega) | skip)
    · have hk9 : k = 9 := by omega
      subst hk9
      have hx0 : x = 0 := by
        have : (10 : Int) ^ (9 - 9) = 1 := rfl
        rw [this] at g5; omega
      subst hx0
      refine ih ⟨i + 1, m⟩ _ ⟨by show i + 1 ≤ d.length; omega, g2, by show m.length = 9 * (i + 1); omega, ?_⟩ (by show d.length - (i + 1) < d.length - i; omega) (Sub.of0 hm id rfl ?_ ?_ (fun _ _ _ _ h => h))
      · show ((dv 0 m : Nat) : Int) = val (d.take (i + 1))
        rw [val_tk d i (by omega), Bp_nat]
        rw [Int.zero_mul, Int.add_zero] at g6
        rw [g6, Int.mul_comm]
      all_goals (try dsimp only)
      all_goals (first | omega | (simp -implicitDefEqProofs (maxSteps := 1000000) (disch := omega) only [F108, id, go_sem, Nat.blt_eq, Nat.reduceAdd, Nat.reduceSub, Nat.reduceEqDiff, Nat.reduceLT, ↓reduceIte, and_true, true_and, AV.dat.injEq, DV.int.injEq, DV.bool.injEq, DV.lst.injEq, eq_self_iff_true]; first | done | omega | (simp; done) | (simp; omega)) | (simp; done) | (simp; omega) | skip)
  · have hi : i = d.length := by omega
    subst hi
    rw [List.take_length] at h4
    refine AWp.loopInv H108 (fun m => m.length) (fun m => isD m ∧ 0 < m.length ∧ m.length ≤ 9 * d.length ∧ ((dv 0 m : Nat) : Int) = val d) l ⟨h2, by omega, by omega, h4⟩ (Sub.of0 hm id rfl ?_ ?_ (fun _ _ _ _ h => h)) ?_
    all_goals (try dsimp only)
    all_goals (first | omega | (simp -implicitDefEqProofs (maxSteps := 1000000) (disch := omega) only [H108, id, go_sem, Nat.blt_eq, Nat.reduceAdd, Nat.reduceSub, Nat.reduceEqDiff, Nat.reduceLT, ↓reduceIte, and_true, true_and, AV.dat.injEq, DV.int.injEq, DV.bool.injEq, DV.lst.injEq, eq_self_iff_true]; first | done | omega | (simp; done) | (simp; omega)) | (simp; done) | (simp; omega) | skip)
    rintro m ⟨g1, g2, g3, g4⟩ ih3
    simp only [H108]
    match m, g2 with
    | y :: r, _ =>
    have hsz : (bs (y :: r)).size = r.length + 1 := by rw [bs_size, List.length_cons]
    have hex : (bs (y :: r)).extract 1 (bs (y :: r)).size = bs r := by
      apply ByteArray.ext
      rw [hsz]
      simp [bs]
    have hby : byteAt (bs (y :: r)) 0 = (y.toNat : Int) := rfl
    repeat' first
      | (refine AWp.seq fun K hK => ?_)
      | ((first | refine AWp.region (by rw [hc]; rfl) ?_ | refine AWp.skip ?_ | refine AWp.exit ?_ | refine AWp.label ?_ | refine AWp.ret ?_ | refine appK_g ?_); simp -implicitDefEqProofs (maxSteps := 1000000) (disch := omega) only [go_sem, wrap64, Int.tdiv_eq_ediv_of_nonneg, Int.tmod_eq_emod_of_nonneg, Nat.reduceAdd, Nat.reduceMul, Nat.reduceEqDiff, Nat.reduceLT, Nat.reduceLeDiff, Int.reduceEq, Int.reduceNeg, Int.reduceToNat, reduceCtorEq, eq_self, Bool.false_eq_true, Bool.true_eq_false, ↓reduceIte])
      | (refine hK _ ?_; clear hK)
      | (clear hK; refine hK _ ?_; clear hK)
      | (clear hK; clear hK; refine hK _ ?_; clear hK)
      | (clear hK; clear hK; clear hK; refine hK _ ?_; clear hK)
      | (refine AWp.cond ?_; simp -implicitDefEqProofs (maxSteps := 1000000) (disch := omega) only [go_sem, wrap64, Int.tdiv_eq_ediv_of_nonneg, Int.tmod_eq_emod_of_nonneg, Nat.reduceAdd, Nat.reduceMul, Nat.reduceEqDiff, Nat.reduceLT, Nat.reduceLeDiff, Int.reduceEq, Int.reduceNeg, Int.reduceToNat, reduceCtorEq, eq_self, Bool.false_eq_true, Bool.true_eq_false, ↓reduceIte]; try (refine ⟨fun hlt => ?_, fun hlt => ?_⟩ <;> (try simp only [decide_eq_true_eq, decide_eq_false_iff_not, beq_iff_eq, bne_iff_ne, ne_eq, beq_eq_false_iff_ne, bne_eq_false_iff_eq, Bool.true_eq_false, Bool.false_eq_true, Int.not_lt, Int.not_le, Decidable.not_not, gt_iff_lt, ge_iff_le, reduceCtorEq] at hlt) <;> (try exact hlt.elim)))
      | (refine AWp.block ?_)
      | ((first | refine gdO_split (fun hlt => ?_) (fun hlt => ?_) | refine tkO_split (fun hlt => ?_) (fun hlt => ?_) | refine opO_split (fun hlt => ?_) (fun hlt => ?_)) <;> have hgd := hlt <;> (try simp only [decide_eq_true_eq, decide_eq_false_iff_not, beq_iff_eq, bne_iff_ne, ne_eq, beq_eq_false_iff_ne, bne_eq_false_iff_eq, Bool.not_eq_true, Bool.not_eq_false, Bool.not_eq_eq_eq_not, Int.not_lt, Int.not_le, Decidable.not_not, gt_iff_lt, ge_iff_le] at hlt) <;> (simp -implicitDefEqProofs (maxSteps := 1000000) (disch := omega) only [go_sem, wrap64, Int.tdiv_eq_ediv_of_nonneg, Int.tmod_eq_emod_of_nonneg, Nat.reduceAdd, Nat.reduceMul, Nat.reduceEqDiff, Nat.reduceLT, Nat.reduceLeDiff, Int.reduceEq, Int.reduceNeg, Int.reduceToNat, reduceCtorEq, eq_self, Bool.false_eq_true, Bool.true_eq_false, ↓reduceIte, hgd]) <;> clear hgd)
      | (with_reducible refine And.intro ?_ ?_; · first | omega | assumption | exact ⟨_, _, rfl, rfl⟩)
      | fail
    · refine ih3 r _ ⟨fun z hz => g1 z (by simp [hz]), by omega, by simp only [List.length_cons] at g3; omega, ?_⟩ (by simp) (Sub.of0 hm id rfl ?_ ?_ (fun _ _ _ _ h => h))
      · rw [← g4, dv_cons0, show y.toNat - 48 = 0 by omega, Nat.zero_mul, Nat.zero_add]
      · rw [hex]
        simp -implicitDefEqProofs only [H108, id, go_sem, ↓reduceIte]
      all_goals (try dsimp only)
      all_goals (first | omega | (simp -implicitDefEqProofs (maxSteps := 1000000) (disch := omega) only [H108, id, go_sem, Nat.blt_eq, Nat.reduceAdd, Nat.reduceSub, Nat.reduceEqDiff, Nat.reduceLT, ↓reduceIte, and_true, true_and, AV.dat.injEq, DV.int.injEq, DV.bool.injEq, DV.lst.injEq, eq_self_iff_true]; first | done | omega | (simp; done) | (simp; omega)) | (simp; done) | (simp; omega) | skip)
    · refine ⟨y :: r, rfl, ⟨g1, Nat.succ_pos _, .inr fun e => ?_⟩, g4⟩
      simp only [List.headD_cons] at e
      subst e
      exact absurd hby (by assumption)
    · exact ⟨y :: r, rfl, ⟨g1, Nat.succ_pos _, .inl (by rw [List.length_cons]; omega)⟩, g4⟩
end Go.Proofs.YthhjcfejgoddlaaGreatDoor
end

section
set_option linter.unusedSimpArgs false
set_option linter.unusedVariables false
set_option maxRecDepth 100000
namespace Go.Proofs.YthhjcfejgoddlaaGreatDoor
open Go Go.Abs Go.RowKit

theorem few1_pc (neg : Bool) (d : List Int) : PC Tryz.prog 97 [Zr neg d] (B (decide (100 < d.length))) := by
  refine PCr.pc (PCr.of tab_ok Tryz.func97 rfl rfl rfl fun c hc hm => ?_)
  rw [show Tryz.f97.ntmps = _ from Tryz.ntmps97] at hc
  simp only [Tryz.f97]
  repeat' first
    | (refine AWp.seq fun K hK => ?_)
    | ((first | refine AWp.region (by rw [hc]; rfl) ?_ | refine AWp.skip ?_ | refine AWp.exit ?_ | refine AWp.label ?_ | refine AWp.ret ?_ | refine appK_g ?_); simp -implicitDefEqProofs (maxSteps := 1000000) (disch := omega) only [go_sem, wrap64, Int.tdiv_eq_ediv_of_nonneg, Int.tmod_eq_emod_of_nonneg, Nat.reduceAdd, Nat.reduceMul, Nat.reduceEqDiff, Nat.reduceLT, Nat.reduceLeDiff, Int.reduceEq, Int.reduceNeg, Int.reduceToNat, reduceCtorEq, eq_self, Bool.false_eq_true, Bool.true_eq_false, ↓reduceIte])
    | (refine hK _ ?_; clear hK)
    | (clear hK; refine hK _ ?_; clear hK)
    | (clear hK; clear hK; refine hK _ ?_; clear hK)
    | (clear hK; clear hK; clear hK; refine hK _ ?_; clear hK)
    | (refine AWp.cond ?_; simp -implicitDefEqProofs (maxSteps := 1000000) (disch := omega) only [go_sem, wrap64, Int.tdiv_eq_ediv_of_nonneg, Int.tmod_eq_emod_of_nonneg, Nat.reduceAdd, Nat.reduceMul, Nat.reduceEqDiff, Nat.reduceLT, Nat.reduceLeDiff, Int.reduceEq, Int.reduceNeg, Int.reduceToNat, reduceCtorEq, eq_self, Bool.false_eq_true, Bool.true_eq_false, ↓reduceIte]; try (refine ⟨fun hlt => ?_, fun hlt => ?_⟩ <;> (try simp only [decide_eq_true_eq, decide_eq_false_iff_not, beq_iff_eq, bne_iff_ne, ne_eq, beq_eq_false_iff_ne, bne_eq_false_iff_eq, Bool.true_eq_false, Bool.false_eq_true, Int.not_lt, Int.not_le, Decidable.not_not, gt_iff_lt, ge_iff_le, reduceCtorEq] at hlt) <;> (try exact hlt.elim)))
    | (refine AWp.block ?_)
    | ((first | refine gdO_split (fun hlt => ?_) (fun hlt => ?_) | refine tkO_split (fun hlt => ?_) (fun hlt => ?_) | refine opO_split (fun hlt => ?_) (fun hlt => ?_)) <;> have hgd := hlt <;> (try simp only [decide_eq_true_eq, decide_eq_false_iff_not, beq_iff_eq, bne_iff_ne, ne_eq, beq_eq_false_iff_ne, bne_eq_false_iff_eq, Bool.not_eq_true, Bool.not_eq_false, Bool.not_eq_eq_eq_not, Int.not_lt, Int.not_le, Decidable.not_not, gt_iff_lt, ge_iff_le] at hlt) <;> (simp -implicitDefEqProofs (maxSteps := 1000000) (disch := omega) only [go_sem, wrap64, Int.tdiv_eq_ediv_of_nonneg, Int.tmod_eq_emod_of_nonneg, Nat.reduceAdd, Nat.reduceMul, Nat.reduceEqDiff, Nat.reduceLT, Nat.reduceLeDiff, Int.reduceEq, Int.reduceNeg, Int.reduceToNat, reduceCtorEq, eq_self, Bool.false_eq_true, Bool.true_eq_false, ↓reduceIte, hgd]) <;> clear hgd)
    | (with_reducible refine And.intro ?_ ?_; · first | omega | assumption | exact ⟨_, _, rfl, rfl⟩)
    | fail
  rw [decide_eq_decide]; omega
theorem few_pc (zs : List (Bool × List Int)) (lz : zs.length ≤ 1000000) : PC Tryz.prog 42 [LZ zs] (B (zs.all fun z => decide (z.2.length ≤ 100))) := by
  have h := hasZ_pc zs 97 (fun z => decide (100 < z.2.length)) lz (fun z => few1_pc z.1 z.2)
  rw [show (zs.all fun z => decide (z.2.length ≤ 100)) = !(zs.any fun z => decide (100 < z.2.length)) by
    rw [List.all_eq_not_any_not]; congr 1; congr 1; funext z; rw [← decide_not, decide_eq_decide]; omega]
  refine PCr.pc (PCr.of tab_ok Tryz.func42 rfl rfl rfl fun c hc hm => ?_)
  rw [show Tryz.f42.ntmps = _ from Tryz.ntmps42] at hc
  simp only [Tryz.f42]
  repeat' first
    | (refine AWp.seq fun K hK => ?_)
    | ((first | refine AWp.region (by rw [hc]; rfl) ?_ | refine AWp.skip ?_ | refine AWp.exit ?_ | refine AWp.label ?_ | refine AWp.ret ?_ | refine appK_g ?_); simp -implicitDefEqProofs (maxSteps := 1000000) (disch := omega) only [go_sem, wrap64, Int.tdiv_eq_ediv_of_nonneg, Int.tmod_eq_emod_of_nonneg, Nat.reduceAdd, Nat.reduceMul, Nat.reduceEqDiff, Nat.reduceLT, Nat.reduceLeDiff, Int.reduceEq, Int.reduceNeg, Int.reduceToNat, reduceCtorEq, eq_self, Bool.false_eq_true, Bool.true_eq_false, ↓reduceIte])
    | (refine hK _ ?_; clear hK)
    | (clear hK; refine hK _ ?_; clear hK)
    | (clear hK; clear hK; refine hK _ ?_; clear hK)
    | (clear hK; clear hK; clear hK; refine hK _ ?_; clear hK)
    | (refine AWp.cond ?_; simp -implicitDefEqProofs (maxSteps := 1000000) (disch := omega) only [go_sem, wrap64, Int.tdiv_eq_ediv_of_nonneg, Int.tmod_eq_emod_of_nonneg, Nat.reduceAdd, Nat.reduceMul, Nat.reduceEqDiff, Nat.reduceLT, Nat.reduceLeDiff, Int.reduceEq, Int.reduceNeg, Int.reduceToNat, reduceCtorEq, eq_self, Bool.false_eq_true, Bool.true_eq_false, ↓reduceIte]; try (refine ⟨fun hlt => ?_, fun hlt => ?_⟩ <;> (try simp only [decide_eq_true_eq, decide_eq_false_iff_not, beq_iff_eq, bne_iff_ne, ne_eq, beq_eq_false_iff_ne, bne_eq_false_iff_eq, Bool.true_eq_false, Bool.false_eq_true, Int.not_lt, Int.not_le, Decidable.not_not, gt_iff_lt, ge_iff_le, reduceCtorEq] at hlt) <;> (try exact hlt.elim)))
    | (refine AWp.block ?_)
    | ((first | refine gdO_split (fun hlt => ?_) (fun hlt => ?_) | refine tkO_split (fun hlt => ?_) (fun hlt => ?_) | refine opO_split (fun hlt => ?_) (fun hlt => ?_)) <;> have hgd := hlt <;> (try simp only [decide_eq_true_eq, decide_eq_false_iff_not, beq_iff_eq, bne_iff_ne, ne_eq, beq_eq_false_iff_ne, bne_eq_false_iff_eq, Bool.not_eq_true, Bool.not_eq_false, Bool.not_eq_eq_eq_not, Int.not_lt, Int.not_le, Decidable.not_not, gt_iff_lt, ge_iff_le] at hlt) <;> (simp -implicitDefEqProofs (maxSteps := 1000000) (disch := omega) only [go_sem, wrap64, Int.tdiv_eq_ediv_of_nonneg, Int.tmod_eq_emod_of_nonneg, Nat.reduceAdd, Nat.reduceMul, Nat.reduceEqDiff, Nat.reduceLT, Nat.reduceLeDiff, Int.reduceEq, Int.reduceNeg, Int.reduceToNat, reduceCtorEq, eq_self, Bool.false_eq_true, Bool.true_eq_false, ↓reduceIte, hgd]) <;> clear hgd)
    | (with_reducible refine And.intro ?_ ?_; · first | omega | assumption | exact ⟨_, _, rfl, rfl⟩)
    | ((first | refine ⟨_, h, ?_⟩); simp -implicitDefEqProofs (maxSteps := 1000000) (disch := omega) only [go_sem, wrap64, Int.tdiv_eq_ediv_of_nonneg, Int.tmod_eq_emod_of_nonneg, Nat.reduceAdd, Nat.reduceMul, Nat.reduceEqDiff, Nat.reduceLT, Nat.reduceLeDiff, Int.reduceEq, Int.reduceNeg, Int.reduceToNat, reduceCtorEq, eq_self, Bool.false_eq_true, Bool.true_eq_false, ↓reduceIte])
    | fail
theorem rsign_pc (neg : Bool) (d : List Int) : PC Tryz.prog 54 [Zr neg d] (I (if d = [] then 0 else if neg then -1 else 1)) := by
  have e : (d = []) ↔ d.length = 0 := List.length_eq_zero_iff.symm
  simp only [e]
  cases neg
  all_goals
    refine PCr.pc (PCr.of tab_ok Tryz.func54 rfl rfl rfl fun c hc hm => ?_)
    rw [show Tryz.f54.ntmps = _ from Tryz.ntmps54] at hc
    simp only [Tryz.f54]
    repeat' first
      | (refine AWp.seq fun K hK => ?_)
      | ((first | refine AWp.region (by rw [hc]; rfl) ?_ | refine AWp.skip ?_ | refine AWp.exit ?_ | refine AWp.label ?_ | refine AWp.ret ?_ | refine appK_g ?_); simp -implicitDefEqProofs (maxSteps := 1000000) (disch := omega) only [go_sem, wrap64, Int.tdiv_eq_ediv_of_nonneg, Int.tmod_eq_emod_of_nonneg, Nat.reduceAdd, Nat.reduceMul, Nat.reduceEqDiff, Nat.reduceLT, Nat.reduceLeDiff, Int.reduceEq, Int.reduceNeg, Int.reduceToNat, reduceCtorEq, eq_self, Bool.false_eq_true, Bool.true_eq_false, ↓reduceIte])
      | (refine hK _ ?_; clear hK)
      | (clear hK; refine hK _ ?_; clear hK)
      | (clear hK; clear hK; refine hK _ ?_; clear hK)
      | (clear hK; clear hK; clear hK; refine hK _ ?_; clear hK)
      | (refine AWp.cond ?_; simp -implicitDefEqProofs (maxSteps := 1000000) (disch := omega) only [go_sem, wrap64, Int.tdiv_eq_ediv_of_nonneg, Int.tmod_eq_emod_of_nonneg, Nat.reduceAdd, Nat.reduceMul, Nat.reduceEqDiff, Nat.reduceLT, Nat.reduceLeDiff, Int.reduceEq, Int.reduceNeg, Int.reduceToNat, reduceCtorEq, eq_self, Bool.false_eq_true, Bool.true_eq_false, ↓reduceIte]; try (refine ⟨fun hlt => ?_, fun hlt => ?_⟩ <;> (try simp only [decide_eq_true_eq, decide_eq_false_iff_not, beq_iff_eq, bne_iff_ne, ne_eq, beq_eq_false_iff_ne, bne_eq_false_iff_eq, Bool.true_eq_false, Bool.false_eq_true, Int.not_lt, Int.not_le, Decidable.not_not, gt_iff_lt, ge_iff_le, reduceCtorEq] at hlt) <;> (try exact hlt.elim)))
      | (refine AWp.block ?_)
      | ((first | refine gdO_split (fun hlt => ?_) (fun hlt => ?_) | refine tkO_split (fun hlt => ?_) (fun hlt => ?_) | refine opO_split (fun hlt => ?_) (fun hlt => ?_)) <;> have hgd := hlt <;> (try simp only [decide_eq_true_eq, decide_eq_false_iff_not, beq_iff_eq, bne_iff_ne, ne_eq, beq_eq_false_iff_ne, bne_eq_false_iff_eq, Bool.not_eq_true, Bool.not_eq_false, Bool.not_eq_eq_eq_not, Int.not_lt, Int.not_le, Decidable.not_not, gt_iff_lt, ge_iff_le] at hlt) <;> (simp -implicitDefEqProofs (maxSteps := 1000000) (disch := omega) only [go_sem, wrap64, Int.tdiv_eq_ediv_of_nonneg, Int.tmod_eq_emod_of_nonneg, Nat.reduceAdd, Nat.reduceMul, Nat.reduceEqDiff, Nat.reduceLT, Nat.reduceLeDiff, Int.reduceEq, Int.reduceNeg, Int.reduceToNat, reduceCtorEq, eq_self, Bool.false_eq_true, Bool.true_eq_false, ↓reduceIte, hgd]) <;> clear hgd)
      | (with_reducible refine And.intro ?_ ?_; · first | omega | assumption | exact ⟨_, _, rfl, rfl⟩)
      | fail
    all_goals first
      | (rw [if_pos (by omega)]; done)
      | (rw [if_neg (by omega)]; done)
      | contradiction
theorem trim_pc (s p : ByteArray) : PC Tryz.prog 107 [.dat (.str s), .dat (.str p)] (.dat (.str ⟨(Lib.trimPrefix s.data.toList p.data.toList).toArray⟩)) := by
  refine ⟨enters_of' Tryz.func107 rfl rfl, fun w A vs hgw hl hv => ?_⟩
  match vs, hl with
  | [v0, v1], _ =>
  have h := hv 0 _ rfl
  have h' := hv 1 _ rfl
  simp only [List.getD_cons_zero, List.getD_cons_succ] at h h'
  have e0 : v0 = .string s := by cases h with | dat _ _ hd => cases hd; rfl
  have e1 : v1 = .string p := by cases h' with | dat _ _ hd => cases hd; rfl
  subst e0; subst e1
  refine (Tryz.strings_TrimPrefix s p w).mono ?_
  rintro e w' ⟨rfl, rfl⟩
  exact ⟨_, rfl, Below.refl _ _, .dat _ _ (.str _)⟩
theorem Text_bad (neg : Bool) (d : List Int) (ld : d.length ≤ 1000000) (hb : ¬ okI neg d) : PC Tryz.prog 65 [Zr neg d] (.tup [.dat (.str ⟨#[]⟩), I 10]) := by
  have h := Check_pc neg d ld
  rw [if_neg hb] at h
  refine PCr.pc (PCr.of tab_ok Tryz.func65 rfl rfl rfl fun c hc hm => ?_)
  rw [show Tryz.f65.ntmps = _ from Tryz.ntmps65] at hc
  simp only [Tryz.f65]
  repeat' first
    | (exact absurd hlt (by decide))
    | (refine AWp.seq fun K hK => ?_)
    | ((first | refine AWp.region (by rw [hc]; rfl) ?_ | refine AWp.skip ?_ | refine AWp.exit ?_ | refine AWp.label ?_ | refine AWp.ret ?_ | refine appK_g ?_); simp -implicitDefEqProofs (maxSteps := 1000000) (disch := omega) only [go_sem, wrap64, Int.tdiv_eq_ediv_of_nonneg, Int.tmod_eq_emod_of_nonneg, Nat.reduceAdd, Nat.reduceMul, Nat.reduceEqDiff, Nat.reduceLT, Nat.reduceLeDiff, Int.reduceEq, Int.reduceNeg, Int.reduceToNat, reduceCtorEq, eq_self, Bool.false_eq_true, Bool.true_eq_false, ↓reduceIte, Int.reduceBNe, Int.reduceBEq, Bool.not_true, Bool.not_false])
    | (refine hK _ ?_; clear hK)
    | (clear hK; refine hK _ ?_; clear hK)
    | (clear hK; clear hK; refine hK _ ?_; clear hK)
    | (clear hK; clear hK; clear hK; refine hK _ ?_; clear hK)
    | (refine AWp.cond ?_; simp -implicitDefEqProofs (maxSteps := 1000000) (disch := omega) only [go_sem, wrap64, Int.tdiv_eq_ediv_of_nonneg, Int.tmod_eq_emod_of_nonneg, Nat.reduceAdd, Nat.reduceMul, Nat.reduceEqDiff, Nat.reduceLT, Nat.reduceLeDiff, Int.reduceEq, Int.reduceNeg, Int.reduceToNat, reduceCtorEq, eq_self, Bool.false_eq_true, Bool.true_eq_false, ↓reduceIte, Int.reduceBNe, Int.reduceBEq, Bool.not_true, Bool.not_false]; try (refine ⟨fun hlt => ?_, fun hlt => ?_⟩ <;> (try simp only [decide_eq_true_eq, decide_eq_false_iff_not, beq_iff_eq, bne_iff_ne, ne_eq, beq_eq_false_iff_ne, bne_eq_false_iff_eq, Bool.true_eq_false, Bool.false_eq_true, Int.not_lt, Int.not_le, Decidable.not_not, gt_iff_lt, ge_iff_le, reduceCtorEq] at hlt) <;> (try exact hlt.elim)))
    | (refine AWp.block ?_)
    | ((first | refine gdO_split (fun hlt => ?_) (fun hlt => ?_) | refine tkO_split (fun hlt => ?_) (fun hlt => ?_) | refine opO_split (fun hlt => ?_) (fun hlt => ?_)) <;> have hgd := hlt <;> (try simp only [decide_eq_true_eq, decide_eq_false_iff_not, beq_iff_eq, bne_iff_ne, ne_eq, beq_eq_false_iff_ne, bne_eq_false_iff_eq, Bool.not_eq_true, Bool.not_eq_false, Bool.not_eq_eq_eq_not, Int.not_lt, Int.not_le, Decidable.not_not, gt_iff_lt, ge_iff_le] at hlt) <;> (simp -implicitDefEqProofs (maxSteps := 1000000) (disch := omega) only [go_sem, wrap64, Int.tdiv_eq_ediv_of_nonneg, Int.tmod_eq_emod_of_nonneg, Nat.reduceAdd, Nat.reduceMul, Nat.reduceEqDiff, Nat.reduceLT, Nat.reduceLeDiff, Int.reduceEq, Int.reduceNeg, Int.reduceToNat, reduceCtorEq, eq_self, Bool.false_eq_true, Bool.true_eq_false, ↓reduceIte, Int.reduceBNe, Int.reduceBEq, Bool.not_true, Bool.not_false, hgd]) <;> clear hgd)
    | (with_reducible refine And.intro ?_ ?_; · first | omega | assumption | exact ⟨_, _, rfl, rfl⟩)
    | ((first | refine ⟨_, h, ?_⟩); simp -implicitDefEqProofs (maxSteps := 1000000) (disch := omega) only [go_sem, wrap64, Int.tdiv_eq_ediv_of_nonneg, Int.tmod_eq_emod_of_nonneg, Nat.reduceAdd, Nat.reduceMul, Nat.reduceEqDiff, Nat.reduceLT, Nat.reduceLeDiff, Int.reduceEq, Int.reduceNeg, Int.reduceToNat, reduceCtorEq, eq_self, Bool.false_eq_true, Bool.true_eq_false, ↓reduceIte, Int.reduceBNe, Int.reduceBEq, Bool.not_true, Bool.not_false])
    | fail
/-- The digits of a text, without the sign. -/
theorem decDigits_head : ∀ u : Nat, u ≠ 0 → (Lib.decDigits u).headD 0 ≠ 48
  | u, hu => by
    rw [Lib.decDigits]
    split
    · rename_i h
      simp only [List.headD_cons]
      intro e
      have := congrArg UInt8.toNat e
      rw [byte_ofNat h] at this
      simp at this; omega
    · rename_i h
      have hd := decDigits_head (u / 10) (by omega)
      have hp := decDigits_pos (u / 10)
      match hh : Lib.decDigits (u / 10), hp with
      | y :: r, _ =>
        rw [hh] at hd
        simpa using hd
  termination_by u => u
theorem wr_canon (n : Nat) (hn : lenZ (n : Int) ≤ 40) : canon (wr false (D n)) ∧ dv 0 (wr false (D n)) = n := by
  have hd := dig_D n
  by_cases h0 : n = 0
  · subst h0
    rw [D_zero]
    refine ⟨⟨?_, by decide, .inl rfl⟩, by decide⟩
    intro x hx
    have : x = 48 := by simpa [wr, wrh] using hx
    subst this; decide
  · have hne : D n ≠ [] := fun e => h0 (D_nil.1 e)
    have e : wr false (D n) = (List.range (D n).length).flatMap (chk (D n)) := by
      unfold wr wrh; rw [if_neg hne]; rfl
    rw [e]
    have hv := body_dv hd (D n).length (Nat.le_refl _)
    rw [Nat.sub_self, List.drop_zero, val_D] at hv
    refine ⟨⟨body_isD hd _, ?_, .inr ?_⟩, by exact_mod_cast hv⟩
    · have := wr_pos false (D n) hd
      unfold wrh at this; rw [if_neg hne] at this; simpa using this
    · obtain ⟨m, hm⟩ : ∃ m, (D n).length = m + 1 := ⟨(D n).length - 1, by have : (D n).length ≠ 0 := fun e => hne (List.eq_nil_of_length_eq_zero e); omega⟩
      rw [hm, List.range_succ_eq_map, List.flatMap_cons, chk_0]
      have hk := (okI_def _ _).1 (okZ hn)
      rw [Int.natAbs_natCast] at hk
      have ht := hk.2.2.1 (by omega)
      have hr := dig_getD hd ((D n).length - 1)
      rw [Nat.sub_zero, itoa_dec hr.1]
      have hd2 := decDigits_head ((D n).getD ((D n).length - 1) 0).toNat (by omega)
      have hp := decDigits_pos ((D n).getD ((D n).length - 1) 0).toNat
      match hh : Lib.decDigits ((D n).getD ((D n).length - 1) 0).toNat, hp with
      | y :: r, _ =>
        rw [hh] at hd2
        simpa using hd2
theorem trim_wr (neg : Bool) (d : List Int) (hd : isD (wr false d)) : Lib.trimPrefix (bs (wr neg d)).data.toList [45] = wr false d := by
  rw [bs_toList]
  cases neg
  · unfold Lib.trimPrefix
    rw [if_neg]
    intro h
    match hw : wr false d with
    | [] => rw [hw] at h; exact absurd h (by decide)
    | y :: r =>
      rw [hw] at h hd
      have h1 := hd y (by simp)
      simp [Lib.hasPrefix] at h
      subst h
      exact absurd h1.1 (by decide)
  · have e : wr true d = 45 :: wr false d := by simp [wr, wrh]
    rw [e]
    unfold Lib.trimPrefix
    rw [if_pos (by simp [Lib.hasPrefix])]
    rfl
theorem Digits_ok (x : Int) (lx : lenZ x ≤ 40) : PC Tryz.prog 51 [Z x] (.tup [I (wr false (D x.natAbs)).length, I 0]) := by
  have h := Text_ok x lx
  unfold textR at h
  have t := trim_pc (bs (wr (decide (x < 0)) (D x.natAbs))) ⟨#[45]⟩
  have hc := wr_canon x.natAbs (by unfold lenZ at *; rwa [Int.natAbs_natCast])
  rw [show (⟨#[45]⟩ : ByteArray).data.toList = [45] from rfl, trim_wr _ _ hc.1.1] at t
  have hsz : (⟨(wr false (D x.natAbs)).toArray⟩ : ByteArray).size = (wr false (D x.natAbs)).length := bs_size _
  have hle := wr_len (neg := false) (dig_D x.natAbs)
  unfold lenZ at lx
  have h' : PC Tryz.prog 65 [Zr (decide (x < 0)) (D x.natAbs)] (.tup [.dat (.str (bs (wr (decide (x < 0)) (D x.natAbs)))), I 0]) := h
  clear h hc
  refine PCr.pc (PCr.of tab_ok Tryz.func51 rfl rfl rfl fun c hc hm => ?_)
  rw [show Tryz.f51.ntmps = _ from Tryz.ntmps51] at hc
  simp only [Tryz.f51]
  repeat' first
    | (exact absurd hlt (by decide))
    | (refine AWp.seq fun K hK => ?_)
    | ((first | refine AWp.region (by rw [hc]; rfl) ?_ | refine AWp.skip ?_ | refine AWp.exit ?_ | refine AWp.label ?_ | refine AWp.ret ?_ | refine appK_g ?_); simp -implicitDefEqProofs (maxSteps := 1000000) (disch := omega) only [go_sem, wrap64, Int.tdiv_eq_ediv_of_nonneg, Int.tmod_eq_emod_of_nonneg, Nat.reduceAdd, Nat.reduceMul, Nat.reduceEqDiff, Nat.reduceLT, Nat.reduceLeDiff, Int.reduceEq, Int.reduceNeg, Int.reduceToNat, reduceCtorEq, eq_self, Bool.false_eq_true, Bool.true_eq_false, ↓reduceIte, Int.reduceBNe, Int.reduceBEq, Bool.not_true, Bool.not_false, hsz])
    | (refine hK _ ?_; clear hK)
    | (clear hK; refine hK _ ?_; clear hK)
    | (clear hK; clear hK; refine hK _ ?_; clear hK)
    | (clear hK; clear hK; clear hK; refine hK _ ?_; clear hK)
    | (refine AWp.cond ?_; simp -implicitDefEqProofs (maxSteps := 1000000) (disch := omega) only [go_sem, wrap64, Int.tdiv_eq_ediv_of_nonneg, Int.tmod_eq_emod_of_nonneg, Nat.reduceAdd, Nat.reduceMul, Nat.reduceEqDiff, Nat.reduceLT, Nat.reduceLeDiff, Int.reduceEq, Int.reduceNeg, Int.reduceToNat, reduceCtorEq, eq_self, Bool.false_eq_true, Bool.true_eq_false, ↓reduceIte, Int.reduceBNe, Int.reduceBEq, Bool.not_true, Bool.not_false, hsz]; try (refine ⟨fun hlt => ?_, fun hlt => ?_⟩ <;> (try simp only [decide_eq_true_eq, decide_eq_false_iff_not, beq_iff_eq, bne_iff_ne, ne_eq, beq_eq_false_iff_ne, bne_eq_false_iff_eq, Bool.true_eq_false, Bool.false_eq_true, Int.not_lt, Int.not_le, Decidable.not_not, gt_iff_lt, ge_iff_le, reduceCtorEq] at hlt) <;> (try exact hlt.elim)))
    | (refine AWp.block ?_)
    | ((first | refine gdO_split (fun hlt => ?_) (fun hlt => ?_) | refine tkO_split (fun hlt => ?_) (fun hlt => ?_) | refine opO_split (fun hlt => ?_) (fun hlt => ?_)) <;> have hgd := hlt <;> (try simp only [decide_eq_true_eq, decide_eq_false_iff_not, beq_iff_eq, bne_iff_ne, ne_eq, beq_eq_false_iff_ne, bne_eq_false_iff_eq, Bool.not_eq_true, Bool.not_eq_false, Bool.not_eq_eq_eq_not, Int.not_lt, Int.not_le, Decidable.not_not, gt_iff_lt, ge_iff_le] at hlt) <;> (simp -implicitDefEqProofs (maxSteps := 1000000) (disch := omega) only [go_sem, wrap64, Int.tdiv_eq_ediv_of_nonneg, Int.tmod_eq_emod_of_nonneg, Nat.reduceAdd, Nat.reduceMul, Nat.reduceEqDiff, Nat.reduceLT, Nat.reduceLeDiff, Int.reduceEq, Int.reduceNeg, Int.reduceToNat, reduceCtorEq, eq_self, Bool.false_eq_true, Bool.true_eq_false, ↓reduceIte, Int.reduceBNe, Int.reduceBEq, Bool.not_true, Bool.not_false, hsz, hgd]) <;> clear hgd)
    | (with_reducible refine And.intro ?_ ?_; · first | omega | assumption | exact ⟨_, _, rfl, rfl⟩)
    | ((first | refine ⟨_, h', ?_⟩ | refine ⟨_, t, ?_⟩); simp -implicitDefEqProofs (maxSteps := 1000000) (disch := omega) only [go_sem, wrap64, Int.tdiv_eq_ediv_of_nonneg, Int.tmod_eq_emod_of_nonneg, Nat.reduceAdd, Nat.reduceMul, Nat.reduceEqDiff, Nat.reduceLT, Nat.reduceLeDiff, Int.reduceEq, Int.reduceNeg, Int.reduceToNat, reduceCtorEq, eq_self, Bool.false_eq_true, Bool.true_eq_false, ↓reduceIte, Int.reduceBNe, Int.reduceBEq, Bool.not_true, Bool.not_false, hsz])
    | fail
theorem Digits_bad (neg : Bool) (d : List Int) (ld : d.length ≤ 1000000) (hb : ¬ okI neg d) : PC Tryz.prog 51 [Zr neg d] (.tup [I 0, I 10]) := by
  have h := Text_bad neg d ld hb
  refine PCr.pc (PCr.of tab_ok Tryz.func51 rfl rfl rfl fun c hc hm => ?_)
  rw [show Tryz.f51.ntmps = _ from Tryz.ntmps51] at hc
  simp only [Tryz.f51]
  repeat' first
    | (exact absurd hlt (by decide))
    | (refine AWp.seq fun K hK => ?_)
    | ((first | refine AWp.region (by rw [hc]; rfl) ?_ | refine AWp.skip ?_ | refine AWp.exit ?_ | refine AWp.label ?_ | refine AWp.ret ?_ | refine appK_g ?_); simp -implicitDefEqProofs (maxSteps := 1000000) (disch := omega) only [go_sem, wrap64, Int.tdiv_eq_ediv_of_nonneg, Int.tmod_eq_emod_of_nonneg, Nat.reduceAdd, Nat.reduceMul, Nat.reduceEqDiff, Nat.reduceLT, Nat.reduceLeDiff, Int.reduceEq, Int.reduceNeg, Int.reduceToNat, reduceCtorEq, eq_self, Bool.false_eq_true, Bool.true_eq_false, ↓reduceIte, Int.reduceBNe, Int.reduceBEq, Bool.not_true, Bool.not_false])
    | (refine hK _ ?_; clear hK)
    | (clear hK; refine hK _ ?_; clear hK)
    | (clear hK; clear hK; refine hK _ ?_; clear hK)
    | (clear hK; clear hK; clear hK; refine hK _ ?_; clear hK)
    | (refine AWp.cond ?_; simp -implicitDefEqProofs (maxSteps := 1000000) (disch := omega) only [go_sem, wrap64, Int.tdiv_eq_ediv_of_nonneg, Int.tmod_eq_emod_of_nonneg, Nat.reduceAdd, Nat.reduceMul, Nat.reduceEqDiff, Nat.reduceLT, Nat.reduceLeDiff, Int.reduceEq, Int.reduceNeg, Int.reduceToNat, reduceCtorEq, eq_self, Bool.false_eq_true, Bool.true_eq_false, ↓reduceIte, Int.reduceBNe, Int.reduceBEq, Bool.not_true, Bool.not_false]; try (refine ⟨fun hlt => ?_, fun hlt => ?_⟩ <;> (try simp only [decide_eq_true_eq, decide_eq_false_iff_not, beq_iff_eq, bne_iff_ne, ne_eq, beq_eq_false_iff_ne, bne_eq_false_iff_eq, Bool.true_eq_false, Bool.false_eq_true, Int.not_lt, Int.not_le, Decidable.not_not, gt_iff_lt, ge_iff_le, reduceCtorEq] at hlt) <;> (try exact hlt.elim)))
    | (refine AWp.block ?_)
    | ((first | refine gdO_split (fun hlt => ?_) (fun hlt => ?_) | refine tkO_split (fun hlt => ?_) (fun hlt => ?_) | refine opO_split (fun hlt => ?_) (fun hlt => ?_)) <;> have hgd := hlt <;> (try simp only [decide_eq_true_eq, decide_eq_false_iff_not, beq_iff_eq, bne_iff_ne, ne_eq, beq_eq_false_iff_ne, bne_eq_false_iff_eq, Bool.not_eq_true, Bool.not_eq_false, Bool.not_eq_eq_eq_not, Int.not_lt, Int.not_le, Decidable.not_not, gt_iff_lt, ge_iff_le] at hlt) <;> (simp -implicitDefEqProofs (maxSteps := 1000000) (disch := omega) only [go_sem, wrap64, Int.tdiv_eq_ediv_of_nonneg, Int.tmod_eq_emod_of_nonneg, Nat.reduceAdd, Nat.reduceMul, Nat.reduceEqDiff, Nat.reduceLT, Nat.reduceLeDiff, Int.reduceEq, Int.reduceNeg, Int.reduceToNat, reduceCtorEq, eq_self, Bool.false_eq_true, Bool.true_eq_false, ↓reduceIte, Int.reduceBNe, Int.reduceBEq, Bool.not_true, Bool.not_false, hgd]) <;> clear hgd)
    | (with_reducible refine And.intro ?_ ?_; · first | omega | assumption | exact ⟨_, _, rfl, rfl⟩)
    | ((first | refine ⟨_, h, ?_⟩); simp -implicitDefEqProofs (maxSteps := 1000000) (disch := omega) only [go_sem, wrap64, Int.tdiv_eq_ediv_of_nonneg, Int.tmod_eq_emod_of_nonneg, Nat.reduceAdd, Nat.reduceMul, Nat.reduceEqDiff, Nat.reduceLT, Nat.reduceLeDiff, Int.reduceEq, Int.reduceNeg, Int.reduceToNat, reduceCtorEq, eq_self, Bool.false_eq_true, Bool.true_eq_false, ↓reduceIte, Int.reduceBNe, Int.reduceBEq, Bool.not_true, Bool.not_false])
    | fail
theorem rDigits_bad (neg : Bool) (d : List Int) (hb : ¬ okI neg d) : PC Tryz.prog 52 [Zr neg d] (.tup [I 0, I 10]) := by
  have h := Is_pc neg d
  rw [decide_eq_false hb] at h
  refine PCr.pc (PCr.of tab_ok Tryz.func52 rfl rfl rfl fun c hc hm => ?_)
  rw [show Tryz.f52.ntmps = _ from Tryz.ntmps52] at hc
  simp only [Tryz.f52]
  repeat' first
    | (exact absurd hlt (by decide))
    | (refine AWp.seq fun K hK => ?_)
    | ((first | refine AWp.region (by rw [hc]; rfl) ?_ | refine AWp.skip ?_ | refine AWp.exit ?_ | refine AWp.label ?_ | refine AWp.ret ?_ | refine appK_g ?_); simp -implicitDefEqProofs (maxSteps := 1000000) (disch := omega) only [go_sem, wrap64, Int.tdiv_eq_ediv_of_nonneg, Int.tmod_eq_emod_of_nonneg, Nat.reduceAdd, Nat.reduceMul, Nat.reduceEqDiff, Nat.reduceLT, Nat.reduceLeDiff, Int.reduceEq, Int.reduceNeg, Int.reduceToNat, reduceCtorEq, eq_self, Bool.false_eq_true, Bool.true_eq_false, ↓reduceIte, Int.reduceBNe, Int.reduceBEq, Bool.not_true, Bool.not_false])
    | (refine hK _ ?_; clear hK)
    | (clear hK; refine hK _ ?_; clear hK)
    | (clear hK; clear hK; refine hK _ ?_; clear hK)
    | (clear hK; clear hK; clear hK; refine hK _ ?_; clear hK)
    | (refine AWp.cond ?_; simp -implicitDefEqProofs (maxSteps := 1000000) (disch := omega) only [go_sem, wrap64, Int.tdiv_eq_ediv_of_nonneg, Int.tmod_eq_emod_of_nonneg, Nat.reduceAdd, Nat.reduceMul, Nat.reduceEqDiff, Nat.reduceLT, Nat.reduceLeDiff, Int.reduceEq, Int.reduceNeg, Int.reduceToNat, reduceCtorEq, eq_self, Bool.false_eq_true, Bool.true_eq_false, ↓reduceIte, Int.reduceBNe, Int.reduceBEq, Bool.not_true, Bool.not_false]; try (refine ⟨fun hlt => ?_, fun hlt => ?_⟩ <;> (try simp only [decide_eq_true_eq, decide_eq_false_iff_not, beq_iff_eq, bne_iff_ne, ne_eq, beq_eq_false_iff_ne, bne_eq_false_iff_eq, Bool.true_eq_false, Bool.false_eq_true, Int.not_lt, Int.not_le, Decidable.not_not, gt_iff_lt, ge_iff_le, reduceCtorEq] at hlt) <;> (try exact hlt.elim)))
    | (refine AWp.block ?_)
    | ((first | refine gdO_split (fun hlt => ?_) (fun hlt => ?_) | refine tkO_split (fun hlt => ?_) (fun hlt => ?_) | refine opO_split (fun hlt => ?_) (fun hlt => ?_)) <;> have hgd := hlt <;> (try simp only [decide_eq_true_eq, decide_eq_false_iff_not, beq_iff_eq, bne_iff_ne, ne_eq, beq_eq_false_iff_ne, bne_eq_false_iff_eq, Bool.not_eq_true, Bool.not_eq_false, Bool.not_eq_eq_eq_not, Int.not_lt, Int.not_le, Decidable.not_not, gt_iff_lt, ge_iff_le] at hlt) <;> (simp -implicitDefEqProofs (maxSteps := 1000000) (disch := omega) only [go_sem, wrap64, Int.tdiv_eq_ediv_of_nonneg, Int.tmod_eq_emod_of_nonneg, Nat.reduceAdd, Nat.reduceMul, Nat.reduceEqDiff, Nat.reduceLT, Nat.reduceLeDiff, Int.reduceEq, Int.reduceNeg, Int.reduceToNat, reduceCtorEq, eq_self, Bool.false_eq_true, Bool.true_eq_false, ↓reduceIte, Int.reduceBNe, Int.reduceBEq, Bool.not_true, Bool.not_false, hgd]) <;> clear hgd)
    | (with_reducible refine And.intro ?_ ?_; · first | omega | assumption | exact ⟨_, _, rfl, rfl⟩)
    | ((first | refine ⟨_, h, ?_⟩); simp -implicitDefEqProofs (maxSteps := 1000000) (disch := omega) only [go_sem, wrap64, Int.tdiv_eq_ediv_of_nonneg, Int.tmod_eq_emod_of_nonneg, Nat.reduceAdd, Nat.reduceMul, Nat.reduceEqDiff, Nat.reduceLT, Nat.reduceLeDiff, Int.reduceEq, Int.reduceNeg, Int.reduceToNat, reduceCtorEq, eq_self, Bool.false_eq_true, Bool.true_eq_false, ↓reduceIte, Int.reduceBNe, Int.reduceBEq, Bool.not_true, Bool.not_false])
    | fail
theorem rDigits_ok (x : Int) (lx : lenZ x ≤ 40) : PC Tryz.prog 52 [Z x] (.tup [I (wr false (D x.natAbs)).length, I 0]) := by
  have h := Is_pc (decide (x < 0)) (D x.natAbs)
  rw [decide_eq_true (okZ lx)] at h
  have hp := (rdig_pc (D x.natAbs) (dig_D _) (by unfold lenZ at lx; omega)).px
  refine PCr.pc ?_
  refine PCr.of tab_ok Tryz.func52 rfl rfl rfl fun c hc hm => ?_
  rw [show Tryz.f52.ntmps = _ from Tryz.ntmps52] at hc
  simp only [Tryz.f52]
  repeat' first
    | (refine AWp.regionP (id := 4) 2 rfl rfl rfl (by rw [hc]; rfl) ?_; (try dsimp only [List.take_succ_cons, List.take_zero, List.drop_succ_cons, List.drop_zero]); simp -implicitDefEqProofs (maxSteps := 1000000) (disch := omega) only [go_sem, wrap64, Int.tdiv_eq_ediv_of_nonneg, Int.tmod_eq_emod_of_nonneg, Nat.reduceAdd, Nat.reduceMul, Nat.reduceEqDiff, Nat.reduceLT, Nat.reduceLeDiff, Int.reduceEq, Int.reduceNeg, Int.reduceToNat, reduceCtorEq, eq_self, Bool.false_eq_true, Bool.true_eq_false, ↓reduceIte, Int.reduceBNe, Int.reduceBEq, Bool.not_true, Bool.not_false])
    | (exact absurd hlt (by decide))
    | (refine AWp.seq fun K hK => ?_)
    | ((first | refine AWp.region (by rw [hc]; rfl) ?_ | refine AWp.skip ?_ | refine AWp.exit ?_ | refine AWp.label ?_ | refine AWp.ret ?_ | refine appK_g ?_); simp -implicitDefEqProofs (maxSteps := 1000000) (disch := omega) only [go_sem, wrap64, Int.tdiv_eq_ediv_of_nonneg, Int.tmod_eq_emod_of_nonneg, Nat.reduceAdd, Nat.reduceMul, Nat.reduceEqDiff, Nat.reduceLT, Nat.reduceLeDiff, Int.reduceEq, Int.reduceNeg, Int.reduceToNat, reduceCtorEq, eq_self, Bool.false_eq_true, Bool.true_eq_false, ↓reduceIte, Int.reduceBNe, Int.reduceBEq, Bool.not_true, Bool.not_false])
    | (refine hK _ ?_; clear hK)
    | (clear hK; refine hK _ ?_; clear hK)
    | (clear hK; clear hK; refine hK _ ?_; clear hK)
    | (clear hK; clear hK; clear hK; refine hK _ ?_; clear hK)
    | (refine AWp.cond ?_; simp -implicitDefEqProofs (maxSteps := 1000000) (disch := omega) only [go_sem, wrap64, Int.tdiv_eq_ediv_of_nonneg, Int.tmod_eq_emod_of_nonneg, Nat.reduceAdd, Nat.reduceMul, Nat.reduceEqDiff, Nat.reduceLT, Nat.reduceLeDiff, Int.reduceEq, Int.reduceNeg, Int.reduceToNat, reduceCtorEq, eq_self, Bool.false_eq_true, Bool.true_eq_false, ↓reduceIte, Int.reduceBNe, Int.reduceBEq, Bool.not_true, Bool.not_false]; try (refine ⟨fun hlt => ?_, fun hlt => ?_⟩ <;> (try simp only [decide_eq_true_eq, decide_eq_false_iff_not, beq_iff_eq, bne_iff_ne, ne_eq, beq_eq_false_iff_ne, bne_eq_false_iff_eq, Bool.true_eq_false, Bool.false_eq_true, Int.not_lt, Int.not_le, Decidable.not_not, gt_iff_lt, ge_iff_le, reduceCtorEq] at hlt) <;> (try exact hlt.elim)))
    | (refine AWp.block ?_)
    | ((first | refine gdO_split (fun hlt => ?_) (fun hlt => ?_) | refine tkO_split (fun hlt => ?_) (fun hlt => ?_) | refine opO_split (fun hlt => ?_) (fun hlt => ?_)) <;> have hgd := hlt <;> (try simp only [decide_eq_true_eq, decide_eq_false_iff_not, beq_iff_eq, bne_iff_ne, ne_eq, beq_eq_false_iff_ne, bne_eq_false_iff_eq, Bool.not_eq_true, Bool.not_eq_false, Bool.not_eq_eq_eq_not, Int.not_lt, Int.not_le, Decidable.not_not, gt_iff_lt, ge_iff_le] at hlt) <;> (simp -implicitDefEqProofs (maxSteps := 1000000) (disch := omega) only [go_sem, wrap64, Int.tdiv_eq_ediv_of_nonneg, Int.tmod_eq_emod_of_nonneg, Nat.reduceAdd, Nat.reduceMul, Nat.reduceEqDiff, Nat.reduceLT, Nat.reduceLeDiff, Int.reduceEq, Int.reduceNeg, Int.reduceToNat, reduceCtorEq, eq_self, Bool.false_eq_true, Bool.true_eq_false, ↓reduceIte, Int.reduceBNe, Int.reduceBEq, Bool.not_true, Bool.not_false, hgd]) <;> clear hgd)
    | (with_reducible refine And.intro ?_ ?_; · first | omega | assumption | exact ⟨_, _, rfl, rfl⟩)
    | ((first | refine ⟨_, h, ?_⟩); simp -implicitDefEqProofs (maxSteps := 1000000) (disch := omega) only [go_sem, wrap64, Int.tdiv_eq_ediv_of_nonneg, Int.tmod_eq_emod_of_nonneg, Nat.reduceAdd, Nat.reduceMul, Nat.reduceEqDiff, Nat.reduceLT, Nat.reduceLeDiff, Int.reduceEq, Int.reduceNeg, Int.reduceToNat, reduceCtorEq, eq_self, Bool.false_eq_true, Bool.true_eq_false, ↓reduceIte, Int.reduceBNe, Int.reduceBEq, Bool.not_true, Bool.not_false])
    | fail
  refine ⟨_, _, hp, fun r hr => ?_, fun v hv => hv.elim⟩
  obtain ⟨l, rfl, hc1, hc2⟩ := hr
  have hw := wr_canon x.natAbs (by unfold lenZ at *; rwa [Int.natAbs_natCast])
  rw [val_D] at hc2
  have el := canon_len hc1 hw.1 (by rw [hw.2]; exact_mod_cast hc2)
  have hsz := bs_size l
  simp -implicitDefEqProofs (maxSteps := 1000000) (disch := omega) only [go_sem, wrap64, Int.tdiv_eq_ediv_of_nonneg, Int.tmod_eq_emod_of_nonneg, Nat.reduceAdd, Nat.reduceMul, Nat.reduceEqDiff, Nat.reduceLT, Nat.reduceLeDiff, Int.reduceEq, Int.reduceNeg, Int.reduceToNat, reduceCtorEq, eq_self, Bool.false_eq_true, Bool.true_eq_false, ↓reduceIte]
  repeat' first
    | (refine AWp.seq fun K hK => ?_)
    | ((first | refine AWp.region (by rw [hc]; rfl) ?_ | refine AWp.skip ?_ | refine AWp.exit ?_ | refine AWp.label ?_ | refine AWp.ret ?_ | refine appK_g ?_); simp -implicitDefEqProofs (maxSteps := 1000000) (disch := omega) only [go_sem, wrap64, Int.tdiv_eq_ediv_of_nonneg, Int.tmod_eq_emod_of_nonneg, Nat.reduceAdd, Nat.reduceMul, Nat.reduceEqDiff, Nat.reduceLT, Nat.reduceLeDiff, Int.reduceEq, Int.reduceNeg, Int.reduceToNat, reduceCtorEq, eq_self, Bool.false_eq_true, Bool.true_eq_false, ↓reduceIte])
    | (refine hK _ ?_; clear hK)
    | (clear hK; refine hK _ ?_; clear hK)
    | (clear hK; clear hK; refine hK _ ?_; clear hK)
    | (clear hK; clear hK; clear hK; refine hK _ ?_; clear hK)
    | (refine AWp.cond ?_; simp -implicitDefEqProofs (maxSteps := 1000000) (disch := omega) only [go_sem, wrap64, Int.tdiv_eq_ediv_of_nonneg, Int.tmod_eq_emod_of_nonneg, Nat.reduceAdd, Nat.reduceMul, Nat.reduceEqDiff, Nat.reduceLT, Nat.reduceLeDiff, Int.reduceEq, Int.reduceNeg, Int.reduceToNat, reduceCtorEq, eq_self, Bool.false_eq_true, Bool.true_eq_false, ↓reduceIte]; try (refine ⟨fun hlt => ?_, fun hlt => ?_⟩ <;> (try simp only [decide_eq_true_eq, decide_eq_false_iff_not, beq_iff_eq, bne_iff_ne, ne_eq, beq_eq_false_iff_ne, bne_eq_false_iff_eq, Bool.true_eq_false, Bool.false_eq_true, Int.not_lt, Int.not_le, Decidable.not_not, gt_iff_lt, ge_iff_le, reduceCtorEq] at hlt) <;> (try exact hlt.elim)))
    | (refine AWp.block ?_)
    | ((first | refine gdO_split (fun hlt => ?_) (fun hlt => ?_) | refine tkO_split (fun hlt => ?_) (fun hlt => ?_) | refine opO_split (fun hlt => ?_) (fun hlt => ?_)) <;> have hgd := hlt <;> (try simp only [decide_eq_true_eq, decide_eq_false_iff_not, beq_iff_eq, bne_iff_ne, ne_eq, beq_eq_false_iff_ne, bne_eq_false_iff_eq, Bool.not_eq_true, Bool.not_eq_false, Bool.not_eq_eq_eq_not, Int.not_lt, Int.not_le, Decidable.not_not, gt_iff_lt, ge_iff_le] at hlt) <;> (simp -implicitDefEqProofs (maxSteps := 1000000) (disch := omega) only [go_sem, wrap64, Int.tdiv_eq_ediv_of_nonneg, Int.tmod_eq_emod_of_nonneg, Nat.reduceAdd, Nat.reduceMul, Nat.reduceEqDiff, Nat.reduceLT, Nat.reduceLeDiff, Int.reduceEq, Int.reduceNeg, Int.reduceToNat, reduceCtorEq, eq_self, Bool.false_eq_true, Bool.true_eq_false, ↓reduceIte, hgd]) <;> clear hgd)
    | (with_reducible refine And.intro ?_ ?_; · first | omega | assumption | exact ⟨_, _, rfl, rfl⟩)
    | fail
  rw [hsz, el]
end Go.Proofs.YthhjcfejgoddlaaGreatDoor
end

section
/- Drawn regions, one operation at a time. -/
namespace Go.Abs
variable {P : Program} {T : Tab}
theorem planK_step {ops : Array Oper} {i : Nat} {l : List Pl} {σ : St} {X : St → Prop} (h : ∀ K : St → Prop, (∀ σ', planK P T ops l σ' X → K σ') → takeQ P T ops i σ K) : planK P T ops (.take i :: l) σ X := h _ (fun _ h => h)
theorem planK_one {ops : Array Oper} {i : Nat} {l : List Pl} {σ : St} {X : St → Prop} (h : ∀ K : St → Prop, (∀ σ', planK P T ops l σ' X → K σ') → opQ P T ops i σ K) : planK P T ops (.grp [i] :: l) σ X := by
  rw [plan_one]; exact h _ (fun _ h => h)
theorem planK_end {ops : Array Oper} {σ : St} {X : St → Prop} (h : X σ) : planK P T ops [] σ X := h
/-! Which operations wait for one, reckoned in one go. -/
def wstep (ops : Array Oper) (i : Nat) (r : List Bool) (k : Nat) : Bool :=
  match ops[k]? with
  | some o => o.after.any fun e => Region.binds .any e && (Nat.beq e.on i || r.getD e.on false)
  | none => false
def wl (ops : Array Oper) (i : Nat) : Nat → List Bool
  | 0 => []
  | k + 1 => (fun r => r ++ [wstep ops i r k]) (wl ops i k)
theorem wl_len (ops : Array Oper) (i : Nat) : ∀ k, (wl ops i k).length = k
  | 0 => rfl
  | k + 1 => by simp [wl, wl_len ops i k]
theorem waits_mono {ops : Array Oper} : ∀ {f g : Nat} {j i : Nat}, f ≤ g → waits ops f j i = true → waits ops g j i = true
  | 0, _, j, i, _, h => by simp [waits] at h
  | f + 1, 0, j, i, hg, h => by omega
  | f + 1, g + 1, j, i, hg, h => by
    unfold waits at h ⊢
    split at h
    · rename_i oj hj
      obtain ⟨e, he, hb⟩ := Array.any_eq_true'.1 h
      refine Array.any_eq_true'.2 ⟨e, he, ?_⟩
      simp only [Bool.and_eq_true, Bool.or_eq_true] at hb ⊢
      exact ⟨hb.1, hb.2.imp id (waits_mono (by omega))⟩
    · cases h
theorem wl_ok {ops : Array Oper} {i : Nat} : ∀ k j, (wl ops i k).getD j false = true → waits ops (j + 1) j i = true
  | 0, j, h => by simp [wl] at h
  | k + 1, j, h => by
    have hl := wl_len ops i k
    rw [show wl ops i (k + 1) = wl ops i k ++ [wstep ops i (wl ops i k) k] from rfl] at h
    rcases Nat.lt_trichotomy j k with g | g | g
    · refine wl_ok k j ?_
      simp only [List.getD, List.getElem?_append_left (show j < (wl ops i k).length by omega)] at h ⊢
      exact h
    · subst g
      simp only [List.getD, List.getElem?_append_right (show (wl ops i j).length ≤ j by omega), hl, Nat.sub_self, List.getElem?_cons_zero, Option.getD_some] at h
      unfold wstep at h
      unfold waits
      split at h
      · rename_i oj hj
        obtain ⟨e, he, hb⟩ := Array.any_eq_true'.1 h
        rw [hj]
        refine Array.any_eq_true'.2 ⟨e, he, ?_⟩
        simp only [Bool.and_eq_true, Bool.or_eq_true] at hb ⊢
        refine ⟨hb.1, hb.2.imp id fun h3 => ?_⟩
        have hlt : e.on < j := by
          rcases Nat.lt_or_ge e.on j with g | g
          · exact g
          · rw [List.getD, List.getElem?_eq_none (by omega)] at h3; cases h3
        exact waits_mono (by omega) (wl_ok j e.on h3)
      · cases h
    · rw [List.getD, List.getElem?_eq_none (by simp; omega)] at h; cases h
def takeOk2 (ops : Array Oper) (listed : Array Bool) (i : Nat) : Bool :=
  match ops[i]? with
  | none => false
  | some oi => quietB oi.op && (Region.ready .any ops listed).contains i && (fun r => (List.range ops.size).all fun j => Nat.beq j i || listed.getD j true || (r.getD j false || match ops[j]? with
    | some oj => oi.apart ops oj && (sfree oi.op || quietB oj.op || newB oj.op)
    | none => true)) (wl ops i ops.size)
theorem takeOk_of {ops : Array Oper} {listed : Array Bool} {i : Nat} (h : takeOk2 ops listed i = true) : takeOk ops listed i = true := by
  unfold takeOk2 at h
  unfold takeOk
  cases hi : ops[i]? with
  | none => rw [hi] at h; exact h
  | some oi =>
    rw [hi] at h
    simp only [Bool.and_eq_true, List.all_eq_true, List.mem_range] at h ⊢
    refine ⟨h.1, fun j hj => ?_⟩
    have h0 := h.2 j hj
    rw [Bool.or_eq_true] at h0 ⊢
    rcases h0 with h1 | h1
    · exact .inl h1
    · right
      rw [Bool.or_eq_true] at h1
      rw [Array.getElem?_eq_getElem hj] at h1 ⊢
      simp only at h1 ⊢
      rcases h1 with h1 | h1
      · rw [waits_mono (show j + 1 ≤ ops.size by omega) (wl_ok _ _ h1), Bool.true_or]
      · rw [h1, Bool.or_true]
def planOk2 (ops : Array Oper) : List Pl → Array Bool → Bool
  | [], listed => (Region.ready .any ops listed).isEmpty
  | .take i :: l, listed => takeOk2 ops listed i && planOk2 ops l (listed.setIfInBounds i true)
  | .grp g :: l, listed => permOk ops g.length listed g && planOk2 ops l (g.foldl (fun a i => a.setIfInBounds i true) listed)
theorem planOk_of {ops : Array Oper} : ∀ {l : List Pl} {listed : Array Bool}, planOk2 ops l listed = true → planOk ops l listed = true
  | [], _, h => h
  | .take i :: l, listed, h => by
    simp only [planOk2, planOk, Bool.and_eq_true] at h ⊢
    exact ⟨takeOk_of h.1, planOk_of h.2⟩
  | .grp g :: l, listed, h => by
    simp only [planOk2, planOk, Bool.and_eq_true] at h ⊢
    exact ⟨h.1, planOk_of h.2⟩
def plansOk2 (ops : Array Oper) (l : List Pl) : Bool := Nat.beq (lens l) ops.size && planOk2 ops l (Array.replicate ops.size false)
theorem AWp.draw2 {c : Ctx} {ro : Option Nat} {id : Nat} {ops : Array Oper} {σ : St} {Q : Exit → St → Prop} (l : List Pl) (hm : P.follows .mixedOrders = true) (hp : plansOk2 ops l = true) (hok : ops.toList.all (dstOk c.N) = true)
    (h : planK P T ops l σ fun σ' => Q .normal σ') : AWp P T c ro (.region id ops true) σ Q :=
  AWp.draw l hm (by
    unfold plansOk2 at hp
    unfold plansOk
    rw [Bool.and_eq_true] at hp ⊢
    exact ⟨hp.1, planOk_of hp.2⟩) hok h
end Go.Abs
end

section
set_option linter.unusedSimpArgs false
set_option linter.unusedVariables false
set_option maxRecDepth 100000
namespace Go.Proofs.YthhjcfejgoddlaaGreatDoor
open Go Go.Abs

theorem Digits_both (neg : Bool) (d : List Int) (ld : d.length ≤ 1000000) : ∃ m e : Int, PC Tryz.prog 51 [Zr neg d] (.tup [I m, I e]) ∧ PC Tryz.prog 52 [Zr neg d] (.tup [I m, I e]) := by
  by_cases h : okI neg d
  · obtain ⟨x, e1, l1⟩ := okI_ex h
    rw [e1]
    exact ⟨_, _, Digits_ok x l1, rDigits_ok x l1⟩
  · exact ⟨_, _, Digits_bad neg d ld h, rDigits_bad neg d h⟩
set_option maxHeartbeats 8000000 in
theorem NumCompares_ok (na : Bool) (a : List Int) (nb : Bool) (b : List Int) : PC Tryz.prog 11 [Zr na a, Zr nb b] (B true) := by
  have hs := sane_ok
  have hf := few_pc [(na, a), (nb, b)] (by simp)
  rw [LZ2] at hf
  by_cases h : a.length ≤ 100 ∧ b.length ≤ 100
  · rw [show (List.all [(na, a), (nb, b)] fun z => decide (z.2.length ≤ 100)) = true by
      simp only [List.all_cons, List.all_nil, decide_eq_true h.1, decide_eq_true h.2, Bool.and_self]] at hf
    obtain ⟨m, e, d1, d2⟩ := Digits_both na a (by omega)
    have c1 := Compare_pc na nb a b (by omega) (by omega)
    have c2 := refCompare_pc na nb a b (by omega) (by omega)
    have s1 := Sign_pc na a
    have s2 := rsign_pc na a
    generalize (if na then (if nb then cmpL b a else -1) else if nb then 1 else cmpL a b) = v at *
    generalize (if a = [] then (0 : Int) else if na then -1 else 1) = s at *
    refine PCr.pc (PCr.of tab_ok Tryz.func11 rfl rfl rfl fun c hc hm => ?_)
    rw [show Tryz.f11.ntmps = _ from Tryz.ntmps11] at hc
    simp only [Tryz.f11]
    repeat' first
      | (exact absurd hlt (by decide))
      | (refine AWp.seq fun K hK => ?_)
      | (first | refine AWp.draw2 (id := 7) [.take 0, .take 1, .take 2, .take 3, .take 4, .take 5, .take 6, .take 7, .take 8, .take 9, .take 10, .take 11, .take 12, .take 13, .take 14, .take 15, .take 16, .take 17, .take 18, .take 19, .take 20, .take 21, .take 22, .take 23, .take 24] mixed_ok (by kernel_rfl) (by rw [hc]; rfl) ?_)
      | ((first | refine planK_step fun K hK => ?_ | refine planK_one fun K hK => ?_); simp -implicitDefEqProofs (maxSteps := 1000000) (disch := omega) only [go_sem, wrap64, Int.tdiv_eq_ediv_of_nonneg, Int.tmod_eq_emod_of_nonneg, Nat.reduceAdd, Nat.reduceMul, Nat.reduceEqDiff, Nat.reduceLT, Nat.reduceLeDiff, Int.reduceEq, Int.reduceNeg, Int.reduceToNat, reduceCtorEq, eq_self, Bool.false_eq_true, Bool.true_eq_false, ↓reduceIte, Int.reduceBNe, Int.reduceBEq, Bool.not_true, Bool.not_false, beq_self_eq_true])
      | (refine planK_end ?_; try (simp -implicitDefEqProofs (maxSteps := 1000000) (disch := omega) only [go_sem, wrap64, Int.tdiv_eq_ediv_of_nonneg, Int.tmod_eq_emod_of_nonneg, Nat.reduceAdd, Nat.reduceMul, Nat.reduceEqDiff, Nat.reduceLT, Nat.reduceLeDiff, Int.reduceEq, Int.reduceNeg, Int.reduceToNat, reduceCtorEq, eq_self, Bool.false_eq_true, Bool.true_eq_false, ↓reduceIte, Int.reduceBNe, Int.reduceBEq, Bool.not_true, Bool.not_false, beq_self_eq_true]))
      | ((first | refine AWp.region (by rw [hc]; rfl) ?_ | refine AWp.skip ?_ | refine AWp.exit ?_ | refine AWp.label ?_ | refine AWp.ret ?_ | refine appK_g ?_); simp -implicitDefEqProofs (maxSteps := 1000000) (disch := omega) only [go_sem, wrap64, Int.tdiv_eq_ediv_of_nonneg, Int.tmod_eq_emod_of_nonneg, Nat.reduceAdd, Nat.reduceMul, Nat.reduceEqDiff, Nat.reduceLT, Nat.reduceLeDiff, Int.reduceEq, Int.reduceNeg, Int.reduceToNat, reduceCtorEq, eq_self, Bool.false_eq_true, Bool.true_eq_false, ↓reduceIte, Int.reduceBNe, Int.reduceBEq, Bool.not_true, Bool.not_false, beq_self_eq_true])
      | (refine hK _ ?_; clear hK)
      | (clear hK; refine hK _ ?_; clear hK)
      | (clear hK; clear hK; refine hK _ ?_; clear hK)
      | (clear hK; clear hK; clear hK; refine hK _ ?_; clear hK)
      | (refine AWp.cond ?_; simp -implicitDefEqProofs (maxSteps := 1000000) (disch := omega) only [go_sem, wrap64, Int.tdiv_eq_ediv_of_nonneg, Int.tmod_eq_emod_of_nonneg, Nat.reduceAdd, Nat.reduceMul, Nat.reduceEqDiff, Nat.reduceLT, Nat.reduceLeDiff, Int.reduceEq, Int.reduceNeg, Int.reduceToNat, reduceCtorEq, eq_self, Bool.false_eq_true, Bool.true_eq_false, ↓reduceIte, Int.reduceBNe, Int.reduceBEq, Bool.not_true, Bool.not_false, beq_self_eq_true]; try (refine ⟨fun hlt => ?_, fun hlt => ?_⟩ <;> (try simp only [decide_eq_true_eq, decide_eq_false_iff_not, beq_iff_eq, bne_iff_ne, ne_eq, beq_eq_false_iff_ne, bne_eq_false_iff_eq, Bool.true_eq_false, Bool.false_eq_true, Int.not_lt, Int.not_le, Decidable.not_not, gt_iff_lt, ge_iff_le, reduceCtorEq] at hlt) <;> (try exact hlt.elim)))
      | (refine AWp.block ?_)
      | ((first | refine gdO_split (fun hlt => ?_) (fun hlt => ?_) | refine tkO_split (fun hlt => ?_) (fun hlt => ?_) | refine opO_split (fun hlt => ?_) (fun hlt => ?_)) <;> have hgd := hlt <;> (try simp only [decide_eq_true_eq, decide_eq_false_iff_not, beq_iff_eq, bne_iff_ne, ne_eq, beq_eq_false_iff_ne, bne_eq_false_iff_eq, Bool.not_eq_true, Bool.not_eq_false, Bool.not_eq_eq_eq_not, Int.not_lt, Int.not_le, Decidable.not_not, gt_iff_lt, ge_iff_le] at hlt) <;> (simp -implicitDefEqProofs (maxSteps := 1000000) (disch := omega) only [go_sem, wrap64, Int.tdiv_eq_ediv_of_nonneg, Int.tmod_eq_emod_of_nonneg, Nat.reduceAdd, Nat.reduceMul, Nat.reduceEqDiff, Nat.reduceLT, Nat.reduceLeDiff, Int.reduceEq, Int.reduceNeg, Int.reduceToNat, reduceCtorEq, eq_self, Bool.false_eq_true, Bool.true_eq_false, ↓reduceIte, Int.reduceBNe, Int.reduceBEq, Bool.not_true, Bool.not_false, beq_self_eq_true, hgd]) <;> clear hgd)
      | (with_reducible refine And.intro ?_ ?_; · first | omega | assumption | exact ⟨_, _, rfl, rfl⟩)
      | ((first | refine ⟨_, hs, ?_⟩ | refine ⟨_, hf, ?_⟩ | refine ⟨_, d1, ?_⟩ | refine ⟨_, d2, ?_⟩ | refine ⟨_, c1, ?_⟩ | refine ⟨_, c2, ?_⟩ | refine ⟨_, s1, ?_⟩ | refine ⟨_, s2, ?_⟩); try (simp -implicitDefEqProofs (maxSteps := 1000000) (disch := omega) only [go_sem, wrap64, Int.tdiv_eq_ediv_of_nonneg, Int.tmod_eq_emod_of_nonneg, Nat.reduceAdd, Nat.reduceMul, Nat.reduceEqDiff, Nat.reduceLT, Nat.reduceLeDiff, Int.reduceEq, Int.reduceNeg, Int.reduceToNat, reduceCtorEq, eq_self, Bool.false_eq_true, Bool.true_eq_false, ↓reduceIte, Int.reduceBNe, Int.reduceBEq, Bool.not_true, Bool.not_false, beq_self_eq_true]))
      | fail
  · rw [show (List.all [(na, a), (nb, b)] fun z => decide (z.2.length ≤ 100)) = false by
      simp only [List.all_cons, List.all_nil, Bool.and_true, ← Bool.decide_and]; exact decide_eq_false h] at hf
    refine PCr.pc (PCr.of tab_ok Tryz.func11 rfl rfl rfl fun c hc hm => ?_)
    rw [show Tryz.f11.ntmps = _ from Tryz.ntmps11] at hc
    simp only [Tryz.f11]
    repeat' first
      | (exact absurd hlt (by decide))
      | (refine AWp.seq fun K hK => ?_)
      | ((first | refine AWp.draw (id := 7) [.take 0, .take 1, .take 2, .take 3, .take 4, .take 5, .take 6, .take 7, .take 8, .take 9, .take 10, .take 11, .take 12, .take 13, .take 14, .take 15, .take 16, .take 17, .take 18, .take 19, .take 20, .take 21, .take 22, .take 23, .take 24] mixed_ok (by kernel_rfl) (by rw [hc]; rfl) ?_ | refine AWp.region (by rw [hc]; rfl) ?_ | refine AWp.skip ?_ | refine AWp.exit ?_ | refine AWp.label ?_ | refine AWp.ret ?_ | refine appK_g ?_); simp -implicitDefEqProofs (maxSteps := 1000000) (disch := omega) only [go_sem, wrap64, Int.tdiv_eq_ediv_of_nonneg, Int.tmod_eq_emod_of_nonneg, Nat.reduceAdd, Nat.reduceMul, Nat.reduceEqDiff, Nat.reduceLT, Nat.reduceLeDiff, Int.reduceEq, Int.reduceNeg, Int.reduceToNat, reduceCtorEq, eq_self, Bool.false_eq_true, Bool.true_eq_false, ↓reduceIte, Int.reduceBNe, Int.reduceBEq, Bool.not_true, Bool.not_false])
      | (refine hK _ ?_; clear hK)
      | (clear hK; refine hK _ ?_; clear hK)
      | (clear hK; clear hK; refine hK _ ?_; clear hK)
      | (clear hK; clear hK; clear hK; refine hK _ ?_; clear hK)
      | (refine AWp.cond ?_; simp -implicitDefEqProofs (maxSteps := 1000000) (disch := omega) only [go_sem, wrap64, Int.tdiv_eq_ediv_of_nonneg, Int.tmod_eq_emod_of_nonneg, Nat.reduceAdd, Nat.reduceMul, Nat.reduceEqDiff, Nat.reduceLT, Nat.reduceLeDiff, Int.reduceEq, Int.reduceNeg, Int.reduceToNat, reduceCtorEq, eq_self, Bool.false_eq_true, Bool.true_eq_false, ↓reduceIte, Int.reduceBNe, Int.reduceBEq, Bool.not_true, Bool.not_false]; try (refine ⟨fun hlt => ?_, fun hlt => ?_⟩ <;> (try simp only [decide_eq_true_eq, decide_eq_false_iff_not, beq_iff_eq, bne_iff_ne, ne_eq, beq_eq_false_iff_ne, bne_eq_false_iff_eq, Bool.true_eq_false, Bool.false_eq_true, Int.not_lt, Int.not_le, Decidable.not_not, gt_iff_lt, ge_iff_le, reduceCtorEq] at hlt) <;> (try exact hlt.elim)))
      | (refine AWp.block ?_)
      | ((first | refine gdO_split (fun hlt => ?_) (fun hlt => ?_) | refine tkO_split (fun hlt => ?_) (fun hlt => ?_) | refine opO_split (fun hlt => ?_) (fun hlt => ?_)) <;> have hgd := hlt <;> (try simp only [decide_eq_true_eq, decide_eq_false_iff_not, beq_iff_eq, bne_iff_ne, ne_eq, beq_eq_false_iff_ne, bne_eq_false_iff_eq, Bool.not_eq_true, Bool.not_eq_false, Bool.not_eq_eq_eq_not, Int.not_lt, Int.not_le, Decidable.not_not, gt_iff_lt, ge_iff_le] at hlt) <;> (simp -implicitDefEqProofs (maxSteps := 1000000) (disch := omega) only [go_sem, wrap64, Int.tdiv_eq_ediv_of_nonneg, Int.tmod_eq_emod_of_nonneg, Nat.reduceAdd, Nat.reduceMul, Nat.reduceEqDiff, Nat.reduceLT, Nat.reduceLeDiff, Int.reduceEq, Int.reduceNeg, Int.reduceToNat, reduceCtorEq, eq_self, Bool.false_eq_true, Bool.true_eq_false, ↓reduceIte, Int.reduceBNe, Int.reduceBEq, Bool.not_true, Bool.not_false, hgd]) <;> clear hgd)
      | (with_reducible refine And.intro ?_ ?_; · first | omega | assumption | exact ⟨_, _, rfl, rfl⟩)
      | ((first | refine ⟨_, hs, ?_⟩ | refine ⟨_, hf, ?_⟩); simp -implicitDefEqProofs (maxSteps := 1000000) (disch := omega) only [go_sem, wrap64, Int.tdiv_eq_ediv_of_nonneg, Int.tmod_eq_emod_of_nonneg, Nat.reduceAdd, Nat.reduceMul, Nat.reduceEqDiff, Nat.reduceLT, Nat.reduceLeDiff, Int.reduceEq, Int.reduceNeg, Int.reduceToNat, reduceCtorEq, eq_self, Bool.false_eq_true, Bool.true_eq_false, ↓reduceIte, Int.reduceBNe, Int.reduceBEq, Bool.not_true, Bool.not_false])
      | fail
end Go.Proofs.YthhjcfejgoddlaaGreatDoor
end
