/- The contract of the law's function. -/
import Derived.Test.YthhjcfejgoddlaaGreatDoorJc
import Derived.Test.YthhjcfejgoddlaaGreatDoorJb
import Derived.Test.YthhjcfejgoddlaaGreatDoorKb
section
set_option linter.unusedSimpArgs false
set_option linter.unusedVariables false
set_option maxRecDepth 100000
namespace Go.Proofs.YthhjcfejgoddlaaGreatDoor
open Go Go.Abs

/-- The invariant of Bezout's loop behind the first round: one sign s for the g's, alternating signs for the x's. -/
def BzI (a b : Int) (t : BS) : Prop :=
  ∃ s u G0 G1 X0 X1 : Int, (s = 1 ∨ s = -1) ∧ (u = 1 ∨ u = -1) ∧ 0 ≤ G1 ∧ G1 < G0 ∧ G0 ≤ (b.natAbs : Int) ∧ 0 ≤ X0 ∧ 0 ≤ X1 ∧
    t.g0 = s * G0 ∧ t.g1 = s * G1 ∧ t.x0 = u * X0 ∧ t.x1 = -(u * X1) ∧ X1 * G0 + X0 * G1 = (b.natAbs : Int) ∧
    (G1 = 0 → 2 * (X0 * G0) ≤ (b.natAbs : Int))
/-- The invariant of all rounds. -/
def BzL (a b : Int) (t : BS) : Prop :=
  a * t.x0 + b * t.y0 = t.g0 ∧ a * t.x1 + b * t.y1 = t.g1 ∧ ∀ d : Int, d ∣ t.g0 → d ∣ t.g1 → d ∣ a ∧ d ∣ b
def BzJ (a b : Int) (t : BS) : Prop := BzL a b t ∧ (t = ⟨a, 1, 0, b, 0, 1⟩ ∨ b ≠ 0 ∧ BzI a b t)

theorem BzL_step {a b : Int} {t : BS} (h : BzL a b t) : BzL a b (bstep t) := by
  obtain ⟨h1, h2, h3⟩ := h
  refine ⟨h2, ?_, ?_⟩
  · simp only [bstep]
    generalize t.g0.fdiv t.g1 = q
    rw [← h1, ← h2]; grind
  · simp only [bstep]
    intro d d1 d2
    refine h3 d ?_ d1
    have := Int.dvd_add d2 (Int.dvd_trans d1 (Int.dvd_mul_right t.g1 (t.g0.fdiv t.g1)))
    rwa [Int.sub_add_cancel] at this

theorem bz_first {a b : Int} (hb : b ≠ 0) : BzI a b (bstep ⟨a, 1, 0, b, 0, 1⟩) := by
  have h1 := Int.mul_fdiv_add_fmod a b
  rcases Int.lt_or_lt_of_ne hb with h | h
  · have h2 := Int.fmod_nonneg_of_pos (-a) (show 0 < -b by omega)
    have h3 := Int.fmod_lt_of_pos (-a) (show 0 < -b by omega)
    rw [Int.neg_fmod_neg] at h2 h3
    refine ⟨-1, -1, -b, -(a.fmod b), 0, 1, .inr rfl, .inr rfl, by omega, by omega, by omega, by omega, by omega, ?_, ?_, ?_, ?_, ?_, ?_⟩
    all_goals (try simp only [bstep])
    all_goals omega
  · have h2 := Int.fmod_nonneg_of_pos a h
    have h3 := Int.fmod_lt_of_pos a h
    refine ⟨1, -1, b, a.fmod b, 0, 1, .inl rfl, .inr rfl, by omega, by omega, by omega, by omega, by omega, ?_, ?_, ?_, ?_, ?_, ?_⟩
    all_goals (try simp only [bstep])
    all_goals omega

theorem bz_step {a b : Int} {t : BS} (hb : b ≠ 0) (h : BzI a b t) (hz : t.g1 ≠ 0) : BzI a b (bstep t) := by
  obtain ⟨s, u, G0, G1, X0, X1, hs, hu, g1, g2, g3, p0, p1, e0, e1, f0, f1, hB, hE⟩ := h
  have hG1 : 0 < G1 := by
    rcases Int.lt_or_eq_of_le g1 with g | g
    · exact g
    · exfalso; apply hz; rw [e1, ← g, Int.mul_zero]
  have hq : t.g0.fdiv t.g1 = G0.fdiv G1 := by
    rw [e0, e1]; rcases hs with rfl | rfl
    · rw [Int.one_mul, Int.one_mul]
    · rw [Int.neg_one_mul, Int.neg_one_mul, Int.neg_fdiv_neg]
  have m1 := Int.mul_fdiv_add_fmod G0 G1
  have m2 := Int.fmod_nonneg_of_pos G0 hG1
  have m3 := Int.fmod_lt_of_pos G0 hG1
  generalize hQ : G0.fdiv G1 = q at *
  generalize G0.fmod G1 = r at *
  have hq0 : 0 < q := by
    rcases Int.lt_or_le 0 q with g | g
    · exact g
    · exfalso
      have := Int.mul_le_mul_of_nonneg_left g (Int.le_of_lt hG1)
      rw [Int.mul_zero] at this; omega
  have hXq : 0 ≤ X1 * q := Int.mul_nonneg p1 (by omega)
  have hXG : 0 ≤ X0 * G1 := Int.mul_nonneg p0 (by omega)
  refine ⟨s, -u, G1, r, X1, X0 + X1 * q, hs, by omega, m2, m3, by omega, p1, by omega, ?_, ?_, ?_, ?_, ?_, ?_⟩
  · exact e1
  · simp only [bstep, hq]; rw [e0, e1]; grind
  · simp only [bstep]; rw [f1]; grind
  · simp only [bstep, hq]; rw [f0, f1]; grind
  · rw [← hB]; grind
  · intro hr
    rw [← hB]
    have hq2 : 2 ≤ q := by
      rcases Int.lt_or_le 1 q with g | g
      · omega
      · exfalso
        have : q = 1 := by omega
        subst this; omega
    have e : G0 = G1 * q := by omega
    have h5 : X1 * G1 * 2 ≤ X1 * G1 * q := Int.mul_le_mul_of_nonneg_left hq2 (Int.mul_nonneg p1 (by omega))
    have h6 : X1 * G0 = X1 * G1 * q := by rw [e, Int.mul_assoc]
    rw [h6]; omega

theorem BzJ_0 (a b : Int) : BzJ a b ⟨a, 1, 0, b, 0, 1⟩ :=
  ⟨⟨by simp, by simp, fun d h1 h2 => ⟨h1, h2⟩⟩, .inl rfl⟩
theorem BzJ_step {a b : Int} {t : BS} (h : BzJ a b t) (hz : t.g1 ≠ 0) : BzJ a b (bstep t) := by
  refine ⟨BzL_step h.1, .inr ?_⟩
  rcases h.2 with rfl | ⟨hb, h2⟩
  · exact ⟨hz, bz_first hz⟩
  · exact ⟨hb, bz_step hb h2 hz⟩
theorem bz_y {a b x y g B : Int} (hB : 0 < B) (hb : b.natAbs = B) (h : a * x + b * y = g) (hx : (x.natAbs : Int) ≤ B) (hg : (g.natAbs : Int) ≤ B) : y.natAbs ≤ a.natAbs + 1 := by
  have e : b * y = g - a * x := by omega
  have e1 : (b * y).natAbs ≤ g.natAbs + (a * x).natAbs := by rw [e]; omega
  rw [Int.natAbs_mul, Int.natAbs_mul] at e1
  have e2 : a.natAbs * x.natAbs ≤ a.natAbs * b.natAbs := Nat.mul_le_mul_left _ (by omega)
  have e3 : b.natAbs * y.natAbs ≤ b.natAbs * (a.natAbs + 1) := by
    rw [Nat.mul_add, Nat.mul_comm b.natAbs a.natAbs]; omega
  exact Nat.le_of_mul_le_mul_left e3 (by omega)
theorem bz_abs {s x X : Int} (hs : s = 1 ∨ s = -1) (h : x = s * X) : x.natAbs = X.natAbs := by
  rcases hs with rfl | rfl
  · rw [h, Int.one_mul]
  · rw [h, Int.neg_one_mul, Int.natAbs_neg]
theorem bz_bounds {a b : Int} {t : BS} (hb : b ≠ 0) (hL : BzL a b t) (h : BzI a b t) :
    t.g0.natAbs ≤ b.natAbs ∧ t.g1.natAbs ≤ b.natAbs ∧ t.x0.natAbs ≤ b.natAbs ∧ t.x1.natAbs ≤ b.natAbs ∧ t.y0.natAbs ≤ a.natAbs + 1 ∧ t.y1.natAbs ≤ a.natAbs + 1 := by
  obtain ⟨s, u, G0, G1, X0, X1, hs, hu, g1, g2, g3, p0, p1, e0, e1, f0, f1, hB, hE⟩ := h
  have k0 : 0 ≤ X0 * G1 := Int.mul_nonneg p0 g1
  have k1 : 0 ≤ X1 * G0 := Int.mul_nonneg p1 (by omega)
  have x1 : X1 ≤ X1 * G0 := by have := Int.mul_le_mul_of_nonneg_left (show 1 ≤ G0 by omega) p1; omega
  have x0 : X0 ≤ (b.natAbs : Int) := by
    rcases Int.lt_or_eq_of_le g1 with g | g
    · have := Int.mul_le_mul_of_nonneg_left (show 1 ≤ G1 by omega) p0; omega
    · have h1 := hE g.symm
      have := Int.mul_le_mul_of_nonneg_left (show 1 ≤ G0 by omega) p0; omega
  have a0 := bz_abs hs e0
  have a1 := bz_abs hs e1
  have b0 := bz_abs hu f0
  have b1 : t.x1.natAbs = X1.natAbs := by rw [f1, Int.natAbs_neg]; exact bz_abs hu rfl
  have hb' : 0 < (b.natAbs : Int) := by omega
  refine ⟨by omega, by omega, by omega, by omega, ?_, ?_⟩
  · exact bz_y hb' rfl hL.1 (by omega) (by omega)
  · exact bz_y hb' rfl hL.2.1 (by omega) (by omega)
theorem bz_end {a b : Int} {t : BS} (h : BzJ a b t) (hz : t.g1 = 0) :
    a * t.x0 + b * t.y0 = t.g0 ∧ t.g0 ∣ a ∧ t.g0 ∣ b ∧ (t.x0.natAbs ≤ b.natAbs ∨ t.x0.natAbs ≤ 1) ∧ (t.y0.natAbs ≤ a.natAbs ∨ t.y0.natAbs ≤ 1) := by
  obtain ⟨hL, h2⟩ := h
  have hd := hL.2.2 t.g0 (Int.dvd_refl _) (by rw [hz]; exact Int.dvd_zero _)
  refine ⟨hL.1, hd.1, hd.2, ?_⟩
  rcases h2 with rfl | ⟨hb, h3⟩
  · exact ⟨.inr (by simp), .inr (by simp)⟩
  · have hbd := bz_bounds hb hL h3
    refine ⟨.inl hbd.2.2.1, ?_⟩
    obtain ⟨s, u, G0, G1, X0, X1, hs, hu, g1, g2, g3, p0, p1, e0, e1, f0, f1, hB, hE⟩ := h3
    have hG : G1 = 0 := by
      rcases hs with rfl | rfl
      · omega
      · omega
    have h4 := hE hG
    have a0 := bz_abs hs e0
    have b0 := bz_abs hu f0
    -- 2|x||g| ≤ |b|
    have n1 : 2 * (t.x0.natAbs * t.g0.natAbs) ≤ b.natAbs := by
      rw [a0, b0]
      have : ((2 * (X0.natAbs * G0.natAbs) : Nat) : Int) ≤ (b.natAbs : Int) := by
        rw [Int.natCast_mul, Int.natCast_mul, Int.natAbs_of_nonneg p0, Int.natAbs_of_nonneg (by omega : 0 ≤ G0)]; exact h4
      omega
    have hg1 : 1 ≤ t.g0.natAbs := by omega
    have e : b * t.y0 = t.g0 - a * t.x0 := by have := hL.1; omega
    have e1 : (b * t.y0).natAbs ≤ t.g0.natAbs + (a * t.x0).natAbs := by rw [e]; omega
    rw [Int.natAbs_mul, Int.natAbs_mul] at e1
    have hbp : 0 < b.natAbs := by omega
    have hgb := hbd.1
    generalize t.y0.natAbs = y at *
    generalize t.x0.natAbs = x at *
    generalize t.g0.natAbs = g at *
    generalize b.natAbs = B at *
    generalize a.natAbs = A at *
    -- B y ≤ g + A x, 2 x g ≤ B
    have hx : 2 * x ≤ B := by have := Nat.mul_le_mul_left x hg1; omega
    have h5 : A * (2 * x) ≤ A * B := Nat.mul_le_mul_left _ hx
    have h6 : 2 * (B * y) ≤ 2 * B + A * B := by rw [Nat.mul_left_comm] at h5; omega
    have h7 : B * (2 * y) ≤ B * (2 + A) := by rw [Nat.mul_add, Nat.mul_left_comm, Nat.mul_comm B 2, Nat.mul_comm B A]; omega
    have h8 := Nat.le_of_mul_le_mul_left h7 hbp
    rcases Nat.lt_or_ge 1 A with g | g
    · exact .inl (by omega)
    · exact .inr (by omega)

def BezR (a b : Int) (r : AV) : Prop := ∃ g x y : Int, r = .tup [Z g, Z x, Z y, I 0] ∧ 0 ≤ g ∧ a * x + b * y = g ∧ g ∣ a ∧ g ∣ b ∧ (x.natAbs ≤ b.natAbs ∨ x.natAbs ≤ 1) ∧ (y.natAbs ≤ a.natAbs ∨ y.natAbs ≤ 1)
theorem lenZ_1 {x : Int} (h : x.natAbs ≤ 1) : lenZ x ≤ 1 := lenZ_small (by omega)
theorem lenZ_41 {a y : Int} (h : y.natAbs ≤ a.natAbs + 1) (la : lenZ a ≤ 40) : lenZ y ≤ 41 := by
  rcases Nat.eq_zero_or_pos a.natAbs with g | g
  · exact Nat.le_trans (lenZ_1 (by omega)) (by decide)
  · have e1 := lenZ_mul a 2
    have e2 : lenZ 2 ≤ 1 := lenZ_small (by decide)
    have e3 : lenZ y ≤ lenZ (a * 2) := lenZ_le (by rw [Int.natAbs_mul]; show _ ≤ a.natAbs * 2; omega)
    omega
theorem Bezout_ok (a b : Int) (la : lenZ a ≤ 40) (lb : lenZ b ≤ 40) : PCr Tryz.prog 32 [Z a, Z b] (BezR a b) := by
  have h := Bezout_walk a b la lb (BzJ a b) (BzJ_0 a b) (fun t h hz => BzJ_step h hz) (by
    rintro t ⟨hL, rfl | ⟨hb, h⟩⟩
    · have e1 : lenZ 1 ≤ 1 := lenZ_1 (by decide)
      have e0 : lenZ 0 ≤ 1 := lenZ_1 (by decide)
      exact ⟨by show lenZ a ≤ 41; omega, by show lenZ 1 ≤ 41; omega, by show lenZ 0 ≤ 41; omega, by show lenZ b ≤ 41; omega, by show lenZ 0 ≤ 41; omega, by show lenZ 1 ≤ 41; omega⟩
    · obtain ⟨h1, h2, h3, h4, h5, h6⟩ := bz_bounds hb hL h
      exact ⟨Nat.le_trans (lenZ_le h1) (by omega), Nat.le_trans (lenZ_le h3) (by omega), lenZ_41 h5 la, Nat.le_trans (lenZ_le h2) (by omega), Nat.le_trans (lenZ_le h4) (by omega), lenZ_41 h6 la⟩)
  refine ⟨h.1, fun w A vs hg hl hv => (h.2 w A vs hg hl hv).mono fun e w' ⟨v, r, he, hr, hb, hrv⟩ => ⟨v, r, he, ?_, hb, hrv⟩⟩
  obtain ⟨t, ht, hz, rfl⟩ := hr
  obtain ⟨k1, k2, k3, k4, k5⟩ := bz_end ht hz
  unfold bezT
  split
  · rename_i hn
    refine ⟨-t.g0, -t.x0, -t.y0, rfl, by omega, by grind, Int.neg_dvd.2 k2, Int.neg_dvd.2 k3, ?_, ?_⟩
    · rwa [Int.natAbs_neg]
    · rwa [Int.natAbs_neg]
  · rename_i hn
    exact ⟨t.g0, t.x0, t.y0, rfl, by omega, k1, k2, k3, k4, k5⟩
end Go.Proofs.YthhjcfejgoddlaaGreatDoor
end

section
set_option linter.unusedSimpArgs false
set_option linter.unusedVariables false
set_option maxRecDepth 100000
namespace Go.Proofs.YthhjcfejgoddlaaGreatDoor
open Go Go.Abs

/-- Results as pairs: the integer and the error. -/
def limP (z : Int) : Int × Int := if lenZ z ≤ 40 then (z, 0) else (0, 2)
def GP (p : Int × Int) : AV := GZ p.1 p.2
def okP (p : Int × Int) : Prop := lenZ p.1 ≤ 40
theorem lenZ_0 : lenZ 0 ≤ 40 := by unfold lenZ; rw [Int.natAbs_zero, D_zero]; exact Nat.zero_le _
theorem limR_P (z : Int) : limR z = .tup [Z (limP z).1, I (limP z).2] := by
  unfold limR limP
  split
  · rfl
  · show _ = AV.tup [Z 0, I 2]
    rw [Z_zero]
theorem limP_ok (z : Int) : okP (limP z) := by
  unfold limP okP
  split
  · assumption
  · exact lenZ_0
theorem gotP (p : Int × Int) : PC Tryz.prog 24 [Z p.1, I p.2] (GP p) := got_pc _ _ _
theorem got_lim (z : Int) : PC Tryz.prog 24 [Z (limP z).1, I (limP z).2] (GP (limP z)) := gotP _
theorem valP (x : Int) : PC Tryz.prog 21 [Z x] (GP (x, 0)) := val_pc _ _
def sumP (p q : Int × Int) : Int × Int := if p.2 = 0 ∧ q.2 = 0 then limP (p.1 + q.1) else (0, 2)
def timesP (p q : Int × Int) : Int × Int := if p.2 = 0 ∧ q.2 = 0 then limP (p.1 * q.1) else (0, 2)
theorem sumP_ok (p q : Int × Int) : okP (sumP p q) := by unfold sumP; split; exact limP_ok _; exact lenZ_0
theorem timesP_ok (p q : Int × Int) : okP (timesP p q) := by unfold timesP; split; exact limP_ok _; exact lenZ_0
theorem GP_02 : GP (0, 2) = .agg [B false, L [], I 2] := by
  show Gr (decide ((0 : Int) < 0)) (D (Int.natAbs 0)) 2 = _
  rw [Int.natAbs_zero, D_zero]; rfl
theorem PC.weak {f : FuncId} {args : List AV} {r r' : AV} (h : PC Tryz.prog f args r) (k : ∀ A w v, RV φ0 0 A w r v → RV φ0 0 A w r' v) : PC Tryz.prog f args r' :=
  ⟨h.1, fun w A vs hg hl hv => (h.2 w A vs hg hl hv).mono fun e w' ⟨v, he, hb, hrv⟩ => ⟨v, he, hb, k _ _ _ hrv⟩⟩
theorem RV_nilL {A : Nat → Nat → Prop} {w : World} {x y : AV} {v : Value} (h : RV φ0 0 A w (.agg [x, .nil, y]) v) : RV φ0 0 A w (.agg [x, L [], y]) v := by
  cases h with
  | agg _ vs hl h h1 =>
    refine .agg _ vs hl (fun j z hz => ?_) h1
    rcases j with _ | _ | _ | j
    · exact h 0 _ hz
    · have h2 := h 1 _ rfl
      obtain rfl := Option.some.inj hz
      cases hv : vs.getD 1 undef
      all_goals rw [hv] at h2; cases h2
      exact .dat _ _ (.emp _ _)
    · exact h 2 _ hz
    · simp at hz
theorem sum_P (p q : Int × Int) (hp : okP p) (hq : okP q) : PC Tryz.prog 28 [GP p, GP q] (GP (sumP p q)) := by
  obtain ⟨x, e⟩ := p
  obtain ⟨y, f⟩ := q
  have h := Add_ok x y hp hq
  rw [limR_P] at h
  have g := got_lim (x + y)
  unfold sumP
  by_cases h1 : e = 0 <;> by_cases h2 : f = 0
  · subst h1; subst h2
    rw [if_pos ⟨rfl, rfl⟩]
    simp only [GP, GZ, Gr] at g ⊢
    refine PCr.pc (PCr.of tab_ok Tryz.func28 rfl rfl rfl fun c hc hm => ?_)
    rw [show Tryz.f28.ntmps = _ from Tryz.ntmps28] at hc
    simp only [Tryz.f28]
    repeat' first
      | (refine AWp.seq fun K hK => ?_)
      | ((first | refine AWp.region (by rw [hc]; rfl) ?_ | refine AWp.skip ?_ | refine AWp.exit ?_ | refine AWp.label ?_ | refine AWp.ret ?_ | refine appK_g ?_); simp -implicitDefEqProofs (maxSteps := 1000000) (disch := omega) only [go_sem, wrap64, Int.tdiv_eq_ediv_of_nonneg, Int.tmod_eq_emod_of_nonneg, Nat.reduceAdd, Nat.reduceMul, Nat.reduceEqDiff, Nat.reduceLT, Nat.reduceLeDiff, Int.reduceEq, Int.reduceNeg, Int.reduceToNat, reduceCtorEq, eq_self, Bool.false_eq_true, Bool.true_eq_false, ↓reduceIte, Int.reduceBNe])
      | (refine hK _ ?_; clear hK)
      | (clear hK; refine hK _ ?_; clear hK)
      | (clear hK; clear hK; refine hK _ ?_; clear hK)
      | (clear hK; clear hK; clear hK; refine hK _ ?_; clear hK)
      | (refine AWp.cond ?_; simp -implicitDefEqProofs (maxSteps := 1000000) (disch := omega) only [go_sem, wrap64, Int.tdiv_eq_ediv_of_nonneg, Int.tmod_eq_emod_of_nonneg, Nat.reduceAdd, Nat.reduceMul, Nat.reduceEqDiff, Nat.reduceLT, Nat.reduceLeDiff, Int.reduceEq, Int.reduceNeg, Int.reduceToNat, reduceCtorEq, eq_self, Bool.false_eq_true, Bool.true_eq_false, ↓reduceIte, Int.reduceBNe]; try (refine ⟨fun hlt => ?_, fun hlt => ?_⟩ <;> (try simp only [decide_eq_true_eq, decide_eq_false_iff_not, beq_iff_eq, bne_iff_ne, ne_eq, beq_eq_false_iff_ne, bne_eq_false_iff_eq, Bool.true_eq_false, Bool.false_eq_true, Int.not_lt, Int.not_le, Decidable.not_not, gt_iff_lt, ge_iff_le, reduceCtorEq] at hlt) <;> (try exact hlt.elim)))
      | (refine AWp.block ?_)
      | ((first | refine gdO_split (fun hlt => ?_) (fun hlt => ?_) | refine tkO_split (fun hlt => ?_) (fun hlt => ?_) | refine opO_split (fun hlt => ?_) (fun hlt => ?_)) <;> have hgd := hlt <;> (try simp only [decide_eq_true_eq, decide_eq_false_iff_not, beq_iff_eq, bne_iff_ne, ne_eq, beq_eq_false_iff_ne, bne_eq_false_iff_eq, Bool.not_eq_true, Bool.not_eq_false, Bool.not_eq_eq_eq_not, Int.not_lt, Int.not_le, Decidable.not_not, gt_iff_lt, ge_iff_le] at hlt) <;> (simp -implicitDefEqProofs (maxSteps := 1000000) (disch := omega) only [go_sem, wrap64, Int.tdiv_eq_ediv_of_nonneg, Int.tmod_eq_emod_of_nonneg, Nat.reduceAdd, Nat.reduceMul, Nat.reduceEqDiff, Nat.reduceLT, Nat.reduceLeDiff, Int.reduceEq, Int.reduceNeg, Int.reduceToNat, reduceCtorEq, eq_self, Bool.false_eq_true, Bool.true_eq_false, ↓reduceIte, Int.reduceBNe, hgd]) <;> clear hgd)
      | (with_reducible refine And.intro ?_ ?_; · first | omega | assumption | exact ⟨_, _, rfl, rfl⟩)
      | ((first | refine ⟨_, h, ?_⟩ | refine ⟨_, g, ?_⟩); simp -implicitDefEqProofs (maxSteps := 1000000) (disch := omega) only [go_sem, wrap64, Int.tdiv_eq_ediv_of_nonneg, Int.tmod_eq_emod_of_nonneg, Nat.reduceAdd, Nat.reduceMul, Nat.reduceEqDiff, Nat.reduceLT, Nat.reduceLeDiff, Int.reduceEq, Int.reduceNeg, Int.reduceToNat, reduceCtorEq, eq_self, Bool.false_eq_true, Bool.true_eq_false, ↓reduceIte, Int.reduceBNe])
      | fail
  all_goals
    rw [if_neg (by simp only [h1, h2]; decide), GP_02]
    simp only [GP, GZ, Gr]
    refine PCr.pc (PCr.of tab_ok Tryz.func28 rfl rfl rfl fun c hc hm => ?_)
    rw [show Tryz.f28.ntmps = _ from Tryz.ntmps28] at hc
    simp only [Tryz.f28]
    repeat' first
      | (refine AWp.seq fun K hK => ?_)
      | ((first | refine AWp.region (by rw [hc]; rfl) ?_ | refine AWp.skip ?_ | refine AWp.exit ?_ | refine AWp.label ?_ | refine AWp.ret ?_ | refine appK_g ?_); simp -implicitDefEqProofs (maxSteps := 1000000) (disch := omega) only [go_sem, wrap64, Int.tdiv_eq_ediv_of_nonneg, Int.tmod_eq_emod_of_nonneg, Nat.reduceAdd, Nat.reduceMul, Nat.reduceEqDiff, Nat.reduceLT, Nat.reduceLeDiff, Int.reduceEq, Int.reduceNeg, Int.reduceToNat, reduceCtorEq, eq_self, Bool.false_eq_true, Bool.true_eq_false, ↓reduceIte, Int.reduceBNe])
      | (refine hK _ ?_; clear hK)
      | (clear hK; refine hK _ ?_; clear hK)
      | (clear hK; clear hK; refine hK _ ?_; clear hK)
      | (clear hK; clear hK; clear hK; refine hK _ ?_; clear hK)
      | (refine AWp.cond ?_; simp -implicitDefEqProofs (maxSteps := 1000000) (disch := omega) only [go_sem, wrap64, Int.tdiv_eq_ediv_of_nonneg, Int.tmod_eq_emod_of_nonneg, Nat.reduceAdd, Nat.reduceMul, Nat.reduceEqDiff, Nat.reduceLT, Nat.reduceLeDiff, Int.reduceEq, Int.reduceNeg, Int.reduceToNat, reduceCtorEq, eq_self, Bool.false_eq_true, Bool.true_eq_false, ↓reduceIte, Int.reduceBNe]; try (refine ⟨fun hlt => ?_, fun hlt => ?_⟩ <;> (try simp only [decide_eq_true_eq, decide_eq_false_iff_not, beq_iff_eq, bne_iff_ne, ne_eq, beq_eq_false_iff_ne, bne_eq_false_iff_eq, Bool.true_eq_false, Bool.false_eq_true, Int.not_lt, Int.not_le, Decidable.not_not, gt_iff_lt, ge_iff_le, reduceCtorEq] at hlt) <;> (try exact hlt.elim)))
      | (refine AWp.block ?_)
      | ((first | refine gdO_split (fun hlt => ?_) (fun hlt => ?_) | refine tkO_split (fun hlt => ?_) (fun hlt => ?_) | refine opO_split (fun hlt => ?_) (fun hlt => ?_)) <;> have hgd := hlt <;> (try simp only [decide_eq_true_eq, decide_eq_false_iff_not, beq_iff_eq, bne_iff_ne, ne_eq, beq_eq_false_iff_ne, bne_eq_false_iff_eq, Bool.not_eq_true, Bool.not_eq_false, Bool.not_eq_eq_eq_not, Int.not_lt, Int.not_le, Decidable.not_not, gt_iff_lt, ge_iff_le] at hlt) <;> (simp -implicitDefEqProofs (maxSteps := 1000000) (disch := omega) only [go_sem, wrap64, Int.tdiv_eq_ediv_of_nonneg, Int.tmod_eq_emod_of_nonneg, Nat.reduceAdd, Nat.reduceMul, Nat.reduceEqDiff, Nat.reduceLT, Nat.reduceLeDiff, Int.reduceEq, Int.reduceNeg, Int.reduceToNat, reduceCtorEq, eq_self, Bool.false_eq_true, Bool.true_eq_false, ↓reduceIte, Int.reduceBNe, hgd]) <;> clear hgd)
      | (with_reducible refine And.intro ?_ ?_; · first | omega | assumption | exact ⟨_, _, rfl, rfl⟩)
      | fail
    all_goals first | rfl | contradiction
theorem times_P (p q : Int × Int) (hp : okP p) (hq : okP q) : PC Tryz.prog 20 [GP p, GP q] (GP (timesP p q)) := by
  obtain ⟨x, e⟩ := p
  obtain ⟨y, f⟩ := q
  have h := Mul_ok x y hp hq
  rw [limR_P] at h
  have g := got_lim (x * y)
  unfold timesP
  by_cases h1 : e = 0 <;> by_cases h2 : f = 0
  · subst h1; subst h2
    rw [if_pos ⟨rfl, rfl⟩]
    simp only [GP, GZ, Gr] at g ⊢
    refine PCr.pc (PCr.of tab_ok Tryz.func20 rfl rfl rfl fun c hc hm => ?_)
    rw [show Tryz.f20.ntmps = _ from Tryz.ntmps20] at hc
    simp only [Tryz.f20]
    repeat' first
      | (refine AWp.seq fun K hK => ?_)
      | ((first | refine AWp.region (by rw [hc]; rfl) ?_ | refine AWp.skip ?_ | refine AWp.exit ?_ | refine AWp.label ?_ | refine AWp.ret ?_ | refine appK_g ?_); simp -implicitDefEqProofs (maxSteps := 1000000) (disch := omega) only [go_sem, wrap64, Int.tdiv_eq_ediv_of_nonneg, Int.tmod_eq_emod_of_nonneg, Nat.reduceAdd, Nat.reduceMul, Nat.reduceEqDiff, Nat.reduceLT, Nat.reduceLeDiff, Int.reduceEq, Int.reduceNeg, Int.reduceToNat, reduceCtorEq, eq_self, Bool.false_eq_true, Bool.true_eq_false, ↓reduceIte, Int.reduceBNe])
      | (refine hK _ ?_; clear hK)
      | (clear hK; refine hK _ ?_; clear hK)
      | (clear hK; clear hK; refine hK _ ?_; clear hK)
      | (clear hK; clear hK; clear hK; refine hK _ ?_; clear hK)
      | (refine AWp.cond ?_; simp -implicitDefEqProofs (maxSteps := 1000000) (disch := omega) only [go_sem, wrap64, Int.tdiv_eq_ediv_of_nonneg, Int.tmod_eq_emod_of_nonneg, Nat.reduceAdd, Nat.reduceMul, Nat.reduceEqDiff, Nat.reduceLT, Nat.reduceLeDiff, Int.reduceEq, Int.reduceNeg, Int.reduceToNat, reduceCtorEq, eq_self, Bool.false_eq_true, Bool.true_eq_false, ↓reduceIte, Int.reduceBNe]; try (refine ⟨fun hlt => ?_, fun hlt => ?_⟩ <;> (try simp only [decide_eq_true_eq, decide_eq_false_iff_not, beq_iff_eq, bne_iff_ne, ne_eq, beq_eq_false_iff_ne, bne_eq_false_iff_eq, Bool.true_eq_false, Bool.false_eq_true, Int.not_lt, Int.not_le, Decidable.not_not, gt_iff_lt, ge_iff_le, reduceCtorEq] at hlt) <;> (try exact hlt.elim)))
      | (refine AWp.block ?_)
      | ((first | refine gdO_split (fun hlt => ?_) (fun hlt => ?_) | refine tkO_split (fun hlt => ?_) (fun hlt => ?_) | refine opO_split (fun hlt => ?_) (fun hlt => ?_)) <;> have hgd := hlt <;> (try simp only [decide_eq_true_eq, decide_eq_false_iff_not, beq_iff_eq, bne_iff_ne, ne_eq, beq_eq_false_iff_ne, bne_eq_false_iff_eq, Bool.not_eq_true, Bool.not_eq_false, Bool.not_eq_eq_eq_not, Int.not_lt, Int.not_le, Decidable.not_not, gt_iff_lt, ge_iff_le] at hlt) <;> (simp -implicitDefEqProofs (maxSteps := 1000000) (disch := omega) only [go_sem, wrap64, Int.tdiv_eq_ediv_of_nonneg, Int.tmod_eq_emod_of_nonneg, Nat.reduceAdd, Nat.reduceMul, Nat.reduceEqDiff, Nat.reduceLT, Nat.reduceLeDiff, Int.reduceEq, Int.reduceNeg, Int.reduceToNat, reduceCtorEq, eq_self, Bool.false_eq_true, Bool.true_eq_false, ↓reduceIte, Int.reduceBNe, hgd]) <;> clear hgd)
      | (with_reducible refine And.intro ?_ ?_; · first | omega | assumption | exact ⟨_, _, rfl, rfl⟩)
      | ((first | refine ⟨_, h, ?_⟩ | refine ⟨_, g, ?_⟩); simp -implicitDefEqProofs (maxSteps := 1000000) (disch := omega) only [go_sem, wrap64, Int.tdiv_eq_ediv_of_nonneg, Int.tmod_eq_emod_of_nonneg, Nat.reduceAdd, Nat.reduceMul, Nat.reduceEqDiff, Nat.reduceLT, Nat.reduceLeDiff, Int.reduceEq, Int.reduceNeg, Int.reduceToNat, reduceCtorEq, eq_self, Bool.false_eq_true, Bool.true_eq_false, ↓reduceIte, Int.reduceBNe])
      | fail
  all_goals
    rw [if_neg (by simp only [h1, h2]; decide), GP_02]
    simp only [GP, GZ, Gr]
    refine PCr.pc (PCr.of tab_ok Tryz.func20 rfl rfl rfl fun c hc hm => ?_)
    rw [show Tryz.f20.ntmps = _ from Tryz.ntmps20] at hc
    simp only [Tryz.f20]
    repeat' first
      | (refine AWp.seq fun K hK => ?_)
      | ((first | refine AWp.region (by rw [hc]; rfl) ?_ | refine AWp.skip ?_ | refine AWp.exit ?_ | refine AWp.label ?_ | refine AWp.ret ?_ | refine appK_g ?_); simp -implicitDefEqProofs (maxSteps := 1000000) (disch := omega) only [go_sem, wrap64, Int.tdiv_eq_ediv_of_nonneg, Int.tmod_eq_emod_of_nonneg, Nat.reduceAdd, Nat.reduceMul, Nat.reduceEqDiff, Nat.reduceLT, Nat.reduceLeDiff, Int.reduceEq, Int.reduceNeg, Int.reduceToNat, reduceCtorEq, eq_self, Bool.false_eq_true, Bool.true_eq_false, ↓reduceIte, Int.reduceBNe])
      | (refine hK _ ?_; clear hK)
      | (clear hK; refine hK _ ?_; clear hK)
      | (clear hK; clear hK; refine hK _ ?_; clear hK)
      | (clear hK; clear hK; clear hK; refine hK _ ?_; clear hK)
      | (refine AWp.cond ?_; simp -implicitDefEqProofs (maxSteps := 1000000) (disch := omega) only [go_sem, wrap64, Int.tdiv_eq_ediv_of_nonneg, Int.tmod_eq_emod_of_nonneg, Nat.reduceAdd, Nat.reduceMul, Nat.reduceEqDiff, Nat.reduceLT, Nat.reduceLeDiff, Int.reduceEq, Int.reduceNeg, Int.reduceToNat, reduceCtorEq, eq_self, Bool.false_eq_true, Bool.true_eq_false, ↓reduceIte, Int.reduceBNe]; try (refine ⟨fun hlt => ?_, fun hlt => ?_⟩ <;> (try simp only [decide_eq_true_eq, decide_eq_false_iff_not, beq_iff_eq, bne_iff_ne, ne_eq, beq_eq_false_iff_ne, bne_eq_false_iff_eq, Bool.true_eq_false, Bool.false_eq_true, Int.not_lt, Int.not_le, Decidable.not_not, gt_iff_lt, ge_iff_le, reduceCtorEq] at hlt) <;> (try exact hlt.elim)))
      | (refine AWp.block ?_)
      | ((first | refine gdO_split (fun hlt => ?_) (fun hlt => ?_) | refine tkO_split (fun hlt => ?_) (fun hlt => ?_) | refine opO_split (fun hlt => ?_) (fun hlt => ?_)) <;> have hgd := hlt <;> (try simp only [decide_eq_true_eq, decide_eq_false_iff_not, beq_iff_eq, bne_iff_ne, ne_eq, beq_eq_false_iff_ne, bne_eq_false_iff_eq, Bool.not_eq_true, Bool.not_eq_false, Bool.not_eq_eq_eq_not, Int.not_lt, Int.not_le, Decidable.not_not, gt_iff_lt, ge_iff_le] at hlt) <;> (simp -implicitDefEqProofs (maxSteps := 1000000) (disch := omega) only [go_sem, wrap64, Int.tdiv_eq_ediv_of_nonneg, Int.tmod_eq_emod_of_nonneg, Nat.reduceAdd, Nat.reduceMul, Nat.reduceEqDiff, Nat.reduceLT, Nat.reduceLeDiff, Int.reduceEq, Int.reduceNeg, Int.reduceToNat, reduceCtorEq, eq_self, Bool.false_eq_true, Bool.true_eq_false, ↓reduceIte, Int.reduceBNe, hgd]) <;> clear hgd)
      | (with_reducible refine And.intro ?_ ?_; · first | omega | assumption | exact ⟨_, _, rfl, rfl⟩)
      | fail
    all_goals first | rfl | contradiction
theorem same_P (p q : Int × Int) (hp : okP p) (hq : okP q) : PC Tryz.prog 26 [GP p, GP q] (B (decide (p = q))) := by
  have h := same_Z p.1 q.1 p.2 q.2 (Nat.le_trans hp (by decide)) (Nat.le_trans hq (by decide))
  rwa [show decide (p.2 = q.2 ∧ p.1 = q.1) = decide (p = q) by rw [decide_eq_decide, Prod.ext_iff]; exact And.comm] at h
theorem agree_P (p q : Int × Int) (hp : okP p) (hq : okP q) : PC Tryz.prog 31 [GP p, GP q] (B (decide (p.2 = 0 ∧ q.2 = 0 → p.1 = q.1))) := by
  obtain ⟨x, e⟩ := p
  obtain ⟨y, f⟩ := q
  have h := Same_Z x y (Nat.le_trans hp (by decide)) (Nat.le_trans hq (by decide))
  simp only [GP, GZ, Gr]
  refine PCr.pc (PCr.of tab_ok Tryz.func31 rfl rfl rfl fun c hc hm => ?_)
  rw [show Tryz.f31.ntmps = _ from Tryz.ntmps31] at hc
  simp only [Tryz.f31]
  repeat' first
    | (refine AWp.seq fun K hK => ?_)
    | ((first | refine AWp.region (by rw [hc]; rfl) ?_ | refine AWp.skip ?_ | refine AWp.exit ?_ | refine AWp.label ?_ | refine AWp.ret ?_ | refine appK_g ?_); simp -implicitDefEqProofs (maxSteps := 1000000) (disch := omega) only [go_sem, wrap64, Int.tdiv_eq_ediv_of_nonneg, Int.tmod_eq_emod_of_nonneg, Nat.reduceAdd, Nat.reduceMul, Nat.reduceEqDiff, Nat.reduceLT, Nat.reduceLeDiff, Int.reduceEq, Int.reduceNeg, Int.reduceToNat, reduceCtorEq, eq_self, Bool.false_eq_true, Bool.true_eq_false, ↓reduceIte, Int.reduceBNe])
    | (refine hK _ ?_; clear hK)
    | (clear hK; refine hK _ ?_; clear hK)
    | (clear hK; clear hK; refine hK _ ?_; clear hK)
    | (clear hK; clear hK; clear hK; refine hK _ ?_; clear hK)
    | (refine AWp.cond ?_; simp -implicitDefEqProofs (maxSteps := 1000000) (disch := omega) only [go_sem, wrap64, Int.tdiv_eq_ediv_of_nonneg, Int.tmod_eq_emod_of_nonneg, Nat.reduceAdd, Nat.reduceMul, Nat.reduceEqDiff, Nat.reduceLT, Nat.reduceLeDiff, Int.reduceEq, Int.reduceNeg, Int.reduceToNat, reduceCtorEq, eq_self, Bool.false_eq_true, Bool.true_eq_false, ↓reduceIte, Int.reduceBNe]; try (refine ⟨fun hlt => ?_, fun hlt => ?_⟩ <;> (try simp only [decide_eq_true_eq, decide_eq_false_iff_not, beq_iff_eq, bne_iff_ne, ne_eq, beq_eq_false_iff_ne, bne_eq_false_iff_eq, Bool.true_eq_false, Bool.false_eq_true, Int.not_lt, Int.not_le, Decidable.not_not, gt_iff_lt, ge_iff_le, reduceCtorEq] at hlt) <;> (try exact hlt.elim)))
    | (refine AWp.block ?_)
    | ((first | refine gdO_split (fun hlt => ?_) (fun hlt => ?_) | refine tkO_split (fun hlt => ?_) (fun hlt => ?_) | refine opO_split (fun hlt => ?_) (fun hlt => ?_)) <;> have hgd := hlt <;> (try simp only [decide_eq_true_eq, decide_eq_false_iff_not, beq_iff_eq, bne_iff_ne, ne_eq, beq_eq_false_iff_ne, bne_eq_false_iff_eq, Bool.not_eq_true, Bool.not_eq_false, Bool.not_eq_eq_eq_not, Int.not_lt, Int.not_le, Decidable.not_not, gt_iff_lt, ge_iff_le] at hlt) <;> (simp -implicitDefEqProofs (maxSteps := 1000000) (disch := omega) only [go_sem, wrap64, Int.tdiv_eq_ediv_of_nonneg, Int.tmod_eq_emod_of_nonneg, Nat.reduceAdd, Nat.reduceMul, Nat.reduceEqDiff, Nat.reduceLT, Nat.reduceLeDiff, Int.reduceEq, Int.reduceNeg, Int.reduceToNat, reduceCtorEq, eq_self, Bool.false_eq_true, Bool.true_eq_false, ↓reduceIte, Int.reduceBNe, hgd]) <;> clear hgd)
    | (with_reducible refine And.intro ?_ ?_; · first | omega | assumption | exact ⟨_, _, rfl, rfl⟩)
    | ((first | refine ⟨_, h, ?_⟩); simp -implicitDefEqProofs (maxSteps := 1000000) (disch := omega) only [go_sem, wrap64, Int.tdiv_eq_ediv_of_nonneg, Int.tmod_eq_emod_of_nonneg, Nat.reduceAdd, Nat.reduceMul, Nat.reduceEqDiff, Nat.reduceLT, Nat.reduceLeDiff, Int.reduceEq, Int.reduceNeg, Int.reduceToNat, reduceCtorEq, eq_self, Bool.false_eq_true, Bool.true_eq_false, ↓reduceIte, Int.reduceBNe])
    | fail
  all_goals first
    | (refine (decide_eq_true ?_).symm; rintro ⟨h1, h2⟩; contradiction)
    | (rw [decide_eq_decide]; exact ⟨fun h _ => h, fun h => h ⟨by assumption, by assumption⟩⟩)
theorem smaller_Z (x y : Int) (lx : lenZ x ≤ 1000000) (ly : lenZ y ≤ 1000000) : PC Tryz.prog 35 [Z x, Z y] (B (decide (x.natAbs < y.natAbs))) := by
  have h := Compare_Z x.natAbs y.natAbs (by unfold lenZ at *; rwa [Int.natAbs_natCast]) (by unfold lenZ at *; rwa [Int.natAbs_natCast])
  have e : ∀ n : Nat, Z (n : Int) = Zr false (D n) := fun n => by
    show Zr (decide ((n : Int) < 0)) (D (n : Int).natAbs) = _
    rw [Int.natAbs_natCast, decide_eq_false (by omega)]
  rw [e, e] at h
  refine PCr.pc (PCr.of tab_ok Tryz.func35 rfl rfl rfl fun c hc hm => ?_)
  rw [show Tryz.f35.ntmps = _ from Tryz.ntmps35] at hc
  simp only [Tryz.f35]
  repeat' first
    | (refine AWp.seq fun K hK => ?_)
    | ((first | refine AWp.region (by rw [hc]; rfl) ?_ | refine AWp.skip ?_ | refine AWp.exit ?_ | refine AWp.label ?_ | refine AWp.ret ?_ | refine appK_g ?_); simp -implicitDefEqProofs (maxSteps := 1000000) (disch := omega) only [go_sem, wrap64, Int.tdiv_eq_ediv_of_nonneg, Int.tmod_eq_emod_of_nonneg, Nat.reduceAdd, Nat.reduceMul, Nat.reduceEqDiff, Nat.reduceLT, Nat.reduceLeDiff, Int.reduceEq, Int.reduceNeg, Int.reduceToNat, reduceCtorEq, eq_self, Bool.false_eq_true, Bool.true_eq_false, ↓reduceIte])
    | (refine hK _ ?_; clear hK)
    | (clear hK; refine hK _ ?_; clear hK)
    | (clear hK; clear hK; refine hK _ ?_; clear hK)
    | (clear hK; clear hK; clear hK; refine hK _ ?_; clear hK)
    | (refine AWp.cond ?_; simp -implicitDefEqProofs (maxSteps := 1000000) (disch := omega) only [go_sem, wrap64, Int.tdiv_eq_ediv_of_nonneg, Int.tmod_eq_emod_of_nonneg, Nat.reduceAdd, Nat.reduceMul, Nat.reduceEqDiff, Nat.reduceLT, Nat.reduceLeDiff, Int.reduceEq, Int.reduceNeg, Int.reduceToNat, reduceCtorEq, eq_self, Bool.false_eq_true, Bool.true_eq_false, ↓reduceIte]; try (refine ⟨fun hlt => ?_, fun hlt => ?_⟩ <;> (try simp only [decide_eq_true_eq, decide_eq_false_iff_not, beq_iff_eq, bne_iff_ne, ne_eq, beq_eq_false_iff_ne, bne_eq_false_iff_eq, Bool.true_eq_false, Bool.false_eq_true, Int.not_lt, Int.not_le, Decidable.not_not, gt_iff_lt, ge_iff_le, reduceCtorEq] at hlt) <;> (try exact hlt.elim)))
    | (refine AWp.block ?_)
    | ((first | refine gdO_split (fun hlt => ?_) (fun hlt => ?_) | refine tkO_split (fun hlt => ?_) (fun hlt => ?_) | refine opO_split (fun hlt => ?_) (fun hlt => ?_)) <;> have hgd := hlt <;> (try simp only [decide_eq_true_eq, decide_eq_false_iff_not, beq_iff_eq, bne_iff_ne, ne_eq, beq_eq_false_iff_ne, bne_eq_false_iff_eq, Bool.not_eq_true, Bool.not_eq_false, Bool.not_eq_eq_eq_not, Int.not_lt, Int.not_le, Decidable.not_not, gt_iff_lt, ge_iff_le] at hlt) <;> (simp -implicitDefEqProofs (maxSteps := 1000000) (disch := omega) only [go_sem, wrap64, Int.tdiv_eq_ediv_of_nonneg, Int.tmod_eq_emod_of_nonneg, Nat.reduceAdd, Nat.reduceMul, Nat.reduceEqDiff, Nat.reduceLT, Nat.reduceLeDiff, Int.reduceEq, Int.reduceNeg, Int.reduceToNat, reduceCtorEq, eq_self, Bool.false_eq_true, Bool.true_eq_false, ↓reduceIte, hgd]) <;> clear hgd)
    | (with_reducible refine And.intro ?_ ?_; · first | omega | assumption | exact ⟨_, _, rfl, rfl⟩)
    | ((first | refine ⟨_, h, ?_⟩); simp -implicitDefEqProofs (maxSteps := 1000000) (disch := omega) only [go_sem, wrap64, Int.tdiv_eq_ediv_of_nonneg, Int.tmod_eq_emod_of_nonneg, Nat.reduceAdd, Nat.reduceMul, Nat.reduceEqDiff, Nat.reduceLT, Nat.reduceLeDiff, Int.reduceEq, Int.reduceNeg, Int.reduceToNat, reduceCtorEq, eq_self, Bool.false_eq_true, Bool.true_eq_false, ↓reduceIte])
    | fail
  rw [decide_eq_decide]
  simp only [cmpI]; (repeat' split) <;> omega
end Go.Proofs.YthhjcfejgoddlaaGreatDoor
end

section
set_option linter.unusedSimpArgs false
set_option linter.unusedVariables false
set_option maxRecDepth 100000
namespace Go.Proofs.YthhjcfejgoddlaaGreatDoor
open Go Go.Abs

theorem okI_def (neg : Bool) (d : List Int) : okI neg d ↔ d.length ≤ 40 ∧ (d.length = 0 → neg = false) ∧ (0 < d.length → d.getD (d.length - 1) 0 ≠ 0) ∧ ∀ j, j < d.length → 0 ≤ d.getD j 0 ∧ d.getD j 0 < 1000000000 := by
  rw [okI_iff]
  have e : ((d.any fun x => decide (x < 0 ∨ 1000000000 ≤ x)) = false) ↔ ∀ j, j < d.length → 0 ≤ d.getD j 0 ∧ d.getD j 0 < 1000000000 := by
    rw [List.any_eq_false]
    constructor
    · intro h j hj
      have h1 := h (d.getD j 0) (by simp [hj])
      simp only [decide_eq_true_eq] at h1; omega
    · intro h x hx
      obtain ⟨j, hj, rfl⟩ := List.getElem_of_mem hx
      have h1 := h j hj
      simp only [List.getD, List.getElem?_eq_getElem hj, Option.getD_some] at h1
      simp only [decide_eq_true_eq]; omega
  rw [e]
def F77 (neg : Bool) (d : List Int) (i : Nat) : St := ⟨[(1, .ptr 0 0), (3, I d.length), (4, I i)], [(0, .box [B neg, L d] false)], 1, 0⟩
theorem Is_f (d : List Int) : PC Tryz.prog 77 [Zr false d] (B (decide (okI false d))) := by
  refine PCr.pc (PCr.of tab_ok Tryz.func77 rfl rfl rfl fun c hc hm => ?_)
  rw [show Tryz.f77.ntmps = _ from Tryz.ntmps77] at hc
  simp only [Tryz.f77]
  repeat' first
    | (refine AWp.seq fun K hK => ?_)
    | ((first | refine AWp.region (by rw [hc]; rfl) ?_ | refine AWp.skip ?_ | refine AWp.exit ?_ | refine AWp.label ?_ | refine AWp.ret ?_ | refine appK_g ?_); simp -implicitDefEqProofs (maxSteps := 1000000) (disch := omega) only [go_sem, wrap64, Int.tdiv_eq_ediv_of_nonneg, Int.tmod_eq_emod_of_nonneg, Nat.reduceAdd, Nat.reduceMul, Nat.reduceEqDiff, Nat.reduceLT, Nat.reduceLeDiff, Int.reduceEq, Int.reduceNeg, Int.reduceToNat, reduceCtorEq, eq_self, Bool.false_eq_true, Bool.true_eq_false, ↓reduceIte])
    | (refine hK _ ?_; clear hK)
    | (clear hK; refine hK _ ?_; clear hK)
    | (clear hK; clear hK; refine hK _ ?_; clear hK)
    | (clear hK; clear hK; clear hK; refine hK _ ?_; clear hK)
    | (refine AWp.cond ?_; simp -implicitDefEqProofs (maxSteps := 1000000) (disch := omega) only [go_sem, wrap64, Int.tdiv_eq_ediv_of_nonneg, Int.tmod_eq_emod_of_nonneg, Nat.reduceAdd, Nat.reduceMul, Nat.reduceEqDiff, Nat.reduceLT, Nat.reduceLeDiff, Int.reduceEq, Int.reduceNeg, Int.reduceToNat, reduceCtorEq, eq_self, Bool.false_eq_true, Bool.true_eq_false, ↓reduceIte]; try (refine ⟨fun hlt => ?_, fun hlt => ?_⟩ <;> (try simp only [decide_eq_true_eq, decide_eq_false_iff_not, beq_iff_eq, bne_iff_ne, ne_eq, beq_eq_false_iff_ne, bne_eq_false_iff_eq, Bool.true_eq_false, Bool.false_eq_true, Int.not_lt, Int.not_le, Decidable.not_not, gt_iff_lt, ge_iff_le, reduceCtorEq] at hlt) <;> (try exact hlt.elim)))
    | (refine AWp.block ?_)
    | ((first | refine gdO_split (fun hlt => ?_) (fun hlt => ?_) | refine tkO_split (fun hlt => ?_) (fun hlt => ?_) | refine opO_split (fun hlt => ?_) (fun hlt => ?_)) <;> have hgd := hlt <;> (try simp only [decide_eq_true_eq, decide_eq_false_iff_not, beq_iff_eq, bne_iff_ne, ne_eq, beq_eq_false_iff_ne, bne_eq_false_iff_eq, Bool.not_eq_true, Bool.not_eq_false, Bool.not_eq_eq_eq_not, Int.not_lt, Int.not_le, Decidable.not_not, gt_iff_lt, ge_iff_le] at hlt) <;> (simp -implicitDefEqProofs (maxSteps := 1000000) (disch := omega) only [go_sem, wrap64, Int.tdiv_eq_ediv_of_nonneg, Int.tmod_eq_emod_of_nonneg, Nat.reduceAdd, Nat.reduceMul, Nat.reduceEqDiff, Nat.reduceLT, Nat.reduceLeDiff, Int.reduceEq, Int.reduceNeg, Int.reduceToNat, reduceCtorEq, eq_self, Bool.false_eq_true, Bool.true_eq_false, ↓reduceIte, hgd]) <;> clear hgd)
    | (with_reducible refine And.intro ?_ ?_; · first | omega | assumption | exact ⟨_, _, rfl, rfl⟩)
    | fail
  all_goals try (exfalso; omega)
  all_goals try contradiction
  all_goals try (refine (decide_eq_false ?_).symm; rw [okI_def]; rintro ⟨h1, h2, h3, h4⟩; first | omega | (exact h3 (by omega) (by assumption)) | (exact absurd (h2 (by omega)) (by decide)))
  all_goals
    refine AWp.loopInv (F77 false d) (fun i => d.length - i) (fun i => i ≤ d.length ∧ ∀ j, j < i → 0 ≤ d.getD j 0 ∧ d.getD j 0 < 1000000000) 0 ⟨Nat.zero_le _, fun j h => absurd h (Nat.not_lt_zero _)⟩ (Sub.of0 hm id rfl ?_ ?_ (fun _ _ _ _ h => h)) ?_
    all_goals (try dsimp only)
    all_goals (first | omega | (simp -implicitDefEqProofs (maxSteps := 1000000) (disch := omega) only [F77, id, go_sem, Nat.blt_eq, Nat.reduceAdd, Nat.reduceSub, Nat.reduceEqDiff, Nat.reduceLT, ↓reduceIte, and_true, true_and, AV.dat.injEq, DV.int.injEq, DV.bool.injEq, DV.lst.injEq, eq_self_iff_true]; first | done | omega | (simp; done) | (simp; omega)) | (simp; done) | (simp; omega) | skip)
    rintro i ⟨h1, h2⟩ ih
    simp only [F77]
    repeat' first
      | (refine AWp.seq fun K hK => ?_)
      | ((first | refine AWp.region (by rw [hc]; rfl) ?_ | refine AWp.skip ?_ | refine AWp.exit ?_ | refine AWp.label ?_ | refine AWp.ret ?_ | refine appK_g ?_); simp -implicitDefEqProofs (maxSteps := 1000000) (disch := omega) only [go_sem, wrap64, Int.tdiv_eq_ediv_of_nonneg, Int.tmod_eq_emod_of_nonneg, Nat.reduceAdd, Nat.reduceMul, Nat.reduceEqDiff, Nat.reduceLT, Nat.reduceLeDiff, Int.reduceEq, Int.reduceNeg, Int.reduceToNat, reduceCtorEq, eq_self, Bool.false_eq_true, Bool.true_eq_false, ↓reduceIte])
      | (refine hK _ ?_; clear hK)
      | (clear hK; refine hK _ ?_; clear hK)
      | (clear hK; clear hK; refine hK _ ?_; clear hK)
      | (clear hK; clear hK; clear hK; refine hK _ ?_; clear hK)
      | (refine AWp.cond ?_; simp -implicitDefEqProofs (maxSteps := 1000000) (disch := omega) only [go_sem, wrap64, Int.tdiv_eq_ediv_of_nonneg, Int.tmod_eq_emod_of_nonneg, Nat.reduceAdd, Nat.reduceMul, Nat.reduceEqDiff, Nat.reduceLT, Nat.reduceLeDiff, Int.reduceEq, Int.reduceNeg, Int.reduceToNat, reduceCtorEq, eq_self, Bool.false_eq_true, Bool.true_eq_false, ↓reduceIte]; try (refine ⟨fun hlt => ?_, fun hlt => ?_⟩ <;> (try simp only [decide_eq_true_eq, decide_eq_false_iff_not, beq_iff_eq, bne_iff_ne, ne_eq, beq_eq_false_iff_ne, bne_eq_false_iff_eq, Bool.true_eq_false, Bool.false_eq_true, Int.not_lt, Int.not_le, Decidable.not_not, gt_iff_lt, ge_iff_le, reduceCtorEq] at hlt) <;> (try exact hlt.elim)))
      | (refine AWp.block ?_)
      | ((first | refine gdO_split (fun hlt => ?_) (fun hlt => ?_) | refine tkO_split (fun hlt => ?_) (fun hlt => ?_) | refine opO_split (fun hlt => ?_) (fun hlt => ?_)) <;> have hgd := hlt <;> (try simp only [decide_eq_true_eq, decide_eq_false_iff_not, beq_iff_eq, bne_iff_ne, ne_eq, beq_eq_false_iff_ne, bne_eq_false_iff_eq, Bool.not_eq_true, Bool.not_eq_false, Bool.not_eq_eq_eq_not, Int.not_lt, Int.not_le, Decidable.not_not, gt_iff_lt, ge_iff_le] at hlt) <;> (simp -implicitDefEqProofs (maxSteps := 1000000) (disch := omega) only [go_sem, wrap64, Int.tdiv_eq_ediv_of_nonneg, Int.tmod_eq_emod_of_nonneg, Nat.reduceAdd, Nat.reduceMul, Nat.reduceEqDiff, Nat.reduceLT, Nat.reduceLeDiff, Int.reduceEq, Int.reduceNeg, Int.reduceToNat, reduceCtorEq, eq_self, Bool.false_eq_true, Bool.true_eq_false, ↓reduceIte, hgd]) <;> clear hgd)
      | (with_reducible refine And.intro ?_ ?_; · first | omega | assumption | exact ⟨_, _, rfl, rfl⟩)
      | fail
    all_goals try (exfalso; omega)
    all_goals try (refine (decide_eq_false ?_).symm; rw [okI_def]; rintro ⟨k1, k2, k3, k4⟩; have := k4 i (by omega); omega)
    all_goals try (refine (decide_eq_true ?_).symm; rw [okI_def]; exact ⟨by omega, fun _ => by first | rfl | omega, fun _ => by first | assumption | omega, fun j hj => h2 j (by omega)⟩)
    all_goals
      refine ih (i + 1) _ ⟨by omega, fun j hj => ?_⟩ (by omega) (Sub.of0 hm id rfl ?_ ?_ (fun _ _ _ _ h => h))
      · by_cases h : j = i
        · subst h; exact ⟨by assumption, by assumption⟩
        · exact h2 j (by omega)
      all_goals (try dsimp only)
      all_goals (first | omega | (simp -implicitDefEqProofs (maxSteps := 1000000) (disch := omega) only [F77, id, go_sem, Nat.blt_eq, Nat.reduceAdd, Nat.reduceSub, Nat.reduceEqDiff, Nat.reduceLT, ↓reduceIte, and_true, true_and, AV.dat.injEq, DV.int.injEq, DV.bool.injEq, DV.lst.injEq, eq_self_iff_true]; first | done | omega | (simp; done) | (simp; omega)) | (simp; done) | (simp; omega) | skip)
theorem Is_t (d : List Int) : PC Tryz.prog 77 [Zr true d] (B (decide (okI true d))) := by
  refine PCr.pc (PCr.of tab_ok Tryz.func77 rfl rfl rfl fun c hc hm => ?_)
  rw [show Tryz.f77.ntmps = _ from Tryz.ntmps77] at hc
  simp only [Tryz.f77]
  repeat' first
    | (refine AWp.seq fun K hK => ?_)
    | ((first | refine AWp.region (by rw [hc]; rfl) ?_ | refine AWp.skip ?_ | refine AWp.exit ?_ | refine AWp.label ?_ | refine AWp.ret ?_ | refine appK_g ?_); simp -implicitDefEqProofs (maxSteps := 1000000) (disch := omega) only [go_sem, wrap64, Int.tdiv_eq_ediv_of_nonneg, Int.tmod_eq_emod_of_nonneg, Nat.reduceAdd, Nat.reduceMul, Nat.reduceEqDiff, Nat.reduceLT, Nat.reduceLeDiff, Int.reduceEq, Int.reduceNeg, Int.reduceToNat, reduceCtorEq, eq_self, Bool.false_eq_true, Bool.true_eq_false, ↓reduceIte])
    | (refine hK _ ?_; clear hK)
    | (clear hK; refine hK _ ?_; clear hK)
    | (clear hK; clear hK; refine hK _ ?_; clear hK)
    | (clear hK; clear hK; clear hK; refine hK _ ?_; clear hK)
    | (refine AWp.cond ?_; simp -implicitDefEqProofs (maxSteps := 1000000) (disch := omega) only [go_sem, wrap64, Int.tdiv_eq_ediv_of_nonneg, Int.tmod_eq_emod_of_nonneg, Nat.reduceAdd, Nat.reduceMul, Nat.reduceEqDiff, Nat.reduceLT, Nat.reduceLeDiff, Int.reduceEq, Int.reduceNeg, Int.reduceToNat, reduceCtorEq, eq_self, Bool.false_eq_true, Bool.true_eq_false, ↓reduceIte]; try (refine ⟨fun hlt => ?_, fun hlt => ?_⟩ <;> (try simp only [decide_eq_true_eq, decide_eq_false_iff_not, beq_iff_eq, bne_iff_ne, ne_eq, beq_eq_false_iff_ne, bne_eq_false_iff_eq, Bool.true_eq_false, Bool.false_eq_true, Int.not_lt, Int.not_le, Decidable.not_not, gt_iff_lt, ge_iff_le, reduceCtorEq] at hlt) <;> (try exact hlt.elim)))
    | (refine AWp.block ?_)
    | ((first | refine gdO_split (fun hlt => ?_) (fun hlt => ?_) | refine tkO_split (fun hlt => ?_) (fun hlt => ?_) | refine opO_split (fun hlt => ?_) (fun hlt => ?_)) <;> have hgd := hlt <;> (try simp only [decide_eq_true_eq, decide_eq_false_iff_not, beq_iff_eq, bne_iff_ne, ne_eq, beq_eq_false_iff_ne, bne_eq_false_iff_eq, Bool.not_eq_true, Bool.not_eq_false, Bool.not_eq_eq_eq_not, Int.not_lt, Int.not_le, Decidable.not_not, gt_iff_lt, ge_iff_le] at hlt) <;> (simp -implicitDefEqProofs (maxSteps := 1000000) (disch := omega) only [go_sem, wrap64, Int.tdiv_eq_ediv_of_nonneg, Int.tmod_eq_emod_of_nonneg, Nat.reduceAdd, Nat.reduceMul, Nat.reduceEqDiff, Nat.reduceLT, Nat.reduceLeDiff, Int.reduceEq, Int.reduceNeg, Int.reduceToNat, reduceCtorEq, eq_self, Bool.false_eq_true, Bool.true_eq_false, ↓reduceIte, hgd]) <;> clear hgd)
    | (with_reducible refine And.intro ?_ ?_; · first | omega | assumption | exact ⟨_, _, rfl, rfl⟩)
    | fail
  all_goals try (exfalso; omega)
  all_goals try contradiction
  all_goals try (refine (decide_eq_false ?_).symm; rw [okI_def]; rintro ⟨h1, h2, h3, h4⟩; first | omega | (exact h3 (by omega) (by assumption)) | (exact absurd (h2 (by omega)) (by decide)))
  all_goals
    refine AWp.loopInv (F77 true d) (fun i => d.length - i) (fun i => i ≤ d.length ∧ ∀ j, j < i → 0 ≤ d.getD j 0 ∧ d.getD j 0 < 1000000000) 0 ⟨Nat.zero_le _, fun j h => absurd h (Nat.not_lt_zero _)⟩ (Sub.of0 hm id rfl ?_ ?_ (fun _ _ _ _ h => h)) ?_
    all_goals (try dsimp only)
    all_goals (first | omega | (simp -implicitDefEqProofs (maxSteps := 1000000) (disch := omega) only [F77, id, go_sem, Nat.blt_eq, Nat.reduceAdd, Nat.reduceSub, Nat.reduceEqDiff, Nat.reduceLT, ↓reduceIte, and_true, true_and, AV.dat.injEq, DV.int.injEq, DV.bool.injEq, DV.lst.injEq, eq_self_iff_true]; first | done | omega | (simp; done) | (simp; omega)) | (simp; done) | (simp; omega) | skip)
    rintro i ⟨h1, h2⟩ ih
    simp only [F77]
    repeat' first
      | (refine AWp.seq fun K hK => ?_)
      | ((first | refine AWp.region (by rw [hc]; rfl) ?_ | refine AWp.skip ?_ | refine AWp.exit ?_ | refine AWp.label ?_ | refine AWp.ret ?_ | refine appK_g ?_); simp -implicitDefEqProofs (maxSteps := 1000000) (disch := omega) only [go_sem, wrap64, Int.tdiv_eq_ediv_of_nonneg, Int.tmod_eq_emod_of_nonneg, Nat.reduceAdd, Nat.reduceMul, Nat.reduceEqDiff, Nat.reduceLT, Nat.reduceLeDiff, Int.reduceEq, Int.reduceNeg, Int.reduceToNat, reduceCtorEq, eq_self, Bool.false_eq_true, Bool.true_eq_false, ↓reduceIte])
      | (refine hK _ ?_; clear hK)
      | (clear hK; refine hK _ ?_; clear hK)
      | (clear hK; clear hK; refine hK _ ?_; clear hK)
      | (clear hK; clear hK; clear hK; refine hK _ ?_; clear hK)
      | (refine AWp.cond ?_; simp -implicitDefEqProofs (maxSteps := 1000000) (disch := omega) only [go_sem, wrap64, Int.tdiv_eq_ediv_of_nonneg, Int.tmod_eq_emod_of_nonneg, Nat.reduceAdd, Nat.reduceMul, Nat.reduceEqDiff, Nat.reduceLT, Nat.reduceLeDiff, Int.reduceEq, Int.reduceNeg, Int.reduceToNat, reduceCtorEq, eq_self, Bool.false_eq_true, Bool.true_eq_false, ↓reduceIte]; try (refine ⟨fun hlt => ?_, fun hlt => ?_⟩ <;> (try simp only [decide_eq_true_eq, decide_eq_false_iff_not, beq_iff_eq, bne_iff_ne, ne_eq, beq_eq_false_iff_ne, bne_eq_false_iff_eq, Bool.true_eq_false, Bool.false_eq_true, Int.not_lt, Int.not_le, Decidable.not_not, gt_iff_lt, ge_iff_le, reduceCtorEq] at hlt) <;> (try exact hlt.elim)))
      | (refine AWp.block ?_)
      | ((first | refine gdO_split (fun hlt => ?_) (fun hlt => ?_) | refine tkO_split (fun hlt => ?_) (fun hlt => ?_) | refine opO_split (fun hlt => ?_) (fun hlt => ?_)) <;> have hgd := hlt <;> (try simp only [decide_eq_true_eq, decide_eq_false_iff_not, beq_iff_eq, bne_iff_ne, ne_eq, beq_eq_false_iff_ne, bne_eq_false_iff_eq, Bool.not_eq_true, Bool.not_eq_false, Bool.not_eq_eq_eq_not, Int.not_lt, Int.not_le, Decidable.not_not, gt_iff_lt, ge_iff_le] at hlt) <;> (simp -implicitDefEqProofs (maxSteps := 1000000) (disch := omega) only [go_sem, wrap64, Int.tdiv_eq_ediv_of_nonneg, Int.tmod_eq_emod_of_nonneg, Nat.reduceAdd, Nat.reduceMul, Nat.reduceEqDiff, Nat.reduceLT, Nat.reduceLeDiff, Int.reduceEq, Int.reduceNeg, Int.reduceToNat, reduceCtorEq, eq_self, Bool.false_eq_true, Bool.true_eq_false, ↓reduceIte, hgd]) <;> clear hgd)
      | (with_reducible refine And.intro ?_ ?_; · first | omega | assumption | exact ⟨_, _, rfl, rfl⟩)
      | fail
    all_goals try (exfalso; omega)
    all_goals try (refine (decide_eq_false ?_).symm; rw [okI_def]; rintro ⟨k1, k2, k3, k4⟩; have := k4 i (by omega); omega)
    all_goals try (refine (decide_eq_true ?_).symm; rw [okI_def]; exact ⟨by omega, fun _ => by first | rfl | omega, fun _ => by first | assumption | omega, fun j hj => h2 j (by omega)⟩)
    all_goals
      refine ih (i + 1) _ ⟨by omega, fun j hj => ?_⟩ (by omega) (Sub.of0 hm id rfl ?_ ?_ (fun _ _ _ _ h => h))
      · by_cases h : j = i
        · subst h; exact ⟨by assumption, by assumption⟩
        · exact h2 j (by omega)
      all_goals (try dsimp only)
      all_goals (first | omega | (simp -implicitDefEqProofs (maxSteps := 1000000) (disch := omega) only [F77, id, go_sem, Nat.blt_eq, Nat.reduceAdd, Nat.reduceSub, Nat.reduceEqDiff, Nat.reduceLT, ↓reduceIte, and_true, true_and, AV.dat.injEq, DV.int.injEq, DV.bool.injEq, DV.lst.injEq, eq_self_iff_true]; first | done | omega | (simp; done) | (simp; omega)) | (simp; done) | (simp; omega) | skip)
theorem Is_pc (neg : Bool) (d : List Int) : PC Tryz.prog 77 [Zr neg d] (B (decide (okI neg d))) := by
  cases neg
  · exact Is_f d
  · exact Is_t d

theorem right1_pc (neg : Bool) (d : List Int) : PC Tryz.prog 76 [Zr neg d] (B (!decide (okI neg d))) := by
  have h := Is_pc neg d
  refine PCr.pc (PCr.of tab_ok Tryz.func76 rfl rfl rfl fun c hc hm => ?_)
  rw [show Tryz.f76.ntmps = _ from Tryz.ntmps76] at hc
  simp only [Tryz.f76]
  repeat' first
    | (refine AWp.seq fun K hK => ?_)
    | ((first | refine AWp.region (by rw [hc]; rfl) ?_ | refine AWp.skip ?_ | refine AWp.exit ?_ | refine AWp.label ?_ | refine AWp.ret ?_ | refine appK_g ?_); simp -implicitDefEqProofs (maxSteps := 1000000) (disch := omega) only [go_sem, wrap64, Int.tdiv_eq_ediv_of_nonneg, Int.tmod_eq_emod_of_nonneg, Nat.reduceAdd, Nat.reduceMul, Nat.reduceEqDiff, Nat.reduceLT, Nat.reduceLeDiff, Int.reduceEq, Int.reduceNeg, Int.reduceToNat, reduceCtorEq, eq_self, Bool.false_eq_true, Bool.true_eq_false, ↓reduceIte])
    | (refine hK _ ?_; clear hK)
    | (clear hK; refine hK _ ?_; clear hK)
    | (clear hK; clear hK; refine hK _ ?_; clear hK)
    | (clear hK; clear hK; clear hK; refine hK _ ?_; clear hK)
    | (refine AWp.cond ?_; simp -implicitDefEqProofs (maxSteps := 1000000) (disch := omega) only [go_sem, wrap64, Int.tdiv_eq_ediv_of_nonneg, Int.tmod_eq_emod_of_nonneg, Nat.reduceAdd, Nat.reduceMul, Nat.reduceEqDiff, Nat.reduceLT, Nat.reduceLeDiff, Int.reduceEq, Int.reduceNeg, Int.reduceToNat, reduceCtorEq, eq_self, Bool.false_eq_true, Bool.true_eq_false, ↓reduceIte]; try (refine ⟨fun hlt => ?_, fun hlt => ?_⟩ <;> (try simp only [decide_eq_true_eq, decide_eq_false_iff_not, beq_iff_eq, bne_iff_ne, ne_eq, beq_eq_false_iff_ne, bne_eq_false_iff_eq, Bool.true_eq_false, Bool.false_eq_true, Int.not_lt, Int.not_le, Decidable.not_not, gt_iff_lt, ge_iff_le, reduceCtorEq] at hlt) <;> (try exact hlt.elim)))
    | (refine AWp.block ?_)
    | ((first | refine gdO_split (fun hlt => ?_) (fun hlt => ?_) | refine tkO_split (fun hlt => ?_) (fun hlt => ?_) | refine opO_split (fun hlt => ?_) (fun hlt => ?_)) <;> have hgd := hlt <;> (try simp only [decide_eq_true_eq, decide_eq_false_iff_not, beq_iff_eq, bne_iff_ne, ne_eq, beq_eq_false_iff_ne, bne_eq_false_iff_eq, Bool.not_eq_true, Bool.not_eq_false, Bool.not_eq_eq_eq_not, Int.not_lt, Int.not_le, Decidable.not_not, gt_iff_lt, ge_iff_le] at hlt) <;> (simp -implicitDefEqProofs (maxSteps := 1000000) (disch := omega) only [go_sem, wrap64, Int.tdiv_eq_ediv_of_nonneg, Int.tmod_eq_emod_of_nonneg, Nat.reduceAdd, Nat.reduceMul, Nat.reduceEqDiff, Nat.reduceLT, Nat.reduceLeDiff, Int.reduceEq, Int.reduceNeg, Int.reduceToNat, reduceCtorEq, eq_self, Bool.false_eq_true, Bool.true_eq_false, ↓reduceIte, hgd]) <;> clear hgd)
    | (with_reducible refine And.intro ?_ ?_; · first | omega | assumption | exact ⟨_, _, rfl, rfl⟩)
    | ((first | refine ⟨_, h, ?_⟩); simp -implicitDefEqProofs (maxSteps := 1000000) (disch := omega) only [go_sem, wrap64, Int.tdiv_eq_ediv_of_nonneg, Int.tmod_eq_emod_of_nonneg, Nat.reduceAdd, Nat.reduceMul, Nat.reduceEqDiff, Nat.reduceLT, Nat.reduceLeDiff, Int.reduceEq, Int.reduceNeg, Int.reduceToNat, reduceCtorEq, eq_self, Bool.false_eq_true, Bool.true_eq_false, ↓reduceIte])
    | fail
  all_goals try rfl
  rw [decide_eq_false (fun h => by have := h.1; omega)]; rfl

def F122 (zs : List (Bool × List Int)) (f : FuncId) (i : Nat) : St := ⟨[(0, LZ zs), (1, .dat (.fn f [])), (7, I zs.length), (8, I i)], [], 0, 0⟩
theorem idxZ_pc (zs : List (Bool × List Int)) (f : FuncId) (p : Bool × List Int → Bool) (lz : zs.length ≤ 1000000) (hp : ∀ z, PC Tryz.prog f [Zr z.1 z.2] (B (p z))) : PC Tryz.prog 122 [LZ zs, .dat (.fn f [])] (I (idx p zs)) := by
  refine PCr.pc (PCr.of tab_ok Tryz.func122 rfl rfl rfl fun c hc hm => ?_)
  rw [show Tryz.f122.ntmps = _ from Tryz.ntmps122] at hc
  simp only [Tryz.f122]
  repeat' first
    | (refine AWp.seq fun K hK => ?_)
    | ((first | refine AWp.region (by rw [hc]; rfl) ?_ | refine AWp.skip ?_ | refine AWp.exit ?_ | refine AWp.label ?_ | refine AWp.ret ?_ | refine appK_g ?_); simp -implicitDefEqProofs (maxSteps := 1000000) (disch := omega) only [go_sem, wrap64, Int.tdiv_eq_ediv_of_nonneg, Int.tmod_eq_emod_of_nonneg, Nat.reduceAdd, Nat.reduceMul, Nat.reduceEqDiff, Nat.reduceLT, Nat.reduceLeDiff, Int.reduceEq, Int.reduceNeg, Int.reduceToNat, reduceCtorEq, eq_self, Bool.false_eq_true, Bool.true_eq_false, ↓reduceIte])
    | (refine hK _ ?_; clear hK)
    | (clear hK; refine hK _ ?_; clear hK)
    | (clear hK; clear hK; refine hK _ ?_; clear hK)
    | (clear hK; clear hK; clear hK; refine hK _ ?_; clear hK)
    | (refine AWp.cond ?_; simp -implicitDefEqProofs (maxSteps := 1000000) (disch := omega) only [go_sem, wrap64, Int.tdiv_eq_ediv_of_nonneg, Int.tmod_eq_emod_of_nonneg, Nat.reduceAdd, Nat.reduceMul, Nat.reduceEqDiff, Nat.reduceLT, Nat.reduceLeDiff, Int.reduceEq, Int.reduceNeg, Int.reduceToNat, reduceCtorEq, eq_self, Bool.false_eq_true, Bool.true_eq_false, ↓reduceIte]; try (refine ⟨fun hlt => ?_, fun hlt => ?_⟩ <;> (try simp only [decide_eq_true_eq, decide_eq_false_iff_not, beq_iff_eq, bne_iff_ne, ne_eq, beq_eq_false_iff_ne, bne_eq_false_iff_eq, Bool.true_eq_false, Bool.false_eq_true, Int.not_lt, Int.not_le, Decidable.not_not, gt_iff_lt, ge_iff_le, reduceCtorEq] at hlt) <;> (try exact hlt.elim)))
    | (refine AWp.block ?_)
    | ((first | refine gdO_split (fun hlt => ?_) (fun hlt => ?_) | refine tkO_split (fun hlt => ?_) (fun hlt => ?_) | refine opO_split (fun hlt => ?_) (fun hlt => ?_)) <;> have hgd := hlt <;> (try simp only [decide_eq_true_eq, decide_eq_false_iff_not, beq_iff_eq, bne_iff_ne, ne_eq, beq_eq_false_iff_ne, bne_eq_false_iff_eq, Bool.not_eq_true, Bool.not_eq_false, Bool.not_eq_eq_eq_not, Int.not_lt, Int.not_le, Decidable.not_not, gt_iff_lt, ge_iff_le] at hlt) <;> (simp -implicitDefEqProofs (maxSteps := 1000000) (disch := omega) only [go_sem, wrap64, Int.tdiv_eq_ediv_of_nonneg, Int.tmod_eq_emod_of_nonneg, Nat.reduceAdd, Nat.reduceMul, Nat.reduceEqDiff, Nat.reduceLT, Nat.reduceLeDiff, Int.reduceEq, Int.reduceNeg, Int.reduceToNat, reduceCtorEq, eq_self, Bool.false_eq_true, Bool.true_eq_false, ↓reduceIte, hgd]) <;> clear hgd)
    | (with_reducible refine And.intro ?_ ?_; · first | omega | assumption | exact ⟨_, _, rfl, rfl⟩)
    | fail
  refine AWp.loopInv (F122 zs f) (fun i => zs.length - i) (fun i => i ≤ zs.length ∧ ∀ j, j < i → p (zs.getD j (false, [])) = false) 0 ⟨Nat.zero_le _, fun j h => absurd h (Nat.not_lt_zero _)⟩ (Sub.of0 hm id rfl ?_ ?_ (fun _ _ _ _ h => h)) ?_
  all_goals (try dsimp only)
  all_goals (first | omega | (simp -implicitDefEqProofs (maxSteps := 1000000) (disch := omega) only [F122, id, go_sem, Nat.blt_eq, Nat.reduceAdd, Nat.reduceSub, Nat.reduceEqDiff, Nat.reduceLT, ↓reduceIte, and_true, true_and, AV.dat.injEq, DV.int.injEq, DV.bool.injEq, DV.lst.injEq, eq_self_iff_true]; first | done | omega | (simp; done) | (simp; omega)) | (simp; done) | (simp; omega) | skip)
  rintro i ⟨h1, h2⟩ ih
  simp only [F122]
  generalize hz : zs.getD i (false, []) = z at *
  have hpi := hp z
  repeat' first
    | (refine AWp.seq fun K hK => ?_)
    | ((first | refine AWp.region (by rw [hc]; rfl) ?_ | refine AWp.skip ?_ | refine AWp.exit ?_ | refine AWp.label ?_ | refine AWp.ret ?_ | refine appK_g ?_); simp -implicitDefEqProofs (maxSteps := 1000000) (disch := omega) only [go_sem, wrap64, Int.tdiv_eq_ediv_of_nonneg, Int.tmod_eq_emod_of_nonneg, Nat.reduceAdd, Nat.reduceMul, Nat.reduceEqDiff, Nat.reduceLT, Nat.reduceLeDiff, Int.reduceEq, Int.reduceNeg, Int.reduceToNat, reduceCtorEq, eq_self, Bool.false_eq_true, Bool.true_eq_false, ↓reduceIte, hz])
    | (refine hK _ ?_; clear hK)
    | (clear hK; refine hK _ ?_; clear hK)
    | (clear hK; clear hK; refine hK _ ?_; clear hK)
    | (clear hK; clear hK; clear hK; refine hK _ ?_; clear hK)
    | (refine AWp.cond ?_; simp -implicitDefEqProofs (maxSteps := 1000000) (disch := omega) only [go_sem, wrap64, Int.tdiv_eq_ediv_of_nonneg, Int.tmod_eq_emod_of_nonneg, Nat.reduceAdd, Nat.reduceMul, Nat.reduceEqDiff, Nat.reduceLT, Nat.reduceLeDiff, Int.reduceEq, Int.reduceNeg, Int.reduceToNat, reduceCtorEq, eq_self, Bool.false_eq_true, Bool.true_eq_false, ↓reduceIte, hz]; try (refine ⟨fun hlt => ?_, fun hlt => ?_⟩ <;> (try simp only [decide_eq_true_eq, decide_eq_false_iff_not, beq_iff_eq, bne_iff_ne, ne_eq, beq_eq_false_iff_ne, bne_eq_false_iff_eq, Bool.true_eq_false, Bool.false_eq_true, Int.not_lt, Int.not_le, Decidable.not_not, gt_iff_lt, ge_iff_le, reduceCtorEq] at hlt) <;> (try exact hlt.elim)))
    | (refine AWp.block ?_)
    | ((first | refine gdO_split (fun hlt => ?_) (fun hlt => ?_) | refine tkO_split (fun hlt => ?_) (fun hlt => ?_) | refine opO_split (fun hlt => ?_) (fun hlt => ?_)) <;> have hgd := hlt <;> (try simp only [decide_eq_true_eq, decide_eq_false_iff_not, beq_iff_eq, bne_iff_ne, ne_eq, beq_eq_false_iff_ne, bne_eq_false_iff_eq, Bool.not_eq_true, Bool.not_eq_false, Bool.not_eq_eq_eq_not, Int.not_lt, Int.not_le, Decidable.not_not, gt_iff_lt, ge_iff_le] at hlt) <;> (simp -implicitDefEqProofs (maxSteps := 1000000) (disch := omega) only [go_sem, wrap64, Int.tdiv_eq_ediv_of_nonneg, Int.tmod_eq_emod_of_nonneg, Nat.reduceAdd, Nat.reduceMul, Nat.reduceEqDiff, Nat.reduceLT, Nat.reduceLeDiff, Int.reduceEq, Int.reduceNeg, Int.reduceToNat, reduceCtorEq, eq_self, Bool.false_eq_true, Bool.true_eq_false, ↓reduceIte, hz, hgd]) <;> clear hgd)
    | (with_reducible refine And.intro ?_ ?_; · first | omega | assumption | exact ⟨_, _, rfl, rfl⟩)
    | (refine ⟨_, hpi, ?_⟩; simp -implicitDefEqProofs (maxSteps := 1000000) (disch := omega) only [go_sem, wrap64, Int.tdiv_eq_ediv_of_nonneg, Int.tmod_eq_emod_of_nonneg, Nat.reduceAdd, Nat.reduceMul, Nat.reduceEqDiff, Nat.reduceLT, Nat.reduceLeDiff, Int.reduceEq, Int.reduceNeg, Int.reduceToNat, reduceCtorEq, eq_self, Bool.false_eq_true, Bool.true_eq_false, ↓reduceIte])
    | fail
  · have hi : i < zs.length := by omega
    have e : ∀ j (hj : j < zs.length), zs.getD j (false, []) = zs[j] := fun j hj => by simp [hj]
    rw [idx_some p zs i hi (by rw [← e, hz]; exact hlt) (fun j hj => by rw [← e]; exact h2 j hj)]
  · refine ih (i + 1) _ ⟨by omega, fun j hj => ?_⟩ (by omega) (Sub.of0 hm id rfl ?_ ?_ (fun _ _ _ _ h => h))
    · by_cases h : j = i
      · subst h; rw [hz]; assumption
      · exact h2 j (by omega)
    all_goals (try dsimp only)
    all_goals (first | omega | (simp -implicitDefEqProofs (maxSteps := 1000000) (disch := omega) only [F122, id, go_sem, Nat.blt_eq, Nat.reduceAdd, Nat.reduceSub, Nat.reduceEqDiff, Nat.reduceLT, ↓reduceIte, and_true, true_and, AV.dat.injEq, DV.int.injEq, DV.bool.injEq, DV.lst.injEq, eq_self_iff_true]; first | done | omega | (simp; done) | (simp; omega)) | (simp; done) | (simp; omega) | skip)
  · rw [idx_none p zs (fun j hj => by have := h2 j (by omega); simpa [hj] using this)]
theorem hasZ_pc (zs : List (Bool × List Int)) (f : FuncId) (p : Bool × List Int → Bool) (lz : zs.length ≤ 1000000) (hp : ∀ z, PC Tryz.prog f [Zr z.1 z.2] (B (p z))) : PC Tryz.prog 75 [LZ zs, .dat (.fn f [])] (B (zs.any p)) := by
  have hi := idxZ_pc zs f p lz hp
  rw [← idx_ge]
  refine PCr.pc (PCr.of tab_ok Tryz.func75 rfl rfl rfl fun c hc hm => ?_)
  rw [show Tryz.f75.ntmps = _ from Tryz.ntmps75] at hc
  simp only [Tryz.f75]
  repeat' first
    | (refine AWp.seq fun K hK => ?_)
    | ((first | refine AWp.region (by rw [hc]; rfl) ?_ | refine AWp.skip ?_ | refine AWp.exit ?_ | refine AWp.label ?_ | refine AWp.ret ?_ | refine appK_g ?_); simp -implicitDefEqProofs (maxSteps := 1000000) (disch := omega) only [go_sem, wrap64, Int.tdiv_eq_ediv_of_nonneg, Int.tmod_eq_emod_of_nonneg, Nat.reduceAdd, Nat.reduceMul, Nat.reduceEqDiff, Nat.reduceLT, Nat.reduceLeDiff, Int.reduceEq, Int.reduceNeg, Int.reduceToNat, reduceCtorEq, eq_self, Bool.false_eq_true, Bool.true_eq_false, ↓reduceIte])
    | (refine hK _ ?_; clear hK)
    | (clear hK; refine hK _ ?_; clear hK)
    | (clear hK; clear hK; refine hK _ ?_; clear hK)
    | (clear hK; clear hK; clear hK; refine hK _ ?_; clear hK)
    | (refine AWp.cond ?_; simp -implicitDefEqProofs (maxSteps := 1000000) (disch := omega) only [go_sem, wrap64, Int.tdiv_eq_ediv_of_nonneg, Int.tmod_eq_emod_of_nonneg, Nat.reduceAdd, Nat.reduceMul, Nat.reduceEqDiff, Nat.reduceLT, Nat.reduceLeDiff, Int.reduceEq, Int.reduceNeg, Int.reduceToNat, reduceCtorEq, eq_self, Bool.false_eq_true, Bool.true_eq_false, ↓reduceIte]; try (refine ⟨fun hlt => ?_, fun hlt => ?_⟩ <;> (try simp only [decide_eq_true_eq, decide_eq_false_iff_not, beq_iff_eq, bne_iff_ne, ne_eq, beq_eq_false_iff_ne, bne_eq_false_iff_eq, Bool.true_eq_false, Bool.false_eq_true, Int.not_lt, Int.not_le, Decidable.not_not, gt_iff_lt, ge_iff_le, reduceCtorEq] at hlt) <;> (try exact hlt.elim)))
    | (refine AWp.block ?_)
    | ((first | refine gdO_split (fun hlt => ?_) (fun hlt => ?_) | refine tkO_split (fun hlt => ?_) (fun hlt => ?_) | refine opO_split (fun hlt => ?_) (fun hlt => ?_)) <;> have hgd := hlt <;> (try simp only [decide_eq_true_eq, decide_eq_false_iff_not, beq_iff_eq, bne_iff_ne, ne_eq, beq_eq_false_iff_ne, bne_eq_false_iff_eq, Bool.not_eq_true, Bool.not_eq_false, Bool.not_eq_eq_eq_not, Int.not_lt, Int.not_le, Decidable.not_not, gt_iff_lt, ge_iff_le] at hlt) <;> (simp -implicitDefEqProofs (maxSteps := 1000000) (disch := omega) only [go_sem, wrap64, Int.tdiv_eq_ediv_of_nonneg, Int.tmod_eq_emod_of_nonneg, Nat.reduceAdd, Nat.reduceMul, Nat.reduceEqDiff, Nat.reduceLT, Nat.reduceLeDiff, Int.reduceEq, Int.reduceNeg, Int.reduceToNat, reduceCtorEq, eq_self, Bool.false_eq_true, Bool.true_eq_false, ↓reduceIte, hgd]) <;> clear hgd)
    | (with_reducible refine And.intro ?_ ?_; · first | omega | assumption | exact ⟨_, _, rfl, rfl⟩)
    | ((first | refine ⟨_, hi, ?_⟩); simp -implicitDefEqProofs (maxSteps := 1000000) (disch := omega) only [go_sem, wrap64, Int.tdiv_eq_ediv_of_nonneg, Int.tmod_eq_emod_of_nonneg, Nat.reduceAdd, Nat.reduceMul, Nat.reduceEqDiff, Nat.reduceLT, Nat.reduceLeDiff, Int.reduceEq, Int.reduceNeg, Int.reduceToNat, reduceCtorEq, eq_self, Bool.false_eq_true, Bool.true_eq_false, ↓reduceIte])
    | fail
theorem right_pc (zs : List (Bool × List Int)) (lz : zs.length ≤ 1000000) : PC Tryz.prog 17 [LZ zs] (B (zs.all fun z => decide (okI z.1 z.2))) := by
  have h := hasZ_pc zs 76 (fun z => !decide (okI z.1 z.2)) lz (fun z => right1_pc z.1 z.2)
  rw [show (zs.all fun z => decide (okI z.1 z.2)) = !(zs.any fun z => !decide (okI z.1 z.2)) by rw [List.all_eq_not_any_not]]
  refine PCr.pc (PCr.of tab_ok Tryz.func17 rfl rfl rfl fun c hc hm => ?_)
  rw [show Tryz.f17.ntmps = _ from Tryz.ntmps17] at hc
  simp only [Tryz.f17]
  repeat' first
    | (refine AWp.seq fun K hK => ?_)
    | ((first | refine AWp.region (by rw [hc]; rfl) ?_ | refine AWp.skip ?_ | refine AWp.exit ?_ | refine AWp.label ?_ | refine AWp.ret ?_ | refine appK_g ?_); simp -implicitDefEqProofs (maxSteps := 1000000) (disch := omega) only [go_sem, wrap64, Int.tdiv_eq_ediv_of_nonneg, Int.tmod_eq_emod_of_nonneg, Nat.reduceAdd, Nat.reduceMul, Nat.reduceEqDiff, Nat.reduceLT, Nat.reduceLeDiff, Int.reduceEq, Int.reduceNeg, Int.reduceToNat, reduceCtorEq, eq_self, Bool.false_eq_true, Bool.true_eq_false, ↓reduceIte])
    | (refine hK _ ?_; clear hK)
    | (clear hK; refine hK _ ?_; clear hK)
    | (clear hK; clear hK; refine hK _ ?_; clear hK)
    | (clear hK; clear hK; clear hK; refine hK _ ?_; clear hK)
    | (refine AWp.cond ?_; simp -implicitDefEqProofs (maxSteps := 1000000) (disch := omega) only [go_sem, wrap64, Int.tdiv_eq_ediv_of_nonneg, Int.tmod_eq_emod_of_nonneg, Nat.reduceAdd, Nat.reduceMul, Nat.reduceEqDiff, Nat.reduceLT, Nat.reduceLeDiff, Int.reduceEq, Int.reduceNeg, Int.reduceToNat, reduceCtorEq, eq_self, Bool.false_eq_true, Bool.true_eq_false, ↓reduceIte]; try (refine ⟨fun hlt => ?_, fun hlt => ?_⟩ <;> (try simp only [decide_eq_true_eq, decide_eq_false_iff_not, beq_iff_eq, bne_iff_ne, ne_eq, beq_eq_false_iff_ne, bne_eq_false_iff_eq, Bool.true_eq_false, Bool.false_eq_true, Int.not_lt, Int.not_le, Decidable.not_not, gt_iff_lt, ge_iff_le, reduceCtorEq] at hlt) <;> (try exact hlt.elim)))
    | (refine AWp.block ?_)
    | ((first | refine gdO_split (fun hlt => ?_) (fun hlt => ?_) | refine tkO_split (fun hlt => ?_) (fun hlt => ?_) | refine opO_split (fun hlt => ?_) (fun hlt => ?_)) <;> have hgd := hlt <;> (try simp only [decide_eq_true_eq, decide_eq_false_iff_not, beq_iff_eq, bne_iff_ne, ne_eq, beq_eq_false_iff_ne, bne_eq_false_iff_eq, Bool.not_eq_true, Bool.not_eq_false, Bool.not_eq_eq_eq_not, Int.not_lt, Int.not_le, Decidable.not_not, gt_iff_lt, ge_iff_le] at hlt) <;> (simp -implicitDefEqProofs (maxSteps := 1000000) (disch := omega) only [go_sem, wrap64, Int.tdiv_eq_ediv_of_nonneg, Int.tmod_eq_emod_of_nonneg, Nat.reduceAdd, Nat.reduceMul, Nat.reduceEqDiff, Nat.reduceLT, Nat.reduceLeDiff, Int.reduceEq, Int.reduceNeg, Int.reduceToNat, reduceCtorEq, eq_self, Bool.false_eq_true, Bool.true_eq_false, ↓reduceIte, hgd]) <;> clear hgd)
    | (with_reducible refine And.intro ?_ ?_; · first | omega | assumption | exact ⟨_, _, rfl, rfl⟩)
    | ((first | refine ⟨_, h, ?_⟩); simp -implicitDefEqProofs (maxSteps := 1000000) (disch := omega) only [go_sem, wrap64, Int.tdiv_eq_ediv_of_nonneg, Int.tmod_eq_emod_of_nonneg, Nat.reduceAdd, Nat.reduceMul, Nat.reduceEqDiff, Nat.reduceLT, Nat.reduceLeDiff, Int.reduceEq, Int.reduceNeg, Int.reduceToNat, reduceCtorEq, eq_self, Bool.false_eq_true, Bool.true_eq_false, ↓reduceIte])
    | fail
end Go.Proofs.YthhjcfejgoddlaaGreatDoor
end

section
/- Where the simplifier need not look: what follows a step is looked at when the walk gets there. -/
namespace Go.Abs
variable {P : Program} {T : Tab} {c : Ctx} {ro : Option Nat}

@[congr] theorem runO_cg {ops l : List Oper} {σ σ' : St} {K : St → Prop} (h : σ = σ') : runO P T ops l σ K = runO P T ops l σ' K := by rw [h]
@[congr] theorem gdO_cg {ops rest : List Oper} {o : Oper} {want : Bool} {σ : St} {K : St → Prop} {q q' : AV} (h : q = q') : gdO P T ops o rest want σ K q = gdO P T ops o rest want σ K q' := by rw [h]
@[congr] theorem stepK_cg {o : Oper} {σ σ' : St} {K : St → Prop} (h : σ = σ') : stepK P T o σ K = stepK P T o σ' K := by rw [h]
@[congr] theorem planK_cg {ops : Array Oper} {l : List Pl} {σ σ' : St} {X : St → Prop} (h : σ = σ') : planK P T ops l σ X = planK P T ops l σ' X := by rw [h]
@[congr] theorem takeQ_cg {ops : Array Oper} {i : Nat} {σ σ' : St} {X : St → Prop} (h : σ = σ') : takeQ P T ops i σ X = takeQ P T ops i σ' X := by rw [h]
@[congr] theorem opQ_cg {ops : Array Oper} {i : Nat} {σ σ' : St} {X : St → Prop} (h : σ = σ') : opQ P T ops i σ X = opQ P T ops i σ' X := by rw [h]
@[congr] theorem tkO_cg {o : Oper} {want : Bool} {σ : St} {X : St → Prop} {q q' : AV} (h : q = q') : tkO P T o want σ X q = tkO P T o want σ X q' := by rw [h]
@[congr] theorem opO_cg {o : Oper} {want : Bool} {σ : St} {X : St → Prop} {q q' : AV} (h : q = q') : opO P T o want σ X q = opO P T o want σ X q' := by rw [h]
@[congr] theorem treeK_cg {ops : Array Oper} {t : Tr} {σ σ' : St} {X : St → Prop} (h : σ = σ') : treeK P T ops t σ X = treeK P T ops t σ' X := by rw [h]
@[congr] theorem takesK_cg {ops : Array Oper} {t : Tr} {l : List Nat} {σ σ' : St} {X : St → Prop} (h : σ = σ') : takesK P T ops t l σ X = takesK P T ops t l σ' X := by rw [h]
@[congr] theorem loadK_cg {s s' : Sto} {t : TypeId} {x x' : AV} {K : AV → Prop} (h : s = s') (h' : x = x') : loadK s T t x K = loadK s' T t x' K := by rw [h, h']
@[congr] theorem storeK_cg {s s' : Sto} {t : TypeId} {x x' y y' : AV} {K : Sto → Prop} (h : s = s') (h' : x = x') (h'' : y = y') : storeK T t x y s K = storeK T t x' y' s' K := by rw [h, h', h'']
@[congr] theorem faddrK_cg {t : TypeId} {f : Nat} {x x' : AV} {K : AV → Prop} (h : x = x') : faddrK T t f x K = faddrK T t f x' K := by rw [h]
@[congr] theorem iaddrK_cg {s s' : Sto} {t : TypeId} {x x' y y' : AV} {K : AV → Prop} (h : s = s') (h' : x = x') (h'' : y = y') : iaddrK s T t x y K = iaddrK s' T t x' y' K := by rw [h, h', h'']
@[congr] theorem binC_cg {op : BinOp} {t : TypeId} {yo : Operand} {x x' y y' : AV} {K : AV → Prop} (h : x = x') (h' : y = y') : binC T op t yo x y K = binC T op t yo x' y' K := by rw [h, h']
@[congr] theorem binK_cg {op : BinOp} {t : TypeId} {x x' y y' : AV} {K : AV → Prop} (h : x = x') (h' : y = y') : binK T op t x y K = binK T op t x' y' K := by rw [h, h']
@[congr] theorem unK_cg {op : UnOp} {x x' : AV} {K : AV → Prop} (h : x = x') : unK op x K = unK op x' K := by rw [h]
@[congr] theorem extK_cg {x x' : AV} {i : Nat} {K : AV → Prop} (h : x = x') : extK x i K = extK x' i K := by rw [h]
@[congr] theorem lenK_cg {s s' : Sto} {t : TypeId} {x x' : AV} {K : AV → Prop} (h : s = s') (h' : x = x') : lenK s T t x K = lenK s' T t x' K := by rw [h, h']
@[congr] theorem pickK_cg {q q' x x' y y' : AV} {K : AV → Prop} (h : q = q') (h' : x = x') (h'' : y = y') : pickK q x y K = pickK q' x' y' K := by rw [h, h', h'']
@[congr] theorem callQ_cg {f f' : AV} {xs xs' : List AV} {K : AV → Prop} (h : f = f') (h' : xs = xs') : callQ P f xs K = callQ P f' xs' K := by rw [h, h']
@[congr] theorem calleeK_cg {s s' : Sto} {f f' : AV} {xs xs' : List AV} {K : AV → Sto → Prop} (h : s = s') (h' : f = f') (h'' : xs = xs') : calleeK P s f xs K = calleeK P s' f' xs' K := by rw [h, h', h'']
@[congr] theorem sliceK_cg {t : TypeId} {len : Nat} {ps ps' : List (Nat × AV)} {s s' : Sto} {n : Nat} {K : AV → Sto → Nat → Prop} (h : ps = ps') (h' : s = s') : sliceK T t len ps s n K = sliceK T t len ps' s' n K := by rw [h, h']
@[congr] theorem rowK_cg {t : TypeId} {len : Nat} {ps ps' : List (Nat × AV)} {K : AV → Prop} (h : ps = ps') : rowK T t len ps K = rowK T t len ps' K := by rw [h]
@[congr] theorem structK_cg {t : TypeId} {ps ps' : List (Nat × AV)} {K : AV → Prop} (h : ps = ps') : structK T t ps K = structK T t ps' K := by rw [h]
@[congr] theorem allocK_cg {t : TypeId} {s s' : Sto} {n n' : Nat} {K : AV → Sto → Nat → Prop} (h : s = s') (h' : n = n') : allocK T t s n K = allocK T t s' n' K := by rw [h, h']
@[congr] theorem boxK_cg {x x' : AV} {s s' : Sto} {n n' : Nat} {K : AV → Sto → Nat → Prop} (h : s = s') (h' : n = n') (h'' : x = x') : boxK x s n K = boxK x' s' n' K := by rw [h, h', h'']
@[congr] theorem condK_cg {q q' : AV} {X Y : Prop} (h : q = q') : condK q X Y = condK q' X Y := by rw [h]
@[congr] theorem AWp_cg {code : Code} {σ σ' : St} {Q : Exit → St → Prop} (h : σ = σ') : AWp P T c ro code σ Q = AWp P T c ro code σ' Q := by rw [h]
@[congr] theorem LoopAt_cg {code : Code} {σ σ' : St} {Q : Exit → St → Prop} (h : σ = σ') : LoopAt P T c ro code σ Q = LoopAt P T c ro code σ' Q := by rw [h]
end Go.Abs
end

section
set_option linter.unusedSimpArgs false
set_option linter.unusedVariables false
set_option maxRecDepth 100000
namespace Go.Proofs.YthhjcfejgoddlaaGreatDoor
open Go Go.Abs

theorem limP_one {z : Int} (h : lenZ z ≤ 40) : limP z = (z, 0) := if_pos h
theorem limP_1 {z : Int} (h : (limP z).2 = 0) : (limP z).1 = z := by
  unfold limP at h ⊢
  split
  · rfl
  · rename_i g; rw [if_neg g] at h; exact absurd h (by decide)
theorem sumP_1 {p q : Int × Int} (h : (sumP p q).2 = 0) : p.2 = 0 ∧ q.2 = 0 ∧ (sumP p q).1 = p.1 + q.1 := by
  unfold sumP at h ⊢
  split
  · rename_i g; rw [if_pos g] at h; exact ⟨g.1, g.2, limP_1 h⟩
  · rename_i g; rw [if_neg g] at h; exact absurd h (by decide)
theorem timesP_1 {p q : Int × Int} (h : (timesP p q).2 = 0) : p.2 = 0 ∧ q.2 = 0 ∧ (timesP p q).1 = p.1 * q.1 := by
  unfold timesP at h ⊢
  split
  · rename_i g; rw [if_pos g] at h; exact ⟨g.1, g.2, limP_1 h⟩
  · rename_i g; rw [if_neg g] at h; exact absurd h (by decide)
theorem sumP_comm (p q : Int × Int) : sumP p q = sumP q p := by
  unfold sumP; simp only [And.comm, Int.add_comm]
theorem timesP_comm (p q : Int × Int) : timesP p q = timesP q p := by
  unfold timesP; simp only [And.comm, Int.mul_comm]
theorem sumP_assoc (p q r : Int × Int) : (sumP (sumP p q) r).2 = 0 ∧ (sumP p (sumP q r)).2 = 0 → (sumP (sumP p q) r).1 = (sumP p (sumP q r)).1 := by
  rintro ⟨h1, h2⟩
  obtain ⟨a1, a2, a3⟩ := sumP_1 h1
  obtain ⟨b1, b2, b3⟩ := sumP_1 a1
  obtain ⟨c1, c2, c3⟩ := sumP_1 h2
  obtain ⟨d1, d2, d3⟩ := sumP_1 c2
  rw [a3, b3, c3, d3, Int.add_assoc]
theorem timesP_assoc (p q r : Int × Int) : (timesP (timesP p q) r).2 = 0 ∧ (timesP p (timesP q r)).2 = 0 → (timesP (timesP p q) r).1 = (timesP p (timesP q r)).1 := by
  rintro ⟨h1, h2⟩
  obtain ⟨a1, a2, a3⟩ := timesP_1 h1
  obtain ⟨b1, b2, b3⟩ := timesP_1 a1
  obtain ⟨c1, c2, c3⟩ := timesP_1 h2
  obtain ⟨d1, d2, d3⟩ := timesP_1 c2
  rw [a3, b3, c3, d3, Int.mul_assoc]
theorem P_distr (p q r : Int × Int) : (timesP p (sumP q r)).2 = 0 ∧ (sumP (timesP p q) (timesP p r)).2 = 0 → (timesP p (sumP q r)).1 = (sumP (timesP p q) (timesP p r)).1 := by
  rintro ⟨h1, h2⟩
  obtain ⟨a1, a2, a3⟩ := timesP_1 h1
  obtain ⟨b1, b2, b3⟩ := sumP_1 a2
  obtain ⟨c1, c2, c3⟩ := sumP_1 h2
  obtain ⟨d1, d2, d3⟩ := timesP_1 c1
  obtain ⟨e1, e2, e3⟩ := timesP_1 c2
  rw [a3, b3, c3, d3, e3, Int.mul_add]
/-- agree, where it answers true. -/
theorem agree_T (p q : Int × Int) (hp : okP p) (hq : okP q) (h : p.2 = 0 ∧ q.2 = 0 → p.1 = q.1) : PC Tryz.prog 31 [GP p, GP q] (B true) := by
  have := agree_P p q hp hq
  rwa [decide_eq_true h] at this
theorem same_T (p q : Int × Int) (hp : okP p) (hq : okP q) (h : p = q) : PC Tryz.prog 26 [GP p, GP q] (B true) := by
  have := same_P p q hp hq
  rwa [decide_eq_true h] at this
/-- An integer, as a number. -/
theorem okI_ex {neg : Bool} {d : List Int} (h : okI neg d) : ∃ x : Int, Zr neg d = Z x ∧ lenZ x ≤ 40 :=
  ⟨_, (okI_Z h).1, (okI_Z h).2.1⟩
theorem LZ3 (na nb nc : Bool) (a b c : List Int) : LZ [(na, a), (nb, b), (nc, c)] = .dat (.lst [[.bool na, .lst (a.map eI)], [.bool nb, .lst (b.map eI)], [.bool nc, .lst (c.map eI)]]) := rfl
theorem LZ1 (na : Bool) (a : List Int) : LZ [(na, a)] = .dat (.lst [[.bool na, .lst (a.map eI)]]) := rfl
theorem rightZ3 (a b c : Int) (la : lenZ a ≤ 40) (lb : lenZ b ≤ 40) (lc : lenZ c ≤ 40) : PC Tryz.prog 17 [LZ [(decide (a < 0), D a.natAbs), (decide (b < 0), D b.natAbs), (decide (c < 0), D c.natAbs)]] (B true) := by
  have h := right_pc [(decide (a < 0), D a.natAbs), (decide (b < 0), D b.natAbs), (decide (c < 0), D c.natAbs)] (by simp)
  rwa [show (List.all [(decide (a < 0), D a.natAbs), (decide (b < 0), D b.natAbs), (decide (c < 0), D c.natAbs)] fun z => decide (okI z.1 z.2)) = true by
    simp only [List.all_cons, List.all_nil, decide_eq_true (okZ la), decide_eq_true (okZ lb), decide_eq_true (okZ lc)]; rfl] at h
/-- Three new boxes, made in any order, behind three that stand: the names turned. -/
def pm (x y z : Nat) (i : Nat) : Nat := if i < 3 then i else if i = 3 then x else if i = 4 then y else z
theorem pm_inj {x y z : Nat} (h : 3 ≤ x ∧ 3 ≤ y ∧ 3 ≤ z ∧ x ≠ y ∧ y ≠ z ∧ x ≠ z) : ∀ i j, i < 6 → j < 6 → pm x y z i = pm x y z j → i = j := by
  intro i j h1 h2 h3
  unfold pm at h3
  (repeat' split at h3) <;> omega
theorem pms (x y z : Nat) : pm x y z 0 = 0 ∧ pm x y z 1 = 1 ∧ pm x y z 2 = 2 ∧ pm x y z 3 = x ∧ pm x y z 4 = y ∧ pm x y z 5 = z := ⟨rfl, rfl, rfl, rfl, rfl, rfl⟩
def bI (x : Int) : Obj' := .box [B (decide (x < 0)), L (D x.natAbs)] false
def bP (p : Int × Int) : Obj' := .box [B (decide (p.1 < 0)), L (D p.1.natAbs), I p.2] false
def S10 (a b z : Int) : St := ⟨[(3, .ptr 0 0), (4, .ptr 1 0), (5, .ptr 2 0), (7, .ptr 3 0), (8, .ptr 4 0), (9, .ptr 5 0)], [(5, bP (z, 0)), (4, bP (b, 0)), (3, bP (a, 0)), (2, bI z), (1, bI b), (0, bI a)], 6, 0⟩
theorem sg_abs (x : Int) : sgI x = 0 ↔ x = 0 := by unfold sgI; (repeat' split) <;> omega
end Go.Proofs.YthhjcfejgoddlaaGreatDoor
end

section
set_option linter.unusedSimpArgs false
set_option linter.unusedVariables false
set_option maxRecDepth 100000
namespace Go.Proofs.YthhjcfejgoddlaaGreatDoor
open Go Go.Abs

/-- The cells of an integer and of a result, kept closed in a walk. -/
def zC (x : Int) : List AV := [B (decide (x < 0)), L (D x.natAbs)]
def pC (p : Int × Int) : List AV := [B (decide (p.1 < 0)), L (D p.1.natAbs), I p.2]
def zD (x : Int) : List DV := [.bool (decide (x < 0)), .lst ((D x.natAbs).map eI)]
def ppD (p : Int × Int) : List DV := [.bool (decide (p.1 < 0)), .lst ((D p.1.natAbs).map eI), .int .i64 p.2]
abbrev zA (x : Int) : AV := .agg (zC x)
abbrev pA (p : Int × Int) : AV := .agg (pC p)
theorem zC_len (x : Int) : (zC x).length = 2 := rfl
theorem pC_len (p : Int × Int) : (pC p).length = 3 := rfl
theorem zD_len (x : Int) : (zD x).length = 2 := rfl
theorem zC_map (x : Int) : (zD x).map .dat = zC x := rfl
theorem pC_map (p : Int × Int) : (ppD p).map .dat = pC p := rfl
theorem zC_toCs (x : Int) (s : Sto) : toCs s (zC x) = some (zD x, s) := rfl
theorem pC_toCs (p : Int × Int) (s : Sto) : toCs s (pC p) = some (ppD p, s) := rfl
theorem zC_dCs (x : Int) : dCs (zC x) = some (zD x) := rfl
theorem pC_dCs (p : Int × Int) : dCs (pC p) = some (ppD p) := rfl
theorem zC_dats0 (x : Int) : dats0 (zC x) = some (zD x) := rfl
theorem zC_take (x : Int) : List.take 2 (zC x) = zC x := rfl
theorem pC_take (p : Int × Int) : List.take 3 (pC p) = pC p := rfl
theorem pC_take2 (p : Int × Int) : List.take 2 (pC p) = zC p.1 := rfl
theorem pC_get2 (p : Int × Int) : (pC p)[2]? = some (I p.2) := rfl
theorem zC_get0 (x : Int) : (zC x)[0]? = some (B (decide (x < 0))) := rfl
theorem zC_get1 (x : Int) : (zC x)[1]? = some (L (D x.natAbs)) := rfl
theorem zC_drop (x : Int) : List.drop 0 (zC x) = zC x := rfl
theorem pC_drop (p : Int × Int) : List.drop 0 (pC p) = pC p := rfl
def zBx (x : Int) : Obj' := .box (zC x) false
def pBx (p : Int × Int) : Obj' := .box (pC p) false
def R10 (a b z : Int) : St := ⟨[(3, .ptr 0 0), (4, .ptr 1 0), (5, .ptr 2 0), (7, .ptr 3 0), (8, .ptr 4 0), (9, .ptr 5 0)], [(5, pBx (z, 0)), (4, pBx (b, 0)), (3, pBx (a, 0)), (2, zBx z), (1, zBx b), (0, zBx a)], 6, 0⟩
end Go.Proofs.YthhjcfejgoddlaaGreatDoor
end

section
set_option linter.unusedSimpArgs false
set_option linter.unusedVariables false
set_option maxRecDepth 100000
namespace Go.Proofs.YthhjcfejgoddlaaGreatDoor
open Go Go.Abs

/-! The contracts over closed cells. -/
theorem sumA (p q : Int × Int) (hp : okP p) (hq : okP q) : PC Tryz.prog 28 [.agg (pC p), .agg (pC q)] (.agg (pC (sumP p q))) := sum_P p q hp hq
theorem timesA (p q : Int × Int) (hp : okP p) (hq : okP q) : PC Tryz.prog 20 [.agg (pC p), .agg (pC q)] (.agg (pC (timesP p q))) := times_P p q hp hq
theorem valA (x : Int) : PC Tryz.prog 21 [.agg (zC x)] (.agg (pC (x, 0))) := valP x
theorem gotA (x e : Int) : PC Tryz.prog 24 [.agg (zC x), I e] (.agg (pC (x, e))) := gotP (x, e)
theorem agreeA (p q : Int × Int) (hp : okP p) (hq : okP q) (h : p.2 = 0 ∧ q.2 = 0 → p.1 = q.1) : PC Tryz.prog 31 [.agg (pC p), .agg (pC q)] (B true) := agree_T p q hp hq h
theorem sameA (p q : Int × Int) (hp : okP p) (hq : okP q) (h : p = q) : PC Tryz.prog 26 [.agg (pC p), .agg (pC q)] (B true) := same_T p q hp hq h
theorem ofA (n : Int) (h0 : -9223372036854775808 ≤ n) (h1 : n ≤ 9223372036854775807) : PC Tryz.prog 27 [I n] (.agg (zC n)) := of_pc n h0 h1
theorem cmpA (x y : Int) (lx : lenZ x ≤ 40) (ly : lenZ y ≤ 40) : PC Tryz.prog 23 [.agg (zC x), .agg (zC y)] (I (cmpI x y)) := Compare_Z x y (Nat.le_trans lx (by decide)) (Nat.le_trans ly (by decide))
theorem rsameA (x y : Int) (lx : lenZ x ≤ 40) (ly : lenZ y ≤ 40) : PC Tryz.prog 36 [.agg (zC x), .agg (zC y)] (B (decide (x = y))) := Same_Z x y (Nat.le_trans lx (by decide)) (Nat.le_trans ly (by decide))
theorem signA (x : Int) : PC Tryz.prog 18 [.agg (zC x)] (I (sgI x)) := Sign_Z x
theorem smallerA (x y : Int) (lx : lenZ x ≤ 40) (ly : lenZ y ≤ 40) : PC Tryz.prog 35 [.agg (zC x), .agg (zC y)] (B (decide (x.natAbs < y.natAbs))) := smaller_Z x y (Nat.le_trans lx (by decide)) (Nat.le_trans ly (by decide))
theorem limR_A (z : Int) : limR z = .tup [.agg (zC (limP z).1), I (limP z).2] := limR_P z
theorem subA (x y : Int) (lx : lenZ x ≤ 40) (ly : lenZ y ≤ 40) : PC Tryz.prog 37 [.agg (zC x), .agg (zC y)] (.tup [.agg (zC (limP (x - y)).1), I (limP (x - y)).2]) := by
  have := Sub_ok x y lx ly
  rwa [limR_A] at this
theorem negA (x : Int) (lx : lenZ x ≤ 40) : PC Tryz.prog 43 [.agg (zC x)] (.tup [.agg (zC (-x)), I 0]) := Neg_ok x lx
def divP (x y : Int) : Int × Int := if y = 0 then (0, 11) else (x.fdiv y, 0)
def modP (x y : Int) : Int × Int := if y = 0 then (0, 11) else (x.fmod y, 0)
theorem fmod_len {x y : Int} (hy : y ≠ 0) (ly : lenZ y ≤ 40) : lenZ (x.fmod y) ≤ 40 :=
  Nat.le_trans (lenZ_le (by rw [Int.fmod_def]; exact Nat.le_of_lt (fmod_small _ _ hy))) ly
theorem fdiv_len {x y : Int} (lx : lenZ x ≤ 40) : lenZ (x.fdiv y) ≤ 40 := Nat.le_trans (lenZ_le (fdiv_small _ _)) lx
theorem divA (x y : Int) (lx : lenZ x ≤ 40) (ly : lenZ y ≤ 40) : PC Tryz.prog 22 [.agg (zC x), .agg (zC y)] (.tup [.agg (zC (divP x y).1), I (divP x y).2]) := by
  unfold divP
  by_cases hy : y = 0
  · subst hy
    rw [if_pos rfl]
    have := Div_zero x lx
    rwa [← Z_zero] at this
  · rw [if_neg hy]
    have := Div_ok x y hy lx ly
    rwa [limR_A, limP_one (fdiv_len lx)] at this
theorem modA (x y : Int) (lx : lenZ x ≤ 40) (ly : lenZ y ≤ 40) : PC Tryz.prog 34 [.agg (zC x), .agg (zC y)] (.tup [.agg (zC (modP x y).1), I (modP x y).2]) := by
  unfold modP
  by_cases hy : y = 0
  · subst hy
    rw [if_pos rfl]
    have := Mod_zero x lx
    rwa [← Z_zero] at this
  · rw [if_neg hy]
    have := Mod_ok x y hy lx ly
    rwa [limR_A, limP_one (fmod_len hy ly)] at this
theorem divP_ok {x y : Int} (lx : lenZ x ≤ 40) : lenZ (divP x y).1 ≤ 40 := by unfold divP; split; exact lenZ_0; exact fdiv_len lx
theorem modP_ok {x y : Int} (ly : lenZ y ≤ 40) : lenZ (modP x y).1 ≤ 40 := by
  unfold modP; split
  · exact lenZ_0
  · rename_i h; exact fmod_len h ly
/-- What right says of numbers. -/
theorem right3A (a b c : Int) (la : lenZ a ≤ 40) (lb : lenZ b ≤ 40) (lc : lenZ c ≤ 40) : PC Tryz.prog 17 [.dat (.lst [zD a, zD b, zD c])] (B true) := rightZ3 a b c la lb lc
theorem right_bad3 (na nb nc : Bool) (a b c : List Int) (h : ¬ (okI na a ∧ okI nb b ∧ okI nc c)) : PC Tryz.prog 17 [.dat (.lst [[.bool na, .lst (a.map eI)], [.bool nb, .lst (b.map eI)], [.bool nc, .lst (c.map eI)]])] (B false) := by
  have hr := right_pc [(na, a), (nb, b), (nc, c)] (by simp)
  rwa [show (List.all [(na, a), (nb, b), (nc, c)] fun z => decide (okI z.1 z.2)) = false by
    simp only [List.all_cons, List.all_nil, Bool.and_true, ← Bool.decide_and]; exact decide_eq_false h] at hr
theorem limP_ok1 (z : Int) : lenZ (limP z).1 ≤ 40 := limP_ok z
end Go.Proofs.YthhjcfejgoddlaaGreatDoor
end

section
namespace Go.Proofs.YthhjcfejgoddlaaGreatDoor
open Go Go.Abs
theorem pC_drop3 (p : Int × Int) : List.drop 3 (pC p) = [] := rfl
theorem zC_drop2 (x : Int) : List.drop 2 (zC x) = [] := rfl
end Go.Proofs.YthhjcfejgoddlaaGreatDoor
end

section
set_option linter.unusedSimpArgs false
set_option linter.unusedVariables false
set_option maxRecDepth 100000
namespace Go.Proofs.YthhjcfejgoddlaaGreatDoor
open Go Go.Abs

set_option maxHeartbeats 8000000 in
theorem NumBezout_bad (na nb nc : Bool) (a b z : List Int) (h : ¬ (okI na a ∧ okI nb b ∧ okI nc z)) : PC Tryz.prog 6 [Zr na a, Zr nb b, Zr nc z] (B true) := by
  have hs := sane_ok
  have hr := right_bad3 na nb nc a b z h
  refine PCr.pc (PCr.of tab_ok Tryz.func6 rfl rfl rfl fun c hc hm => ?_)
  rw [show Tryz.f6.ntmps = _ from Tryz.ntmps6] at hc
  simp only [Tryz.f6]
  repeat' first
    | (exact absurd hlt (by decide))
    | (refine AWp.seq fun K hK => ?_)
    | ((first | refine AWp.draw (id := 6) [.take 0, .take 1, .take 2, .take 3, .take 4, .take 5, .take 6, .take 7, .take 8, .take 9, .take 10, .take 11, .take 12, .take 13, .take 14, .take 15, .take 16, .take 17, .take 18, .take 19, .take 20, .take 21, .take 22] mixed_ok (by kernel_rfl) (by rw [hc]; rfl) ?_ | refine AWp.region (by rw [hc]; rfl) ?_ | refine AWp.skip ?_ | refine AWp.exit ?_ | refine AWp.label ?_ | refine AWp.ret ?_ | refine appK_g ?_); simp -implicitDefEqProofs (maxSteps := 1000000) (disch := omega) only [go_sem, wrap64, Int.tdiv_eq_ediv_of_nonneg, Int.tmod_eq_emod_of_nonneg, Nat.reduceAdd, Nat.reduceMul, Nat.reduceEqDiff, Nat.reduceLT, Nat.reduceLeDiff, Int.reduceEq, Int.reduceNeg, Int.reduceToNat, reduceCtorEq, eq_self, Bool.false_eq_true, Bool.true_eq_false, ↓reduceIte, Int.reduceBNe, Int.reduceBEq, Bool.not_true, Bool.not_false])
    | (refine hK _ ?_; clear hK)
    | (clear hK; refine hK _ ?_; clear hK)
    | (clear hK; clear hK; refine hK _ ?_; clear hK)
    | (clear hK; clear hK; clear hK; refine hK _ ?_; clear hK)
    | (refine AWp.cond ?_; simp -implicitDefEqProofs (maxSteps := 1000000) (disch := omega) only [go_sem, wrap64, Int.tdiv_eq_ediv_of_nonneg, Int.tmod_eq_emod_of_nonneg, Nat.reduceAdd, Nat.reduceMul, Nat.reduceEqDiff, Nat.reduceLT, Nat.reduceLeDiff, Int.reduceEq, Int.reduceNeg, Int.reduceToNat, reduceCtorEq, eq_self, Bool.false_eq_true, Bool.true_eq_false, ↓reduceIte, Int.reduceBNe, Int.reduceBEq, Bool.not_true, Bool.not_false]; try (refine ⟨fun hlt => ?_, fun hlt => ?_⟩ <;> (try simp only [decide_eq_true_eq, decide_eq_false_iff_not, beq_iff_eq, bne_iff_ne, ne_eq, beq_eq_false_iff_ne, bne_eq_false_iff_eq, Bool.true_eq_false, Bool.false_eq_true, Int.not_lt, Int.not_le, Decidable.not_not, gt_iff_lt, ge_iff_le, reduceCtorEq] at hlt) <;> (try exact hlt.elim)))
    | (refine AWp.block ?_)
    | ((first | refine gdO_split (fun hlt => ?_) (fun hlt => ?_) | refine tkO_split (fun hlt => ?_) (fun hlt => ?_) | refine opO_split (fun hlt => ?_) (fun hlt => ?_)) <;> have hgd := hlt <;> (try simp only [decide_eq_true_eq, decide_eq_false_iff_not, beq_iff_eq, bne_iff_ne, ne_eq, beq_eq_false_iff_ne, bne_eq_false_iff_eq, Bool.not_eq_true, Bool.not_eq_false, Bool.not_eq_eq_eq_not, Int.not_lt, Int.not_le, Decidable.not_not, gt_iff_lt, ge_iff_le] at hlt) <;> (simp -implicitDefEqProofs (maxSteps := 1000000) (disch := omega) only [go_sem, wrap64, Int.tdiv_eq_ediv_of_nonneg, Int.tmod_eq_emod_of_nonneg, Nat.reduceAdd, Nat.reduceMul, Nat.reduceEqDiff, Nat.reduceLT, Nat.reduceLeDiff, Int.reduceEq, Int.reduceNeg, Int.reduceToNat, reduceCtorEq, eq_self, Bool.false_eq_true, Bool.true_eq_false, ↓reduceIte, Int.reduceBNe, Int.reduceBEq, Bool.not_true, Bool.not_false, hgd]) <;> clear hgd)
    | (with_reducible refine And.intro ?_ ?_; · first | omega | assumption | exact ⟨_, _, rfl, rfl⟩)
    | ((first | refine ⟨_, hs, ?_⟩ | refine ⟨_, hr, ?_⟩); simp -implicitDefEqProofs (maxSteps := 1000000) (disch := omega) only [go_sem, wrap64, Int.tdiv_eq_ediv_of_nonneg, Int.tmod_eq_emod_of_nonneg, Nat.reduceAdd, Nat.reduceMul, Nat.reduceEqDiff, Nat.reduceLT, Nat.reduceLeDiff, Int.reduceEq, Int.reduceNeg, Int.reduceToNat, reduceCtorEq, eq_self, Bool.false_eq_true, Bool.true_eq_false, ↓reduceIte, Int.reduceBNe, Int.reduceBEq, Bool.not_true, Bool.not_false])
    | fail
theorem fmod_dvd {a d : Int} (hd : d ≠ 0) : a.fmod d = 0 ↔ d ∣ a := by
  have h1 := Int.mul_fdiv_add_fmod a d
  constructor
  · intro h; rw [h, Int.add_zero] at h1; exact ⟨_, h1.symm⟩
  · rintro ⟨q, rfl⟩
    rw [Int.mul_comm] at h1 ⊢
    exact Int.mul_fmod_left q d
theorem divides_pc (d a : Int) (ld : lenZ d ≤ 40) (la : lenZ a ≤ 40) (hd : d ≠ 0) : PC Tryz.prog 33 [.agg (zC d), .agg (zC a)] (B (decide (d ∣ a))) := by
  have h := modA a d la ld
  rw [show modP a d = (a.fmod d, 0) from if_neg hd] at h
  have s := signA (a.fmod d)
  have e : decide (d ∣ a) = (sgI (a.fmod d) == 0) := by
    rw [show (sgI (a.fmod d) == 0) = decide (sgI (a.fmod d) = 0) from rfl, decide_eq_decide, sg_abs, fmod_dvd hd]
  rw [e]
  replace h : PC Tryz.prog 34 [.agg (zC a), .agg (zC d)] (.tup [.agg (zC (a.fmod d)), I 0]) := h
  generalize a.fmod d = m at *
  refine PCr.pc (PCr.of tab_ok Tryz.func33 rfl rfl rfl fun c hc hm => ?_)
  rw [show Tryz.f33.ntmps = _ from Tryz.ntmps33] at hc
  simp only [Tryz.f33]
  repeat' first
    | (exact absurd hlt (by decide))
    | (refine AWp.seq fun K hK => ?_)
    | ((first | refine AWp.region (by rw [hc]; rfl) ?_ | refine AWp.skip ?_ | refine AWp.exit ?_ | refine AWp.label ?_ | refine AWp.ret ?_ | refine appK_g ?_); simp -implicitDefEqProofs (maxSteps := 1000000) (disch := omega) only [go_sem, wrap64, Int.tdiv_eq_ediv_of_nonneg, Int.tmod_eq_emod_of_nonneg, Nat.reduceAdd, Nat.reduceMul, Nat.reduceEqDiff, Nat.reduceLT, Nat.reduceLeDiff, Int.reduceEq, Int.reduceNeg, Int.reduceToNat, reduceCtorEq, eq_self, Bool.false_eq_true, Bool.true_eq_false, ↓reduceIte, Int.reduceBNe, Int.reduceBEq, Bool.not_true, Bool.not_false, zC_len, pC_len, zD_len, zC_map, pC_map, zC_toCs, pC_toCs, zC_dCs, pC_dCs, zC_dats0, zC_take, pC_take, pC_take2, pC_get2, zC_get0, zC_get1, zC_drop, pC_drop, pC_drop3, zC_drop2, List.nil_append, List.append_nil])
    | (refine hK _ ?_; clear hK)
    | (clear hK; refine hK _ ?_; clear hK)
    | (clear hK; clear hK; refine hK _ ?_; clear hK)
    | (clear hK; clear hK; clear hK; refine hK _ ?_; clear hK)
    | (refine AWp.cond ?_; simp -implicitDefEqProofs (maxSteps := 1000000) (disch := omega) only [go_sem, wrap64, Int.tdiv_eq_ediv_of_nonneg, Int.tmod_eq_emod_of_nonneg, Nat.reduceAdd, Nat.reduceMul, Nat.reduceEqDiff, Nat.reduceLT, Nat.reduceLeDiff, Int.reduceEq, Int.reduceNeg, Int.reduceToNat, reduceCtorEq, eq_self, Bool.false_eq_true, Bool.true_eq_false, ↓reduceIte, Int.reduceBNe, Int.reduceBEq, Bool.not_true, Bool.not_false, zC_len, pC_len, zD_len, zC_map, pC_map, zC_toCs, pC_toCs, zC_dCs, pC_dCs, zC_dats0, zC_take, pC_take, pC_take2, pC_get2, zC_get0, zC_get1, zC_drop, pC_drop, pC_drop3, zC_drop2, List.nil_append, List.append_nil]; try (refine ⟨fun hlt => ?_, fun hlt => ?_⟩ <;> (try simp only [decide_eq_true_eq, decide_eq_false_iff_not, beq_iff_eq, bne_iff_ne, ne_eq, beq_eq_false_iff_ne, bne_eq_false_iff_eq, Bool.true_eq_false, Bool.false_eq_true, Int.not_lt, Int.not_le, Decidable.not_not, gt_iff_lt, ge_iff_le, reduceCtorEq] at hlt) <;> (try exact hlt.elim)))
    | (refine AWp.block ?_)
    | ((first | refine gdO_split (fun hlt => ?_) (fun hlt => ?_) | refine tkO_split (fun hlt => ?_) (fun hlt => ?_) | refine opO_split (fun hlt => ?_) (fun hlt => ?_)) <;> have hgd := hlt <;> (try simp only [decide_eq_true_eq, decide_eq_false_iff_not, beq_iff_eq, bne_iff_ne, ne_eq, beq_eq_false_iff_ne, bne_eq_false_iff_eq, Bool.not_eq_true, Bool.not_eq_false, Bool.not_eq_eq_eq_not, Int.not_lt, Int.not_le, Decidable.not_not, gt_iff_lt, ge_iff_le] at hlt) <;> (simp -implicitDefEqProofs (maxSteps := 1000000) (disch := omega) only [go_sem, wrap64, Int.tdiv_eq_ediv_of_nonneg, Int.tmod_eq_emod_of_nonneg, Nat.reduceAdd, Nat.reduceMul, Nat.reduceEqDiff, Nat.reduceLT, Nat.reduceLeDiff, Int.reduceEq, Int.reduceNeg, Int.reduceToNat, reduceCtorEq, eq_self, Bool.false_eq_true, Bool.true_eq_false, ↓reduceIte, Int.reduceBNe, Int.reduceBEq, Bool.not_true, Bool.not_false, zC_len, pC_len, zD_len, zC_map, pC_map, zC_toCs, pC_toCs, zC_dCs, pC_dCs, zC_dats0, zC_take, pC_take, pC_take2, pC_get2, zC_get0, zC_get1, zC_drop, pC_drop, pC_drop3, zC_drop2, List.nil_append, List.append_nil, hgd]) <;> clear hgd)
    | (with_reducible refine And.intro ?_ ?_; · first | omega | assumption | exact ⟨_, _, rfl, rfl⟩)
    | ((first | refine ⟨_, h, ?_⟩ | refine ⟨_, s, ?_⟩); simp -implicitDefEqProofs (maxSteps := 1000000) (disch := omega) only [go_sem, wrap64, Int.tdiv_eq_ediv_of_nonneg, Int.tmod_eq_emod_of_nonneg, Nat.reduceAdd, Nat.reduceMul, Nat.reduceEqDiff, Nat.reduceLT, Nat.reduceLeDiff, Int.reduceEq, Int.reduceNeg, Int.reduceToNat, reduceCtorEq, eq_self, Bool.false_eq_true, Bool.true_eq_false, ↓reduceIte, Int.reduceBNe, Int.reduceBEq, Bool.not_true, Bool.not_false, zC_len, pC_len, zD_len, zC_map, pC_map, zC_toCs, pC_toCs, zC_dCs, pC_dCs, zC_dats0, zC_take, pC_take, pC_take2, pC_get2, zC_get0, zC_get1, zC_drop, pC_drop, pC_drop3, zC_drop2, List.nil_append, List.append_nil])
    | fail
def BezS (a b : Int) (r : AV) : Prop := ∃ g x y : Int, r = .tup [.agg (zC g), .agg (zC x), .agg (zC y), I 0] ∧ 0 ≤ g ∧ a * x + b * y = g ∧ g ∣ a ∧ g ∣ b ∧ (x.natAbs ≤ b.natAbs ∨ x.natAbs ≤ 1) ∧ (y.natAbs ≤ a.natAbs ∨ y.natAbs ≤ 1)
theorem dvd_len {g a : Int} (h : g ∣ a) (ha : a ≠ 0) : lenZ g ≤ lenZ a := by
  obtain ⟨q, rfl⟩ := h
  exact lenZ_dvd (b := q) rfl (fun e => ha (by rw [e, Int.mul_zero]))
theorem one_len {x b : Int} (lb : lenZ b ≤ 40) (h : x.natAbs ≤ b.natAbs ∨ x.natAbs ≤ 1) : lenZ x ≤ 40 := by
  rcases h with h | h
  · exact Nat.le_trans (lenZ_le h) lb
  · exact Nat.le_trans (lenZ_1 h) (by decide)
def O6 (a b d : Int) : St := ⟨[(3, .ptr 0 0), (4, .ptr 1 0), (5, .ptr 2 0)], [(2, zBx d), (1, zBx b), (0, zBx a)], 3, 0⟩
def V6 (a b d g x y : Int) : St := ⟨[(7, .ptr 3 0), (8, .ptr 4 0), (9, .ptr 5 0), (3, .ptr 0 0), (4, .ptr 1 0), (5, .ptr 2 0)], [(5, zBx y), (4, zBx x), (3, zBx g), (2, zBx d), (1, zBx b), (0, zBx a)], 6, 0⟩
set_option maxHeartbeats 8000000 in
theorem NumBezout_z (a b d : Int) (la : lenZ a ≤ 40) (lb : lenZ b ≤ 40) (ld : lenZ d ≤ 40) : PC Tryz.prog 6 [.agg (zC a), .agg (zC b), .agg (zC d)] (B true) := by
  have hs := sane_ok
  have hr := right3A a b d la lb ld
  have va := valA a
  have vb := valA b
  have hbz : PX Tryz.prog 32 [.agg (zC a), .agg (zC b)] (BezS a b) (fun _ => False) := (Bezout_ok a b la lb).px
  refine PCr.pc (PCr.of tab_ok Tryz.func6 rfl rfl rfl fun c hc hm => ?_)
  rw [show Tryz.f6.ntmps = _ from Tryz.ntmps6] at hc
  simp only [Tryz.f6]
  repeat' first
    | (refine AWp.regionP (id := 5) 2 rfl rfl rfl (by rw [hc]; rfl) ?_; (try dsimp only [List.take_succ_cons, List.take_zero, List.drop_succ_cons, List.drop_zero]); simp -implicitDefEqProofs (maxSteps := 100000000) (disch := omega) only [go_sem, wrap64, Int.tdiv_eq_ediv_of_nonneg, Int.tmod_eq_emod_of_nonneg, Nat.reduceAdd, Nat.reduceMul, Nat.reduceEqDiff, Nat.reduceLT, Nat.reduceLeDiff, Int.reduceEq, Int.reduceNeg, Int.reduceToNat, reduceCtorEq, eq_self, Bool.false_eq_true, Bool.true_eq_false, ↓reduceIte, Int.reduceBNe, Int.reduceBEq, Bool.not_true, Bool.not_false, zC_len, pC_len, zD_len, zC_map, pC_map, zC_toCs, pC_toCs, zC_dCs, pC_dCs, zC_dats0, zC_take, pC_take, pC_take2, pC_get2, zC_get0, zC_get1, zC_drop, pC_drop, pC_drop3, zC_drop2, List.nil_append, List.append_nil, O6, zBx])
    | (exact absurd hlt (by decide))
    | (refine AWp.cut (x := .seq (.region 3 _ false) _) (O6 a b d) ?_ ?_)
    | (refine AWp.seq fun K hK => ?_)
    | ((first | refine AWp.draw (id := 6) [.take 0, .take 1, .take 2, .take 3, .take 4, .take 5, .take 6, .take 7, .take 8, .take 9, .take 10, .take 11, .take 12, .take 13, .take 14, .take 15, .take 16, .take 17, .take 18, .take 19, .take 20, .take 21, .take 22] mixed_ok (by kernel_rfl) (by rw [hc]; rfl) ?_ | refine AWp.region (by rw [hc]; rfl) ?_ | refine AWp.skip ?_ | refine AWp.exit ?_ | refine AWp.label ?_ | refine AWp.ret ?_ | refine appK_g ?_); simp -implicitDefEqProofs (maxSteps := 100000000) (disch := omega) only [go_sem, wrap64, Int.tdiv_eq_ediv_of_nonneg, Int.tmod_eq_emod_of_nonneg, Nat.reduceAdd, Nat.reduceMul, Nat.reduceEqDiff, Nat.reduceLT, Nat.reduceLeDiff, Int.reduceEq, Int.reduceNeg, Int.reduceToNat, reduceCtorEq, eq_self, Bool.false_eq_true, Bool.true_eq_false, ↓reduceIte, Int.reduceBNe, Int.reduceBEq, Bool.not_true, Bool.not_false, zC_len, pC_len, zD_len, zC_map, pC_map, zC_toCs, pC_toCs, zC_dCs, pC_dCs, zC_dats0, zC_take, pC_take, pC_take2, pC_get2, zC_get0, zC_get1, zC_drop, pC_drop, pC_drop3, zC_drop2, List.nil_append, List.append_nil, O6, zBx])
    | (refine hK _ ?_; clear hK)
    | (clear hK; refine hK _ ?_; clear hK)
    | (clear hK; clear hK; refine hK _ ?_; clear hK)
    | (clear hK; clear hK; clear hK; refine hK _ ?_; clear hK)
    | (refine AWp.cond ?_; simp -implicitDefEqProofs (maxSteps := 100000000) (disch := omega) only [go_sem, wrap64, Int.tdiv_eq_ediv_of_nonneg, Int.tmod_eq_emod_of_nonneg, Nat.reduceAdd, Nat.reduceMul, Nat.reduceEqDiff, Nat.reduceLT, Nat.reduceLeDiff, Int.reduceEq, Int.reduceNeg, Int.reduceToNat, reduceCtorEq, eq_self, Bool.false_eq_true, Bool.true_eq_false, ↓reduceIte, Int.reduceBNe, Int.reduceBEq, Bool.not_true, Bool.not_false, zC_len, pC_len, zD_len, zC_map, pC_map, zC_toCs, pC_toCs, zC_dCs, pC_dCs, zC_dats0, zC_take, pC_take, pC_take2, pC_get2, zC_get0, zC_get1, zC_drop, pC_drop, pC_drop3, zC_drop2, List.nil_append, List.append_nil, O6, zBx]; try (refine ⟨fun hlt => ?_, fun hlt => ?_⟩ <;> (try simp only [decide_eq_true_eq, decide_eq_false_iff_not, beq_iff_eq, bne_iff_ne, ne_eq, beq_eq_false_iff_ne, bne_eq_false_iff_eq, Bool.true_eq_false, Bool.false_eq_true, Int.not_lt, Int.not_le, Decidable.not_not, gt_iff_lt, ge_iff_le, reduceCtorEq] at hlt) <;> (try exact hlt.elim)))
    | (refine AWp.block ?_)
    | ((first | refine gdO_split (fun hlt => ?_) (fun hlt => ?_) | refine tkO_split (fun hlt => ?_) (fun hlt => ?_) | refine opO_split (fun hlt => ?_) (fun hlt => ?_)) <;> have hgd := hlt <;> (try simp only [decide_eq_true_eq, decide_eq_false_iff_not, beq_iff_eq, bne_iff_ne, ne_eq, beq_eq_false_iff_ne, bne_eq_false_iff_eq, Bool.not_eq_true, Bool.not_eq_false, Bool.not_eq_eq_eq_not, Int.not_lt, Int.not_le, Decidable.not_not, gt_iff_lt, ge_iff_le] at hlt) <;> (simp -implicitDefEqProofs (maxSteps := 100000000) (disch := omega) only [go_sem, wrap64, Int.tdiv_eq_ediv_of_nonneg, Int.tmod_eq_emod_of_nonneg, Nat.reduceAdd, Nat.reduceMul, Nat.reduceEqDiff, Nat.reduceLT, Nat.reduceLeDiff, Int.reduceEq, Int.reduceNeg, Int.reduceToNat, reduceCtorEq, eq_self, Bool.false_eq_true, Bool.true_eq_false, ↓reduceIte, Int.reduceBNe, Int.reduceBEq, Bool.not_true, Bool.not_false, zC_len, pC_len, zD_len, zC_map, pC_map, zC_toCs, pC_toCs, zC_dCs, pC_dCs, zC_dats0, zC_take, pC_take, pC_take2, pC_get2, zC_get0, zC_get1, zC_drop, pC_drop, pC_drop3, zC_drop2, List.nil_append, List.append_nil, O6, zBx, hgd]) <;> clear hgd)
    | (with_reducible refine And.intro ?_ ?_; · first | omega | assumption | exact ⟨_, _, rfl, rfl⟩)
    | ((first | refine ⟨_, hs, ?_⟩ | refine ⟨_, hr, ?_⟩); simp -implicitDefEqProofs (maxSteps := 100000000) (disch := omega) only [go_sem, wrap64, Int.tdiv_eq_ediv_of_nonneg, Int.tmod_eq_emod_of_nonneg, Nat.reduceAdd, Nat.reduceMul, Nat.reduceEqDiff, Nat.reduceLT, Nat.reduceLeDiff, Int.reduceEq, Int.reduceNeg, Int.reduceToNat, reduceCtorEq, eq_self, Bool.false_eq_true, Bool.true_eq_false, ↓reduceIte, Int.reduceBNe, Int.reduceBEq, Bool.not_true, Bool.not_false, zC_len, pC_len, zD_len, zC_map, pC_map, zC_toCs, pC_toCs, zC_dCs, pC_dCs, zC_dats0, zC_take, pC_take, pC_take2, pC_get2, zC_get0, zC_get1, zC_drop, pC_drop, pC_drop3, zC_drop2, List.nil_append, List.append_nil, O6, zBx])
    | (exact Nat.le_refl 2)
    | (refine AWp.skip ?_)
    | fail
  · show Sub c _ _
    refine Sub.of0 hm id rfl ?_ ?_ (fun _ _ _ _ h => h) <;> (simp -implicitDefEqProofs only [zC, pC, id, go_sem, Nat.reduceAdd, Nat.reduceEqDiff, Nat.blt_eq, Nat.reduceLT, ↓reduceIte, and_true, true_and, reduceCtorEq, Option.some.injEq])
  refine ⟨_, _, hbz, fun r hr' => ?_, fun v hv => hv.elim⟩
  obtain ⟨g, x, y, rfl, hg0, hxy, hga, hgb, hx, hy⟩ := hr'
  have lx := one_len lb hx
  have ly := one_len la hy
  have lg : lenZ g ≤ 40 := by
    by_cases ha : a = 0
    · by_cases hb : b = 0
      · rw [show g = 0 by rw [← hxy, ha, hb]; simp]; exact lenZ_0
      · exact Nat.le_trans (dvd_len hgb hb) lb
    · exact Nat.le_trans (dvd_len hga ha) la
  have vx := valA x
  have vy := valA y
  have vg := valA g
  have t1 := timesA (a, 0) (x, 0) la lx
  have t2 := timesA (b, 0) (y, 0) lb ly
  have f1 := sumA (timesP (a, 0) (x, 0)) (timesP (b, 0) (y, 0)) (timesP_ok _ _) (timesP_ok _ _)
  have g1 := agreeA (sumP (timesP (a, 0) (x, 0)) (timesP (b, 0) (y, 0))) (g, 0) (sumP_ok _ _) lg (fun ⟨h1, h2⟩ => by
    obtain ⟨p1, p2, p3⟩ := sumP_1 h1
    rw [p3, (timesP_1 p1).2.2, (timesP_1 p2).2.2]; exact hxy)
  have sg := signA g
  have sa : sgI g = 0 → PC Tryz.prog 18 [.agg (zC a)] (I 0) := fun h => by
    rw [sg_abs] at h; subst h
    have := signA a
    rwa [(sg_abs a).2 (Int.zero_dvd.1 hga)] at this
  have sb : sgI g = 0 → PC Tryz.prog 18 [.agg (zC b)] (I 0) := fun h => by
    rw [sg_abs] at h; subst h
    have := signA b
    rwa [(sg_abs b).2 (Int.zero_dvd.1 hgb)] at this
  have k1 : ¬ sgI g = 0 → PC Tryz.prog 33 [.agg (zC g), .agg (zC a)] (B true) := fun h => by
    have := divides_pc g a lg la (fun e => h ((sg_abs g).2 e))
    rwa [decide_eq_true hga] at this
  have k2 : ¬ sgI g = 0 → PC Tryz.prog 33 [.agg (zC g), .agg (zC b)] (B true) := fun h => by
    have := divides_pc g b lg lb (fun e => h ((sg_abs g).2 e))
    rwa [decide_eq_true hgb] at this
  have sd := signA d
  have k3 : ¬ sgI d = 0 → PC Tryz.prog 33 [.agg (zC d), .agg (zC a)] (B (decide (d ∣ a))) := fun h => divides_pc d a ld la (fun e => h ((sg_abs d).2 e))
  have k4 : ¬ sgI d = 0 → PC Tryz.prog 33 [.agg (zC d), .agg (zC b)] (B (decide (d ∣ b))) := fun h => divides_pc d b ld lb (fun e => h ((sg_abs d).2 e))
  have k5 : ¬ sgI d = 0 → decide (d ∣ a) = true → decide (d ∣ b) = true → PC Tryz.prog 33 [.agg (zC d), .agg (zC g)] (B true) := fun h h1 h2 => by
    have := divides_pc d g ld lg (fun e => h ((sg_abs d).2 e))
    have h1 := of_decide_eq_true h1
    have h2 := of_decide_eq_true h2
    rwa [decide_eq_true (by rw [← hxy]; exact Int.dvd_add (Int.dvd_trans h1 (Int.dvd_mul_right _ _)) (Int.dvd_trans h2 (Int.dvd_mul_right _ _)))] at this
  have l1 : lenZ 1 ≤ 40 := Nat.le_trans (lenZ_small (by decide)) (by decide)
  have o1 := ofA 1 (by omega) (by omega)
  have m1 := smallerA b x lb lx
  have m3 := smallerA a y la ly
  have m2 : decide (b.natAbs < x.natAbs) = true → PC Tryz.prog 35 [.agg (zC 1), .agg (zC x)] (B false) := fun h => by
    have := smallerA 1 x l1 lx
    have h := of_decide_eq_true h
    rwa [decide_eq_false (by show ¬ 1 < x.natAbs; omega)] at this
  have m4 : decide (a.natAbs < y.natAbs) = true → PC Tryz.prog 35 [.agg (zC 1), .agg (zC y)] (B false) := fun h => by
    have := smallerA 1 y l1 ly
    have h := of_decide_eq_true h
    rwa [decide_eq_false (by show ¬ 1 < y.natAbs; omega)] at this
  clear hx hy hga hgb hxy
  generalize decide (b.natAbs < x.natAbs) = p1 at *
  generalize decide (a.natAbs < y.natAbs) = p2 at *
  generalize decide (d ∣ a) = p3 at *
  generalize decide (d ∣ b) = p4 at *
  generalize sumP (timesP (a, 0) (x, 0)) (timesP (b, 0) (y, 0)) = s1 at *
  generalize timesP (a, 0) (x, 0) = u1 at *
  generalize timesP (b, 0) (y, 0) = u2 at *
  generalize sgI g = gs at *
  generalize sgI d = ds at *
  simp -implicitDefEqProofs (maxSteps := 100000000) (disch := omega) only [go_sem, wrap64, Nat.reduceAdd, Nat.reduceMul, Nat.reduceEqDiff, Nat.reduceLT, Nat.reduceLeDiff, Int.reduceEq, Int.reduceNeg, Int.reduceToNat, reduceCtorEq, eq_self, Bool.false_eq_true, Bool.true_eq_false, ↓reduceIte, zC_len, pC_len, zD_len, zC_map, pC_map, zC_toCs, pC_toCs, zC_dCs, pC_dCs, zC_dats0, zC_take, pC_take, zC_get0, zC_get1, zC_drop, pC_drop, pC_drop3, zC_drop2, List.nil_append, List.append_nil]
  first | (refine hK _ ?_; clear hK) | (clear hK; refine hK _ ?_; clear hK) | (clear hK; clear hK; refine hK _ ?_; clear hK) | (clear hK; clear hK; clear hK; refine hK _ ?_; clear hK)
  repeat' first
    | (exact absurd hlt (by decide))
    | (refine AWp.cut (x := .seq (.region 11 _ false) _) (V6 a b d g x y) ?_ ?_)
    | (refine AWp.cut (x := .seq (.region 6 _ true) _) (V6 a b d g x y) ?_ ?_)
    | (refine AWp.seq fun K hK => ?_)
    | ((first | refine AWp.draw (id := 6) [.take 0, .take 1, .take 2, .take 3, .take 4, .take 5, .take 6, .take 7, .take 8, .take 9, .take 10, .take 11, .take 12, .take 13, .take 14, .take 15, .take 16, .take 17, .take 18, .take 19, .take 20, .take 21, .take 22] mixed_ok (by kernel_rfl) (by rw [hc]; rfl) ?_ | refine AWp.region (by rw [hc]; rfl) ?_ | refine AWp.skip ?_ | refine AWp.exit ?_ | refine AWp.label ?_ | refine AWp.ret ?_ | refine appK_g ?_); simp -implicitDefEqProofs (maxSteps := 100000000) (disch := omega) only [go_sem, wrap64, Int.tdiv_eq_ediv_of_nonneg, Int.tmod_eq_emod_of_nonneg, Nat.reduceAdd, Nat.reduceMul, Nat.reduceEqDiff, Nat.reduceLT, Nat.reduceLeDiff, Int.reduceEq, Int.reduceNeg, Int.reduceToNat, reduceCtorEq, eq_self, Bool.false_eq_true, Bool.true_eq_false, ↓reduceIte, Int.reduceBNe, Int.reduceBEq, Bool.not_true, Bool.not_false, zC_len, pC_len, zD_len, zC_map, pC_map, zC_toCs, pC_toCs, zC_dCs, pC_dCs, zC_dats0, zC_take, pC_take, pC_take2, pC_get2, zC_get0, zC_get1, zC_drop, pC_drop, pC_drop3, zC_drop2, List.nil_append, List.append_nil, V6, zBx, Bool.not_eq_true'])
    | (refine hK _ ?_; clear hK)
    | (clear hK; refine hK _ ?_; clear hK)
    | (clear hK; clear hK; refine hK _ ?_; clear hK)
    | (clear hK; clear hK; clear hK; refine hK _ ?_; clear hK)
    | (refine AWp.cond ?_; simp -implicitDefEqProofs (maxSteps := 100000000) (disch := omega) only [go_sem, wrap64, Int.tdiv_eq_ediv_of_nonneg, Int.tmod_eq_emod_of_nonneg, Nat.reduceAdd, Nat.reduceMul, Nat.reduceEqDiff, Nat.reduceLT, Nat.reduceLeDiff, Int.reduceEq, Int.reduceNeg, Int.reduceToNat, reduceCtorEq, eq_self, Bool.false_eq_true, Bool.true_eq_false, ↓reduceIte, Int.reduceBNe, Int.reduceBEq, Bool.not_true, Bool.not_false, zC_len, pC_len, zD_len, zC_map, pC_map, zC_toCs, pC_toCs, zC_dCs, pC_dCs, zC_dats0, zC_take, pC_take, pC_take2, pC_get2, zC_get0, zC_get1, zC_drop, pC_drop, pC_drop3, zC_drop2, List.nil_append, List.append_nil, V6, zBx, Bool.not_eq_true']; try (refine ⟨fun hlt => ?_, fun hlt => ?_⟩ <;> (try simp only [decide_eq_true_eq, decide_eq_false_iff_not, beq_iff_eq, bne_iff_ne, ne_eq, beq_eq_false_iff_ne, bne_eq_false_iff_eq, Bool.true_eq_false, Bool.false_eq_true, Int.not_lt, Int.not_le, Decidable.not_not, gt_iff_lt, ge_iff_le, reduceCtorEq] at hlt) <;> (try exact hlt.elim)))
    | (refine AWp.block ?_)
    | ((first | refine gdO_split (fun hlt => ?_) (fun hlt => ?_) | refine tkO_split (fun hlt => ?_) (fun hlt => ?_) | refine opO_split (fun hlt => ?_) (fun hlt => ?_)) <;> have hgd := hlt <;> (try simp only [decide_eq_true_eq, decide_eq_false_iff_not, beq_iff_eq, bne_iff_ne, ne_eq, beq_eq_false_iff_ne, bne_eq_false_iff_eq, Bool.not_eq_true, Bool.not_eq_false, Bool.not_eq_eq_eq_not, Int.not_lt, Int.not_le, Decidable.not_not, gt_iff_lt, ge_iff_le] at hlt) <;> (simp -implicitDefEqProofs (maxSteps := 100000000) (disch := omega) only [go_sem, wrap64, Int.tdiv_eq_ediv_of_nonneg, Int.tmod_eq_emod_of_nonneg, Nat.reduceAdd, Nat.reduceMul, Nat.reduceEqDiff, Nat.reduceLT, Nat.reduceLeDiff, Int.reduceEq, Int.reduceNeg, Int.reduceToNat, reduceCtorEq, eq_self, Bool.false_eq_true, Bool.true_eq_false, ↓reduceIte, Int.reduceBNe, Int.reduceBEq, Bool.not_true, Bool.not_false, zC_len, pC_len, zD_len, zC_map, pC_map, zC_toCs, pC_toCs, zC_dCs, pC_dCs, zC_dats0, zC_take, pC_take, pC_take2, pC_get2, zC_get0, zC_get1, zC_drop, pC_drop, pC_drop3, zC_drop2, List.nil_append, List.append_nil, V6, zBx, Bool.not_eq_true', hgd]) <;> clear hgd)
    | (with_reducible refine And.intro ?_ ?_; · first | omega | assumption | exact ⟨_, _, rfl, rfl⟩)
    | ((first | refine ⟨_, va, ?_⟩ | refine ⟨_, vb, ?_⟩ | refine ⟨_, vx, ?_⟩ | refine ⟨_, vy, ?_⟩ | refine ⟨_, vg, ?_⟩ | refine ⟨_, t1, ?_⟩ | refine ⟨_, t2, ?_⟩ | refine ⟨_, f1, ?_⟩ | refine ⟨_, g1, ?_⟩ | refine ⟨_, sg, ?_⟩ | refine ⟨_, sd, ?_⟩ | refine ⟨_, o1, ?_⟩ | refine ⟨_, m1, ?_⟩ | refine ⟨_, m3, ?_⟩ | refine ⟨_, sa (by assumption), ?_⟩ | refine ⟨_, sb (by assumption), ?_⟩ | refine ⟨_, k1 (by assumption), ?_⟩ | refine ⟨_, k2 (by assumption), ?_⟩ | refine ⟨_, k3 (by assumption), ?_⟩ | refine ⟨_, k4 (by assumption), ?_⟩ | refine ⟨_, k5 (by assumption) (by assumption) (by assumption), ?_⟩ | refine ⟨_, m2 (by assumption), ?_⟩ | refine ⟨_, m4 (by assumption), ?_⟩); simp -implicitDefEqProofs (maxSteps := 100000000) (disch := omega) only [go_sem, wrap64, Int.tdiv_eq_ediv_of_nonneg, Int.tmod_eq_emod_of_nonneg, Nat.reduceAdd, Nat.reduceMul, Nat.reduceEqDiff, Nat.reduceLT, Nat.reduceLeDiff, Int.reduceEq, Int.reduceNeg, Int.reduceToNat, reduceCtorEq, eq_self, Bool.false_eq_true, Bool.true_eq_false, ↓reduceIte, Int.reduceBNe, Int.reduceBEq, Bool.not_true, Bool.not_false, zC_len, pC_len, zD_len, zC_map, pC_map, zC_toCs, pC_toCs, zC_dCs, pC_dCs, zC_dats0, zC_take, pC_take, pC_take2, pC_get2, zC_get0, zC_get1, zC_drop, pC_drop, pC_drop3, zC_drop2, List.nil_append, List.append_nil, V6, zBx, Bool.not_eq_true'])
    | (exact Nat.le_refl 2)
    | (refine AWp.skip ?_)
    | (exfalso; omega)
    | fail
  all_goals (try (
    show Sub c _ _
    refine Sub.of0 hm id rfl ?_ ?_ (fun _ _ _ _ h => h) <;> (simp -implicitDefEqProofs only [zC, pC, id, go_sem, Nat.reduceAdd, Nat.reduceEqDiff, Nat.blt_eq, Nat.reduceLT, ↓reduceIte, and_true, true_and, reduceCtorEq, Option.some.injEq]) <;> done))
theorem NumBezout_ok (na : Bool) (a : List Int) (nb : Bool) (b : List Int) (nc : Bool) (z : List Int) : PC Tryz.prog 6 [Zr na a, Zr nb b, Zr nc z] (B true) := by
  by_cases h : okI na a ∧ okI nb b ∧ okI nc z
  · obtain ⟨h1, h2, h3⟩ := h
    obtain ⟨x, e1, l1⟩ := okI_ex h1
    obtain ⟨y, e2, l2⟩ := okI_ex h2
    obtain ⟨w, e3, l3⟩ := okI_ex h3
    rw [e1, e2, e3]
    exact NumBezout_z x y w l1 l2 l3
  · exact NumBezout_bad na nb nc a b z h
end Go.Proofs.YthhjcfejgoddlaaGreatDoor
end
