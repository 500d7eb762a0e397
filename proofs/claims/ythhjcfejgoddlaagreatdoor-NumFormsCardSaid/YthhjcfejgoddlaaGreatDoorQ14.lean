/- The contract of the law's function. -/
import Derived.Test.YthhjcfejgoddlaaGreatDoorKd
import Derived.Test.YthhjcfejgoddlaaGreatDoorQ14a
import Derived.Test.YthhjcfejgoddlaaGreatDoorSc
section
set_option linter.unusedSimpArgs false
set_option linter.unusedVariables false
set_option maxRecDepth 100000
namespace Go.Proofs.YthhjcfejgoddlaaGreatDoor
open Go Go.Abs
attribute [local go_sem] wrap64 Int.tdiv_eq_ediv_of_nonneg Int.tmod_eq_emod_of_nonneg eq_self Bool.false_eq_true Bool.true_eq_false Bool.not_true Bool.not_false
attribute [local go_sem_proc] Nat.reduceAdd Nat.reduceMul Nat.reduceEqDiff Nat.reduceLT Nat.reduceLeDiff Int.reduceEq Int.reduceNeg Int.reduceToNat reduceCtorEq Int.reduceBNe Int.reduceBEq

/-! FromBytes of the reference. -/
def eU (x : UInt8) : List DV := [.int .u8 (x.toNat : Int)]
def bL (l : List UInt8) : AV := .dat (.lst (l.map eU))
def bX (l : List UInt8) (i : Nat) : Int := ((l.getD i 0).toNat : Int)
def w4 (l : List UInt8) (i : Nat) : Int := ((bX l i * 256 + bX l (i + 1)) * 256 + bX l (i + 2)) * 256 + bX l (i + 3)
def wds (l : List UInt8) (k : Nat) : List Int := (List.range k).map fun j => w4 l (l.length - 4 - 4 * j)
def nB (l : List UInt8) : Nat := (l.getD 0 0).toNat % 128
def sB (l : List UInt8) : Bool := decide (128 ≤ (l.getD 0 0).toNat)
def fbBad (l : List UInt8) : Prop := l.length ≠ 1 + 4 * nB l
instance (l : List UInt8) : Decidable (fbBad l) := inferInstanceAs (Decidable (_ ≠ _))
def fbV (l : List UInt8) : AV := if fbBad l then .tup [Zr false [], I 12] else if okI (sB l) (wds l (nB l)) then .tup [Zr (sB l) (wds l (nB l)), I 0] else .tup [Zr false [], I 12]
theorem bX_rng (l : List UInt8) (i : Nat) : 0 ≤ bX l i ∧ bX l i < 256 := by
  unfold bX
  have := (l.getD i 0).toNat_lt; omega
theorem eU_getD (l : List UInt8) (i : Nat) (h : i < l.length) : (l.map eU).getD i [] = [DV.int .u8 (bX l i)] := by
  simp [List.getD, eU, bX, h]
def F73 (l : List UInt8) (neg : Bool) : Nat → St := fun k => ⟨[(0, bL l), (2, .ptr 0 0), (4, .ptr 1 0), (5, I ((l.length : Int) - 4 - 4 * k))], (1, .box [B neg, gL 2 ((wds l k).map eI)] false) :: gS 3 1 2 ((wds l k).map eI) false [(0, .box [B false, .nil] false)], 3, 0⟩
set_option maxHeartbeats 4000000 in
theorem rFromBytes_pc (l : List UInt8) (hl : l.length ≤ 1000000) : PC Tryz.prog 73 [bL l] (fbV l) := by
  have h0 := bX_rng l 0
  by_cases hb : fbBad l
  · unfold fbV
    rw [if_pos hb]
    by_cases hn : l = []
    · subst hn
      unfold bL
      simp only [List.map_nil]
      refine PCr.pc (PCr.of tab_ok Tryz.func73 rfl rfl rfl fun c hc hm => ?_)
      rw [show Tryz.f73.ntmps = _ from Tryz.ntmps73] at hc
      simp only [Tryz.f73]
      repeat' first | (exact absurd hlt (by decide)) | (refine AWp.seq fun K hK => ?_) | ((first | refine AWp.draw (id := 7) [.take 0, .take 1, .take 2, .take 3, .take 4, .take 5, .take 6, .take 7, .take 8, .take 9, .take 10, .take 11, .take 12, .take 13, .take 14, .take 15, .take 16, .take 17, .take 18, .take 19, .take 20, .take 21, .take 22, .take 23, .take 24, .take 25, .take 26, .take 27, .take 28, .take 29, .take 30, .take 31, .grp [32], .take 33, .grp [34]] mixed_ok (by kernel_rfl) (by rw [hc]; rfl) ?_ | refine AWp.region (by rw [hc]; rfl) ?_ | refine AWp.skip ?_ | refine AWp.exit ?_ | refine AWp.label ?_ | refine AWp.ret ?_ | refine appK_g ?_); simp -implicitDefEqProofs (maxSteps := 1000000) (disch := omega) only [go_sem, ↓reduceIte]) | ((first | refine hK _ ?_ | (clear hK; first | refine hK _ ?_ | (clear hK; first | refine hK _ ?_ | (clear hK; refine hK _ ?_)))); clear hK) | (refine AWp.cond ?_; simp -implicitDefEqProofs (maxSteps := 1000000) (disch := omega) only [go_sem, ↓reduceIte]; try (refine ⟨fun hlt => ?_, fun hlt => ?_⟩ <;> (try simp only [cla, clb, ne_eq, reduceCtorEq] at hlt) <;> (try exact hlt.elim))) | (refine AWp.block ?_) | ((first | refine gdO_split (fun hlt => ?_) (fun hlt => ?_) | refine tkO_split (fun hlt => ?_) (fun hlt => ?_) | refine opO_split (fun hlt => ?_) (fun hlt => ?_)) <;> have hgd := hlt <;> (try simp only [cla, clb, ne_eq, cld] at hlt) <;> (simp -implicitDefEqProofs (maxSteps := 1000000) (disch := omega) only [go_sem, ↓reduceIte, hgd]) <;> clear hgd) | (with_reducible refine And.intro ?_ ?_; · first | omega | assumption | exact ⟨_, _, rfl, rfl⟩) | fail
    · have hp : 0 < l.length := List.length_pos_iff.2 hn
      have e1 : ((l.length : Int) == 0) = false := by rw [beq_eq_false_iff_ne]; omega
      have e0 := eU_getD l 0 hp
      have e2 : ((l.length : Int) != 1 + 4 * (bX l 0 % 128)) = true := by
        rw [bne_iff_ne]; unfold fbBad nB at hb; unfold bX; omega
      unfold bL
      generalize bX l 0 = x0 at *
      refine PCr.pc (PCr.of tab_ok Tryz.func73 rfl rfl rfl fun c hc hm => ?_)
      rw [show Tryz.f73.ntmps = _ from Tryz.ntmps73] at hc
      simp only [Tryz.f73]
      repeat' first | (exact absurd hlt (by decide)) | (refine AWp.seq fun K hK => ?_) | ((first | refine AWp.draw (id := 7) [.take 0, .take 1, .take 2, .take 3, .take 4, .take 5, .take 6, .take 7, .take 8, .take 9, .take 10, .take 11, .take 12, .take 13, .take 14, .take 15, .take 16, .take 17, .take 18, .take 19, .take 20, .take 21, .take 22, .take 23, .take 24, .take 25, .take 26, .take 27, .take 28, .take 29, .take 30, .take 31, .grp [32], .take 33, .grp [34]] mixed_ok (by kernel_rfl) (by rw [hc]; rfl) ?_ | refine AWp.region (by rw [hc]; rfl) ?_ | refine AWp.skip ?_ | refine AWp.exit ?_ | refine AWp.label ?_ | refine AWp.ret ?_ | refine appK_g ?_); simp -implicitDefEqProofs (maxSteps := 1000000) (disch := omega) only [go_sem, ↓reduceIte, e1, e0, e2, List.length_map]) | ((first | refine hK _ ?_ | (clear hK; first | refine hK _ ?_ | (clear hK; first | refine hK _ ?_ | (clear hK; refine hK _ ?_)))); clear hK) | (refine AWp.cond ?_; simp -implicitDefEqProofs (maxSteps := 1000000) (disch := omega) only [go_sem, ↓reduceIte, e1, e0, e2, List.length_map]; try (refine ⟨fun hlt => ?_, fun hlt => ?_⟩ <;> (try simp only [cla, clb, ne_eq, reduceCtorEq] at hlt) <;> (try exact hlt.elim))) | (refine AWp.block ?_) | ((first | refine gdO_split (fun hlt => ?_) (fun hlt => ?_) | refine tkO_split (fun hlt => ?_) (fun hlt => ?_) | refine opO_split (fun hlt => ?_) (fun hlt => ?_)) <;> have hgd := hlt <;> (try simp only [cla, clb, ne_eq, cld] at hlt) <;> (simp -implicitDefEqProofs (maxSteps := 1000000) (disch := omega) only [go_sem, ↓reduceIte, e1, e0, e2, List.length_map, hgd]) <;> clear hgd) | (with_reducible refine And.intro ?_ ?_; · first | omega | assumption | exact ⟨_, _, rfl, rfl⟩) | fail
  · unfold fbV
    rw [if_neg hb]
    have hb' : l.length = 1 + 4 * nB l := Classical.not_not.1 hb
    have hp : 0 < l.length := by omega
    have hnB : nB l < 128 := Nat.mod_lt _ (by decide)
    have e1 : ((l.length : Int) == 0) = false := by rw [beq_eq_false_iff_ne]; omega
    have e0 := eU_getD l 0 hp
    have e2 : ((l.length : Int) != 1 + 4 * (bX l 0 % 128)) = false := by
      rw [bne_eq_false_iff_eq]; unfold nB at hb'; unfold bX; omega
    have e3 : decide ((128 : Int) ≤ bX l 0) = sB l := by unfold sB bX; rw [decide_eq_decide]; omega
    obtain ⟨m, hmm⟩ : ∃ m, m = nB l := ⟨_, rfl⟩
    rw [← hmm] at hb' hnB ⊢
    generalize sB l = neg at *
    have hIs := Is_pc neg (wds l m)
    have hw0 : wds l 0 = [] := rfl
    refine PCr.pc (PCr.of tab_ok Tryz.func73 rfl rfl rfl fun c hc hm => ?_)
    rw [show Tryz.f73.ntmps = _ from Tryz.ntmps73] at hc
    simp only [Tryz.f73]
    repeat' first | (exact absurd hlt (by decide)) | (refine AWp.seq fun K hK => ?_) | ((first | refine AWp.draw (id := 7) [.take 0, .take 1, .take 2, .take 3, .take 4, .take 5, .take 6, .take 7, .take 8, .take 9, .take 10, .take 11, .take 12, .take 13, .take 14, .take 15, .take 16, .take 17, .take 18, .take 19, .take 20, .take 21, .take 22, .take 23, .take 24, .take 25, .take 26, .take 27, .take 28, .take 29, .take 30, .take 31, .grp [32], .take 33, .grp [34]] mixed_ok (by kernel_rfl) (by rw [hc]; rfl) ?_ | refine AWp.region (by rw [hc]; rfl) ?_ | refine AWp.skip ?_ | refine AWp.exit ?_ | refine AWp.label ?_ | refine AWp.ret ?_ | refine appK_g ?_); simp -implicitDefEqProofs (maxSteps := 1000000) (disch := omega) only [go_sem, ↓reduceIte, bL, e1, e0, e2, e3, List.length_map]) | ((first | refine hK _ ?_ | (clear hK; first | refine hK _ ?_ | (clear hK; first | refine hK _ ?_ | (clear hK; refine hK _ ?_)))); clear hK) | (refine AWp.cond ?_; simp -implicitDefEqProofs (maxSteps := 1000000) (disch := omega) only [go_sem, ↓reduceIte, bL, e1, e0, e2, e3, List.length_map]; try (refine ⟨fun hlt => ?_, fun hlt => ?_⟩ <;> (try simp only [cla, clb, ne_eq, reduceCtorEq] at hlt) <;> (try exact hlt.elim))) | (refine AWp.block ?_) | ((first | refine gdO_split (fun hlt => ?_) (fun hlt => ?_) | refine tkO_split (fun hlt => ?_) (fun hlt => ?_) | refine opO_split (fun hlt => ?_) (fun hlt => ?_)) <;> have hgd := hlt <;> (try simp only [cla, clb, ne_eq, cld] at hlt) <;> (simp -implicitDefEqProofs (maxSteps := 1000000) (disch := omega) only [go_sem, ↓reduceIte, bL, e1, e0, e2, e3, List.length_map, hgd]) <;> clear hgd) | (with_reducible refine And.intro ?_ ?_; · first | omega | assumption | exact ⟨_, _, rfl, rfl⟩) | fail
    refine AWp.loopInv (F73 l neg) (fun k => m - k) (fun k => k ≤ m) 0 (Nat.zero_le _) (Sub.of0 hm id rfl ?_ ?_ (fun _ _ _ _ h => h)) ?_
    all_goals (try dsimp only)
    all_goals (first | omega | (simp -implicitDefEqProofs (maxSteps := 1000000) (disch := omega) only [F73, hw0, bL, id, go_sem, Nat.blt_eq, Nat.reduceAdd, Nat.reduceSub, Nat.reduceEqDiff, Nat.reduceLT, ↓reduceIte, and_true, true_and, AV.dat.injEq, DV.int.injEq, DV.bool.injEq, DV.lst.injEq, eq_self_iff_true]; first | done | omega | (simp; done) | (simp; omega)) | (simp; done) | (simp; omega) | skip)
    intro k hk ih
    simp only [F73]
    by_cases hkm : k < m
    · obtain ⟨p, hpp⟩ : ∃ p, p = l.length - 4 - 4 * k := ⟨_, rfl⟩
      have ep : (l.length : Int) - 4 - 4 * k = (p : Int) := by omega
      have c1 : decide ((0 : Int) < (p : Int)) = true := decide_eq_true (by omega)
      have g0 := eU_getD l p (by omega)
      have g1 := eU_getD l (p + 1) (by omega)
      have g2 := eU_getD l (p + 2) (by omega)
      have g3 := eU_getD l (p + 3) (by omega)
      have r0 := bX_rng l p
      have r1 := bX_rng l (p + 1)
      have r2 := bX_rng l (p + 2)
      have r3 := bX_rng l (p + 3)
      have hw : wds l (k + 1) = wds l k ++ [((bX l p * 256 + bX l (p + 1)) * 256 + bX l (p + 2)) * 256 + bX l (p + 3)] := by
        unfold wds w4
        rw [List.range_succ, List.map_append, List.map_singleton, hpp]
      have hlw : (wds l k).length = k := by simp [wds]
      have t1 : ((p : Int) + 1).toNat = p + 1 := by omega
      have t2 : ((p : Int) + 2).toNat = p + 2 := by omega
      have t3 : ((p : Int) + 3).toNat = p + 3 := by omega
      simp only [ep]
      generalize wds l k = ws at *
      generalize bX l p = x0 at *
      generalize bX l (p + 1) = x1 at *
      generalize bX l (p + 2) = x2 at *
      generalize bX l (p + 3) = x3 at *
      unfold bL
      repeat' first | (exact absurd hlt (by decide)) | (refine AWp.seq fun K hK => ?_) | (first | refine AWp.draw2 (id := 7) [.take 0, .take 1, .take 2, .take 3, .take 4, .take 5, .take 6, .take 7, .take 8, .take 9, .take 10, .take 11, .take 12, .take 13, .take 14, .take 15, .take 16, .take 17, .take 18, .take 19, .take 20, .take 21, .take 22, .take 23, .take 24, .take 25, .take 26, .take 27, .take 28, .take 29, .take 30, .take 31, .grp [32], .take 33, .grp [34]] mixed_ok (by kernel_rfl) (by rw [hc]; rfl) ?_) | ((first | refine planK_step fun K hK => ?_ | refine planK_one fun K hK => ?_); simp -implicitDefEqProofs (maxSteps := 1000000) (disch := omega) only [go_sem, ↓reduceIte, c1, t1, t2, t3, g0, g1, g2, g3, List.length_map]) | (refine planK_end ?_; try (simp -implicitDefEqProofs (maxSteps := 1000000) (disch := omega) only [go_sem, ↓reduceIte, c1, t1, t2, t3, g0, g1, g2, g3, List.length_map])) | ((first | refine AWp.region (by rw [hc]; rfl) ?_ | refine AWp.skip ?_ | refine AWp.exit ?_ | refine AWp.label ?_ | refine AWp.ret ?_ | refine appK_g ?_); simp -implicitDefEqProofs (maxSteps := 1000000) (disch := omega) only [go_sem, ↓reduceIte, c1, t1, t2, t3, g0, g1, g2, g3, List.length_map]) | ((first | refine hK _ ?_ | (clear hK; first | refine hK _ ?_ | (clear hK; first | refine hK _ ?_ | (clear hK; refine hK _ ?_)))); clear hK) | (refine AWp.cond ?_; simp -implicitDefEqProofs (maxSteps := 1000000) (disch := omega) only [go_sem, ↓reduceIte, c1, t1, t2, t3, g0, g1, g2, g3, List.length_map]; try (refine ⟨fun hlt => ?_, fun hlt => ?_⟩ <;> (try simp only [cla, clb, ne_eq, reduceCtorEq] at hlt) <;> (try exact hlt.elim))) | (refine AWp.block ?_) | ((first | refine gdO_split (fun hlt => ?_) (fun hlt => ?_) | refine tkO_split (fun hlt => ?_) (fun hlt => ?_) | refine opO_split (fun hlt => ?_) (fun hlt => ?_)) <;> have hgd := hlt <;> (try simp only [cla, clb, ne_eq, cld] at hlt) <;> (simp -implicitDefEqProofs (maxSteps := 1000000) (disch := omega) only [go_sem, ↓reduceIte, c1, t1, t2, t3, g0, g1, g2, g3, List.length_map, hgd]) <;> clear hgd) | (with_reducible refine And.intro ?_ ?_; · first | omega | assumption | exact ⟨_, _, rfl, rfl⟩) | fail
      refine ih (k + 1) _ (by omega) (by omega) (Sub.of0 hm (fun i => if i = 0 then 0 else if i = 1 then 1 else 3) rfl ?_ ?_ ?_)
      all_goals (try dsimp only)
      all_goals (first | omega | (simp -implicitDefEqProofs (maxSteps := 1000000) (disch := omega) only [F73, hw, bL, List.map_append, List.map_cons, List.map_nil, id, go_sem, Nat.blt_eq, Nat.reduceAdd, Nat.reduceSub, Nat.reduceEqDiff, Nat.reduceLT, ↓reduceIte, and_true, true_and, AV.dat.injEq, DV.int.injEq, DV.bool.injEq, DV.lst.injEq, eq_self_iff_true]; first | done | omega | (simp; done) | (simp; omega)) | (simp; done) | (simp; omega) | skip)
      all_goals
        intro a b h1 h2 h
        change a < 3 at h1; change b < 3 at h2
        (repeat' split at h) <;> omega
    · obtain rfl : k = m := by omega
      have ep : (l.length : Int) - 4 - 4 * k = -3 := by omega
      simp only [ep]
      clear ih e0
      by_cases hok : okI neg (wds l k)
      · skip
        rw [decide_eq_true hok] at hIs
        generalize wds l k = ws at *
        rcases ws with _ | ⟨w, ws⟩
        · repeat' first | (exact absurd hlt (by decide)) | (refine AWp.seq fun K hK => ?_) | (first | refine AWp.draw2 (id := 7) [.take 0, .take 1, .take 2, .take 3, .take 4, .take 5, .take 6, .take 7, .take 8, .take 9, .take 10, .take 11, .take 12, .take 13, .take 14, .take 15, .take 16, .take 17, .take 18, .take 19, .take 20, .take 21, .take 22, .take 23, .take 24, .take 25, .take 26, .take 27, .take 28, .take 29, .take 30, .take 31, .grp [32], .take 33, .grp [34]] mixed_ok (by kernel_rfl) (by rw [hc]; rfl) ?_) | ((first | refine planK_step fun K hK => ?_ | refine planK_one fun K hK => ?_); simp -implicitDefEqProofs (maxSteps := 1000000) (disch := omega) only [go_sem, ↓reduceIte, gL, gS, List.map_nil]) | (refine planK_end ?_; try (simp -implicitDefEqProofs (maxSteps := 1000000) (disch := omega) only [go_sem, ↓reduceIte, gL, gS, List.map_nil])) | ((first | refine AWp.region (by rw [hc]; rfl) ?_ | refine AWp.skip ?_ | refine AWp.exit ?_ | refine AWp.label ?_ | refine AWp.ret ?_ | refine appK_g ?_); simp -implicitDefEqProofs (maxSteps := 1000000) (disch := omega) only [go_sem, ↓reduceIte, gL, gS, List.map_nil]) | ((first | refine hK _ ?_ | (clear hK; first | refine hK _ ?_ | (clear hK; first | refine hK _ ?_ | (clear hK; refine hK _ ?_)))); clear hK) | (refine AWp.cond ?_; simp -implicitDefEqProofs (maxSteps := 1000000) (disch := omega) only [go_sem, ↓reduceIte, gL, gS, List.map_nil]; try (refine ⟨fun hlt => ?_, fun hlt => ?_⟩ <;> (try simp only [cla, clb, ne_eq, reduceCtorEq] at hlt) <;> (try exact hlt.elim))) | (refine AWp.block ?_) | ((first | refine gdO_split (fun hlt => ?_) (fun hlt => ?_) | refine tkO_split (fun hlt => ?_) (fun hlt => ?_) | refine opO_split (fun hlt => ?_) (fun hlt => ?_)) <;> have hgd := hlt <;> (try simp only [cla, clb, ne_eq, cld] at hlt) <;> (simp -implicitDefEqProofs (maxSteps := 1000000) (disch := omega) only [go_sem, ↓reduceIte, gL, gS, List.map_nil, hgd]) <;> clear hgd) | (with_reducible refine And.intro ?_ ?_; · first | omega | assumption | exact ⟨_, _, rfl, rfl⟩) | ((first | refine ⟨_, hIs, ?_⟩); try (simp -implicitDefEqProofs (maxSteps := 1000000) (disch := omega) only [go_sem, ↓reduceIte, gL, gS, List.map_nil])) | fail
          all_goals (first | rfl | rw [if_pos hok])
        · repeat' first | (exact absurd hlt (by decide)) | (refine AWp.seq fun K hK => ?_) | (first | refine AWp.draw2 (id := 7) [.take 0, .take 1, .take 2, .take 3, .take 4, .take 5, .take 6, .take 7, .take 8, .take 9, .take 10, .take 11, .take 12, .take 13, .take 14, .take 15, .take 16, .take 17, .take 18, .take 19, .take 20, .take 21, .take 22, .take 23, .take 24, .take 25, .take 26, .take 27, .take 28, .take 29, .take 30, .take 31, .grp [32], .take 33, .grp [34]] mixed_ok (by kernel_rfl) (by rw [hc]; rfl) ?_) | ((first | refine planK_step fun K hK => ?_ | refine planK_one fun K hK => ?_); simp -implicitDefEqProofs (maxSteps := 1000000) (disch := omega) only [go_sem, ↓reduceIte, gL, gS, List.map_cons]) | (refine planK_end ?_; try (simp -implicitDefEqProofs (maxSteps := 1000000) (disch := omega) only [go_sem, ↓reduceIte, gL, gS, List.map_cons])) | ((first | refine AWp.region (by rw [hc]; rfl) ?_ | refine AWp.skip ?_ | refine AWp.exit ?_ | refine AWp.label ?_ | refine AWp.ret ?_ | refine appK_g ?_); simp -implicitDefEqProofs (maxSteps := 1000000) (disch := omega) only [go_sem, ↓reduceIte, gL, gS, List.map_cons]) | ((first | refine hK _ ?_ | (clear hK; first | refine hK _ ?_ | (clear hK; first | refine hK _ ?_ | (clear hK; refine hK _ ?_)))); clear hK) | (refine AWp.cond ?_; simp -implicitDefEqProofs (maxSteps := 1000000) (disch := omega) only [go_sem, ↓reduceIte, gL, gS, List.map_cons]; try (refine ⟨fun hlt => ?_, fun hlt => ?_⟩ <;> (try simp only [cla, clb, ne_eq, reduceCtorEq] at hlt) <;> (try exact hlt.elim))) | (refine AWp.block ?_) | ((first | refine gdO_split (fun hlt => ?_) (fun hlt => ?_) | refine tkO_split (fun hlt => ?_) (fun hlt => ?_) | refine opO_split (fun hlt => ?_) (fun hlt => ?_)) <;> have hgd := hlt <;> (try simp only [cla, clb, ne_eq, cld] at hlt) <;> (simp -implicitDefEqProofs (maxSteps := 1000000) (disch := omega) only [go_sem, ↓reduceIte, gL, gS, List.map_cons, hgd]) <;> clear hgd) | (with_reducible refine And.intro ?_ ?_; · first | omega | assumption | exact ⟨_, _, rfl, rfl⟩) | ((first | refine ⟨_, hIs, ?_⟩); try (simp -implicitDefEqProofs (maxSteps := 1000000) (disch := omega) only [go_sem, ↓reduceIte, gL, gS, List.map_cons])) | fail
          all_goals (first | rfl | rw [if_pos hok])
      · skip
        rw [decide_eq_false hok] at hIs
        generalize wds l k = ws at *
        rcases ws with _ | ⟨w, ws⟩
        · repeat' first | (exact absurd hlt (by decide)) | (refine AWp.seq fun K hK => ?_) | (first | refine AWp.draw2 (id := 7) [.take 0, .take 1, .take 2, .take 3, .take 4, .take 5, .take 6, .take 7, .take 8, .take 9, .take 10, .take 11, .take 12, .take 13, .take 14, .take 15, .take 16, .take 17, .take 18, .take 19, .take 20, .take 21, .take 22, .take 23, .take 24, .take 25, .take 26, .take 27, .take 28, .take 29, .take 30, .take 31, .grp [32], .take 33, .grp [34]] mixed_ok (by kernel_rfl) (by rw [hc]; rfl) ?_) | ((first | refine planK_step fun K hK => ?_ | refine planK_one fun K hK => ?_); simp -implicitDefEqProofs (maxSteps := 1000000) (disch := omega) only [go_sem, ↓reduceIte, gL, gS, List.map_nil]) | (refine planK_end ?_; try (simp -implicitDefEqProofs (maxSteps := 1000000) (disch := omega) only [go_sem, ↓reduceIte, gL, gS, List.map_nil])) | ((first | refine AWp.region (by rw [hc]; rfl) ?_ | refine AWp.skip ?_ | refine AWp.exit ?_ | refine AWp.label ?_ | refine AWp.ret ?_ | refine appK_g ?_); simp -implicitDefEqProofs (maxSteps := 1000000) (disch := omega) only [go_sem, ↓reduceIte, gL, gS, List.map_nil]) | ((first | refine hK _ ?_ | (clear hK; first | refine hK _ ?_ | (clear hK; first | refine hK _ ?_ | (clear hK; refine hK _ ?_)))); clear hK) | (refine AWp.cond ?_; simp -implicitDefEqProofs (maxSteps := 1000000) (disch := omega) only [go_sem, ↓reduceIte, gL, gS, List.map_nil]; try (refine ⟨fun hlt => ?_, fun hlt => ?_⟩ <;> (try simp only [cla, clb, ne_eq, reduceCtorEq] at hlt) <;> (try exact hlt.elim))) | (refine AWp.block ?_) | ((first | refine gdO_split (fun hlt => ?_) (fun hlt => ?_) | refine tkO_split (fun hlt => ?_) (fun hlt => ?_) | refine opO_split (fun hlt => ?_) (fun hlt => ?_)) <;> have hgd := hlt <;> (try simp only [cla, clb, ne_eq, cld] at hlt) <;> (simp -implicitDefEqProofs (maxSteps := 1000000) (disch := omega) only [go_sem, ↓reduceIte, gL, gS, List.map_nil, hgd]) <;> clear hgd) | (with_reducible refine And.intro ?_ ?_; · first | omega | assumption | exact ⟨_, _, rfl, rfl⟩) | ((first | refine ⟨_, hIs, ?_⟩); try (simp -implicitDefEqProofs (maxSteps := 1000000) (disch := omega) only [go_sem, ↓reduceIte, gL, gS, List.map_nil])) | fail
          all_goals (first | rfl | rw [if_neg hok])
        · repeat' first | (exact absurd hlt (by decide)) | (refine AWp.seq fun K hK => ?_) | (first | refine AWp.draw2 (id := 7) [.take 0, .take 1, .take 2, .take 3, .take 4, .take 5, .take 6, .take 7, .take 8, .take 9, .take 10, .take 11, .take 12, .take 13, .take 14, .take 15, .take 16, .take 17, .take 18, .take 19, .take 20, .take 21, .take 22, .take 23, .take 24, .take 25, .take 26, .take 27, .take 28, .take 29, .take 30, .take 31, .grp [32], .take 33, .grp [34]] mixed_ok (by kernel_rfl) (by rw [hc]; rfl) ?_) | ((first | refine planK_step fun K hK => ?_ | refine planK_one fun K hK => ?_); simp -implicitDefEqProofs (maxSteps := 1000000) (disch := omega) only [go_sem, ↓reduceIte, gL, gS, List.map_cons]) | (refine planK_end ?_; try (simp -implicitDefEqProofs (maxSteps := 1000000) (disch := omega) only [go_sem, ↓reduceIte, gL, gS, List.map_cons])) | ((first | refine AWp.region (by rw [hc]; rfl) ?_ | refine AWp.skip ?_ | refine AWp.exit ?_ | refine AWp.label ?_ | refine AWp.ret ?_ | refine appK_g ?_); simp -implicitDefEqProofs (maxSteps := 1000000) (disch := omega) only [go_sem, ↓reduceIte, gL, gS, List.map_cons]) | ((first | refine hK _ ?_ | (clear hK; first | refine hK _ ?_ | (clear hK; first | refine hK _ ?_ | (clear hK; refine hK _ ?_)))); clear hK) | (refine AWp.cond ?_; simp -implicitDefEqProofs (maxSteps := 1000000) (disch := omega) only [go_sem, ↓reduceIte, gL, gS, List.map_cons]; try (refine ⟨fun hlt => ?_, fun hlt => ?_⟩ <;> (try simp only [cla, clb, ne_eq, reduceCtorEq] at hlt) <;> (try exact hlt.elim))) | (refine AWp.block ?_) | ((first | refine gdO_split (fun hlt => ?_) (fun hlt => ?_) | refine tkO_split (fun hlt => ?_) (fun hlt => ?_) | refine opO_split (fun hlt => ?_) (fun hlt => ?_)) <;> have hgd := hlt <;> (try simp only [cla, clb, ne_eq, cld] at hlt) <;> (simp -implicitDefEqProofs (maxSteps := 1000000) (disch := omega) only [go_sem, ↓reduceIte, gL, gS, List.map_cons, hgd]) <;> clear hgd) | (with_reducible refine And.intro ?_ ?_; · first | omega | assumption | exact ⟨_, _, rfl, rfl⟩) | ((first | refine ⟨_, hIs, ?_⟩); try (simp -implicitDefEqProofs (maxSteps := 1000000) (disch := omega) only [go_sem, ↓reduceIte, gL, gS, List.map_cons])) | fail
          all_goals (first | rfl | rw [if_neg hok])
end Go.Proofs.YthhjcfejgoddlaaGreatDoor
end

section
set_option linter.unusedSimpArgs false
set_option linter.unusedVariables false
namespace Go.Proofs.YthhjcfejgoddlaaGreatDoor
open Go Go.Abs

/-! slices.Chunk over bytes, as an iterator of data. -/
section
attribute [local go_sem] Oper.semAt_some
set_option maxRecDepth 100000 in
set_option maxHeartbeats 4000000 in
theorem chunk_nil (F : Fence) (n : Nat) (h147 : F.fn 147) (hro : F.round = none) (l Bs o Bn on : Nat) (a : Option Addr) (cap : Nat) (J : List (Fin 0) → World → Prop)
    (W : World) (hBs : W.cell? ⟨Bs, o, none⟩ = some (.slice a 0 cap)) (hBn : W.cell? ⟨Bn, on, none⟩ = some (.int .i64 4)) (h0 : J [] W) :
    CallsIn F n Tryz.prog 147 #[.func (.yield l) #[] #[], .pointer (some ⟨Bs, o, none⟩), .pointer (some ⟨Bn, on, none⟩)] W fun e W' => (∃ v, e = .returned v) ∧ J [] W' := by
  refine callsIn_of_wp Tryz.func147 rfl h147 ?_ hro
  simp only [Tryz.ntmps147, List.size_toArray, List.length_cons, List.length_nil, Nat.reduceAdd, Nat.reduceSub, Array.replicate_succ, Array.replicate_zero, List.push_toArray, List.append_toArray, List.nil_append, List.cons_append]
  gi_wp2
  gi_loopw [4] (fun i wr => i = .int .i64 0 ∧ J [] wr ∧ wr.cell? ⟨Bs, o, none⟩ = some (.slice a 0 cap)) (fun _ _ => 0)
  case atStart => exact ⟨rfl, h0, hBs⟩
  case round =>
    obtain ⟨rfl, hJs, hB'⟩ := hrel
    gi_wp2
    go_end0
    exact ⟨⟨_, rfl⟩, hJs⟩
end
set_option maxRecDepth 100000

def chunkE (bs : List UInt8) (m : Nat) : List (List DV) := (List.range m).map fun k => [DV.lst (((bs.drop (4 * k)).take 4).map eU)]
theorem chunkE_len (bs : List UInt8) (m : Nat) : (chunkE bs m).length = m := by simp [chunkE]
theorem chunkE_get (bs : List UInt8) (m : Nat) (k : Fin (chunkE bs m).length) : (chunkE bs m)[k] = [DV.lst (((bs.drop (4 * k.val)).take 4).map eU)] := by
  rw [Fin.getElem_fin]
  unfold chunkE
  rw [List.getElem_map, List.getElem_range]
theorem chunk_it (bs : List UInt8) (m : Nat) (hb : bs.length = 4 * m) (hm1000 : m ≤ 1000) : It Tryz.prog 147 [.cptr [.lst (bs.map eU)], .cptr [.int .i64 4]] (chunkE bs m) := by
  refine ⟨enters_of' Tryz.func147 rfl rfl, fun A w vs _ hl hv => ?_⟩
  match vs, hl with
  | [v0, v1], _ =>
  have h0 := hv 0 _ rfl
  have h1 := hv 1 _ rfl
  simp only [List.getD_cons_zero, List.getD_cons_succ] at h0 h1
  cases h0 with
  | cptr cs b o us hm h =>
  cases h1 with
  | cptr cs' Bn on us' hm' h' =>
    have hsv := h 0 _ rfl
    have hnv := rd_int (h' 0 _ rfl)
    obtain ⟨hc0, hA0⟩ := hm 0 (by simp)
    obtain ⟨hc1, hA1⟩ := hm' 0 (by simp)
    simp only [Nat.add_zero] at hc0 hA0 hc1 hA1
    rw [hnv] at hc1
    have hN : (chunkE bs m).length = m := chunkE_len bs m
    generalize hsv0 : us 0 = sv at hsv hc0
    generalize hd : bs.map eU = es0 at hsv
    cases hsv with
    | emp a cap =>
      have hx : bs = [] := by simpa using hd
      subst hx
      obtain rfl : m = 0 := by simp only [List.length_nil] at hb; omega
      refine ⟨fun k => #[], fun k => absurd k.isLt (by simp [chunkE]), ?_⟩
      intro l J Jx W hW hJ hJx hY hJ0
      have hst : ∀ b o v, A b o → w.cell? ⟨b, o, none⟩ = some v → W.cell? ⟨b, o, none⟩ = some v := fun b o v _ hc => by
        rw [hW.cell (p := ⟨b, o, none⟩) (World.block_lt_of_cell? _ _ hc)]; exact hc
      refine callsIn_FF_n (m := 1) ((chunk_nil (FF none) 1 trivial rfl l b o Bn on a cap J W (hst _ _ _ hA0 hc0) (hst _ _ _ hA1 hc1) hJ0).mono fun e W' ⟨he, hj⟩ => ⟨he, .inl ⟨_, rfl, hj⟩⟩)
    | lst es b2 o2 sz cap vs2 hs hz hc hm2 h2 =>
      subst hd
      have hel : (bs.map eU).length = 4 * m := by simp [hb]
      rw [hel] at hc hm2 hc0
      by_cases hx : m = 0
      · subst hx
        obtain rfl : bs = [] := List.length_eq_zero_iff.1 (by omega)
        refine ⟨fun k => #[], fun k => absurd k.isLt (by simp [chunkE]), ?_⟩
        intro l J Jx W hW hJ hJx hY hJ0
        have hst : ∀ b o v, A b o → w.cell? ⟨b, o, none⟩ = some v → W.cell? ⟨b, o, none⟩ = some v := fun b o v _ hc => by
          rw [hW.cell (p := ⟨b, o, none⟩) (World.block_lt_of_cell? _ _ hc)]; exact hc
        refine callsIn_FF_n (m := 1) ((chunk_nil (FF none) 1 trivial rfl l b o Bn on _ cap J W (hst _ _ _ hA0 hc0) (hst _ _ _ hA1 hc1) hJ0).mono fun e W' ⟨he, hj⟩ => ⟨he, .inl ⟨_, rfl, hj⟩⟩)
      · have hsz : sz = 1 := by
          have := hs (eU (bs.getD 0 0)) (List.mem_map.2 ⟨bs.getD 0 0, by
            have h0 : 0 < bs.length := by omega
            have : bs.getD 0 0 = bs[0] := by simp [List.getD, h0]
            rw [this]; exact List.getElem_mem h0, rfl⟩)
          simpa [eU] using this.symm
        subst hsz
        refine ⟨fun k => #[.slice (some ⟨b2, o2 + 4 * k.val, none⟩) 4 4], fun k => ?_, ?_⟩
        · have hk : k.val < m := by have := k.isLt; omega
          rw [chunkE_get]
          refine ⟨rfl, fun j d hj => ?_⟩
          rcases j with _ | j
          · simp at hj; subst hj
            have hl4 : (((bs.drop (4 * k.val)).take 4).map eU).length = 4 := by simp; omega
            have := RD.lst (A := A) (w := w) (((bs.drop (4 * k.val)).take 4).map eU) b2 (o2 + 4 * k.val) 1 4 (fun j => vs2 (4 * k.val + j)) (fun e he => by
              obtain ⟨x, _, rfl⟩ := List.mem_map.1 he; rfl) (by omega) (by omega) (fun j hj => by
                rw [hl4] at hj
                obtain ⟨g1, g2⟩ := hm2 (4 * k.val + j) (by omega)
                rw [Nat.add_assoc]; exact ⟨g1, g2⟩) (fun i e j d hi hjd => by
                  have hi4 : i < 4 := by
                    have := (List.getElem?_eq_some_iff.1 hi).1; omega
                  have := h2 (4 * k.val + i) e j d (by
                    rw [← hi]
                    simp [List.getElem?_take, List.getElem?_drop, hi4]) hjd
                  rw [show (4 * k.val + i) * 1 + j = 4 * k.val + (i * 1 + j) by omega] at this
                  exact this)
            rw [hl4] at this
            simpa using this
          · simp at hj
        · rw [hN]
          intro l J Jx W hW hJ hJx hY hJ0
          have hst : ∀ b o v, A b o → w.cell? ⟨b, o, none⟩ = some v → W.cell? ⟨b, o, none⟩ = some v := fun b o v _ hc => by
            rw [hW.cell (p := ⟨b, o, none⟩) (World.block_lt_of_cell? _ _ hc)]; exact hc
          refine callsIn_FF_n (m := 1) ((chunk_walk (FF none) 1 trivial rfl (Nat.le_refl _) l b o Bn on b2 o2 m cap hm1000 hc A w hA0 hA1 hc0 hc1 J Jx (fun pre W1 hj => hJ pre W1 W1.drew none hj ⟨rfl, rfl, rfl, Nat.le_refl _, fun _ _ _ => rfl⟩ (fun r e => by cases e)) (fun pre x W1 hj hl => hY pre x W1 hj hl) W hst hJ0).mono fun e W' h => h)
end Go.Proofs.YthhjcfejgoddlaaGreatDoor
end

section
set_option linter.unusedSimpArgs false
set_option linter.unusedVariables false
set_option maxRecDepth 100000
namespace Go.Proofs.YthhjcfejgoddlaaGreatDoor
open Go Go.Abs
attribute [local go_sem] wrap64 Int.tdiv_eq_ediv_of_nonneg Int.tmod_eq_emod_of_nonneg eq_self Bool.false_eq_true Bool.true_eq_false Bool.not_true Bool.not_false
attribute [local go_sem_proc] Nat.reduceAdd Nat.reduceMul Nat.reduceEqDiff Nat.reduceLT Nat.reduceLeDiff Int.reduceEq Int.reduceNeg Int.reduceToNat reduceCtorEq Int.reduceBNe Int.reduceBEq

theorem chunk_pc (es : List (List DV)) : PC Tryz.prog 120 [.dat (.lst es), I 4] (.dat (.fn 147 [.cptr [.lst es], .cptr [.int .i64 4]])) := by
  refine PCr.pc (PCr.of tab_ok Tryz.func120 rfl rfl rfl fun c hc hm => ?_)
  rw [show Tryz.f120.ntmps = _ from Tryz.ntmps120] at hc
  simp only [Tryz.f120]
  repeat' first | (exact absurd hlt (by decide)) | (refine AWp.seq fun K hK => ?_) | ((first | refine AWp.region (by rw [hc]; rfl) ?_ | refine AWp.skip ?_ | refine AWp.exit ?_ | refine AWp.label ?_ | refine AWp.ret ?_ | refine appK_g ?_); simp -implicitDefEqProofs (maxSteps := 1000000) (disch := omega) only [go_sem, ↓reduceIte]) | ((first | refine hK _ ?_ | (clear hK; first | refine hK _ ?_ | (clear hK; first | refine hK _ ?_ | (clear hK; refine hK _ ?_)))); clear hK) | (refine AWp.cond ?_; simp -implicitDefEqProofs (maxSteps := 1000000) (disch := omega) only [go_sem, ↓reduceIte]; try (refine ⟨fun hlt => ?_, fun hlt => ?_⟩ <;> (try simp only [cla, clb, ne_eq, reduceCtorEq] at hlt) <;> (try exact hlt.elim))) | (refine AWp.block ?_) | ((first | refine gdO_split (fun hlt => ?_) (fun hlt => ?_) | refine tkO_split (fun hlt => ?_) (fun hlt => ?_) | refine opO_split (fun hlt => ?_) (fun hlt => ?_)) <;> have hgd := hlt <;> (try simp only [cla, clb, ne_eq, cld] at hlt) <;> (simp -implicitDefEqProofs (maxSteps := 1000000) (disch := omega) only [go_sem, ↓reduceIte, hgd]) <;> clear hgd) | (with_reducible refine And.intro ?_ ?_; · first | omega | assumption | exact ⟨_, _, rfl, rfl⟩) | fail
def F121n : Unit → St := fun _ => ⟨[(3, I (-1)), (2, I 0), (4, .dat (.lst [])), (0, .dat (.lst []))], [], 0, 0⟩
theorem rev_nil : PC Tryz.prog 121 [.dat (.lst [])] (.tup []) := by
  refine PCr.pc (PCr.of tab_ok Tryz.func121 rfl rfl rfl fun c hc hm => ?_)
  rw [show Tryz.f121.ntmps = _ from Tryz.ntmps121] at hc
  simp only [Tryz.f121]
  repeat' first | (exact absurd hlt (by decide)) | (refine AWp.seq fun K hK => ?_) | ((first | refine AWp.draw (id := 3) [.take 0, .take 1, .take 2, .take 3, .take 4, .take 5, .take 6, .take 7, .take 8, .take 9, .take 10, .take 11, .take 12, .grp [13], .take 14, .grp [15]] mixed_ok (by kernel_rfl) (by rw [hc]; rfl) ?_ | refine AWp.region (by rw [hc]; rfl) ?_ | refine AWp.skip ?_ | refine AWp.exit ?_ | refine AWp.label ?_ | refine AWp.ret ?_ | refine appK_g ?_); simp -implicitDefEqProofs (maxSteps := 1000000) (disch := omega) only [go_sem, ↓reduceIte]) | ((first | refine hK _ ?_ | (clear hK; first | refine hK _ ?_ | (clear hK; first | refine hK _ ?_ | (clear hK; refine hK _ ?_)))); clear hK) | (refine AWp.cond ?_; simp -implicitDefEqProofs (maxSteps := 1000000) (disch := omega) only [go_sem, ↓reduceIte]; try (refine ⟨fun hlt => ?_, fun hlt => ?_⟩ <;> (try simp only [cla, clb, ne_eq, reduceCtorEq] at hlt) <;> (try exact hlt.elim))) | (refine AWp.block ?_) | ((first | refine gdO_split (fun hlt => ?_) (fun hlt => ?_) | refine tkO_split (fun hlt => ?_) (fun hlt => ?_) | refine opO_split (fun hlt => ?_) (fun hlt => ?_)) <;> have hgd := hlt <;> (try simp only [cla, clb, ne_eq, cld] at hlt) <;> (simp -implicitDefEqProofs (maxSteps := 1000000) (disch := omega) only [go_sem, ↓reduceIte, hgd]) <;> clear hgd) | (with_reducible refine And.intro ?_ ?_; · first | omega | assumption | exact ⟨_, _, rfl, rfl⟩) | fail
  refine AWp.loopInv F121n (fun _ => 0) (fun _ => True) () trivial (Sub.of0 hm id rfl ?_ ?_ (fun _ _ _ _ h => h)) ?_
  all_goals (try dsimp only)
  all_goals (first | omega | (simp -implicitDefEqProofs (maxSteps := 1000000) (disch := omega) only [F121n, id, go_sem, Nat.blt_eq, Nat.reduceAdd, Nat.reduceSub, Nat.reduceEqDiff, Nat.reduceLT, ↓reduceIte, and_true, true_and, AV.dat.injEq, DV.int.injEq, DV.bool.injEq, DV.lst.injEq, eq_self_iff_true]; first | done | omega | (simp; done) | (simp; omega)) | (simp; done) | (simp; omega) | skip)
  rintro ⟨⟩ _ ih
  simp only [F121n]
  repeat' first | (exact absurd hlt (by decide)) | (refine AWp.seq fun K hK => ?_) | ((first | refine AWp.draw (id := 3) [.take 0, .take 1, .take 2, .take 3, .take 4, .take 5, .take 6, .take 7, .take 8, .take 9, .take 10, .take 11, .take 12, .grp [13], .take 14, .grp [15]] mixed_ok (by kernel_rfl) (by rw [hc]; rfl) ?_ | refine AWp.region (by rw [hc]; rfl) ?_ | refine AWp.skip ?_ | refine AWp.exit ?_ | refine AWp.label ?_ | refine AWp.ret ?_ | refine appK_g ?_); simp -implicitDefEqProofs (maxSteps := 1000000) (disch := omega) only [go_sem, ↓reduceIte]) | ((first | refine hK _ ?_ | (clear hK; first | refine hK _ ?_ | (clear hK; first | refine hK _ ?_ | (clear hK; refine hK _ ?_)))); clear hK) | (refine AWp.cond ?_; simp -implicitDefEqProofs (maxSteps := 1000000) (disch := omega) only [go_sem, ↓reduceIte]; try (refine ⟨fun hlt => ?_, fun hlt => ?_⟩ <;> (try simp only [cla, clb, ne_eq, reduceCtorEq] at hlt) <;> (try exact hlt.elim))) | (refine AWp.block ?_) | ((first | refine gdO_split (fun hlt => ?_) (fun hlt => ?_) | refine tkO_split (fun hlt => ?_) (fun hlt => ?_) | refine opO_split (fun hlt => ?_) (fun hlt => ?_)) <;> have hgd := hlt <;> (try simp only [cla, clb, ne_eq, cld] at hlt) <;> (simp -implicitDefEqProofs (maxSteps := 1000000) (disch := omega) only [go_sem, ↓reduceIte, hgd]) <;> clear hgd) | (with_reducible refine And.intro ?_ ?_; · first | omega | assumption | exact ⟨_, _, rfl, rfl⟩) | fail
/-- Or of a multiple of 2^k and what is smaller: the sum. -/
theorem or_add (k : Nat) (a b : Int) (ha : 0 ≤ a) (hb : 0 ≤ b) (hd : a % 2 ^ k = 0) (hlt : b < 2 ^ k) (hs : a + b < 4294967296) : IntKind.i64.wrap (BitVec.ofInt 64 a ||| BitVec.ofInt 64 b).toNat = a + b := by
  obtain ⟨x, rfl⟩ := Int.eq_ofNat_of_zero_le ha
  obtain ⟨y, rfl⟩ := Int.eq_ofNat_of_zero_le hb
  have e1 : (BitVec.ofInt 64 (x : Int)).toNat = x := by
    rw [BitVec.toNat_ofInt]; omega
  have e2 : (BitVec.ofInt 64 (y : Int)).toNat = y := by
    rw [BitVec.toNat_ofInt]; omega
  have hy : y < 2 ^ k := by exact_mod_cast hlt
  have hx : x % 2 ^ k = 0 := by exact_mod_cast hd
  have h := Nat.two_pow_add_eq_or_of_lt hy (x / 2 ^ k)
  rw [Nat.mul_div_cancel' (Nat.dvd_of_mod_eq_zero hx)] at h
  rw [BitVec.toNat_or, e1, e2, ← h]
  simp -implicitDefEqProofs (disch := omega) only [wrap64]
  omega
def orW (a b : Int) : Int := IntKind.i64.wrap (BitVec.ofInt 64 a ||| BitVec.ofInt 64 b).toNat
theorem bin_orW {T : Tab} {a b : Int} {u : TypeId} {C : AV → Prop} : binK T .or u (.dat (.int .i64 a)) (.dat (.int .i64 b)) C = C (.dat (.int .i64 (orW a b))) := by
  rw [bin_or]; exact propext ⟨fun h => h.2, fun h => ⟨rfl, h⟩⟩
theorem or4 (x0 x1 x2 x3 : Int) (h0 : 0 ≤ x0 ∧ x0 < 256) (h1 : 0 ≤ x1 ∧ x1 < 256) (h2 : 0 ≤ x2 ∧ x2 < 256) (h3 : 0 ≤ x3 ∧ x3 < 256) :
    orW (x0 * 16777216) (x1 * 65536) = x0 * 16777216 + x1 * 65536 ∧
    orW (x0 * 16777216 + x1 * 65536) (x2 * 256) = x0 * 16777216 + x1 * 65536 + x2 * 256 ∧
    orW (x0 * 16777216 + x1 * 65536 + x2 * 256) x3 = ((x0 * 256 + x1) * 256 + x2) * 256 + x3 := by
  refine ⟨or_add 24 _ _ (by omega) (by omega) (by omega) (by omega) (by omega), or_add 16 _ _ (by omega) (by omega) (by omega) (by omega) (by omega), ?_⟩
  unfold orW
  rw [or_add 8 _ _ (by omega) (by omega) (by omega) (by omega) (by omega)]
  omega
end Go.Proofs.YthhjcfejgoddlaaGreatDoor
end

section
set_option linter.unusedSimpArgs false
set_option linter.unusedVariables false
set_option maxRecDepth 100000
namespace Go.Proofs.YthhjcfejgoddlaaGreatDoor
open Go Go.Abs
attribute [local go_sem] wrap64 Int.tdiv_eq_ediv_of_nonneg Int.tmod_eq_emod_of_nonneg eq_self Bool.false_eq_true Bool.true_eq_false Bool.not_true Bool.not_false
attribute [local go_sem_proc] Nat.reduceAdd Nat.reduceMul Nat.reduceEqDiff Nat.reduceLT Nat.reduceLeDiff Int.reduceEq Int.reduceNeg Int.reduceToNat reduceCtorEq Int.reduceBNe Int.reduceBEq

/-! FromBytes. -/
attribute [local go_sem high] bin_orW
def fwd (l : List UInt8) (k : Nat) : Int := w4 l (1 + 4 * k)
theorem wds_rev (l : List UInt8) (m : Nat) (h : l.length = 1 + 4 * m) : (((List.range m).map (fwd l)).reverse) = wds l m := by
  refine list_ext_getD (by simp [wds]) fun j hj => ?_
  have hj' : j < m := by simpa using hj
  have e1 : (((List.range m).map (fwd l)).reverse).getD j 0 = fwd l (m - 1 - j) := by
    simp [List.getD, List.getElem?_reverse, hj']
    try (rw [List.getElem?_range (by omega)]; rfl)
  have e2 : (wds l m).getD j 0 = w4 l (l.length - 4 - 4 * j) := by
    simp [wds, List.getD, hj']
  rw [e1, e2]
  unfold fwd
  congr 1; omega
theorem take4 (l : List UInt8) (k m : Nat) (h : l.length = 1 + 4 * m) (hk : k < m) : ∃ y0 y1 y2 y3 : UInt8, ((l.drop 1).drop (4 * k)).take 4 = [y0, y1, y2, y3] ∧ fwd l k = (((y0.toNat : Int) * 256 + y1.toNat) * 256 + y2.toNat) * 256 + y3.toNat := by
  refine ⟨l.getD (1 + 4 * k) 0, l.getD (1 + 4 * k + 1) 0, l.getD (1 + 4 * k + 2) 0, l.getD (1 + 4 * k + 3) 0, ?_, rfl⟩
  rw [List.drop_drop]
  have g : ∀ i, i < l.length → l.drop i = l.getD i 0 :: l.drop (i + 1) := fun i hi => by
    rw [List.drop_eq_getElem_cons hi]; simp [List.getD, hi]
  rw [g (1 + 4 * k) (by omega), g (1 + 4 * k + 1) (by omega), g (1 + 4 * k + 1 + 1) (by omega), g (1 + 4 * k + 1 + 1 + 1) (by omega)]
  rfl
def fbS (neg : Bool) (l : List UInt8) {n : Nat} (pre : List (Fin n)) (s : Sto) (n : Nat) : Prop :=
  (pre = [] ∧ s = [(1, .box [B neg, .nil] false), (0, .box [B false, .nil] false)] ∧ 2 ≤ n) ∨ (pre ≠ [] ∧ ∃ k, 2 ≤ k ∧ k < n ∧ s = [(1, .box [B neg, .own k] false), (k, .row 3 1 ((pre.map fun j => fwd l j.val).map eI) false), (0, .box [B false, .nil] false)])
set_option maxHeartbeats 8000000 in
theorem FromBytes_pc (l : List UInt8) (hl : l.length ≤ 1000000) : PC Tryz.prog 72 [bL l] (fbV l) := by
  have h0 := bX_rng l 0
  by_cases hb : fbBad l
  · unfold fbV
    rw [if_pos hb]
    by_cases hn : l = []
    · subst hn
      unfold bL
      simp only [List.map_nil]
      refine PCr.pc (PCr.of tab_ok Tryz.func72 rfl rfl rfl fun c hc hm => ?_)
      rw [show Tryz.f72.ntmps = _ from Tryz.ntmps72] at hc
      simp only [Tryz.f72]
      repeat' first | (exact absurd hlt (by decide)) | (refine AWp.seq fun K hK => ?_) | ((first | refine AWp.draw (id := 6) [.take 0, .take 1, .take 2, .take 3, .take 4, .take 5, .take 6, .take 7, .take 8, .take 9, .take 10, .take 11, .take 12, .take 13, .take 14, .take 15, .take 16, .take 17, .take 18, .take 19, .take 20, .take 21, .take 22, .take 23, .take 24, .grp [25], .take 26, .grp [27]] mixed_ok (by kernel_rfl) (by rw [hc]; rfl) ?_ | refine AWp.region (by rw [hc]; rfl) ?_ | refine AWp.skip ?_ | refine AWp.exit ?_ | refine AWp.label ?_ | refine AWp.ret ?_ | refine appK_g ?_); simp -implicitDefEqProofs (maxSteps := 1000000) (disch := omega) only [go_sem, ↓reduceIte]) | ((first | refine hK _ ?_ | (clear hK; first | refine hK _ ?_ | (clear hK; first | refine hK _ ?_ | (clear hK; refine hK _ ?_)))); clear hK) | (refine AWp.cond ?_; simp -implicitDefEqProofs (maxSteps := 1000000) (disch := omega) only [go_sem, ↓reduceIte]; try (refine ⟨fun hlt => ?_, fun hlt => ?_⟩ <;> (try simp only [cla, clb, ne_eq, reduceCtorEq] at hlt) <;> (try exact hlt.elim))) | (refine AWp.block ?_) | ((first | refine gdO_split (fun hlt => ?_) (fun hlt => ?_) | refine tkO_split (fun hlt => ?_) (fun hlt => ?_) | refine opO_split (fun hlt => ?_) (fun hlt => ?_)) <;> have hgd := hlt <;> (try simp only [cla, clb, ne_eq, cld] at hlt) <;> (simp -implicitDefEqProofs (maxSteps := 1000000) (disch := omega) only [go_sem, ↓reduceIte, hgd]) <;> clear hgd) | (with_reducible refine And.intro ?_ ?_; · first | omega | assumption | exact ⟨_, _, rfl, rfl⟩) | fail
    · have hp : 0 < l.length := List.length_pos_iff.2 hn
      have e1 : ((l.length : Int) == 0) = false := by rw [beq_eq_false_iff_ne]; omega
      have e0 := eU_getD l 0 hp
      have e2 : ((l.length : Int) != 1 + 4 * (bX l 0 % 128)) = true := by
        rw [bne_iff_ne]; unfold fbBad nB at hb; unfold bX; omega
      unfold bL
      generalize bX l 0 = x0 at *
      refine PCr.pc (PCr.of tab_ok Tryz.func72 rfl rfl rfl fun c hc hm => ?_)
      rw [show Tryz.f72.ntmps = _ from Tryz.ntmps72] at hc
      simp only [Tryz.f72]
      repeat' first | (exact absurd hlt (by decide)) | (refine AWp.seq fun K hK => ?_) | ((first | refine AWp.draw (id := 6) [.take 0, .take 1, .take 2, .take 3, .take 4, .take 5, .take 6, .take 7, .take 8, .take 9, .take 10, .take 11, .take 12, .take 13, .take 14, .take 15, .take 16, .take 17, .take 18, .take 19, .take 20, .take 21, .take 22, .take 23, .take 24, .grp [25], .take 26, .grp [27]] mixed_ok (by kernel_rfl) (by rw [hc]; rfl) ?_ | refine AWp.region (by rw [hc]; rfl) ?_ | refine AWp.skip ?_ | refine AWp.exit ?_ | refine AWp.label ?_ | refine AWp.ret ?_ | refine appK_g ?_); simp -implicitDefEqProofs (maxSteps := 1000000) (disch := omega) only [go_sem, ↓reduceIte, e1, e0, e2, List.length_map]) | ((first | refine hK _ ?_ | (clear hK; first | refine hK _ ?_ | (clear hK; first | refine hK _ ?_ | (clear hK; refine hK _ ?_)))); clear hK) | (refine AWp.cond ?_; simp -implicitDefEqProofs (maxSteps := 1000000) (disch := omega) only [go_sem, ↓reduceIte, e1, e0, e2, List.length_map]; try (refine ⟨fun hlt => ?_, fun hlt => ?_⟩ <;> (try simp only [cla, clb, ne_eq, reduceCtorEq] at hlt) <;> (try exact hlt.elim))) | (refine AWp.block ?_) | ((first | refine gdO_split (fun hlt => ?_) (fun hlt => ?_) | refine tkO_split (fun hlt => ?_) (fun hlt => ?_) | refine opO_split (fun hlt => ?_) (fun hlt => ?_)) <;> have hgd := hlt <;> (try simp only [cla, clb, ne_eq, cld] at hlt) <;> (simp -implicitDefEqProofs (maxSteps := 1000000) (disch := omega) only [go_sem, ↓reduceIte, e1, e0, e2, List.length_map, hgd]) <;> clear hgd) | (with_reducible refine And.intro ?_ ?_; · first | omega | assumption | exact ⟨_, _, rfl, rfl⟩) | fail
  · unfold fbV
    rw [if_neg hb]
    have hb' : l.length = 1 + 4 * nB l := Classical.not_not.1 hb
    have hp : 0 < l.length := by omega
    have hnB : nB l < 128 := Nat.mod_lt _ (by decide)
    have e1 : ((l.length : Int) == 0) = false := by rw [beq_eq_false_iff_ne]; omega
    have e0 := eU_getD l 0 hp
    have e2 : ((l.length : Int) != 1 + 4 * (bX l 0 % 128)) = false := by
      rw [bne_eq_false_iff_eq]; unfold nB at hb'; unfold bX; omega
    have e3 : decide ((127 : Int) < bX l 0) = sB l := by unfold sB bX; rw [decide_eq_decide]; omega
    obtain ⟨m, hmm⟩ : ∃ m, m = nB l := ⟨_, rfl⟩
    rw [← hmm] at hb' hnB ⊢
    generalize sB l = neg at *
    have hC := Check_pc neg (wds l m) (by simp [wds]; omega)
    have hlm := chunkE_len (l.drop 1) m
    have hch := chunk_pc ((l.drop 1).map eU)
    have hdr : List.drop 1 (List.take l.length (List.map eU l)) = (l.drop 1).map eU := by rw [List.take_of_length_le (by simp), List.map_drop]
    refine PCr.pc (PCr.of tab_ok Tryz.func72 rfl rfl rfl fun c hc hm => ?_)
    rw [show Tryz.f72.ntmps = _ from Tryz.ntmps72] at hc
    simp only [Tryz.f72]
    repeat' first | (exact absurd hlt (by decide)) | (refine AWp.seq fun K hK => ?_) | ((first | refine AWp.draw (id := 6) [.take 0, .take 1, .take 2, .take 3, .take 4, .take 5, .take 6, .take 7, .take 8, .take 9, .take 10, .take 11, .take 12, .take 13, .take 14, .take 15, .take 16, .take 17, .take 18, .take 19, .take 20, .take 21, .take 22, .take 23, .take 24, .grp [25], .take 26, .grp [27]] mixed_ok (by kernel_rfl) (by rw [hc]; rfl) ?_ | refine AWp.region (by rw [hc]; rfl) ?_ | refine AWp.skip ?_ | refine AWp.exit ?_ | refine AWp.label ?_ | refine AWp.ret ?_ | refine appK_g ?_); simp -implicitDefEqProofs (maxSteps := 1000000) (disch := omega) only [go_sem, ↓reduceIte, bL, e1, e0, e2, e3, List.length_map]) | ((first | refine hK _ ?_ | (clear hK; first | refine hK _ ?_ | (clear hK; first | refine hK _ ?_ | (clear hK; refine hK _ ?_)))); clear hK) | (refine AWp.cond ?_; simp -implicitDefEqProofs (maxSteps := 1000000) (disch := omega) only [go_sem, ↓reduceIte, bL, e1, e0, e2, e3, List.length_map]; try (refine ⟨fun hlt => ?_, fun hlt => ?_⟩ <;> (try simp only [cla, clb, ne_eq, reduceCtorEq] at hlt) <;> (try exact hlt.elim))) | (refine AWp.block ?_) | ((first | refine gdO_split (fun hlt => ?_) (fun hlt => ?_) | refine tkO_split (fun hlt => ?_) (fun hlt => ?_) | refine opO_split (fun hlt => ?_) (fun hlt => ?_)) <;> have hgd := hlt <;> (try simp only [cla, clb, ne_eq, cld] at hlt) <;> (simp -implicitDefEqProofs (maxSteps := 1000000) (disch := omega) only [go_sem, ↓reduceIte, bL, e1, e0, e2, e3, List.length_map, hgd]) <;> clear hgd) | (with_reducible refine And.intro ?_ ?_; · first | omega | assumption | exact ⟨_, _, rfl, rfl⟩) | fail
    refine ⟨fun e he j hj => ?_, ?_⟩
    · obtain ⟨x, _, rfl⟩ := List.mem_map.1 he
      cases hj; rfl
    rw [hdr]
    refine ⟨_, hch, ?_⟩
    try simp -implicitDefEqProofs (maxSteps := 1000000) (disch := omega) only [go_sem, ↓reduceIte]
    clear hdr hch e0 e1 e2 e3
    repeat' first | (exact absurd hlt (by decide)) | (refine AWp.seq fun K hK => ?_) | ((first | refine AWp.draw (id := 6) [.take 0, .take 1, .take 2, .take 3, .take 4, .take 5, .take 6, .take 7, .take 8, .take 9, .take 10, .take 11, .take 12, .take 13, .take 14, .take 15, .take 16, .take 17, .take 18, .take 19, .take 20, .take 21, .take 22, .take 23, .take 24, .grp [25], .take 26, .grp [27]] mixed_ok (by kernel_rfl) (by rw [hc]; rfl) ?_ | refine AWp.region (by rw [hc]; rfl) ?_ | refine AWp.skip ?_ | refine AWp.exit ?_ | refine AWp.label ?_ | refine AWp.ret ?_ | refine appK_g ?_); simp -implicitDefEqProofs (maxSteps := 1000000) (disch := omega) only [go_sem, ↓reduceIte]) | ((first | refine hK _ ?_ | (clear hK; first | refine hK _ ?_ | (clear hK; first | refine hK _ ?_ | (clear hK; refine hK _ ?_)))); clear hK) | (refine AWp.cond ?_; simp -implicitDefEqProofs (maxSteps := 1000000) (disch := omega) only [go_sem, ↓reduceIte]; try (refine ⟨fun hlt => ?_, fun hlt => ?_⟩ <;> (try simp only [cla, clb, ne_eq, reduceCtorEq] at hlt) <;> (try exact hlt.elim))) | (refine AWp.block ?_) | ((first | refine gdO_split (fun hlt => ?_) (fun hlt => ?_) | refine tkO_split (fun hlt => ?_) (fun hlt => ?_) | refine opO_split (fun hlt => ?_) (fun hlt => ?_)) <;> have hgd := hlt <;> (try simp only [cla, clb, ne_eq, cld] at hlt) <;> (simp -implicitDefEqProofs (maxSteps := 1000000) (disch := omega) only [go_sem, ↓reduceIte, hgd]) <;> clear hgd) | (with_reducible refine And.intro ?_ ?_; · first | omega | assumption | exact ⟨_, _, rfl, rfl⟩) | fail
    refine AWp.rangeF 147 [.cptr [.lst ((l.drop 1).map eU)], .cptr [.int .i64 4]] (chunkE (l.drop 1) m) [(5, 30)] (by simp [go_sem]) (chunk_it (l.drop 1) m (by rw [List.length_drop]; omega) (by omega)) (fun el hel => ?_) (by rw [hc]; rfl) (.one _ _ _ _ _ _) (by rw [hc]; rfl) hm.2
      (fun pre s n => fbS neg l pre s n) (fun code pre s n => False) (.inl ⟨rfl, rfl, Nat.le_refl _⟩) ?_ ?_ ?_
    · obtain ⟨k, _, rfl⟩ := List.mem_map.1 hel; rfl
    · intro c' l' pre k s n hc' hm' hlen hn hI
      have hc := hc'.trans hc
      have hk : k.val < m := by have := k.isLt; omega
      obtain ⟨y0, y1, y2, y3, hq, hf⟩ := take4 l k.val m hb' hk
      rw [chunkE_get, hq]
      simp only [List.map_cons, List.map_nil, eU]
      have r0 := y0.toNat_lt
      have r1 := y1.toNat_lt
      have r2 := y2.toNat_lt
      have r3 := y3.toNat_lt
      obtain ⟨x0, hx0⟩ : ∃ x : Int, (y0.toNat : Int) = x := ⟨_, rfl⟩
      obtain ⟨x1, hx1⟩ : ∃ x : Int, (y1.toNat : Int) = x := ⟨_, rfl⟩
      obtain ⟨x2, hx2⟩ : ∃ x : Int, (y2.toNat : Int) = x := ⟨_, rfl⟩
      obtain ⟨x3, hx3⟩ : ∃ x : Int, (y3.toNat : Int) = x := ⟨_, rfl⟩
      rw [hx0, hx1, hx2, hx3] at hf
      simp only [hx0, hx1, hx2, hx3]
      have hx0' : 0 ≤ x0 ∧ x0 < 256 := by omega
      have hx1' : 0 ≤ x1 ∧ x1 < 256 := by omega
      have hx2' : 0 ≤ x2 ∧ x2 < 256 := by omega
      have hx3' : 0 ≤ x3 ∧ x3 < 256 := by omega
      obtain ⟨o1, o2, o3⟩ := or4 x0 x1 x2 x3 hx0' hx1' hx2' hx3'
      have w0 : IntKind.i64.wrap (x0 * 2 ^ min 24 64) = x0 * 16777216 := wrap64 (by simp only [show (2 : Int) ^ min 24 64 = 16777216 from rfl]; omega)
      have w1 : IntKind.i64.wrap (x1 * 2 ^ min 16 64) = x1 * 65536 := wrap64 (by simp only [show (2 : Int) ^ min 16 64 = 65536 from rfl]; omega)
      have w2 : IntKind.i64.wrap (x2 * 2 ^ min 8 64) = x2 * 256 := wrap64 (by simp only [show (2 : Int) ^ min 8 64 = 256 from rfl]; omega)
      have q0 : [[DV.int IntKind.u8 x0], [DV.int IntKind.u8 x1], [DV.int IntKind.u8 x2], [DV.int IntKind.u8 x3]].getD 0 [] = [DV.int IntKind.u8 x0] := rfl
      have q1 : [[DV.int IntKind.u8 x0], [DV.int IntKind.u8 x1], [DV.int IntKind.u8 x2], [DV.int IntKind.u8 x3]].getD 1 [] = [DV.int IntKind.u8 x1] := rfl
      have q2 : [[DV.int IntKind.u8 x0], [DV.int IntKind.u8 x1], [DV.int IntKind.u8 x2], [DV.int IntKind.u8 x3]].getD 2 [] = [DV.int IntKind.u8 x2] := rfl
      have q3 : [[DV.int IntKind.u8 x0], [DV.int IntKind.u8 x1], [DV.int IntKind.u8 x2], [DV.int IntKind.u8 x3]].getD 3 [] = [DV.int IntKind.u8 x3] := rfl
      simp only at hm' hn
      refine AWp.postSub ?_
      rcases hI with ⟨rfl, rfl, h2⟩ | ⟨hne, j, hj2, hjn, rfl⟩
      · have g4 : ¬ n = 1 := by omega
        have g6 : ¬ n = 0 := by omega
        have g7 : ¬ 1 = n := by omega
        have g8 : ¬ 0 = n := by omega
        simp -implicitDefEqProofs (maxSteps := 1000000) (disch := omega) only [go_sem, ↓reduceIte]
        repeat' first | (exact absurd hlt (by decide)) | (refine AWp.seq fun K hK => ?_) | (first | refine AWp.draw2 (id := 6) [.take 0, .take 1, .take 2, .take 3, .take 4, .take 5, .take 6, .take 7, .take 8, .take 9, .take 10, .take 11, .take 12, .take 13, .take 14, .take 15, .take 16, .take 17, .take 18, .take 19, .take 20, .take 21, .take 22, .take 23, .take 24, .grp [25], .take 26, .grp [27]] mixed_ok (by kernel_rfl) (by rw [hc]; rfl) ?_) | ((first | refine planK_step fun K hK => ?_ | refine planK_one fun K hK => ?_); simp -implicitDefEqProofs (maxSteps := 1000000) (disch := omega) only [go_sem, ↓reduceIte, o1, o2, o3, w0, w1, w2, q0, q1, q2, q3, g4, g6, g7, g8]) | (refine planK_end ?_; try (simp -implicitDefEqProofs (maxSteps := 1000000) (disch := omega) only [go_sem, ↓reduceIte, o1, o2, o3, w0, w1, w2, q0, q1, q2, q3, g4, g6, g7, g8])) | ((first | refine AWp.region (by rw [hc]; rfl) ?_ | refine AWp.skip ?_ | refine AWp.exit ?_ | refine AWp.label ?_ | refine AWp.ret ?_ | refine appK_g ?_); simp -implicitDefEqProofs (maxSteps := 1000000) (disch := omega) only [go_sem, ↓reduceIte, o1, o2, o3, w0, w1, w2, q0, q1, q2, q3, g4, g6, g7, g8]) | ((first | refine hK _ ?_ | (clear hK; first | refine hK _ ?_ | (clear hK; first | refine hK _ ?_ | (clear hK; refine hK _ ?_)))); clear hK) | (refine AWp.cond ?_; simp -implicitDefEqProofs (maxSteps := 1000000) (disch := omega) only [go_sem, ↓reduceIte, o1, o2, o3, w0, w1, w2, q0, q1, q2, q3, g4, g6, g7, g8]; try (refine ⟨fun hlt => ?_, fun hlt => ?_⟩ <;> (try simp only [cla, clb, ne_eq, reduceCtorEq] at hlt) <;> (try exact hlt.elim))) | (refine AWp.block ?_) | ((first | refine gdO_split (fun hlt => ?_) (fun hlt => ?_) | refine tkO_split (fun hlt => ?_) (fun hlt => ?_) | refine opO_split (fun hlt => ?_) (fun hlt => ?_)) <;> have hgd := hlt <;> (try simp only [cla, clb, ne_eq, cld] at hlt) <;> (simp -implicitDefEqProofs (maxSteps := 1000000) (disch := omega) only [go_sem, ↓reduceIte, o1, o2, o3, w0, w1, w2, q0, q1, q2, q3, g4, g6, g7, g8, hgd]) <;> clear hgd) | (with_reducible refine And.intro ?_ ?_; · first | omega | assumption | exact ⟨_, _, rfl, rfl⟩) | fail
        refine ⟨⟨[], [(1, .box [B neg, .own n] false), (n, .row 3 1 (([k].map fun j => fwd l j.val).map eI) false), (0, .box [B false, .nil] false)], n + 1, 0⟩, Sub.of (fun i => i) ⟨by rw [hm']; simp only; omega, fun _ _ => rfl⟩ rfl trivial ?_ (fun _ _ _ _ h => h), .inr ⟨by simp, n, by omega, by simp only; omega, rfl⟩⟩
        have hrow : (([k].map fun j => fwd l j.val).map eI) = [[.int .i64 (((x0 * 256 + x1) * 256 + x2) * 256 + x3)]] := by simp [eI, hf]
        rw [hrow]
        simp only [Abs.subS, Abs.get_cons, g4, g6, g7, g8, ↓reduceIte, Abs.renO, Abs.okO, List.map_cons, List.map_nil, Abs.ren, Abs.okR, Nat.reduceEqDiff]
        refine ⟨by simp only [List.all_cons, List.all_nil, Bool.and_true]; show (true && Nat.blt n (n + 1)) = true; rw [Bool.true_and, Nat.blt_eq]; omega, by rw [Nat.blt_eq]; omega, rfl, trivial, by rw [Nat.blt_eq]; omega, trivial, rfl, by rw [Nat.blt_eq]; omega, rfl, trivial⟩
      · have g1 : ¬ n = j := by omega
        have g2 : ¬ 1 = j := by omega
        have g3 : ¬ 0 = j := by omega
        have g4 : ¬ n = 1 := by omega
        have g6 : ¬ n = 0 := by omega
        have g7 : ¬ 1 = n := by omega
        have g8 : ¬ 0 = n := by omega
        have g9 : ¬ n + 1 = j := by omega
        have g10 : ¬ j = 1 := by omega
        have g11 : ¬ j = 0 := by omega
        have hpl : (pre.map fun j => fwd l j.val).length ≤ 1000 := by rw [List.length_map]; omega
        obtain ⟨ws, hws⟩ : ∃ ws, (pre.map fun j => fwd l j.val) = ws := ⟨_, rfl⟩
        rw [hws] at hpl ⊢
        simp -implicitDefEqProofs (maxSteps := 1000000) (disch := omega) only [go_sem, ↓reduceIte]
        repeat' first | (exact absurd hlt (by decide)) | (refine AWp.seq fun K hK => ?_) | (first | refine AWp.draw2 (id := 6) [.take 0, .take 1, .take 2, .take 3, .take 4, .take 5, .take 6, .take 7, .take 8, .take 9, .take 10, .take 11, .take 12, .take 13, .take 14, .take 15, .take 16, .take 17, .take 18, .take 19, .take 20, .take 21, .take 22, .take 23, .take 24, .grp [25], .take 26, .grp [27]] mixed_ok (by kernel_rfl) (by rw [hc]; rfl) ?_) | ((first | refine planK_step fun K hK => ?_ | refine planK_one fun K hK => ?_); simp -implicitDefEqProofs (maxSteps := 1000000) (disch := omega) only [go_sem, ↓reduceIte, o1, o2, o3, w0, w1, w2, q0, q1, q2, q3, g1, g2, g3, g4, g6, g7, g8, g9, g10, g11]) | (refine planK_end ?_; try (simp -implicitDefEqProofs (maxSteps := 1000000) (disch := omega) only [go_sem, ↓reduceIte, o1, o2, o3, w0, w1, w2, q0, q1, q2, q3, g1, g2, g3, g4, g6, g7, g8, g9, g10, g11])) | ((first | refine AWp.region (by rw [hc]; rfl) ?_ | refine AWp.skip ?_ | refine AWp.exit ?_ | refine AWp.label ?_ | refine AWp.ret ?_ | refine appK_g ?_); simp -implicitDefEqProofs (maxSteps := 1000000) (disch := omega) only [go_sem, ↓reduceIte, o1, o2, o3, w0, w1, w2, q0, q1, q2, q3, g1, g2, g3, g4, g6, g7, g8, g9, g10, g11]) | ((first | refine hK _ ?_ | (clear hK; first | refine hK _ ?_ | (clear hK; first | refine hK _ ?_ | (clear hK; refine hK _ ?_)))); clear hK) | (refine AWp.cond ?_; simp -implicitDefEqProofs (maxSteps := 1000000) (disch := omega) only [go_sem, ↓reduceIte, o1, o2, o3, w0, w1, w2, q0, q1, q2, q3, g1, g2, g3, g4, g6, g7, g8, g9, g10, g11]; try (refine ⟨fun hlt => ?_, fun hlt => ?_⟩ <;> (try simp only [cla, clb, ne_eq, reduceCtorEq] at hlt) <;> (try exact hlt.elim))) | (refine AWp.block ?_) | ((first | refine gdO_split (fun hlt => ?_) (fun hlt => ?_) | refine tkO_split (fun hlt => ?_) (fun hlt => ?_) | refine opO_split (fun hlt => ?_) (fun hlt => ?_)) <;> have hgd := hlt <;> (try simp only [cla, clb, ne_eq, cld] at hlt) <;> (simp -implicitDefEqProofs (maxSteps := 1000000) (disch := omega) only [go_sem, ↓reduceIte, o1, o2, o3, w0, w1, w2, q0, q1, q2, q3, g1, g2, g3, g4, g6, g7, g8, g9, g10, g11, hgd]) <;> clear hgd) | (with_reducible refine And.intro ?_ ?_; · first | omega | assumption | exact ⟨_, _, rfl, rfl⟩) | fail
        refine ⟨⟨[], [(1, .box [B neg, .own n] false), (n, .row 3 1 (((pre ++ [k]).map fun j => fwd l j.val).map eI) false), (0, .box [B false, .nil] false)], n + 1, 0⟩, Sub.of (fun i => i) ⟨by rw [hm']; simp only; omega, fun _ _ => rfl⟩ rfl trivial ?_ (fun _ _ _ _ h => h), .inr ⟨by simp, n, by omega, by simp only; omega, rfl⟩⟩
        have hrow : (((pre ++ [k]).map fun j => fwd l j.val).map eI) = ws.map eI ++ [[.int .i64 (((x0 * 256 + x1) * 256 + x2) * 256 + x3)]] := by rw [List.map_append, hws, List.map_append]; simp [eI, hf]
        rw [hrow]
        simp only [Abs.subS, Abs.get_cons, g4, g6, g7, g8, ↓reduceIte, Abs.renO, Abs.okO, List.map_cons, List.map_nil, Abs.ren, Abs.okR, Nat.reduceEqDiff]
        refine ⟨by simp only [List.all_cons, List.all_nil, Bool.and_true]; show (true && Nat.blt n (n + 1)) = true; rw [Bool.true_and, Nat.blt_eq]; omega, by rw [Nat.blt_eq]; omega, rfl, trivial, by rw [Nat.blt_eq]; omega, trivial, rfl, by rw [Nat.blt_eq]; omega, rfl, trivial⟩
    · intro s n hI
      rcases hI with ⟨hnil, rfl, h2⟩ | ⟨hne, j, hj2, hjn, rfl⟩
      · obtain rfl : m = 0 := by
          have := congrArg List.length hnil
          rw [List.length_finRange, hlm] at this; exact this
        have hw0 : wds l 0 = [] := rfl
        rw [hw0] at hC ⊢
        by_cases hok : okI neg []
        · rw [if_pos hok] at hC ⊢
          simp -implicitDefEqProofs (maxSteps := 1000000) (disch := omega) only [go_sem, ↓reduceIte]
          repeat' first | (exact absurd hlt (by decide)) | (refine AWp.seq fun K hK => ?_) | ((first | refine AWp.draw (id := 6) [.take 0, .take 1, .take 2, .take 3, .take 4, .take 5, .take 6, .take 7, .take 8, .take 9, .take 10, .take 11, .take 12, .take 13, .take 14, .take 15, .take 16, .take 17, .take 18, .take 19, .take 20, .take 21, .take 22, .take 23, .take 24, .grp [25], .take 26, .grp [27]] mixed_ok (by kernel_rfl) (by rw [hc]; rfl) ?_ | refine AWp.region (by rw [hc]; rfl) ?_ | refine AWp.skip ?_ | refine AWp.exit ?_ | refine AWp.label ?_ | refine AWp.ret ?_ | refine appK_g ?_); simp -implicitDefEqProofs (maxSteps := 1000000) (disch := omega) only [go_sem, ↓reduceIte]) | ((first | refine hK _ ?_ | (clear hK; first | refine hK _ ?_ | (clear hK; first | refine hK _ ?_ | (clear hK; refine hK _ ?_)))); clear hK) | (refine AWp.cond ?_; simp -implicitDefEqProofs (maxSteps := 1000000) (disch := omega) only [go_sem, ↓reduceIte]; try (refine ⟨fun hlt => ?_, fun hlt => ?_⟩ <;> (try simp only [cla, clb, ne_eq, reduceCtorEq] at hlt) <;> (try exact hlt.elim))) | (refine AWp.block ?_) | ((first | refine gdO_split (fun hlt => ?_) (fun hlt => ?_) | refine tkO_split (fun hlt => ?_) (fun hlt => ?_) | refine opO_split (fun hlt => ?_) (fun hlt => ?_)) <;> have hgd := hlt <;> (try simp only [cla, clb, ne_eq, cld] at hlt) <;> (simp -implicitDefEqProofs (maxSteps := 1000000) (disch := omega) only [go_sem, ↓reduceIte, hgd]) <;> clear hgd) | (with_reducible refine And.intro ?_ ?_; · first | omega | assumption | exact ⟨_, _, rfl, rfl⟩) | fail
          refine ⟨_, rev_nil, ?_⟩
          try simp -implicitDefEqProofs (maxSteps := 1000000) (disch := omega) only [go_sem, ↓reduceIte]
          repeat' first | (exact absurd hlt (by decide)) | (refine AWp.seq fun K hK => ?_) | ((first | refine AWp.draw (id := 6) [.take 0, .take 1, .take 2, .take 3, .take 4, .take 5, .take 6, .take 7, .take 8, .take 9, .take 10, .take 11, .take 12, .take 13, .take 14, .take 15, .take 16, .take 17, .take 18, .take 19, .take 20, .take 21, .take 22, .take 23, .take 24, .grp [25], .take 26, .grp [27]] mixed_ok (by kernel_rfl) (by rw [hc]; rfl) ?_ | refine AWp.region (by rw [hc]; rfl) ?_ | refine AWp.skip ?_ | refine AWp.exit ?_ | refine AWp.label ?_ | refine AWp.ret ?_ | refine appK_g ?_); simp -implicitDefEqProofs (maxSteps := 1000000) (disch := omega) only [go_sem, ↓reduceIte]) | ((first | refine hK _ ?_ | (clear hK; first | refine hK _ ?_ | (clear hK; first | refine hK _ ?_ | (clear hK; refine hK _ ?_)))); clear hK) | (refine AWp.cond ?_; simp -implicitDefEqProofs (maxSteps := 1000000) (disch := omega) only [go_sem, ↓reduceIte]; try (refine ⟨fun hlt => ?_, fun hlt => ?_⟩ <;> (try simp only [cla, clb, ne_eq, reduceCtorEq] at hlt) <;> (try exact hlt.elim))) | (refine AWp.block ?_) | ((first | refine gdO_split (fun hlt => ?_) (fun hlt => ?_) | refine tkO_split (fun hlt => ?_) (fun hlt => ?_) | refine opO_split (fun hlt => ?_) (fun hlt => ?_)) <;> have hgd := hlt <;> (try simp only [cla, clb, ne_eq, cld] at hlt) <;> (simp -implicitDefEqProofs (maxSteps := 1000000) (disch := omega) only [go_sem, ↓reduceIte, hgd]) <;> clear hgd) | (with_reducible refine And.intro ?_ ?_; · first | omega | assumption | exact ⟨_, _, rfl, rfl⟩) | ((first | refine ⟨_, hC, ?_⟩); simp -implicitDefEqProofs (maxSteps := 1000000) (disch := omega) only [go_sem, ↓reduceIte]) | fail
          all_goals (first | rfl | (rw [hw0, if_pos hok]; done) | (rw [hw0, if_pos hok]; rfl))
        · rw [if_neg hok] at hC ⊢
          simp -implicitDefEqProofs (maxSteps := 1000000) (disch := omega) only [go_sem, ↓reduceIte]
          repeat' first | (exact absurd hlt (by decide)) | (refine AWp.seq fun K hK => ?_) | ((first | refine AWp.draw (id := 6) [.take 0, .take 1, .take 2, .take 3, .take 4, .take 5, .take 6, .take 7, .take 8, .take 9, .take 10, .take 11, .take 12, .take 13, .take 14, .take 15, .take 16, .take 17, .take 18, .take 19, .take 20, .take 21, .take 22, .take 23, .take 24, .grp [25], .take 26, .grp [27]] mixed_ok (by kernel_rfl) (by rw [hc]; rfl) ?_ | refine AWp.region (by rw [hc]; rfl) ?_ | refine AWp.skip ?_ | refine AWp.exit ?_ | refine AWp.label ?_ | refine AWp.ret ?_ | refine appK_g ?_); simp -implicitDefEqProofs (maxSteps := 1000000) (disch := omega) only [go_sem, ↓reduceIte]) | ((first | refine hK _ ?_ | (clear hK; first | refine hK _ ?_ | (clear hK; first | refine hK _ ?_ | (clear hK; refine hK _ ?_)))); clear hK) | (refine AWp.cond ?_; simp -implicitDefEqProofs (maxSteps := 1000000) (disch := omega) only [go_sem, ↓reduceIte]; try (refine ⟨fun hlt => ?_, fun hlt => ?_⟩ <;> (try simp only [cla, clb, ne_eq, reduceCtorEq] at hlt) <;> (try exact hlt.elim))) | (refine AWp.block ?_) | ((first | refine gdO_split (fun hlt => ?_) (fun hlt => ?_) | refine tkO_split (fun hlt => ?_) (fun hlt => ?_) | refine opO_split (fun hlt => ?_) (fun hlt => ?_)) <;> have hgd := hlt <;> (try simp only [cla, clb, ne_eq, cld] at hlt) <;> (simp -implicitDefEqProofs (maxSteps := 1000000) (disch := omega) only [go_sem, ↓reduceIte, hgd]) <;> clear hgd) | (with_reducible refine And.intro ?_ ?_; · first | omega | assumption | exact ⟨_, _, rfl, rfl⟩) | fail
          refine ⟨_, rev_nil, ?_⟩
          try simp -implicitDefEqProofs (maxSteps := 1000000) (disch := omega) only [go_sem, ↓reduceIte]
          repeat' first | (exact absurd hlt (by decide)) | (refine AWp.seq fun K hK => ?_) | ((first | refine AWp.draw (id := 6) [.take 0, .take 1, .take 2, .take 3, .take 4, .take 5, .take 6, .take 7, .take 8, .take 9, .take 10, .take 11, .take 12, .take 13, .take 14, .take 15, .take 16, .take 17, .take 18, .take 19, .take 20, .take 21, .take 22, .take 23, .take 24, .grp [25], .take 26, .grp [27]] mixed_ok (by kernel_rfl) (by rw [hc]; rfl) ?_ | refine AWp.region (by rw [hc]; rfl) ?_ | refine AWp.skip ?_ | refine AWp.exit ?_ | refine AWp.label ?_ | refine AWp.ret ?_ | refine appK_g ?_); simp -implicitDefEqProofs (maxSteps := 1000000) (disch := omega) only [go_sem, ↓reduceIte]) | ((first | refine hK _ ?_ | (clear hK; first | refine hK _ ?_ | (clear hK; first | refine hK _ ?_ | (clear hK; refine hK _ ?_)))); clear hK) | (refine AWp.cond ?_; simp -implicitDefEqProofs (maxSteps := 1000000) (disch := omega) only [go_sem, ↓reduceIte]; try (refine ⟨fun hlt => ?_, fun hlt => ?_⟩ <;> (try simp only [cla, clb, ne_eq, reduceCtorEq] at hlt) <;> (try exact hlt.elim))) | (refine AWp.block ?_) | ((first | refine gdO_split (fun hlt => ?_) (fun hlt => ?_) | refine tkO_split (fun hlt => ?_) (fun hlt => ?_) | refine opO_split (fun hlt => ?_) (fun hlt => ?_)) <;> have hgd := hlt <;> (try simp only [cla, clb, ne_eq, cld] at hlt) <;> (simp -implicitDefEqProofs (maxSteps := 1000000) (disch := omega) only [go_sem, ↓reduceIte, hgd]) <;> clear hgd) | (with_reducible refine And.intro ?_ ?_; · first | omega | assumption | exact ⟨_, _, rfl, rfl⟩) | ((first | refine ⟨_, hC, ?_⟩); simp -implicitDefEqProofs (maxSteps := 1000000) (disch := omega) only [go_sem, ↓reduceIte]) | fail
          all_goals (first | rfl | (rw [hw0, if_neg hok]; done) | (rw [hw0, if_neg hok]; rfl))
      · obtain ⟨ws, hws⟩ : ∃ ws, ((List.finRange (chunkE (l.drop 1) m).length).map fun j => fwd l j.val) = ws := ⟨_, rfl⟩
        rw [hws]
        have hwr : ws.reverse = wds l m := by
          rw [← wds_rev l m hb', ← hws]
          congr 1
          exact List.ext_getElem (by rw [List.length_map, List.length_finRange, hlm, List.length_map, List.length_range]) (fun i h1 h2 => by simp)
        have hwl : ws.length ≤ 1000000 := by
          have := congrArg List.length hwr
          simp [wds] at this; omega
        simp -implicitDefEqProofs (maxSteps := 1000000) (disch := omega) only [go_sem, ↓reduceIte]
        first | (refine hK _ ?_; clear hK) | (clear hK; refine hK _ ?_; clear hK) | (clear hK; clear hK; refine hK _ ?_; clear hK) | (clear hK; clear hK; clear hK; refine hK _ ?_; clear hK)
        refine AWp.sub (σ' := ⟨[(2, .ptr 0 0), (4, .ptr 1 0)], rvS neg ws, 3, 1⟩) (Sub.of0 hm (fun i => if i = 2 then j else i) rfl ?_ ?_ ?_) ?_
        all_goals (try dsimp only)
        all_goals (first | omega | (simp -implicitDefEqProofs (maxSteps := 1000000) (disch := omega) only [rvS, id, go_sem, Nat.blt_eq, Nat.reduceAdd, Nat.reduceSub, Nat.reduceEqDiff, Nat.reduceLT, ↓reduceIte, and_true, true_and, AV.dat.injEq, DV.int.injEq, DV.bool.injEq, DV.lst.injEq, eq_self_iff_true]; first | done | omega | (simp; done) | (simp; omega)) | (simp; done) | (simp; omega) | skip)
        · intro a b h1 h2 h
          change a < 3 at h1; change b < 3 at h2
          try simp only at h
          (repeat' split at h) <;> omega
        · simp only [rvS]
          repeat' first | (refine AWp.regionXi (id := 7) 2 rfl rfl rfl (by rw [hc]; rfl) ?_; simp -implicitDefEqProofs (maxSteps := 1000000) (disch := omega) only [go_sem, ↓reduceIte]) | (exact absurd hlt (by decide)) | (refine AWp.seq fun K hK => ?_) | ((first | refine AWp.draw (id := 6) [.take 0, .take 1, .take 2, .take 3, .take 4, .take 5, .take 6, .take 7, .take 8, .take 9, .take 10, .take 11, .take 12, .take 13, .take 14, .take 15, .take 16, .take 17, .take 18, .take 19, .take 20, .take 21, .take 22, .take 23, .take 24, .grp [25], .take 26, .grp [27]] mixed_ok (by kernel_rfl) (by rw [hc]; rfl) ?_ | refine AWp.region (by rw [hc]; rfl) ?_ | refine AWp.skip ?_ | refine AWp.exit ?_ | refine AWp.label ?_ | refine AWp.ret ?_ | refine appK_g ?_); simp -implicitDefEqProofs (maxSteps := 1000000) (disch := omega) only [go_sem, ↓reduceIte]) | ((first | refine hK _ ?_ | (clear hK; first | refine hK _ ?_ | (clear hK; first | refine hK _ ?_ | (clear hK; refine hK _ ?_)))); clear hK) | (refine AWp.cond ?_; simp -implicitDefEqProofs (maxSteps := 1000000) (disch := omega) only [go_sem, ↓reduceIte]; try (refine ⟨fun hlt => ?_, fun hlt => ?_⟩ <;> (try simp only [cla, clb, ne_eq, reduceCtorEq] at hlt) <;> (try exact hlt.elim))) | (refine AWp.block ?_) | ((first | refine gdO_split (fun hlt => ?_) (fun hlt => ?_) | refine tkO_split (fun hlt => ?_) (fun hlt => ?_) | refine opO_split (fun hlt => ?_) (fun hlt => ?_)) <;> have hgd := hlt <;> (try simp only [cla, clb, ne_eq, cld] at hlt) <;> (simp -implicitDefEqProofs (maxSteps := 1000000) (disch := omega) only [go_sem, ↓reduceIte, hgd]) <;> clear hgd) | (with_reducible refine And.intro ?_ ?_; · first | omega | assumption | exact ⟨_, _, rfl, rfl⟩) | fail
          refine ⟨_, rev_po neg ws hwl, ?_⟩
          rintro _ _ _ ⟨rfl, rfl, rfl⟩
          rw [hwr]
          simp only [rvS]
          generalize wds l m = d at *
          try simp -implicitDefEqProofs (maxSteps := 1000000) (disch := omega) only [go_sem, ↓reduceIte]
          by_cases hok : okI neg d
          · rw [if_pos hok] at hC
            repeat' first | (exact absurd hlt (by decide)) | (refine AWp.seq fun K hK => ?_) | ((first | refine AWp.draw (id := 6) [.take 0, .take 1, .take 2, .take 3, .take 4, .take 5, .take 6, .take 7, .take 8, .take 9, .take 10, .take 11, .take 12, .take 13, .take 14, .take 15, .take 16, .take 17, .take 18, .take 19, .take 20, .take 21, .take 22, .take 23, .take 24, .grp [25], .take 26, .grp [27]] mixed_ok (by kernel_rfl) (by rw [hc]; rfl) ?_ | refine AWp.region (by rw [hc]; rfl) ?_ | refine AWp.skip ?_ | refine AWp.exit ?_ | refine AWp.label ?_ | refine AWp.ret ?_ | refine appK_g ?_); simp -implicitDefEqProofs (maxSteps := 1000000) (disch := omega) only [go_sem, ↓reduceIte]) | ((first | refine hK _ ?_ | (clear hK; first | refine hK _ ?_ | (clear hK; first | refine hK _ ?_ | (clear hK; refine hK _ ?_)))); clear hK) | (refine AWp.cond ?_; simp -implicitDefEqProofs (maxSteps := 1000000) (disch := omega) only [go_sem, ↓reduceIte]; try (refine ⟨fun hlt => ?_, fun hlt => ?_⟩ <;> (try simp only [cla, clb, ne_eq, reduceCtorEq] at hlt) <;> (try exact hlt.elim))) | (refine AWp.block ?_) | ((first | refine gdO_split (fun hlt => ?_) (fun hlt => ?_) | refine tkO_split (fun hlt => ?_) (fun hlt => ?_) | refine opO_split (fun hlt => ?_) (fun hlt => ?_)) <;> have hgd := hlt <;> (try simp only [cla, clb, ne_eq, cld] at hlt) <;> (simp -implicitDefEqProofs (maxSteps := 1000000) (disch := omega) only [go_sem, ↓reduceIte, hgd]) <;> clear hgd) | (with_reducible refine And.intro ?_ ?_; · first | omega | assumption | exact ⟨_, _, rfl, rfl⟩) | ((first | refine ⟨_, hC, ?_⟩); simp -implicitDefEqProofs (maxSteps := 1000000) (disch := omega) only [go_sem, ↓reduceIte]) | fail
            all_goals (first | rfl | rw [if_pos hok])
          · rw [if_neg hok] at hC
            repeat' first | (exact absurd hlt (by decide)) | (refine AWp.seq fun K hK => ?_) | ((first | refine AWp.draw (id := 6) [.take 0, .take 1, .take 2, .take 3, .take 4, .take 5, .take 6, .take 7, .take 8, .take 9, .take 10, .take 11, .take 12, .take 13, .take 14, .take 15, .take 16, .take 17, .take 18, .take 19, .take 20, .take 21, .take 22, .take 23, .take 24, .grp [25], .take 26, .grp [27]] mixed_ok (by kernel_rfl) (by rw [hc]; rfl) ?_ | refine AWp.region (by rw [hc]; rfl) ?_ | refine AWp.skip ?_ | refine AWp.exit ?_ | refine AWp.label ?_ | refine AWp.ret ?_ | refine appK_g ?_); simp -implicitDefEqProofs (maxSteps := 1000000) (disch := omega) only [go_sem, ↓reduceIte]) | ((first | refine hK _ ?_ | (clear hK; first | refine hK _ ?_ | (clear hK; first | refine hK _ ?_ | (clear hK; refine hK _ ?_)))); clear hK) | (refine AWp.cond ?_; simp -implicitDefEqProofs (maxSteps := 1000000) (disch := omega) only [go_sem, ↓reduceIte]; try (refine ⟨fun hlt => ?_, fun hlt => ?_⟩ <;> (try simp only [cla, clb, ne_eq, reduceCtorEq] at hlt) <;> (try exact hlt.elim))) | (refine AWp.block ?_) | ((first | refine gdO_split (fun hlt => ?_) (fun hlt => ?_) | refine tkO_split (fun hlt => ?_) (fun hlt => ?_) | refine opO_split (fun hlt => ?_) (fun hlt => ?_)) <;> have hgd := hlt <;> (try simp only [cla, clb, ne_eq, cld] at hlt) <;> (simp -implicitDefEqProofs (maxSteps := 1000000) (disch := omega) only [go_sem, ↓reduceIte, hgd]) <;> clear hgd) | (with_reducible refine And.intro ?_ ?_; · first | omega | assumption | exact ⟨_, _, rfl, rfl⟩) | ((first | refine ⟨_, hC, ?_⟩); simp -implicitDefEqProofs (maxSteps := 1000000) (disch := omega) only [go_sem, ↓reduceIte]) | fail
            all_goals (first | rfl | rw [if_neg hok])
    · intro code pre s n hpf hI
      exact hI.elim
end Go.Proofs.YthhjcfejgoddlaaGreatDoor
end

section
set_option linter.unusedSimpArgs false
set_option linter.unusedVariables false
set_option maxRecDepth 100000
set_option exponentiation.threshold 2000
namespace Go.Proofs.YthhjcfejgoddlaaGreatDoor
open Go Go.Abs

/-! The forms: each function and its reference give the same. -/
theorem ToInt_bad (neg : Bool) (d : List Int) (ld : d.length ≤ 1000000) (hb : ¬ okI neg d) : PC Tryz.prog 39 [Zr neg d] (.tup [I 0, I 10]) := by
  have h := Check_pc neg d ld
  rw [if_neg hb] at h
  refine PCr.pc (PCr.of tab_ok Tryz.func39 rfl rfl rfl fun c hc hm => ?_)
  rw [show Tryz.f39.ntmps = _ from Tryz.ntmps39] at hc
  simp only [Tryz.f39]
  repeat' first
    | (exact absurd hlt (by decide))
    | (refine AWp.seq fun K hK => ?_)
    | ((first | refine AWp.region (by rw [hc]; rfl) ?_ | refine AWp.skip ?_ | refine AWp.exit ?_ | refine AWp.label ?_ | refine AWp.ret ?_ | refine appK_g ?_); simp -implicitDefEqProofs (maxSteps := 1000000) (disch := omega) only [go_sem, wrap64, Int.tdiv_eq_ediv_of_nonneg, Int.tmod_eq_emod_of_nonneg, Nat.reduceAdd, Nat.reduceMul, Nat.reduceEqDiff, Nat.reduceLT, Nat.reduceLeDiff, Int.reduceEq, Int.reduceNeg, Int.reduceToNat, reduceCtorEq, eq_self, Bool.false_eq_true, Bool.true_eq_false, ↓reduceIte, Int.reduceBNe, Int.reduceBEq, Bool.not_true, Bool.not_false])
    | (refine hK _ ?_; clear hK)
    | (clear hK; refine hK _ ?_; clear hK)
    | (clear hK; clear hK; refine hK _ ?_; clear hK)
    | (clear hK; clear hK; clear hK; refine hK _ ?_; clear hK)
    | (refine AWp.cond ?_; simp -implicitDefEqProofs (maxSteps := 1000000) (disch := omega) only [go_sem, wrap64, Int.tdiv_eq_ediv_of_nonneg, Int.tmod_eq_emod_of_nonneg, Nat.reduceAdd, Nat.reduceMul, Nat.reduceEqDiff, Nat.reduceLT, Nat.reduceLeDiff, Int.reduceEq, Int.reduceNeg, Int.reduceToNat, reduceCtorEq, eq_self, Bool.false_eq_true, Bool.true_eq_false, ↓reduceIte, Int.reduceBNe, Int.reduceBEq, Bool.not_true, Bool.not_false]; try (refine ⟨fun hlt => ?_, fun hlt => ?_⟩ <;> (try simp only [decide_eq_true_eq, decide_eq_false_iff_not, beq_iff_eq, bne_iff_ne, ne_eq, beq_eq_false_iff_ne, bne_eq_false_iff_eq, Bool.true_eq_false, Bool.false_eq_true, Int.not_lt, Int.not_le, Decidable.not_not, gt_iff_lt, ge_iff_le, reduceCtorEq] at hlt) <;> (try exact hlt.elim)))
    | (refine AWp.block ?_)
    | ((first | refine gdO_split (fun hlt => ?_) (fun hlt => ?_) | refine tkO_split (fun hlt => ?_) (fun hlt => ?_) | refine opO_split (fun hlt => ?_) (fun hlt => ?_)) <;> have hgd := hlt <;> (try simp only [decide_eq_true_eq, decide_eq_false_iff_not, beq_iff_eq, bne_iff_ne, ne_eq, beq_eq_false_iff_ne, bne_eq_false_iff_eq, Bool.not_eq_true, Bool.not_eq_false, Bool.not_eq_eq_eq_not, Int.not_lt, Int.not_le, Decidable.not_not, gt_iff_lt, ge_iff_le] at hlt) <;> (simp -implicitDefEqProofs (maxSteps := 1000000) (disch := omega) only [go_sem, wrap64, Int.tdiv_eq_ediv_of_nonneg, Int.tmod_eq_emod_of_nonneg, Nat.reduceAdd, Nat.reduceMul, Nat.reduceEqDiff, Nat.reduceLT, Nat.reduceLeDiff, Int.reduceEq, Int.reduceNeg, Int.reduceToNat, reduceCtorEq, eq_self, Bool.false_eq_true, Bool.true_eq_false, ↓reduceIte, Int.reduceBNe, Int.reduceBEq, Bool.not_true, Bool.not_false, hgd]) <;> clear hgd)
    | (with_reducible refine And.intro ?_ ?_; · first | omega | assumption | exact ⟨_, _, rfl, rfl⟩)
    | ((first | refine ⟨_, h, ?_⟩); simp -implicitDefEqProofs (maxSteps := 1000000) (disch := omega) only [go_sem, wrap64, Int.tdiv_eq_ediv_of_nonneg, Int.tmod_eq_emod_of_nonneg, Nat.reduceAdd, Nat.reduceMul, Nat.reduceEqDiff, Nat.reduceLT, Nat.reduceLeDiff, Int.reduceEq, Int.reduceNeg, Int.reduceToNat, reduceCtorEq, eq_self, Bool.false_eq_true, Bool.true_eq_false, ↓reduceIte, Int.reduceBNe, Int.reduceBEq, Bool.not_true, Bool.not_false])
    | fail
theorem ToInt_both (neg : Bool) (d : List Int) (ld : d.length ≤ 1000000) : ∃ v e : Int, PC Tryz.prog 39 [Zr neg d] (.tup [I v, I e]) ∧ PC Tryz.prog 60 [Zr neg d] (.tup [I v, I e]) := by
  by_cases h : okI neg d
  · obtain ⟨x, e1, l1⟩ := okI_ex h
    rw [e1]
    have p := ToInt_ok x l1
    have q := rToInt_ok x l1
    unfold toIntR at p q
    by_cases hr : -9223372036854775808 ≤ x ∧ x ≤ 9223372036854775807
    · rw [if_pos hr] at p q; exact ⟨_, _, p, q⟩
    · rw [if_neg hr] at p q; exact ⟨_, _, p, q⟩
  · exact ⟨_, _, ToInt_bad neg d ld h, rToInt_bad neg d h⟩
theorem Check_both (neg : Bool) (d : List Int) (ld : d.length ≤ 1000000) : ∃ e : Int, PC Tryz.prog 61 [Zr neg d] (I e) ∧ PC Tryz.prog 62 [Zr neg d] (I e) := ⟨_, Check_pc neg d ld, rCheck_pc neg d⟩
theorem Text_both (neg : Bool) (d : List Int) (ld : d.length ≤ 1000000) : ∃ (t : ByteArray) (e : Int), PC Tryz.prog 65 [Zr neg d] (.tup [.dat (.str t), I e]) ∧ PC Tryz.prog 66 [Zr neg d] (.tup [.dat (.str t), I e]) := by
  by_cases h : okI neg d
  · obtain ⟨x, e1, l1⟩ := okI_ex h
    rw [e1]
    exact ⟨_, _, Text_ok x l1, rText_ok x l1⟩
  · exact ⟨_, _, Text_bad neg d ld h, rText_bad neg d h⟩
def q4i (d : List Int) (k : Nat) : List Int := [IntKind.wrap .u8 ((d.getD (d.length - 1 - k) 0).fdiv (2 ^ min 24 64)), IntKind.wrap .u8 ((d.getD (d.length - 1 - k) 0).fdiv (2 ^ min 16 64)), IntKind.wrap .u8 ((d.getD (d.length - 1 - k) 0).fdiv (2 ^ min 8 64)), IntKind.wrap .u8 (d.getD (d.length - 1 - k) 0)]
theorem q4i_flat (d : List Int) (h : Int) (n : Nat) : ([.int .u8 h] :: (List.range n).flatMap (q4 d) : List (List DV)) = (h :: (List.range n).flatMap (q4i d)).map eB := by
  rw [List.map_cons, List.map_flatMap]
  rfl
theorem q4i_len (d : List Int) (n : Nat) : ((List.range n).flatMap (q4i d)).length = 4 * n := by
  induction n with
  | zero => rfl
  | succ n ih => rw [List.range_succ, List.flatMap_append, List.length_append, ih]; simp [q4i]; omega
theorem Bytes_both (neg : Bool) (d : List Int) (ld : d.length ≤ 1000000) : ∃ (xs : List Int) (e : Int), xs.length ≤ 1000000 ∧ PC Tryz.prog 69 [Zr neg d] (.tup [LB xs, I e]) ∧ PC Tryz.prog 70 [Zr neg d] (.tup [LB xs, I e]) := by
  by_cases h : okI neg d
  · obtain ⟨x, e1, l1⟩ := okI_ex h
    have hl1 := l1
    unfold lenZ at hl1
    have hok : okI (decide (x < 0)) (D x.natAbs) := okZ l1
    have hr := rBytes_raw (decide (x < 0)) (D x.natAbs) hok (dig_D _)
    rw [q4i_flat] at hr
    rw [e1]
    refine ⟨_, _, ?_, ?_, hr⟩
    · rw [List.length_cons, q4i_len]; omega
    · by_cases hx : x < 0
      · have p := Bytes_neg x hx l1
        unfold bytesN hdN at p
        rw [q4i_flat] at p
        rw [decide_eq_true hx, if_pos rfl]
        rw [wrap8, wrap8] at p
        rw [wrap8]
        have : (((D x.natAbs).length : Int) % 256 + 128) % 256 = (((D x.natAbs).length : Int) + 128) % 256 := by omega
        rw [this] at p; exact p
      · have p := Bytes_pos x (by omega) l1
        unfold bytesP at p
        rw [q4i_flat] at p
        rw [decide_eq_false hx]
        exact p
  · exact ⟨[], 10, by simp, Bytes_bad neg d ld h, rBytes_bad neg d h⟩
theorem FromBytes_both (l : List UInt8) (hl : l.length ≤ 1000000) : Alike 72 73 [bL l] := by
  have p := FromBytes_pc l hl
  have q := rFromBytes_pc l hl
  unfold fbV at p q
  by_cases h1 : fbBad l
  · rw [if_pos h1] at p q
    exact .bad p q
  · rw [if_neg h1] at p q
    by_cases h2 : okI (sB l) (wds l (nB l))
    · rw [if_pos h2] at p q
      obtain ⟨x, e1, l1⟩ := okI_ex h2
      rw [e1] at p q
      exact ⟨x, 0, l1, p, q⟩
    · rw [if_neg h2] at p q
      exact .bad p q
theorem Read_both (t : List UInt8) (ht : t.length ≤ 1000000) : Alike 67 68 [.dat (.str (bs t))] := by
  have p := Read_pc t ht
  have q := rRead_pc t ht
  generalize Lib.hasPrefix t [45] = neg at *
  generalize Lib.trimPrefix t [45] = r at *
  unfold rdV at p q
  by_cases h1 : rdE r
  · rw [if_pos h1] at p q
    exact .bad p q
  · rw [if_neg h1] at p q
    by_cases h2 : rdN neg r
    · rw [if_pos h2] at p q
      exact .bad p q
    · rw [if_neg h2] at p q
      refine ⟨_, 0, ?_, p, q⟩
      unfold rdN at h2
      unfold rdE at h1
      have hn0 : ndl r = r.length := Classical.not_not.1 fun h => h2 (.inr (.inl h))
      have hd : isD r := by have := ndl_isD r; rwa [hn0, List.take_length] at this
      have hr360 : r.length ≤ 360 := by
        rcases Nat.lt_or_ge 360 r.length with h | h
        · exfalso
          have h48 : r.getD 0 0 = 48 := Classical.not_not.1 fun h3 => h1 ⟨by omega, h3⟩
          exact h2 (.inr (.inr ⟨h48, .inl (by omega)⟩))
        · exact h
      have hv := dv_lt hd
      have hp : (10 : Nat) ^ r.length ≤ 10 ^ 360 := Nat.pow_le_pow_right (by decide) hr360
      unfold lenZ
      rw [sg_natAbs]
      rcases Nat.lt_or_ge 40 (D (dv 0 r)).length with h | h
      · exfalso
        have h0 : dv 0 r ≠ 0 := fun e => by rw [e, D_zero] at h; simp at h
        have h3 := D_len_ge h0
        have h4 := Bp_mono (show 40 ≤ (D (dv 0 r)).length - 1 by omega)
        rw [Bp_nat] at h4
        have h5 : (10 : Nat) ^ (9 * 40) = 10 ^ 360 := rfl
        rw [h5] at h4
        have h6 : ((10 ^ 360 : Nat) : Int) ≤ ((dv 0 r : Nat) : Int) := Int.le_trans h4 h3
        have h7 := Int.ofNat_le.1 h6
        omega
      · exact h
end Go.Proofs.YthhjcfejgoddlaaGreatDoor
end

section
/- Large drawn regions: the operations are looked up one by one, and stand nowhere else. -/
namespace Go.Abs
variable {P : Program} {T : Tab}
/-! A region whose operations all are quiet, in the order in which they stand: a cheap check. -/
section
variable {ops : Array Oper} {i j k : Nat} {t : Tm} {s : Sto} {n d : Nat} {X : St → Prop} {dst : Option Nat} {ty : TypeId} {pos : String} {af : Array Edge} {o : Op} {want : Bool}
end
end Go.Abs
end

section
set_option linter.unusedSimpArgs false
set_option linter.unusedVariables false
set_option maxRecDepth 100000
namespace Go.Proofs.YthhjcfejgoddlaaGreatDoor
open Go Go.Abs
attribute [local go_sem] wrap64 Int.tdiv_eq_ediv_of_nonneg Int.tmod_eq_emod_of_nonneg eq_self Bool.false_eq_true Bool.true_eq_false Bool.not_true Bool.not_false
attribute [local go_sem_proc] Nat.reduceAdd Nat.reduceMul Nat.reduceEqDiff Nat.reduceLT Nat.reduceLeDiff Int.reduceEq Int.reduceNeg Int.reduceToNat reduceCtorEq Int.reduceBNe Int.reduceBEq

theorem lenZ_i64 {n : Int} (h0 : -9223372036854775808 ≤ n) (h1 : n ≤ 9223372036854775807) : lenZ n ≤ 40 := by
  unfold lenZ
  exact Nat.le_trans (D_len_le (n := 9223372036854775808) (by omega)) (by decide +kernel)
set_option maxHeartbeats 8000000 in
theorem NumForms_ok (na : Bool) (a : List Int) (n : Int) (h0 : -9223372036854775808 ≤ n) (h1 : n ≤ 9223372036854775807) (s l : List UInt8) : PC Tryz.prog 14 [Zr na a, I n, .dat (.str (bs s)), .dat (.lst (l.map eU))] (B true) := by
  have hs := sane_ok
  have hf := fewb_pc [(na, a)] (by simp)
  rw [LZ1] at hf
  have hsz := bs_size s
  by_cases h : a.length ≤ 100
  · rw [show (List.all [(na, a)] fun z => decide (z.2.length ≤ 100)) = true by
      simp only [List.all_cons, List.all_nil, decide_eq_true h, Bool.and_self]] at hf
    by_cases hsl : s.length ≤ 2000
    · have c2 : decide ((2000 : Int) < (s.length : Int)) = false := decide_eq_false (by omega)
      by_cases hll : l.length ≤ 2000
      · have c3 : decide ((2000 : Int) < (l.length : Int)) = false := decide_eq_false (by omega)
        have la : a.length ≤ 1000000 := by omega
        obtain ⟨v1, e1, p1, q1⟩ := ToInt_both na a la
        obtain ⟨v2, p2, q2⟩ := Check_both na a la
        have p3 : PC Tryz.prog 63 [I n] (.agg (zC n)) := FromInt_pc n h0 h1
        have q3 : PC Tryz.prog 64 [I n] (.agg (zC n)) := rFromInt_pc n h0 h1
        have l3 := lenZ_i64 h0 h1
        have s3 := rsameA n n l3 l3
        rw [decide_eq_true rfl] at s3
        obtain ⟨t4, e4, p4, q4⟩ := Text_both na a la
        obtain ⟨x5, e5, l5, p5, q5⟩ := Read_both s (by omega)
        obtain ⟨xs, e6, l6, p6, q6⟩ := Bytes_both na a la
        have s6 := equalB_pc xs xs l6 l6
        rw [decide_eq_true rfl] at s6
        obtain ⟨x7, e7, l7, p7, q7⟩ := FromBytes_both l (by omega)
        unfold bL at p7 q7
        have sm : ∀ x e : Int, lenZ x ≤ 40 → PC Tryz.prog 26 [.agg (pC (x, e)), .agg (pC (x, e))] (B true) := fun x e l => sameA (x, e) (x, e) l l rfl
        have s5 := sm x5 e5 l5
        have s7 := sm x7 e7 l7
        have g5 := gotA x5 e5
        have g7 := gotA x7 e7
        clear sm la l3 l5 l6 l7
        generalize hms : l.map eU = ml at *
        have hml : ml.length = l.length := by rw [← hms, List.length_map]
        clear hms
        refine PCr.pc (PCr.of tab_ok Tryz.func14 rfl rfl rfl fun c hc hm => ?_)
        rw [show Tryz.f14.ntmps = _ from Tryz.ntmps14] at hc
        simp only [Tryz.f14]
        repeat' first | (exact absurd hlt (by decide)) | (refine AWp.seq fun K hK => ?_) | (first | refine AWp.draw2 (id := 7) [.take 0, .take 1, .take 2, .take 3, .take 4, .take 5, .take 6, .take 7, .take 8, .take 9, .take 10, .take 11, .take 12, .take 13, .take 14, .take 15, .take 16, .take 17, .take 18, .take 19, .take 20, .take 21, .take 22] mixed_ok (by kernel_rfl) (by rw [hc]; rfl) ?_) | ((first | refine planK_step fun K hK => ?_ | refine planK_one fun K hK => ?_); simp -implicitDefEqProofs (maxSteps := 1000000) (disch := omega) only [go_sem, ↓reduceIte, zC_len, pC_len, zD_len, zC_map, pC_map, zC_toCs, pC_toCs, zC_dCs, pC_dCs, zC_dats0, zC_take, pC_take, pC_take2, pC_get2, zC_get0, zC_get1, zC_drop, pC_drop, pC_drop3, zC_drop2, List.nil_append, List.append_nil, bne_self_eq_false, beq_self_eq_true, hsz, hml, c2, c3]) | (refine planK_end ?_; try (simp -implicitDefEqProofs (maxSteps := 1000000) (disch := omega) only [go_sem, ↓reduceIte, zC_len, pC_len, zD_len, zC_map, pC_map, zC_toCs, pC_toCs, zC_dCs, pC_dCs, zC_dats0, zC_take, pC_take, pC_take2, pC_get2, zC_get0, zC_get1, zC_drop, pC_drop, pC_drop3, zC_drop2, List.nil_append, List.append_nil, bne_self_eq_false, beq_self_eq_true, hsz, hml, c2, c3])) | ((first | refine AWp.region (by rw [hc]; rfl) ?_ | refine AWp.skip ?_ | refine AWp.exit ?_ | refine AWp.label ?_ | refine AWp.ret ?_ | refine appK_g ?_); simp -implicitDefEqProofs (maxSteps := 1000000) (disch := omega) only [go_sem, ↓reduceIte, zC_len, pC_len, zD_len, zC_map, pC_map, zC_toCs, pC_toCs, zC_dCs, pC_dCs, zC_dats0, zC_take, pC_take, pC_take2, pC_get2, zC_get0, zC_get1, zC_drop, pC_drop, pC_drop3, zC_drop2, List.nil_append, List.append_nil, bne_self_eq_false, beq_self_eq_true, hsz, hml, c2, c3]) | ((first | refine hK _ ?_ | (clear hK; first | refine hK _ ?_ | (clear hK; first | refine hK _ ?_ | (clear hK; refine hK _ ?_)))); clear hK) | (refine AWp.cond ?_; simp -implicitDefEqProofs (maxSteps := 1000000) (disch := omega) only [go_sem, ↓reduceIte, zC_len, pC_len, zD_len, zC_map, pC_map, zC_toCs, pC_toCs, zC_dCs, pC_dCs, zC_dats0, zC_take, pC_take, pC_take2, pC_get2, zC_get0, zC_get1, zC_drop, pC_drop, pC_drop3, zC_drop2, List.nil_append, List.append_nil, bne_self_eq_false, beq_self_eq_true, hsz, hml, c2, c3]; try (refine ⟨fun hlt => ?_, fun hlt => ?_⟩ <;> (try simp only [cla, clb, ne_eq, reduceCtorEq] at hlt) <;> (try exact hlt.elim))) | (refine AWp.block ?_) | ((first | refine gdO_split (fun hlt => ?_) (fun hlt => ?_) | refine tkO_split (fun hlt => ?_) (fun hlt => ?_) | refine opO_split (fun hlt => ?_) (fun hlt => ?_)) <;> have hgd := hlt <;> (try simp only [cla, clb, ne_eq, cld] at hlt) <;> (simp -implicitDefEqProofs (maxSteps := 1000000) (disch := omega) only [go_sem, ↓reduceIte, zC_len, pC_len, zD_len, zC_map, pC_map, zC_toCs, pC_toCs, zC_dCs, pC_dCs, zC_dats0, zC_take, pC_take, pC_take2, pC_get2, zC_get0, zC_get1, zC_drop, pC_drop, pC_drop3, zC_drop2, List.nil_append, List.append_nil, bne_self_eq_false, beq_self_eq_true, hsz, hml, c2, c3, hgd]) <;> clear hgd) | (with_reducible refine And.intro ?_ ?_; · first | omega | assumption | exact ⟨_, _, rfl, rfl⟩) | ((first | refine ⟨_, hs, ?_⟩ | refine ⟨_, hf, ?_⟩ | refine ⟨_, p1, ?_⟩ | refine ⟨_, q1, ?_⟩ | refine ⟨_, p2, ?_⟩ | refine ⟨_, q2, ?_⟩ | refine ⟨_, p3, ?_⟩ | refine ⟨_, q3, ?_⟩ | refine ⟨_, s3, ?_⟩ | refine ⟨_, p4, ?_⟩ | refine ⟨_, q4, ?_⟩ | refine ⟨_, p5, ?_⟩ | refine ⟨_, q5, ?_⟩ | refine ⟨_, p6, ?_⟩ | refine ⟨_, q6, ?_⟩ | refine ⟨_, s6, ?_⟩ | refine ⟨_, p7, ?_⟩ | refine ⟨_, q7, ?_⟩ | refine ⟨_, g5, ?_⟩ | refine ⟨_, g7, ?_⟩ | refine ⟨_, s5, ?_⟩ | refine ⟨_, s7, ?_⟩); try (simp -implicitDefEqProofs (maxSteps := 1000000) (disch := omega) only [go_sem, ↓reduceIte, zC_len, pC_len, zD_len, zC_map, pC_map, zC_toCs, pC_toCs, zC_dCs, pC_dCs, zC_dats0, zC_take, pC_take, pC_take2, pC_get2, zC_get0, zC_get1, zC_drop, pC_drop, pC_drop3, zC_drop2, List.nil_append, List.append_nil, bne_self_eq_false, beq_self_eq_true, hsz, hml, c2, c3])) | fail
      · have c3 : decide ((2000 : Int) < (l.length : Int)) = true := decide_eq_true (by omega)
        refine PCr.pc (PCr.of tab_ok Tryz.func14 rfl rfl rfl fun c hc hm => ?_)
        rw [show Tryz.f14.ntmps = _ from Tryz.ntmps14] at hc
        simp only [Tryz.f14]
        repeat' first | (exact absurd hlt (by decide)) | (refine AWp.seq fun K hK => ?_) | ((first | refine AWp.draw (id := 7) [.take 0, .take 1, .take 2, .take 3, .take 4, .take 5, .take 6, .take 7, .take 8, .take 9, .take 10, .take 11, .take 12, .take 13, .take 14, .take 15, .take 16, .take 17, .take 18, .take 19, .take 20, .take 21, .take 22] mixed_ok (by kernel_rfl) (by rw [hc]; rfl) ?_ | refine AWp.region (by rw [hc]; rfl) ?_ | refine AWp.skip ?_ | refine AWp.exit ?_ | refine AWp.label ?_ | refine AWp.ret ?_ | refine appK_g ?_); simp -implicitDefEqProofs (maxSteps := 1000000) (disch := omega) only [go_sem, ↓reduceIte, hsz, List.length_map, c2, c3]) | ((first | refine hK _ ?_ | (clear hK; first | refine hK _ ?_ | (clear hK; first | refine hK _ ?_ | (clear hK; refine hK _ ?_)))); clear hK) | (refine AWp.cond ?_; simp -implicitDefEqProofs (maxSteps := 1000000) (disch := omega) only [go_sem, ↓reduceIte, hsz, List.length_map, c2, c3]; try (refine ⟨fun hlt => ?_, fun hlt => ?_⟩ <;> (try simp only [cla, clb, ne_eq, reduceCtorEq] at hlt) <;> (try exact hlt.elim))) | (refine AWp.block ?_) | ((first | refine gdO_split (fun hlt => ?_) (fun hlt => ?_) | refine tkO_split (fun hlt => ?_) (fun hlt => ?_) | refine opO_split (fun hlt => ?_) (fun hlt => ?_)) <;> have hgd := hlt <;> (try simp only [cla, clb, ne_eq, cld] at hlt) <;> (simp -implicitDefEqProofs (maxSteps := 1000000) (disch := omega) only [go_sem, ↓reduceIte, hsz, List.length_map, c2, c3, hgd]) <;> clear hgd) | (with_reducible refine And.intro ?_ ?_; · first | omega | assumption | exact ⟨_, _, rfl, rfl⟩) | ((first | refine ⟨_, hs, ?_⟩ | refine ⟨_, hf, ?_⟩); simp -implicitDefEqProofs (maxSteps := 1000000) (disch := omega) only [go_sem, ↓reduceIte, hsz, List.length_map, c2, c3]) | fail
    · have c2 : decide ((2000 : Int) < (s.length : Int)) = true := decide_eq_true (by omega)
      refine PCr.pc (PCr.of tab_ok Tryz.func14 rfl rfl rfl fun c hc hm => ?_)
      rw [show Tryz.f14.ntmps = _ from Tryz.ntmps14] at hc
      simp only [Tryz.f14]
      repeat' first | (exact absurd hlt (by decide)) | (refine AWp.seq fun K hK => ?_) | ((first | refine AWp.draw (id := 7) [.take 0, .take 1, .take 2, .take 3, .take 4, .take 5, .take 6, .take 7, .take 8, .take 9, .take 10, .take 11, .take 12, .take 13, .take 14, .take 15, .take 16, .take 17, .take 18, .take 19, .take 20, .take 21, .take 22] mixed_ok (by kernel_rfl) (by rw [hc]; rfl) ?_ | refine AWp.region (by rw [hc]; rfl) ?_ | refine AWp.skip ?_ | refine AWp.exit ?_ | refine AWp.label ?_ | refine AWp.ret ?_ | refine appK_g ?_); simp -implicitDefEqProofs (maxSteps := 1000000) (disch := omega) only [go_sem, ↓reduceIte, hsz, c2]) | ((first | refine hK _ ?_ | (clear hK; first | refine hK _ ?_ | (clear hK; first | refine hK _ ?_ | (clear hK; refine hK _ ?_)))); clear hK) | (refine AWp.cond ?_; simp -implicitDefEqProofs (maxSteps := 1000000) (disch := omega) only [go_sem, ↓reduceIte, hsz, c2]; try (refine ⟨fun hlt => ?_, fun hlt => ?_⟩ <;> (try simp only [cla, clb, ne_eq, reduceCtorEq] at hlt) <;> (try exact hlt.elim))) | (refine AWp.block ?_) | ((first | refine gdO_split (fun hlt => ?_) (fun hlt => ?_) | refine tkO_split (fun hlt => ?_) (fun hlt => ?_) | refine opO_split (fun hlt => ?_) (fun hlt => ?_)) <;> have hgd := hlt <;> (try simp only [cla, clb, ne_eq, cld] at hlt) <;> (simp -implicitDefEqProofs (maxSteps := 1000000) (disch := omega) only [go_sem, ↓reduceIte, hsz, c2, hgd]) <;> clear hgd) | (with_reducible refine And.intro ?_ ?_; · first | omega | assumption | exact ⟨_, _, rfl, rfl⟩) | ((first | refine ⟨_, hs, ?_⟩ | refine ⟨_, hf, ?_⟩); simp -implicitDefEqProofs (maxSteps := 1000000) (disch := omega) only [go_sem, ↓reduceIte, hsz, c2]) | fail
  · rw [show (List.all [(na, a)] fun z => decide (z.2.length ≤ 100)) = false by
      simp only [List.all_cons, List.all_nil, Bool.and_true]; exact decide_eq_false h] at hf
    refine PCr.pc (PCr.of tab_ok Tryz.func14 rfl rfl rfl fun c hc hm => ?_)
    rw [show Tryz.f14.ntmps = _ from Tryz.ntmps14] at hc
    simp only [Tryz.f14]
    repeat' first | (exact absurd hlt (by decide)) | (refine AWp.seq fun K hK => ?_) | ((first | refine AWp.draw (id := 7) [.take 0, .take 1, .take 2, .take 3, .take 4, .take 5, .take 6, .take 7, .take 8, .take 9, .take 10, .take 11, .take 12, .take 13, .take 14, .take 15, .take 16, .take 17, .take 18, .take 19, .take 20, .take 21, .take 22] mixed_ok (by kernel_rfl) (by rw [hc]; rfl) ?_ | refine AWp.region (by rw [hc]; rfl) ?_ | refine AWp.skip ?_ | refine AWp.exit ?_ | refine AWp.label ?_ | refine AWp.ret ?_ | refine appK_g ?_); simp -implicitDefEqProofs (maxSteps := 1000000) (disch := omega) only [go_sem, ↓reduceIte]) | ((first | refine hK _ ?_ | (clear hK; first | refine hK _ ?_ | (clear hK; first | refine hK _ ?_ | (clear hK; refine hK _ ?_)))); clear hK) | (refine AWp.cond ?_; simp -implicitDefEqProofs (maxSteps := 1000000) (disch := omega) only [go_sem, ↓reduceIte]; try (refine ⟨fun hlt => ?_, fun hlt => ?_⟩ <;> (try simp only [cla, clb, ne_eq, reduceCtorEq] at hlt) <;> (try exact hlt.elim))) | (refine AWp.block ?_) | ((first | refine gdO_split (fun hlt => ?_) (fun hlt => ?_) | refine tkO_split (fun hlt => ?_) (fun hlt => ?_) | refine opO_split (fun hlt => ?_) (fun hlt => ?_)) <;> have hgd := hlt <;> (try simp only [cla, clb, ne_eq, cld] at hlt) <;> (simp -implicitDefEqProofs (maxSteps := 1000000) (disch := omega) only [go_sem, ↓reduceIte, hgd]) <;> clear hgd) | (with_reducible refine And.intro ?_ ?_; · first | omega | assumption | exact ⟨_, _, rfl, rfl⟩) | ((first | refine ⟨_, hs, ?_⟩ | refine ⟨_, hf, ?_⟩); simp -implicitDefEqProofs (maxSteps := 1000000) (disch := omega) only [go_sem, ↓reduceIte]) | fail
end Go.Proofs.YthhjcfejgoddlaaGreatDoor
end
