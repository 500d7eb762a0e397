/- Contracts of the integers' functions: parts, sums, products, quotients. -/
import Derived.Test.YthhjcfejgoddlaaGreatDoorKd
import Derived.OwnWalkIn
import Derived.TacticsInMore
import Derived.LoopNIn
import Derived.LoopIn
import Derived.Laws.EntriesVeiled
import Derived.MapKept
import Derived.Defers
import Derived.Recover
import Derived.Laws.Pointers
import Derived.KernelRfl
section
set_option linter.unusedSimpArgs false
namespace Go.Proofs.YthhjcfejgoddlaaGreatDoor
open Go.Abs

def I (n : Int) : AV := .dat (.int .i64 n)
def B (b : Bool) : AV := .dat (.bool b)
def eI (n : Int) : List DV := [.int .i64 n]
def dL (xs : List Int) : DV := .lst (xs.map eI)
def L (xs : List Int) : AV := .dat (dL xs)
attribute [go_sem] I B eI dL L

theorem wrap64 {n : Int} (h : -9223372036854775808 ≤ n ∧ n < 9223372036854775808) : IntKind.wrap .i64 n = n := by
  simp only [IntKind.wrap, IntKind.bits, IntKind.signed]
  have e : (2 : Int) ^ 64 = 18446744073709551616 := by decide
  have e' : (2 : Int) ^ (64 - 1) = 9223372036854775808 := by decide
  simp only [e, e', Bool.true_and, decide_eq_true_eq, ge_iff_le]
  split <;> omega

attribute [go_sem] Option.bind_some List.map_append List.range_zero List.range_succ List.size_toArray List.all_cons List.all_nil Value.oneCell' Bool.and_true false_implies true_implies implies_true not_false_eq_true List.forall_mem_cons List.not_mem_nil and_self

def atF (xs : List Int) (i : Int) : Int := if i < xs.length then xs.getD i.toNat 0 else 0

theorem elt (xs : List Int) (k : Nat) (h : k < xs.length) : (xs.map eI).getD k [] = eI (xs.getD k 0) := by
  simp [List.getD, h]

theorem eI_all (xs : List Int) : (∀ e ∈ xs.map eI, ∀ j, some ti3 = some j → e.length = j.size) = True := by
  refine eq_true fun e he j hj => ?_
  obtain ⟨x, _, rfl⟩ := List.mem_map.1 he
  cases hj; rfl
theorem tk_map (xs : List Int) (n : Nat) : (xs.map eI).take n = (xs.take n).map eI := by rw [List.map_take]
theorem dp_map (xs : List Int) (n : Nat) : (xs.map eI).drop n = (xs.drop n).map eI := by rw [List.map_drop]
theorem tns (m : Nat) : ((m : Int) - 1).toNat = m - 1 := by omega
theorem tnadd (a b : Nat) : ((a : Int) + (b : Int)).toNat = a + b := by omega
theorem tnadd1 (a : Nat) : ((a : Int) + 1).toNat = a + 1 := by omega
theorem set_eI (l : List Int) (k : Nat) (x : Int) : (l.map eI).set k [.int .i64 x] = (l.set k x).map eI := by rw [List.map_set]; rfl
theorem some_ex {α : Type} (a : α) : (∃ j, some a = some j) = True := eq_true ⟨a, rfl⟩
theorem eI_len1 (xs : List Int) : (∀ e ∈ xs.map eI, e.length = 1) = True := by
  refine eq_true fun e he => ?_
  obtain ⟨x, _, rfl⟩ := List.mem_map.1 he
  rfl
attribute [go_sem] List.set_cons_zero List.set_cons_succ tnadd tnadd1 set_eI List.length_set Option.isSome_some Bool.and_self eI_len1 elt eI_all tk_map dp_map tns some_ex Option.map_some Option.map_none Int.toNat_natCast Int.toNat_zero

set_option maxHeartbeats 400000 in
theorem at_pc (xs : List Int) (i : Int) (h : 0 ≤ i) : PC Tryz.prog 152 [L xs, I i] (I (atF xs i)) := by
  refine PCr.pc (PCr.of tab_ok Tryz.func152 rfl rfl rfl fun c hc hm => ?_)
  simp only [Tryz.f152]
  have hc : c.N = 13 := hc
  repeat' first
    | (refine AWp.seq fun K hK => ?_)
    | ((first | refine AWp.region (by rw [hc]; rfl) ?_ | refine AWp.skip ?_ | refine AWp.exit ?_ | refine AWp.label ?_ | refine AWp.ret ?_ | refine appK_g ?_); simp -implicitDefEqProofs (maxSteps := 1000000) (disch := omega) only [go_sem, wrap64, Int.tdiv_eq_ediv_of_nonneg, Int.tmod_eq_emod_of_nonneg, Nat.reduceAdd, Nat.reduceMul, Nat.reduceEqDiff, Nat.reduceLT, Nat.reduceLeDiff, Int.reduceEq, Int.reduceNeg, Int.reduceToNat, reduceCtorEq, eq_self, Bool.false_eq_true, Bool.true_eq_false, ↓reduceIte])
    | (refine hK _ ?_; clear hK)
    | (clear hK; refine hK _ ?_; clear hK)
    | (clear hK; clear hK; refine hK _ ?_; clear hK)
    | (clear hK; clear hK; clear hK; refine hK _ ?_; clear hK)
    | (refine AWp.cond ?_; simp -implicitDefEqProofs (maxSteps := 1000000) (disch := omega) only [go_sem, wrap64, Int.tdiv_eq_ediv_of_nonneg, Int.tmod_eq_emod_of_nonneg, Nat.reduceAdd, Nat.reduceMul, Nat.reduceEqDiff, Nat.reduceLT, Nat.reduceLeDiff, Int.reduceEq, Int.reduceNeg, Int.reduceToNat, reduceCtorEq, eq_self, Bool.false_eq_true, Bool.true_eq_false, ↓reduceIte]; try (refine ⟨fun hlt => ?_, fun hlt => ?_⟩ <;> (try simp only [decide_eq_true_eq, decide_eq_false_iff_not, beq_iff_eq, bne_iff_ne, ne_eq, beq_eq_false_iff_ne, bne_eq_false_iff_eq, Bool.true_eq_false, Bool.false_eq_true, Int.not_lt, Int.not_le, Decidable.not_not, gt_iff_lt, ge_iff_le, reduceCtorEq] at hlt) <;> (try exact hlt.elim)))
    | (refine AWp.block ?_)
    | ((first | refine gdO_split (fun hlt => ?_) (fun hlt => ?_) | refine tkO_split (fun hlt => ?_) (fun hlt => ?_) | refine opO_split (fun hlt => ?_) (fun hlt => ?_)) <;> have hgd := hlt <;> (try simp only [decide_eq_true_eq, decide_eq_false_iff_not, beq_iff_eq, bne_iff_ne, ne_eq, beq_eq_false_iff_ne, bne_eq_false_iff_eq, Bool.not_eq_true, Bool.not_eq_false, Bool.not_eq_eq_eq_not, Int.not_lt, Int.not_le, Decidable.not_not, gt_iff_lt, ge_iff_le] at hlt) <;> (simp -implicitDefEqProofs (maxSteps := 1000000) (disch := omega) only [go_sem, wrap64, Int.tdiv_eq_ediv_of_nonneg, Int.tmod_eq_emod_of_nonneg, Nat.reduceAdd, Nat.reduceMul, Nat.reduceEqDiff, Nat.reduceLT, Nat.reduceLeDiff, Int.reduceEq, Int.reduceNeg, Int.reduceToNat, reduceCtorEq, eq_self, Bool.false_eq_true, Bool.true_eq_false, ↓reduceIte, hgd]) <;> clear hgd)
    | (with_reducible refine And.intro ?_ ?_; · first | omega | assumption | exact ⟨_, _, rfl, rfl⟩)
    | fail
  · simp [atF, hlt]
  · rw [atF, if_neg (by omega)]
end Go.Proofs.YthhjcfejgoddlaaGreatDoor
end

section
set_option linter.unusedSimpArgs false
namespace Go.Proofs.YthhjcfejgoddlaaGreatDoor
open Go Go.Abs
attribute [local go_sem] wrap64 Int.tdiv_eq_ediv_of_nonneg Int.tmod_eq_emod_of_nonneg eq_self Bool.false_eq_true Bool.true_eq_false Bool.not_true Bool.not_false
attribute [local go_sem_proc] Nat.reduceAdd Nat.reduceMul Nat.reduceEqDiff Nat.reduceLT Nat.reduceLeDiff Int.reduceEq Int.reduceNeg Int.reduceToNat reduceCtorEq Int.reduceBNe Int.reduceBEq

/-- The sum of two sizes from place i on, with a carry. -/
def addF (xs ys : List Int) : Nat → Nat → Int → List Int
  | 0, _, c => [c]
  | m + 1, i, c => (atF xs i + atF ys i + c) % 1000000000 :: addF xs ys m (i + 1) ((atF xs i + atF ys i + c) / 1000000000)

def dig (xs : List Int) : Prop := ∀ x ∈ xs, 0 ≤ x ∧ x < 1000000000

theorem atF_dig {xs : List Int} (h : dig xs) (i : Int) : 0 ≤ atF xs i ∧ atF xs i < 1000000000 := by
  unfold atF
  split
  · by_cases hi : i.toNat < xs.length
    · have : xs.getD i.toNat 0 = xs[i.toNat] := by simp [List.getD, hi]
      rw [this]; exact h _ (List.getElem_mem hi)
    · simp [List.getD, hi]
  · omega

theorem gLm_app (k : Nat) (l : List Int) (x : Int) : gL k ((l ++ [x]).map eI) = .own k := by simp [gL]
theorem gSm_app (e sz k : Nat) (l : List Int) (x : Int) (f : Bool) (s : Sto) : gS e sz k ((l ++ [x]).map eI) f s = (k, .row e sz (l.map eI ++ [eI x]) f) :: s := by simp [gS]
attribute [go_sem] gLm_app gSm_app

def F129 (xs ys : List Int) : Nat × List Int × Int → St := fun ⟨i, out, carry⟩ =>
  ⟨[(0, L xs), (1, L ys), (5, gL 0 (out.map eI)), (6, I carry), (13, I (max xs.length ys.length : Nat)), (14, I i)], gS 3 1 0 (out.map eI) false [], 1, 0⟩

set_option maxHeartbeats 1000000 in
theorem plus_pc (xs ys : List Int) (hx : dig xs) (hy : dig ys) (lx : xs.length ≤ 1000000) (ly : ys.length ≤ 1000000) :
    PC Tryz.prog 129 [L xs, L ys] (L (addF xs ys (max xs.length ys.length) 0 0)) := by
  refine PCr.pc (PCr.of tab_ok Tryz.func129 rfl rfl rfl fun c hc hm => ?_)
  rw [show Tryz.f129.ntmps = _ from Tryz.ntmps129] at hc
  simp only [Tryz.f129]
  generalize hn : max xs.length ys.length = n
  repeat' first | (refine AWp.seq fun K hK => ?_) | ((first | refine AWp.region (by rw [hc]; rfl) ?_ | refine AWp.skip ?_ | refine AWp.exit ?_ | refine AWp.label ?_ | refine AWp.ret ?_ | refine appK_g ?_); simp -implicitDefEqProofs (maxSteps := 1000000) (disch := omega) only [go_sem, ↓reduceIte]) | ((first | refine hK _ ?_ | (clear hK; first | refine hK _ ?_ | (clear hK; first | refine hK _ ?_ | (clear hK; refine hK _ ?_)))); clear hK) | (refine AWp.cond ?_; simp -implicitDefEqProofs (maxSteps := 1000000) (disch := omega) only [go_sem, ↓reduceIte]; try (refine ⟨fun hlt => ?_, fun hlt => ?_⟩ <;> (try simp only [cla, clb, ne_eq, reduceCtorEq] at hlt) <;> (try exact hlt.elim))) | (refine AWp.block ?_) | ((first | refine gdO_split (fun hlt => ?_) (fun hlt => ?_) | refine tkO_split (fun hlt => ?_) (fun hlt => ?_) | refine opO_split (fun hlt => ?_) (fun hlt => ?_)) <;> have hgd := hlt <;> (try simp only [cla, clb, ne_eq, cld] at hlt) <;> (simp -implicitDefEqProofs (maxSteps := 1000000) (disch := omega) only [go_sem, ↓reduceIte, hgd]) <;> clear hgd) | (with_reducible refine And.intro ?_ ?_; · first | omega | assumption | exact ⟨_, _, rfl, rfl⟩) | fail
  refine AWp.loopInv (F129 xs ys) (fun a => n - a.1) (fun a => a.1 ≤ n ∧ 0 ≤ a.2.2 ∧ a.2.2 ≤ 1 ∧ a.2.1.length = a.1 ∧ a.2.1 ++ addF xs ys (n - a.1) a.1 a.2.2 = addF xs ys n 0 0) (0, [], 0) (by simp) (Sub.of0 hm id rfl ?_ ?_ (fun _ _ _ _ h => h)) ?_
  all_goals (try dsimp only)
  all_goals (first | omega | (simp -implicitDefEqProofs (maxSteps := 1000000) (disch := omega) only [F129, hn, id, go_sem, Nat.blt_eq, Nat.reduceAdd, Nat.reduceSub, Nat.reduceEqDiff, Nat.reduceLT, ↓reduceIte, and_true, true_and, AV.dat.injEq, DV.int.injEq, DV.bool.injEq, DV.lst.injEq, eq_self_iff_true]; first | done | omega | (simp; done) | (simp; omega)) | (simp; done) | (simp; omega) | skip)
  · rintro ⟨i, out, carry⟩ ⟨h1, h2, h3, h4, h5⟩ ih
    simp only at h1 h2 h3 h4 h5
    have a1 := atF_dig hx i
    have a2 := atF_dig hy i
    simp only [F129]
    repeat' first | (refine AWp.seq fun K hK => ?_) | ((first | refine AWp.region (by rw [hc]; rfl) ?_ | refine AWp.skip ?_ | refine AWp.exit ?_ | refine AWp.label ?_ | refine AWp.ret ?_ | refine appK_g ?_); simp -implicitDefEqProofs (maxSteps := 1000000) (disch := omega) only [go_sem, ↓reduceIte]) | ((first | refine hK _ ?_ | (clear hK; first | refine hK _ ?_ | (clear hK; first | refine hK _ ?_ | (clear hK; refine hK _ ?_)))); clear hK) | (refine AWp.cond ?_; simp -implicitDefEqProofs (maxSteps := 1000000) (disch := omega) only [go_sem, ↓reduceIte]; try (refine ⟨fun hlt => ?_, fun hlt => ?_⟩ <;> (try simp only [cla, clb, ne_eq, reduceCtorEq] at hlt) <;> (try exact hlt.elim))) | (refine AWp.block ?_) | ((first | refine gdO_split (fun hlt => ?_) (fun hlt => ?_) | refine tkO_split (fun hlt => ?_) (fun hlt => ?_) | refine opO_split (fun hlt => ?_) (fun hlt => ?_)) <;> have hgd := hlt <;> (try simp only [cla, clb, ne_eq, cld] at hlt) <;> (simp -implicitDefEqProofs (maxSteps := 1000000) (disch := omega) only [go_sem, ↓reduceIte, hgd]) <;> clear hgd) | (with_reducible refine And.intro ?_ ?_; · first | omega | assumption | exact ⟨_, _, rfl, rfl⟩) | ((first | refine ⟨_, at_pc _ _ (by omega), ?_⟩); simp -implicitDefEqProofs (maxSteps := 1000000) (disch := omega) only [go_sem, ↓reduceIte]) | fail
    · refine ih (i + 1, out ++ [(atF xs i + atF ys i + carry) % 1000000000], (atF xs i + atF ys i + carry) / 1000000000) _ ⟨?_, ?_, ?_, ?_, ?_⟩ ?_ (Sub.of0 hm (fun _ => 2) rfl ?_ ?_ ?_)
      all_goals (try dsimp only)
      all_goals (first | omega | (simp -implicitDefEqProofs (maxSteps := 1000000) (disch := omega) only [F129, id, go_sem, Nat.blt_eq, Nat.reduceAdd, Nat.reduceSub, Nat.reduceEqDiff, Nat.reduceLT, ↓reduceIte, and_true, true_and, AV.dat.injEq, DV.int.injEq, DV.bool.injEq, DV.lst.injEq, eq_self_iff_true]; first | done | omega | (simp; done) | (simp; omega)) | (simp; done) | (simp; omega) | skip)
      · rw [← h5, show n - i = (n - (i + 1)) + 1 by omega]; simp [addF]
    · rw [← h5, show n - i = 0 by omega]; simp [addF, eI]
end Go.Proofs.YthhjcfejgoddlaaGreatDoor
end

section
set_option linter.unusedSimpArgs false
set_option linter.unusedVariables false
namespace Go.Proofs.YthhjcfejgoddlaaGreatDoor
open Go Go.Abs
attribute [local go_sem] Oper.semAt_some

def iOf : Value → Int
  | .int _ n => n
  | _ => 0

/-- What down yields. -/
def downE (xs : List Int) : List (List DV) := (List.range xs.length).map fun k => [.int .i64 ((xs.length - 1 - k : Nat) : Int), .int .i64 (xs.getD (xs.length - 1 - k) 0)]

theorem downE_len (xs : List Int) : (downE xs).length = xs.length := by simp [downE]

theorem finRange_take_succ {n k : Nat} (h : k < n) : (List.finRange n).take (k + 1) = (List.finRange n).take k ++ [⟨k, h⟩] := by
  rw [List.take_add_one]
  simp [h]

set_option maxRecDepth 100000 in
set_option maxHeartbeats 2000000 in
theorem down_walk (F : Fence) (n : Nat) (h140 : F.fn 140) (hro : F.round = none) (hn : 1 ≤ n) (l Bs o b off len cap : Nat) (zs : List Int) (hzl : zs.length = len) (hlen : len ≤ 1099511627776) (A : Nat → Nat → Prop) (w : World) (hA1 : A Bs o) (hA2 : ∀ j, j < len → A b (off + j))
    (hw1 : w.cell? ⟨Bs, o, none⟩ = some (.slice (some ⟨b, off, none⟩) len cap)) (hw2 : ∀ j, j < len → w.cell? ⟨b, off + j, none⟩ = some (.int .i64 (zs.getD j 0)))
    (J Jx : List (Fin len) → World → Prop)
    (hY : ∀ pre x W, J pre W → pre.length < len → YieldAt F (n - 1) Tryz.prog l #[.int .i64 ((len - 1 - x.val : Nat) : Int), .int .i64 (zs.getD (len - 1 - x.val) 0)] W fun e W' =>
      (e = .returned (.bool true) ∧ J (pre ++ [x]) W' ∧ (∀ b o v, A b o → w.cell? ⟨b, o, none⟩ = some v → W.cell? ⟨b, o, none⟩ = some v → W'.cell? ⟨b, o, none⟩ = some v)) ∨ (e = .returned (.bool false) ∧ Jx (pre ++ [x]) W'))
    (W : World) (hst : ∀ b o v, A b o → w.cell? ⟨b, o, none⟩ = some v → W.cell? ⟨b, o, none⟩ = some v) (hBs : W.cell? ⟨Bs, o, none⟩ = some (.slice (some ⟨b, off, none⟩) len cap)) (hc : ∀ j, j < len → W.cell? ⟨b, off + j, none⟩ = some (.int .i64 (zs.getD j 0))) (h0 : J [] W) :
    CallsIn F n Tryz.prog 140 #[.func (.yield l) #[] #[], .pointer (some ⟨Bs, o, none⟩)] W fun e W' => (∃ v, e = .returned v) ∧
      ((∃ ys, ys = List.finRange len ∧ J ys W') ∨ (∃ pre, pre <+: List.finRange len ∧ Jx pre W')) := by
  refine callsIn_of_wp Tryz.func140 rfl h140 ?_ hro
  simp only [Tryz.ntmps140, List.size_toArray, List.length_cons, List.length_nil, Nat.reduceAdd, Nat.reduceSub, Array.replicate_succ, Array.replicate_zero, List.push_toArray, List.append_toArray, List.nil_append, List.cons_append]
  gi_wp2
  gi_loopw [3] (fun i wr => ∃ k : Nat, k ≤ len ∧ i = .int .i64 ((len : Int) - 1 - k) ∧ J ((List.finRange len).take k) wr ∧ (∀ b o v, A b o → w.cell? ⟨b, o, none⟩ = some v → wr.cell? ⟨b, o, none⟩ = some v))
    (fun i _ => (iOf i + 1).toNat)
  case atStart => exact ⟨0, Nat.zero_le _, by simp, h0, hst⟩
  case round =>
    obtain ⟨k, hk, rfl, hJs, hkp⟩ := hrel
    have hB' := hkp _ _ _ hA1 hw1
    by_cases hlt : k < len
    · have e : (len : Int) - 1 - k = ((len - 1 - k : Nat) : Int) := by omega
      have hc' := hkp _ _ _ (hA2 (len - 1 - k) (by omega)) (hw2 (len - 1 - k) (by omega))
      obtain ⟨fn, tmps, assign, body, hy, hR⟩ := hY _ ⟨k, hlt⟩ wr hJs (by simp; omega)
      simp only [e]
      simp only at hy
      generalize zs.getD (len - 1 - k) 0 = z at hc' hy
      have hi1 : len - 1 - k < len := by omega
      gi_wp2
      refine hR.mono ?_
      rintro e' W3 (⟨rfl, hJ3, hk3⟩ | ⟨rfl, hJx3⟩)
      · gi_wp2
        go_roundw
        case rel => exact ⟨k + 1, by omega, by first | (simp; done) | (simp; omega), by rw [finRange_take_succ hlt]; exact hJ3, fun b o v hA hv => hk3 b o v hA hv (hkp b o v hA hv)⟩
        case measure => first | (simp [iOf]; done) | (simp [iOf]; omega)
      · gi_wp2
        refine bodyPost_ret (results_none rfl _ _ _) rfl ?_
        exact ⟨⟨_, rfl⟩, .inr ⟨_, by rw [← finRange_take_succ hlt]; exact List.take_prefix _ _, hJx3⟩⟩
    · obtain rfl : k = len := by omega
      gi_wp2
      go_end0
      exact ⟨⟨_, rfl⟩, .inl ⟨_, rfl, by simpa [List.take_of_length_le] using hJs⟩⟩

set_option maxRecDepth 100000 in
set_option maxHeartbeats 2000000 in
theorem down_nil (F : Fence) (n : Nat) (h140 : F.fn 140) (hro : F.round = none) (l Bs o : Nat) (a : Option Addr) (cap : Nat) (J : List (Fin 0) → World → Prop)
    (W : World) (hBs : W.cell? ⟨Bs, o, none⟩ = some (.slice a 0 cap)) (h0 : J [] W) :
    CallsIn F n Tryz.prog 140 #[.func (.yield l) #[] #[], .pointer (some ⟨Bs, o, none⟩)] W fun e W' => (∃ v, e = .returned v) ∧ J [] W' := by
  refine callsIn_of_wp Tryz.func140 rfl h140 ?_ hro
  simp only [Tryz.ntmps140, List.size_toArray, List.length_cons, List.length_nil, Nat.reduceAdd, Nat.reduceSub, Array.replicate_succ, Array.replicate_zero, List.push_toArray, List.append_toArray, List.nil_append, List.cons_append]
  gi_wp2
  gi_loopw [3] (fun i wr => i = .int .i64 (-1) ∧ J [] wr) (fun _ _ => 0)
  case atStart => exact ⟨rfl, h0⟩
  case round =>
    obtain ⟨rfl, hJs⟩ := hrel
    gi_wp2
    go_end0
    exact ⟨⟨_, rfl⟩, hJs⟩

theorem callsIn_FF_n {ro : Option Nat} {m m' : Nat} {f : FuncId} {args : Array Value} {w : World} {R : Ending → World → Prop} (h : CallsIn (FF ro) m Tryz.prog f args w R) : CallsIn (FF ro) m' Tryz.prog f args w R :=
  ⟨h.1, fun cs _ => h.2 cs (room_FF _ _)⟩

theorem rd_int {A : Nat → Nat → Prop} {w : World} {k : IntKind} {n : Int} {v : Value} (h : RD A w (.int k n) v) : v = .int k n := by cases h; rfl

theorem downE_get (xs : List Int) (k : Fin (downE xs).length) : (downE xs)[k] = [.int .i64 ((xs.length - 1 - k.val : Nat) : Int), .int .i64 (xs.getD (xs.length - 1 - k.val) 0)] := by
  rw [Fin.getElem_fin]
  unfold downE
  rw [List.getElem_map, List.getElem_range]

theorem getD_ints {A : Nat → Nat → Prop} {w : World} {xs : List Int} {vs : Nat → Value} (h : ∀ i e j d, (xs.map eI)[i]? = some e → e[j]? = some d → RD A w d (vs (i * 1 + j))) : ∀ j, j < xs.length → vs j = .int .i64 (xs.getD j 0) := by
  intro j hj
  have := h j (eI (xs.getD j 0)) 0 (.int .i64 (xs.getD j 0)) (by simp [hj]) rfl
  simp only [Nat.mul_one, Nat.add_zero] at this
  exact rd_int this

theorem down_it (xs : List Int) (hlen : xs.length ≤ 1099511627776) : It Tryz.prog 140 [.cptr [dL xs]] (downE xs) := by
  refine ⟨enters_of' Tryz.func140 rfl rfl, fun A w vs _ hl hv => ?_⟩
  match vs, hl with
  | [v0], _ =>
  have h0 := hv 0 _ rfl
  simp only [List.getD_cons_zero] at h0
  cases h0 with
  | cptr cs b o us hm h =>
    have hsv := h 0 (dL xs) rfl
    obtain ⟨hc0, hA0⟩ := hm 0 (by simp)
    simp only [Nat.add_zero] at hc0 hA0
    have hN : (downE xs).length = xs.length := downE_len xs
    refine ⟨fun k => #[.int .i64 ((xs.length - 1 - k.val : Nat) : Int), .int .i64 (xs.getD (xs.length - 1 - k.val) 0)], fun k => ?_, ?_⟩
    · rw [downE_get]
      refine ⟨rfl, fun j d hj => ?_⟩
      rcases j with _ | _ | j
      · simp at hj; subst hj; exact .int _ _
      · simp at hj; subst hj
        have := RD.int (A := A) (w := w) .i64 (xs.getD (xs.length - 1 - k.val) 0)
        simpa using this
      · simp at hj
    · rw [hN]
      intro l J Jx W hW hJ hJx hY hJ0
      have hst : ∀ b o v, A b o → w.cell? ⟨b, o, none⟩ = some v → W.cell? ⟨b, o, none⟩ = some v := fun b o v _ hc => by
        rw [hW.cell (p := ⟨b, o, none⟩) (World.block_lt_of_cell? _ _ hc)]; exact hc
      have hW0 := hst _ _ _ hA0 hc0
      generalize hsv0 : us 0 = sv at hsv hc0 hW0
      simp only [dL] at hsv
      generalize hd : xs.map eI = es0 at hsv
      cases hsv with
      | emp a cap =>
        have hx : xs = [] := by simpa using hd
        subst hx
        refine callsIn_FF_n (m := 1) ((down_nil (FF none) 1 trivial rfl l b o a cap J W hW0 hJ0).mono fun e W' ⟨he, hj⟩ => ⟨he, .inl ⟨_, rfl, hj⟩⟩)
      | lst es b2 o2 sz cap vs2 hs hz hc hm2 h2 =>
        subst hd
        have hel : (xs.map eI).length = xs.length := by simp
        rw [hel] at hc hm2 hc0 hW0
        by_cases hx : xs = []
        · subst hx
          refine callsIn_FF_n (m := 1) ((down_nil (FF none) 1 trivial rfl l b o _ cap J W hW0 hJ0).mono fun e W' ⟨he, hj⟩ => ⟨he, .inl ⟨_, rfl, hj⟩⟩)
        · have hsz : sz = 1 := by
            have := hs (eI (xs.getD 0 0)) (List.mem_map.2 ⟨xs.getD 0 0, by
              have h0 : 0 < xs.length := List.length_pos_iff.2 hx
              have : xs.getD 0 0 = xs[0] := by simp [List.getD, h0]
              rw [this]; exact List.getElem_mem h0, rfl⟩)
            simpa [eI] using this.symm
          subst hsz
          have hcell : ∀ j, j < xs.length → w.cell? ⟨b2, o2 + j, none⟩ = some (.int .i64 (xs.getD j 0)) ∧ A b2 (o2 + j) := fun j hj => by
            obtain ⟨g1, g2⟩ := hm2 j (by omega)
            rw [getD_ints h2 j hj] at g1
            exact ⟨g1, g2⟩
          refine callsIn_FF_n (m := 1) ((down_walk (FF none) 1 trivial rfl (Nat.le_refl _) l b o b2 o2 xs.length cap xs rfl hlen A w hA0 (fun j hj => (hcell j hj).2) hc0 (fun j hj => (hcell j hj).1) J Jx ?_ W hst hW0 (fun j hj => hst _ _ _ (hcell j hj).2 (hcell j hj).1) hJ0).mono fun e W' h => h)
          exact fun pre x W1 hj hl => hY pre x W1 hj hl
end Go.Proofs.YthhjcfejgoddlaaGreatDoor
end

section
set_option linter.unusedSimpArgs false
set_option linter.unusedVariables false
set_option maxRecDepth 100000
namespace Go.Proofs.YthhjcfejgoddlaaGreatDoor
open Go Go.Abs
attribute [local go_sem] wrap64 Int.tdiv_eq_ediv_of_nonneg Int.tmod_eq_emod_of_nonneg eq_self Bool.false_eq_true Bool.true_eq_false Bool.not_true Bool.not_false
attribute [local go_sem_proc] Nat.reduceAdd Nat.reduceMul Nat.reduceEqDiff Nat.reduceLT Nat.reduceLeDiff Int.reduceEq Int.reduceNeg Int.reduceToNat reduceCtorEq Int.reduceBNe Int.reduceBEq

attribute [go_sem] setsT asgT List.zip_cons_cons List.zip_nil_right List.zip_nil_left rndQ

set_option maxHeartbeats 1000000 in
theorem down_pc (xs : List Int) : PC Tryz.prog 110 [L xs] (.dat (.fn 140 [.cptr [dL xs]])) := by
  refine PCr.pc (PCr.of tab_ok Tryz.func110 rfl rfl rfl fun c hc hm => ?_)
  rw [show Tryz.f110.ntmps = _ from Tryz.ntmps110] at hc
  simp only [Tryz.f110]
  repeat' first | (refine AWp.seq fun K hK => ?_) | ((first | refine AWp.region (by rw [hc]; rfl) ?_ | refine AWp.skip ?_ | refine AWp.exit ?_ | refine AWp.label ?_ | refine AWp.ret ?_ | refine appK_g ?_); simp -implicitDefEqProofs (maxSteps := 1000000) (disch := omega) only [go_sem, ↓reduceIte]) | ((first | refine hK _ ?_ | (clear hK; first | refine hK _ ?_ | (clear hK; first | refine hK _ ?_ | (clear hK; refine hK _ ?_)))); clear hK) | (refine AWp.cond ?_; simp -implicitDefEqProofs (maxSteps := 1000000) (disch := omega) only [go_sem, ↓reduceIte]; try (refine ⟨fun hlt => ?_, fun hlt => ?_⟩ <;> (try simp only [cla, clb, ne_eq, reduceCtorEq] at hlt) <;> (try exact hlt.elim))) | (refine AWp.block ?_) | ((first | refine gdO_split (fun hlt => ?_) (fun hlt => ?_) | refine tkO_split (fun hlt => ?_) (fun hlt => ?_) | refine opO_split (fun hlt => ?_) (fun hlt => ?_)) <;> have hgd := hlt <;> (try simp only [cla, clb, ne_eq, cld] at hlt) <;> (simp -implicitDefEqProofs (maxSteps := 1000000) (disch := omega) only [go_sem, ↓reduceIte, hgd]) <;> clear hgd) | (with_reducible refine And.intro ?_ ?_; · first | omega | assumption | exact ⟨_, _, rfl, rfl⟩) | fail

set_option maxHeartbeats 1000000 in
theorem isNaN_pc (x : Int) : PC Tryz.prog 151 [I x] (B false) := by
  refine PCr.pc (PCr.of tab_ok Tryz.func151 rfl rfl rfl fun c hc hm => ?_)
  rw [show Tryz.f151.ntmps = _ from Tryz.ntmps151] at hc
  simp only [Tryz.f151]
  repeat' first | (refine AWp.seq fun K hK => ?_) | ((first | refine AWp.region (by rw [hc]; rfl) ?_ | refine AWp.skip ?_ | refine AWp.exit ?_ | refine AWp.label ?_ | refine AWp.ret ?_ | refine appK_g ?_); simp -implicitDefEqProofs (maxSteps := 1000000) (disch := omega) only [go_sem, ↓reduceIte]) | ((first | refine hK _ ?_ | (clear hK; first | refine hK _ ?_ | (clear hK; first | refine hK _ ?_ | (clear hK; refine hK _ ?_)))); clear hK) | (refine AWp.cond ?_; simp -implicitDefEqProofs (maxSteps := 1000000) (disch := omega) only [go_sem, ↓reduceIte]; try (refine ⟨fun hlt => ?_, fun hlt => ?_⟩ <;> (try simp only [cla, clb, ne_eq, reduceCtorEq] at hlt) <;> (try exact hlt.elim))) | (refine AWp.block ?_) | ((first | refine gdO_split (fun hlt => ?_) (fun hlt => ?_) | refine tkO_split (fun hlt => ?_) (fun hlt => ?_) | refine opO_split (fun hlt => ?_) (fun hlt => ?_)) <;> have hgd := hlt <;> (try simp only [cla, clb, ne_eq, cld] at hlt) <;> (simp -implicitDefEqProofs (maxSteps := 1000000) (disch := omega) only [go_sem, ↓reduceIte, hgd]) <;> clear hgd) | (with_reducible refine And.intro ?_ ?_; · first | omega | assumption | exact ⟨_, _, rfl, rfl⟩) | fail
  simp

def cmpI (x y : Int) : Int := if x < y then -1 else if x = y then 0 else 1

set_option maxHeartbeats 1000000 in
theorem cmp_pc (x y : Int) : PC Tryz.prog 125 [I x, I y] (I (cmpI x y)) := by
  refine PCr.pc (PCr.of tab_ok Tryz.func125 rfl rfl rfl fun c hc hm => ?_)
  rw [show Tryz.f125.ntmps = _ from Tryz.ntmps125] at hc
  simp only [Tryz.f125]
  repeat' first | (refine AWp.seq fun K hK => ?_) | ((first | refine AWp.region (by rw [hc]; rfl) ?_ | refine AWp.skip ?_ | refine AWp.exit ?_ | refine AWp.label ?_ | refine AWp.ret ?_ | refine appK_g ?_); simp -implicitDefEqProofs (maxSteps := 1000000) (disch := omega) only [go_sem, ↓reduceIte]) | ((first | refine hK _ ?_ | (clear hK; first | refine hK _ ?_ | (clear hK; first | refine hK _ ?_ | (clear hK; refine hK _ ?_)))); clear hK) | (refine AWp.cond ?_; simp -implicitDefEqProofs (maxSteps := 1000000) (disch := omega) only [go_sem, ↓reduceIte]; try (refine ⟨fun hlt => ?_, fun hlt => ?_⟩ <;> (try simp only [cla, clb, ne_eq, reduceCtorEq] at hlt) <;> (try exact hlt.elim))) | (refine AWp.block ?_) | ((first | refine gdO_split (fun hlt => ?_) (fun hlt => ?_) | refine tkO_split (fun hlt => ?_) (fun hlt => ?_) | refine opO_split (fun hlt => ?_) (fun hlt => ?_)) <;> have hgd := hlt <;> (try simp only [cla, clb, ne_eq, cld] at hlt) <;> (simp -implicitDefEqProofs (maxSteps := 1000000) (disch := omega) only [go_sem, ↓reduceIte, hgd]) <;> clear hgd) | (with_reducible refine And.intro ?_ ?_; · first | omega | assumption | exact ⟨_, _, rfl, rfl⟩) | ((first | refine ⟨_, isNaN_pc _, ?_⟩); simp -implicitDefEqProofs (maxSteps := 1000000) (disch := omega) only [go_sem, ↓reduceIte]) | fail
  all_goals (simp only [cmpI]; (repeat' split) <;> omega)

def cmpD (xs ys : List Int) : Nat → Int
  | 0 => 0
  | k + 1 => if cmpI (xs.getD k 0) (ys.getD k 0) = 0 then cmpD xs ys k else cmpI (xs.getD k 0) (ys.getD k 0)
def cmpL (xs ys : List Int) : Int := if cmpI xs.length ys.length = 0 then cmpD xs ys xs.length else cmpI xs.length ys.length

theorem prefix_last {n : Nat} {p : List (Fin n)} {k : Fin n} (h : p ++ [k] <+: List.finRange n) : p.length = k.val ∧ ∀ i (hi : i < k.val), (⟨i, by omega⟩ : Fin n) ∈ p := by
  obtain ⟨t, ht⟩ := h
  have hk : p.length = k.val := by
    have h1 : (p ++ [k] ++ t)[p.length]? = some k := by simp
    rw [ht] at h1
    obtain ⟨h2, h3⟩ := List.getElem?_eq_some_iff.1 h1
    simp at h3
    rw [← h3]
  refine ⟨hk, fun i hi => ?_⟩
  have h1 : (p ++ [k] ++ t)[i]? = some ⟨i, by omega⟩ := by
    rw [ht, List.getElem?_eq_getElem (by simp; omega)]
    simp
  rw [List.append_assoc, List.getElem?_append_left (by omega)] at h1
  exact List.mem_of_getElem? h1

theorem cmpD_stop (xs ys : List Int) (j : Nat) (hne : cmpI (xs.getD j 0) (ys.getD j 0) ≠ 0) : ∀ m, j < m → (∀ i, j < i → i < m → cmpI (xs.getD i 0) (ys.getD i 0) = 0) → cmpD xs ys m = cmpI (xs.getD j 0) (ys.getD j 0)
  | 0, h, _ => by omega
  | m + 1, h, he => by
    unfold cmpD
    by_cases hj : j = m
    · subst hj; rw [if_neg hne]
    · rw [if_pos (he m (by omega) (by omega))]
      exact cmpD_stop xs ys j hne m (by omega) (fun i h1 h2 => he i h1 (by omega))

theorem cmpD_zero (xs ys : List Int) : ∀ m, (∀ i, i < m → cmpI (xs.getD i 0) (ys.getD i 0) = 0) → cmpD xs ys m = 0
  | 0, _ => rfl
  | m + 1, h => by unfold cmpD; rw [if_pos (h m (by omega))]; exact cmpD_zero xs ys m (fun i hi => h i (by omega))

set_option maxHeartbeats 1000000 in
theorem compare_pc (xs ys : List Int) (lx : xs.length ≤ 1000000) (ly : ys.length ≤ 1000000) : PC Tryz.prog 82 [L xs, L ys] (I (cmpL xs ys)) := by
  refine PCr.pc (PCr.of tab_ok Tryz.func82 rfl rfl rfl fun c hc hm => ?_)
  rw [show Tryz.f82.ntmps = _ from Tryz.ntmps82] at hc
  simp only [Tryz.f82]
  repeat' first | (refine AWp.seq fun K hK => ?_) | ((first | refine AWp.region (by rw [hc]; rfl) ?_ | refine AWp.skip ?_ | refine AWp.exit ?_ | refine AWp.label ?_ | refine AWp.ret ?_ | refine appK_g ?_); simp -implicitDefEqProofs (maxSteps := 1000000) (disch := omega) only [go_sem, ↓reduceIte]) | ((first | refine hK _ ?_ | (clear hK; first | refine hK _ ?_ | (clear hK; first | refine hK _ ?_ | (clear hK; refine hK _ ?_)))); clear hK) | (refine AWp.cond ?_; simp -implicitDefEqProofs (maxSteps := 1000000) (disch := omega) only [go_sem, ↓reduceIte]; try (refine ⟨fun hlt => ?_, fun hlt => ?_⟩ <;> (try simp only [cla, clb, ne_eq, reduceCtorEq] at hlt) <;> (try exact hlt.elim))) | (refine AWp.block ?_) | ((first | refine gdO_split (fun hlt => ?_) (fun hlt => ?_) | refine tkO_split (fun hlt => ?_) (fun hlt => ?_) | refine opO_split (fun hlt => ?_) (fun hlt => ?_)) <;> have hgd := hlt <;> (try simp only [cla, clb, ne_eq, cld] at hlt) <;> (simp -implicitDefEqProofs (maxSteps := 1000000) (disch := omega) only [go_sem, ↓reduceIte, hgd]) <;> clear hgd) | (with_reducible refine And.intro ?_ ?_; · first | omega | assumption | exact ⟨_, _, rfl, rfl⟩) | ((first | refine ⟨_, cmp_pc _ _, ?_⟩ | refine ⟨_, down_pc _, ?_⟩); simp -implicitDefEqProofs (maxSteps := 1000000) (disch := omega) only [go_sem, ↓reduceIte]) | fail
  · simp only [cmpL, if_neg hlt]
  · have hxy : xs.length = ys.length := by
      simp only [cmpI] at hlt
      split at hlt
      · simp at hlt
      · split at hlt
        · omega
        · simp at hlt
    have hcl : cmpL xs ys = cmpD xs ys xs.length := by simp only [cmpL, if_pos hlt]
    have hN := downE_len xs
    refine AWp.rangeF 140 [.cptr [dL xs]] (downE xs) [(6, 19), (7, 20)] (by simp [go_sem]) (down_it xs (by omega)) (fun el hel => ?_) (by rw [hc]; rfl) (.seq (.one _ _ _ _ _ _) (.one _ _ _ _ _ _)) (by rw [hc]; rfl) hm.2
      (fun pre s n => s = [(1, .box [I 0] false), (0, .box [L ys] false)] ∧ n = 2 ∧ ∀ k ∈ pre, cmpI (xs.getD (xs.length - 1 - k.val) 0) (ys.getD (xs.length - 1 - k.val) 0) = 0)
      (fun code pre s n => code = .ret ∧ n = 2 ∧ ∃ p k, pre = p ++ [k] ∧ (∀ k ∈ p, cmpI (xs.getD (xs.length - 1 - k.val) 0) (ys.getD (xs.length - 1 - k.val) 0) = 0) ∧
        cmpI (xs.getD (xs.length - 1 - k.val) 0) (ys.getD (xs.length - 1 - k.val) 0) ≠ 0 ∧ s = [(1, .box [I (cmpI (xs.getD (xs.length - 1 - k.val) 0) (ys.getD (xs.length - 1 - k.val) 0))] false), (0, .box [L ys] false)])
      ⟨rfl, rfl, by simp⟩ ?_ ?_ ?_
    · obtain ⟨k, _, rfl⟩ := List.mem_map.1 hel; rfl
    · intro c' l pre k s n hc' hm' hlen hn hI
      have hc := hc'.trans hc
      obtain ⟨rfl, rfl, hpre⟩ := hI
      have hk : k.val < xs.length := by have := k.isLt; omega
      rw [downE_get]
      simp only at hm' hn
      simp -implicitDefEqProofs (maxSteps := 1000000) (disch := omega) only [go_sem, ↓reduceIte]
      repeat' first | (refine AWp.seq fun K hK => ?_) | ((first | refine AWp.region (by rw [hc]; rfl) ?_ | refine AWp.skip ?_ | refine AWp.exit ?_ | refine AWp.label ?_ | refine AWp.ret ?_ | refine appK_g ?_); simp -implicitDefEqProofs (maxSteps := 1000000) (disch := omega) only [go_sem, ↓reduceIte]) | ((first | refine hK _ ?_ | (clear hK; first | refine hK _ ?_ | (clear hK; first | refine hK _ ?_ | (clear hK; refine hK _ ?_)))); clear hK) | (refine AWp.cond ?_; simp -implicitDefEqProofs (maxSteps := 1000000) (disch := omega) only [go_sem, ↓reduceIte]; try (refine ⟨fun hlt => ?_, fun hlt => ?_⟩ <;> (try simp only [cla, clb, ne_eq, reduceCtorEq] at hlt) <;> (try exact hlt.elim))) | (refine AWp.block ?_) | ((first | refine gdO_split (fun hlt => ?_) (fun hlt => ?_) | refine tkO_split (fun hlt => ?_) (fun hlt => ?_) | refine opO_split (fun hlt => ?_) (fun hlt => ?_)) <;> have hgd := hlt <;> (try simp only [cla, clb, ne_eq, cld] at hlt) <;> (simp -implicitDefEqProofs (maxSteps := 1000000) (disch := omega) only [go_sem, ↓reduceIte, hgd]) <;> clear hgd) | (with_reducible refine And.intro ?_ ?_; · first | omega | assumption | exact ⟨_, _, rfl, rfl⟩) | ((first | refine ⟨_, cmp_pc _ _, ?_⟩); simp -implicitDefEqProofs (maxSteps := 1000000) (disch := omega) only [go_sem, ↓reduceIte]) | fail
      · exact ⟨pre, k, rfl, hpre, hlt, rfl⟩
      · intro k' hk'
        rcases List.mem_append.1 hk' with h | h
        · exact hpre k' h
        · rw [List.mem_singleton.1 h]; exact hlt
    · rintro s n ⟨rfl, rfl, hall⟩
      simp -implicitDefEqProofs (maxSteps := 1000000) (disch := omega) only [go_sem, ↓reduceIte]
      repeat' first | (refine AWp.seq fun K hK => ?_) | ((first | refine AWp.region (by rw [hc]; rfl) ?_ | refine AWp.skip ?_ | refine AWp.exit ?_ | refine AWp.label ?_ | refine AWp.ret ?_ | refine appK_g ?_); simp -implicitDefEqProofs (maxSteps := 1000000) (disch := omega) only [go_sem, ↓reduceIte]) | ((first | refine hK _ ?_ | (clear hK; first | refine hK _ ?_ | (clear hK; first | refine hK _ ?_ | (clear hK; refine hK _ ?_)))); clear hK) | (refine AWp.cond ?_; simp -implicitDefEqProofs (maxSteps := 1000000) (disch := omega) only [go_sem, ↓reduceIte]; try (refine ⟨fun hlt => ?_, fun hlt => ?_⟩ <;> (try simp only [cla, clb, ne_eq, reduceCtorEq] at hlt) <;> (try exact hlt.elim))) | (refine AWp.block ?_) | ((first | refine gdO_split (fun hlt => ?_) (fun hlt => ?_) | refine tkO_split (fun hlt => ?_) (fun hlt => ?_) | refine opO_split (fun hlt => ?_) (fun hlt => ?_)) <;> have hgd := hlt <;> (try simp only [cla, clb, ne_eq, cld] at hlt) <;> (simp -implicitDefEqProofs (maxSteps := 1000000) (disch := omega) only [go_sem, ↓reduceIte, hgd]) <;> clear hgd) | (with_reducible refine And.intro ?_ ?_; · first | omega | assumption | exact ⟨_, _, rfl, rfl⟩) | fail
      rw [hcl, cmpD_zero xs ys xs.length (fun i hi => ?_)]
      have := hall ⟨xs.length - 1 - i, by omega⟩ (List.mem_finRange _)
      simp only at this
      rw [show xs.length - 1 - (xs.length - 1 - i) = i by omega] at this
      exact this
    · rintro code pre s n hpf ⟨rfl, rfl, p, k, rfl, hp, hne, rfl⟩
      simp -implicitDefEqProofs (maxSteps := 1000000) (disch := omega) only [go_sem, ↓reduceIte]
      repeat' first | (refine AWp.seq fun K hK => ?_) | ((first | refine AWp.region (by rw [hc]; rfl) ?_ | refine AWp.skip ?_ | refine AWp.exit ?_ | refine AWp.label ?_ | refine AWp.ret ?_ | refine appK_g ?_); simp -implicitDefEqProofs (maxSteps := 1000000) (disch := omega) only [go_sem, ↓reduceIte]) | ((first | refine hK _ ?_ | (clear hK; first | refine hK _ ?_ | (clear hK; first | refine hK _ ?_ | (clear hK; refine hK _ ?_)))); clear hK) | (refine AWp.cond ?_; simp -implicitDefEqProofs (maxSteps := 1000000) (disch := omega) only [go_sem, ↓reduceIte]; try (refine ⟨fun hlt => ?_, fun hlt => ?_⟩ <;> (try simp only [cla, clb, ne_eq, reduceCtorEq] at hlt) <;> (try exact hlt.elim))) | (refine AWp.block ?_) | ((first | refine gdO_split (fun hlt => ?_) (fun hlt => ?_) | refine tkO_split (fun hlt => ?_) (fun hlt => ?_) | refine opO_split (fun hlt => ?_) (fun hlt => ?_)) <;> have hgd := hlt <;> (try simp only [cla, clb, ne_eq, cld] at hlt) <;> (simp -implicitDefEqProofs (maxSteps := 1000000) (disch := omega) only [go_sem, ↓reduceIte, hgd]) <;> clear hgd) | (with_reducible refine And.intro ?_ ?_; · first | omega | assumption | exact ⟨_, _, rfl, rfl⟩) | fail
      obtain ⟨hl, hm2⟩ := prefix_last hpf
      have hk : k.val < xs.length := by have := k.isLt; omega
      rw [hcl, cmpD_stop xs ys (xs.length - 1 - k.val) hne xs.length (by omega) (fun i h1 h2 => ?_)]
      have := hp _ (hm2 (xs.length - 1 - i) (by omega))
      simp only at this
      rw [show xs.length - 1 - (xs.length - 1 - i) = i by omega] at this
      exact this
end Go.Proofs.YthhjcfejgoddlaaGreatDoor
end

section
set_option linter.unusedSimpArgs false
set_option linter.unusedVariables false
set_option maxRecDepth 100000
namespace Go.Proofs.YthhjcfejgoddlaaGreatDoor
open Go Go.Abs
attribute [local go_sem] wrap64 Int.tdiv_eq_ediv_of_nonneg Int.tmod_eq_emod_of_nonneg eq_self Bool.false_eq_true Bool.true_eq_false Bool.not_true Bool.not_false
attribute [local go_sem_proc] Nat.reduceAdd Nat.reduceMul Nat.reduceEqDiff Nat.reduceLT Nat.reduceLeDiff Int.reduceEq Int.reduceNeg Int.reduceToNat reduceCtorEq Int.reduceBNe Int.reduceBEq

/-! Parts and their value. -/
def val : List Int → Int
  | [] => 0
  | x :: l => x + 1000000000 * val l

def tr : List Int → List Int
  | [] => []
  | x :: l => if tr l = [] then (if x = 0 then [] else [x]) else x :: tr l

def D (n : Nat) : List Int := if n = 0 then [] else ((n % 1000000000 : Nat) : Int) :: D (n / 1000000000)
termination_by n
decreasing_by omega

theorem D_zero : D 0 = [] := by rw [D]; simp
theorem D_pos {n : Nat} (h : n ≠ 0) : D n = ((n % 1000000000 : Nat) : Int) :: D (n / 1000000000) := by rw [D]; simp [h]

theorem dig_cons {x : Int} {l : List Int} : dig (x :: l) ↔ (0 ≤ x ∧ x < 1000000000) ∧ dig l := by
  simp [dig]
theorem dig_nil : dig [] := by simp [dig]

theorem val_nonneg : ∀ {l : List Int}, dig l → 0 ≤ val l
  | [], _ => by simp [val]
  | x :: l, h => by
    have h := dig_cons.1 h
    have := val_nonneg h.2
    simp only [val]; omega

theorem dig_D (n : Nat) : dig (D n) := by
  induction n using Nat.strongRecOn with
  | _ n ih =>
    by_cases h : n = 0
    · subst h; rw [D_zero]; exact dig_nil
    · rw [D_pos h]
      exact dig_cons.2 ⟨by omega, ih _ (by omega)⟩

theorem val_D (n : Nat) : val (D n) = n := by
  induction n using Nat.strongRecOn with
  | _ n ih =>
    by_cases h : n = 0
    · subst h; rw [D_zero]; rfl
    · rw [D_pos h]
      simp only [val]
      rw [ih _ (by omega)]
      omega

theorem D_nil {n : Nat} : D n = [] ↔ n = 0 := by
  constructor
  · intro h
    by_cases h0 : n = 0
    · exact h0
    · rw [D_pos h0] at h; cases h
  · intro h; subst h; exact D_zero

theorem tr_D : ∀ {l : List Int}, dig l → tr l = D (val l).toNat
  | [], _ => by simp [tr, val, D_zero]
  | x :: l, h => by
    have h := dig_cons.1 h
    have hv := val_nonneg h.2
    rw [tr, tr_D h.2]
    by_cases h0 : (val l).toNat = 0
    · have h1 : val l = 0 := by omega
      rw [if_pos (D_nil.2 h0)]
      simp only [val, h1]
      by_cases hx : x = 0
      · subst hx; simp [D_zero]
      · rw [if_neg hx, D_pos (by omega)]
        have e1 : (x + 1000000000 * 0).toNat % 1000000000 = x.toNat := by omega
        have e2 : (x + 1000000000 * 0).toNat / 1000000000 = 0 := by omega
        rw [e1, e2, D_zero]
        simp; omega
    · rw [if_neg (fun e => h0 (D_nil.1 e))]
      simp only [val]
      rw [D_pos (n := (x + 1000000000 * val l).toNat) (by omega)]
      have e1 : (x + 1000000000 * val l).toNat % 1000000000 = x.toNat := by omega
      have e2 : (x + 1000000000 * val l).toNat / 1000000000 = (val l).toNat := by omega
      rw [e1, e2]
      congr 1
      omega

theorem tr_snoc : ∀ (l : List Int), tr (l ++ [0]) = tr l
  | [] => by simp [tr]
  | x :: l => by simp only [List.cons_append, tr, tr_snoc l]

theorem tr_snoc_ne : ∀ (l : List Int) {x : Int}, x ≠ 0 → tr (l ++ [x]) = l ++ [x]
  | [], x, h => by simp [tr, h]
  | y :: l, x, h => by
    simp only [List.cons_append, tr, tr_snoc_ne l h]
    simp

theorem tr_length : ∀ (l : List Int), (tr l).length ≤ l.length
  | [] => by simp [tr]
  | x :: l => by
    have := tr_length l
    rw [tr]
    split
    · split <;> simp
    · simp; omega

theorem dig_take {l : List Int} (h : dig l) (n : Nat) : dig (l.take n) := fun x hx => h x (List.mem_of_mem_take hx)

def F111 (xs : List Int) : Nat → St := fun m => ⟨[(0, L (xs.take m))], [], 0, 0⟩

theorem take_last {xs : List Int} {m : Nat} (h : m < xs.length) : xs.take (m + 1) = xs.take m ++ [xs.getD m 0] := by
  rw [List.take_add_one]
  simp [h]

set_option maxHeartbeats 1000000 in
theorem trimmed_pc (xs : List Int) (lx : xs.length ≤ 1000000) : PC Tryz.prog 111 [L xs] (L (tr xs)) := by
  refine PCr.pc (PCr.of tab_ok Tryz.func111 rfl rfl rfl fun c hc hm => ?_)
  rw [show Tryz.f111.ntmps = _ from Tryz.ntmps111] at hc
  simp only [Tryz.f111]
  repeat' first | (refine AWp.seq fun K hK => ?_) | ((first | refine AWp.region (by rw [hc]; rfl) ?_ | refine AWp.skip ?_ | refine AWp.exit ?_ | refine AWp.label ?_ | refine AWp.ret ?_ | refine appK_g ?_); simp -implicitDefEqProofs (maxSteps := 1000000) (disch := omega) only [go_sem, ↓reduceIte]) | ((first | refine hK _ ?_ | (clear hK; first | refine hK _ ?_ | (clear hK; first | refine hK _ ?_ | (clear hK; refine hK _ ?_)))); clear hK) | (refine AWp.cond ?_; simp -implicitDefEqProofs (maxSteps := 1000000) (disch := omega) only [go_sem, ↓reduceIte]; try (refine ⟨fun hlt => ?_, fun hlt => ?_⟩ <;> (try simp only [cla, clb, ne_eq, reduceCtorEq] at hlt) <;> (try exact hlt.elim))) | (refine AWp.block ?_) | ((first | refine gdO_split (fun hlt => ?_) (fun hlt => ?_) | refine tkO_split (fun hlt => ?_) (fun hlt => ?_) | refine opO_split (fun hlt => ?_) (fun hlt => ?_)) <;> have hgd := hlt <;> (try simp only [cla, clb, ne_eq, cld] at hlt) <;> (simp -implicitDefEqProofs (maxSteps := 1000000) (disch := omega) only [go_sem, ↓reduceIte, hgd]) <;> clear hgd) | (with_reducible refine And.intro ?_ ?_; · first | omega | assumption | exact ⟨_, _, rfl, rfl⟩) | fail
  refine AWp.loopInv (F111 xs) (fun m => m) (fun m => m ≤ xs.length ∧ tr (xs.take m) = tr xs) xs.length (by simp) (Sub.of0 hm id rfl ?_ ?_ (fun _ _ _ _ h => h)) ?_
  all_goals (try dsimp only)
  all_goals (first | omega | (simp -implicitDefEqProofs (maxSteps := 1000000) (disch := omega) only [F111, id, go_sem, Nat.blt_eq, Nat.reduceAdd, Nat.reduceSub, Nat.reduceEqDiff, Nat.reduceLT, ↓reduceIte, and_true, true_and, AV.dat.injEq, DV.int.injEq, DV.bool.injEq, DV.lst.injEq, eq_self_iff_true]; first | done | omega | (simp; done) | (simp; omega)) | (simp; done) | (simp; omega) | skip)
  rintro m ⟨h1, h2⟩ ih
  have hl : (xs.take m).length = m := by simp; omega
  simp only [F111]
  repeat' first | (refine AWp.seq fun K hK => ?_) | ((first | refine AWp.region (by rw [hc]; rfl) ?_ | refine AWp.skip ?_ | refine AWp.exit ?_ | refine AWp.label ?_ | refine AWp.ret ?_ | refine appK_g ?_); simp -implicitDefEqProofs (maxSteps := 1000000) (disch := omega) only [go_sem, ↓reduceIte, hl]) | ((first | refine hK _ ?_ | (clear hK; first | refine hK _ ?_ | (clear hK; first | refine hK _ ?_ | (clear hK; refine hK _ ?_)))); clear hK) | (refine AWp.cond ?_; simp -implicitDefEqProofs (maxSteps := 1000000) (disch := omega) only [go_sem, ↓reduceIte, hl]; try (refine ⟨fun hlt => ?_, fun hlt => ?_⟩ <;> (try simp only [cla, clb, ne_eq, reduceCtorEq] at hlt) <;> (try exact hlt.elim))) | (refine AWp.block ?_) | ((first | refine gdO_split (fun hlt => ?_) (fun hlt => ?_) | refine tkO_split (fun hlt => ?_) (fun hlt => ?_) | refine opO_split (fun hlt => ?_) (fun hlt => ?_)) <;> have hgd := hlt <;> (try simp only [cla, clb, ne_eq, cld] at hlt) <;> (simp -implicitDefEqProofs (maxSteps := 1000000) (disch := omega) only [go_sem, ↓reduceIte, hl, hgd]) <;> clear hgd) | (with_reducible refine And.intro ?_ ?_; · first | omega | assumption | exact ⟨_, _, rfl, rfl⟩) | fail
  · refine ih (m - 1) _ ⟨?_, ?_⟩ ?_ (Sub.of0 hm id rfl ?_ ?_ (fun _ _ _ _ h => h))
    all_goals (try dsimp only)
    all_goals (first | omega | (simp -implicitDefEqProofs (maxSteps := 1000000) (disch := omega) only [F111, List.take_take, Nat.min_eq_left, id, go_sem, Nat.blt_eq, Nat.reduceAdd, Nat.reduceSub, Nat.reduceEqDiff, Nat.reduceLT, ↓reduceIte, and_true, true_and, AV.dat.injEq, DV.int.injEq, DV.bool.injEq, DV.lst.injEq, eq_self_iff_true]; first | done | omega | (simp; done) | (simp; omega)) | (simp; done) | (simp; omega) | skip)
    rw [← h2, show m = m - 1 + 1 by omega, take_last (by omega)]
    have : xs.getD (m - 1) 0 = 0 := by
      have h3 := hlt
      rw [show List.take m xs = List.take (m - 1) xs ++ [xs.getD (m - 1) 0] by rw [← take_last (by omega)]; congr 1; omega] at h3
      have hl2 : (List.take (m - 1) xs).length = m - 1 := by simp; omega
      simpa [List.getD, List.getElem?_append, hl2] using h3
    rw [show m - 1 + 1 - 1 = m - 1 by omega, this, tr_snoc]
  · have h3 := hlt
    have e : List.take m xs = List.take (m - 1) xs ++ [xs.getD (m - 1) 0] := by rw [← take_last (by omega)]; congr 1; omega
    rw [e] at h3
    have hl2 : (List.take (m - 1) xs).length = m - 1 := by simp; omega
    have h4 : xs.getD (m - 1) 0 ≠ 0 := by simpa [List.getD, List.getElem?_append, hl2] using h3
    rw [← h2, e, tr_snoc_ne _ h4]
  · have : m = 0 := by omega
    subst this
    rw [← h2]; rfl
end Go.Proofs.YthhjcfejgoddlaaGreatDoor
end

section
set_option linter.unusedSimpArgs false
set_option linter.unusedVariables false
set_option maxRecDepth 100000
namespace Go.Proofs.YthhjcfejgoddlaaGreatDoor
open Go Go.Abs
attribute [local go_sem] wrap64 Int.tdiv_eq_ediv_of_nonneg Int.tmod_eq_emod_of_nonneg eq_self Bool.false_eq_true Bool.true_eq_false Bool.not_true Bool.not_false
attribute [local go_sem_proc] Nat.reduceAdd Nat.reduceMul Nat.reduceEqDiff Nat.reduceLT Nat.reduceLeDiff Int.reduceEq Int.reduceNeg Int.reduceToNat reduceCtorEq Int.reduceBNe Int.reduceBEq

/-- An integer in its form. -/
def Zr (neg : Bool) (d : List Int) : AV := .agg [B neg, L d]
def Z (z : Int) : AV := Zr (decide (z < 0)) (D z.natAbs)
attribute [go_sem] Zr Z

theorem map_eI_nil {xs : List Int} : (xs.map eI = []) = (xs = []) := by simp
theorem map_eI_ne {xs : List Int} (h : xs ≠ []) : xs.map eI ≠ [] := by simpa using h

set_option maxHeartbeats 1000000 in
theorem clone_pc (xs : List Int) (h : xs ≠ []) (lx : xs.length ≤ 1000000) : PC Tryz.prog 128 [L xs] (L xs) := by
  refine PCr.pc (PCr.of tab_ok Tryz.func128 rfl rfl rfl fun c hc hm => ?_)
  rw [show Tryz.f128.ntmps = _ from Tryz.ntmps128] at hc
  simp only [Tryz.f128]
  have h' := map_eI_ne h
  repeat' first | (refine AWp.seq fun K hK => ?_) | ((first | refine AWp.region (by rw [hc]; rfl) ?_ | refine AWp.skip ?_ | refine AWp.exit ?_ | refine AWp.label ?_ | refine AWp.ret ?_ | refine appK_g ?_); simp -implicitDefEqProofs (maxSteps := 1000000) (disch := omega) only [go_sem, ↓reduceIte, h']) | ((first | refine hK _ ?_ | (clear hK; first | refine hK _ ?_ | (clear hK; first | refine hK _ ?_ | (clear hK; refine hK _ ?_)))); clear hK) | (refine AWp.cond ?_; simp -implicitDefEqProofs (maxSteps := 1000000) (disch := omega) only [go_sem, ↓reduceIte, h']; try (refine ⟨fun hlt => ?_, fun hlt => ?_⟩ <;> (try simp only [cla, clb, ne_eq, reduceCtorEq] at hlt) <;> (try exact hlt.elim))) | (refine AWp.block ?_) | ((first | refine gdO_split (fun hlt => ?_) (fun hlt => ?_) | refine tkO_split (fun hlt => ?_) (fun hlt => ?_) | refine opO_split (fun hlt => ?_) (fun hlt => ?_)) <;> have hgd := hlt <;> (try simp only [cla, clb, ne_eq, cld] at hlt) <;> (simp -implicitDefEqProofs (maxSteps := 1000000) (disch := omega) only [go_sem, ↓reduceIte, h', hgd]) <;> clear hgd) | (with_reducible refine And.intro ?_ ?_; · first | omega | assumption | exact ⟨_, _, rfl, rfl⟩) | fail

theorem parts_pc (neg : Bool) (d : List Int) : PC Tryz.prog 81 [Zr neg d] (L d) := by
  refine PCr.pc (PCr.of tab_ok Tryz.func81 rfl rfl rfl fun c hc hm => ?_)
  rw [show Tryz.f81.ntmps = _ from Tryz.ntmps81] at hc
  simp only [Tryz.f81]
  repeat' first | (refine AWp.seq fun K hK => ?_) | ((first | refine AWp.region (by rw [hc]; rfl) ?_ | refine AWp.skip ?_ | refine AWp.exit ?_ | refine AWp.label ?_ | refine AWp.ret ?_ | refine appK_g ?_); simp -implicitDefEqProofs (maxSteps := 1000000) (disch := omega) only [go_sem, ↓reduceIte]) | ((first | refine hK _ ?_ | (clear hK; first | refine hK _ ?_ | (clear hK; first | refine hK _ ?_ | (clear hK; refine hK _ ?_)))); clear hK) | (refine AWp.cond ?_; simp -implicitDefEqProofs (maxSteps := 1000000) (disch := omega) only [go_sem, ↓reduceIte]; try (refine ⟨fun hlt => ?_, fun hlt => ?_⟩ <;> (try simp only [cla, clb, ne_eq, reduceCtorEq] at hlt) <;> (try exact hlt.elim))) | (refine AWp.block ?_) | ((first | refine gdO_split (fun hlt => ?_) (fun hlt => ?_) | refine tkO_split (fun hlt => ?_) (fun hlt => ?_) | refine opO_split (fun hlt => ?_) (fun hlt => ?_)) <;> have hgd := hlt <;> (try simp only [cla, clb, ne_eq, cld] at hlt) <;> (simp -implicitDefEqProofs (maxSteps := 1000000) (disch := omega) only [go_sem, ↓reduceIte, hgd]) <;> clear hgd) | (with_reducible refine And.intro ?_ ?_; · first | omega | assumption | exact ⟨_, _, rfl, rfl⟩) | fail

theorem one_pc : PC Tryz.prog 85 [] (Zr false [1]) := by
  refine PCr.pc (PCr.of tab_ok Tryz.func85 rfl rfl rfl fun c hc hm => ?_)
  rw [show Tryz.f85.ntmps = _ from Tryz.ntmps85] at hc
  simp only [Tryz.f85]
  repeat' first | (refine AWp.seq fun K hK => ?_) | ((first | refine AWp.region (by rw [hc]; rfl) ?_ | refine AWp.skip ?_ | refine AWp.exit ?_ | refine AWp.label ?_ | refine AWp.ret ?_ | refine appK_g ?_); simp -implicitDefEqProofs (maxSteps := 1000000) (disch := omega) only [go_sem, ↓reduceIte]) | ((first | refine hK _ ?_ | (clear hK; first | refine hK _ ?_ | (clear hK; first | refine hK _ ?_ | (clear hK; refine hK _ ?_)))); clear hK) | (refine AWp.cond ?_; simp -implicitDefEqProofs (maxSteps := 1000000) (disch := omega) only [go_sem, ↓reduceIte]; try (refine ⟨fun hlt => ?_, fun hlt => ?_⟩ <;> (try simp only [cla, clb, ne_eq, reduceCtorEq] at hlt) <;> (try exact hlt.elim))) | (refine AWp.block ?_) | ((first | refine gdO_split (fun hlt => ?_) (fun hlt => ?_) | refine tkO_split (fun hlt => ?_) (fun hlt => ?_) | refine opO_split (fun hlt => ?_) (fun hlt => ?_)) <;> have hgd := hlt <;> (try simp only [cla, clb, ne_eq, cld] at hlt) <;> (simp -implicitDefEqProofs (maxSteps := 1000000) (disch := omega) only [go_sem, ↓reduceIte, hgd]) <;> clear hgd) | (with_reducible refine And.intro ?_ ?_; · first | omega | assumption | exact ⟨_, _, rfl, rfl⟩) | fail
end Go.Proofs.YthhjcfejgoddlaaGreatDoor
end

section
set_option linter.unusedSimpArgs false
set_option linter.unusedVariables false
set_option maxRecDepth 100000
namespace Go.Proofs.YthhjcfejgoddlaaGreatDoor
open Go Go.Abs
attribute [local go_sem] wrap64 Int.tdiv_eq_ediv_of_nonneg Int.tmod_eq_emod_of_nonneg eq_self Bool.false_eq_true Bool.true_eq_false Bool.not_true Bool.not_false
attribute [local go_sem_proc] Nat.reduceAdd Nat.reduceMul Nat.reduceEqDiff Nat.reduceLT Nat.reduceLeDiff Int.reduceEq Int.reduceNeg Int.reduceToNat reduceCtorEq Int.reduceBNe Int.reduceBEq

def sgnR (neg : Bool) (d : List Int) : AV := if tr d = [] then Zr false [] else Zr neg (tr d)

set_option maxHeartbeats 1000000 in
theorem signed_raw (neg : Bool) (d : List Int) (ld : d.length ≤ 1000000) : PC Tryz.prog 91 [B neg, L d] (sgnR neg d) := by
  refine PCr.pc (PCr.of tab_ok Tryz.func91 rfl rfl rfl fun c hc hm => ?_)
  rw [show Tryz.f91.ntmps = _ from Tryz.ntmps91] at hc
  simp only [Tryz.f91]
  have hl := tr_length d
  by_cases ht : tr d = []
  · repeat' first | (refine AWp.seq fun K hK => ?_) | ((first | refine AWp.region (by rw [hc]; rfl) ?_ | refine AWp.skip ?_ | refine AWp.exit ?_ | refine AWp.label ?_ | refine AWp.ret ?_ | refine appK_g ?_); simp -implicitDefEqProofs (maxSteps := 1000000) (disch := omega) only [go_sem, ↓reduceIte, ht]) | ((first | refine hK _ ?_ | (clear hK; first | refine hK _ ?_ | (clear hK; first | refine hK _ ?_ | (clear hK; refine hK _ ?_)))); clear hK) | (refine AWp.cond ?_; simp -implicitDefEqProofs (maxSteps := 1000000) (disch := omega) only [go_sem, ↓reduceIte, ht]; try (refine ⟨fun hlt => ?_, fun hlt => ?_⟩ <;> (try simp only [cla, clb, ne_eq, reduceCtorEq] at hlt) <;> (try exact hlt.elim))) | (refine AWp.block ?_) | ((first | refine gdO_split (fun hlt => ?_) (fun hlt => ?_) | refine tkO_split (fun hlt => ?_) (fun hlt => ?_) | refine opO_split (fun hlt => ?_) (fun hlt => ?_)) <;> have hgd := hlt <;> (try simp only [cla, clb, ne_eq, cld] at hlt) <;> (simp -implicitDefEqProofs (maxSteps := 1000000) (disch := omega) only [go_sem, ↓reduceIte, ht, hgd]) <;> clear hgd) | (with_reducible refine And.intro ?_ ?_; · first | omega | assumption | exact ⟨_, _, rfl, rfl⟩) | (refine ⟨_, trimmed_pc _ ld, ?_⟩; simp -implicitDefEqProofs (maxSteps := 1000000) (disch := omega) only [go_sem, ↓reduceIte]) | fail
    · simp [sgnR, ht, Zr, B, L, dL]
    · exact absurd rfl hlt
  · have ht' : ¬ ((tr d).length : Int) = 0 := by simpa using ht
    repeat' first | (refine AWp.seq fun K hK => ?_) | ((first | refine AWp.region (by rw [hc]; rfl) ?_ | refine AWp.skip ?_ | refine AWp.exit ?_ | refine AWp.label ?_ | refine AWp.ret ?_ | refine appK_g ?_); simp -implicitDefEqProofs (maxSteps := 1000000) (disch := omega) only [go_sem, ↓reduceIte, ht']) | ((first | refine hK _ ?_ | (clear hK; first | refine hK _ ?_ | (clear hK; first | refine hK _ ?_ | (clear hK; refine hK _ ?_)))); clear hK) | (refine AWp.cond ?_; simp -implicitDefEqProofs (maxSteps := 1000000) (disch := omega) only [go_sem, ↓reduceIte, ht']; try (refine ⟨fun hlt => ?_, fun hlt => ?_⟩ <;> (try simp only [cla, clb, ne_eq, reduceCtorEq] at hlt) <;> (try exact hlt.elim))) | (refine AWp.block ?_) | ((first | refine gdO_split (fun hlt => ?_) (fun hlt => ?_) | refine tkO_split (fun hlt => ?_) (fun hlt => ?_) | refine opO_split (fun hlt => ?_) (fun hlt => ?_)) <;> have hgd := hlt <;> (try simp only [cla, clb, ne_eq, cld] at hlt) <;> (simp -implicitDefEqProofs (maxSteps := 1000000) (disch := omega) only [go_sem, ↓reduceIte, ht', hgd]) <;> clear hgd) | (with_reducible refine And.intro ?_ ?_; · first | omega | assumption | exact ⟨_, _, rfl, rfl⟩) | (refine ⟨_, trimmed_pc _ ld, ?_⟩; simp -implicitDefEqProofs (maxSteps := 1000000) (disch := omega) only [go_sem, ↓reduceIte]) | (refine ⟨_, clone_pc _ ht (by omega), ?_⟩; simp -implicitDefEqProofs (maxSteps := 1000000) (disch := omega) only [go_sem, ↓reduceIte]) | fail
    · exact absurd hlt ht'
    · simp [sgnR, ht, Zr, B, L, dL]

theorem sgn_Z {neg : Bool} {d : List Int} (hd : dig d) : sgnR neg d = Z (if neg then - val d else val d) := by
  unfold sgnR Z
  have hv := val_nonneg hd
  rw [tr_D hd]
  by_cases h : val d = 0
  · rw [if_pos (by rw [h]; exact D_zero)]
    cases neg <;> simp [h, D_zero]
  · rw [if_neg (fun e => h (by have := D_nil.1 e; omega))]
    cases neg
    · have e1 : (val d).natAbs = (val d).toNat := by omega
      have e2 : ¬ val d < 0 := by omega
      simp [e1, e2]
    · have e1 : (val d).natAbs = (val d).toNat := by omega
      have e2 : 0 < val d := by omega
      simp [e1, e2]

theorem signed_pc (neg : Bool) (d : List Int) (hd : dig d) (ld : d.length ≤ 1000000) : PC Tryz.prog 91 [B neg, L d] (Z (if neg then - val d else val d)) := by
  rw [← sgn_Z hd]; exact signed_raw neg d ld

theorem mixed_ok : Tryz.prog.follows .mixedOrders = true := by kernel_rfl

theorem neg_if (neg : Bool) (v : Int) : (if (!neg) = true then -v else v) = -(if neg then -v else v) := by cases neg <;> simp

set_option maxHeartbeats 1000000 in
theorem opposite_pc (neg : Bool) (d : List Int) (hd : dig d) (ld : d.length ≤ 1000000) : PC Tryz.prog 94 [Zr neg d] (Z (- if neg then - val d else val d)) := by
  rw [← neg_if]
  refine PCr.pc (PCr.of tab_ok Tryz.func94 rfl rfl rfl fun c hc hm => ?_)
  rw [show Tryz.f94.ntmps = _ from Tryz.ntmps94] at hc
  simp only [Tryz.f94]
  repeat' first | (refine AWp.seq fun K hK => ?_) | ((first | refine AWp.draw (id := 1) [.take 0, .take 1, .take 2, .take 3, .take 4, .take 5, .grp [6]] mixed_ok (by kernel_rfl) (by rw [hc]; rfl) ?_ | refine AWp.region (by rw [hc]; rfl) ?_ | refine AWp.skip ?_ | refine AWp.exit ?_ | refine AWp.label ?_ | refine AWp.ret ?_ | refine appK_g ?_); simp -implicitDefEqProofs (maxSteps := 1000000) (disch := omega) only [go_sem, ↓reduceIte]) | ((first | refine hK _ ?_ | (clear hK; first | refine hK _ ?_ | (clear hK; first | refine hK _ ?_ | (clear hK; refine hK _ ?_)))); clear hK) | (refine AWp.cond ?_; simp -implicitDefEqProofs (maxSteps := 1000000) (disch := omega) only [go_sem, ↓reduceIte]; try (refine ⟨fun hlt => ?_, fun hlt => ?_⟩ <;> (try simp only [cla, clb, ne_eq, reduceCtorEq] at hlt) <;> (try exact hlt.elim))) | (refine AWp.block ?_) | ((first | refine gdO_split (fun hlt => ?_) (fun hlt => ?_) | refine tkO_split (fun hlt => ?_) (fun hlt => ?_) | refine opO_split (fun hlt => ?_) (fun hlt => ?_)) <;> have hgd := hlt <;> (try simp only [cla, clb, ne_eq, cld] at hlt) <;> (simp -implicitDefEqProofs (maxSteps := 1000000) (disch := omega) only [go_sem, ↓reduceIte, hgd]) <;> clear hgd) | (with_reducible refine And.intro ?_ ?_; · first | omega | assumption | exact ⟨_, _, rfl, rfl⟩) | ((first | refine ⟨_, parts_pc _ _, ?_⟩ | refine ⟨_, signed_pc _ _ hd ld, ?_⟩); simp -implicitDefEqProofs (maxSteps := 1000000) (disch := omega) only [go_sem, ↓reduceIte]) | fail
end Go.Proofs.YthhjcfejgoddlaaGreatDoor
end

section
set_option linter.unusedSimpArgs false
set_option linter.unusedVariables false
set_option maxRecDepth 100000
namespace Go.Proofs.YthhjcfejgoddlaaGreatDoor
open Go Go.Abs
attribute [local go_sem] wrap64 Int.tdiv_eq_ediv_of_nonneg Int.tmod_eq_emod_of_nonneg eq_self Bool.false_eq_true Bool.true_eq_false Bool.not_true Bool.not_false
attribute [local go_sem_proc] Nat.reduceAdd Nat.reduceMul Nat.reduceEqDiff Nat.reduceLT Nat.reduceLeDiff Int.reduceEq Int.reduceNeg Int.reduceToNat reduceCtorEq Int.reduceBNe Int.reduceBEq

/-- A difference, from place i on, with what is borrowed. -/
def subF (xs ys : List Int) : Nat → Nat → Int → List Int
  | 0, _, _ => []
  | m + 1, i, b => (if xs.getD i 0 - atF ys i - b < 0 then xs.getD i 0 - atF ys i - b + 1000000000 else xs.getD i 0 - atF ys i - b) :: subF xs ys m (i + 1) (if xs.getD i 0 - atF ys i - b < 0 then 1 else 0)

def F130 (xs ys : List Int) : Nat × List Int × Int → St := fun ⟨i, out, b⟩ => ⟨[(0, L xs), (1, L ys), (5, gL 0 (out.map eI)), (6, I b), (10, I xs.length), (11, I i)], gS 3 1 0 (out.map eI) false [], 1, 0⟩

theorem dig_getD {xs : List Int} (h : dig xs) (i : Nat) : 0 ≤ xs.getD i 0 ∧ xs.getD i 0 < 1000000000 := by
  by_cases hi : i < xs.length
  · have : xs.getD i 0 = xs[i] := by simp [List.getD, hi]
    rw [this]; exact h _ (List.getElem_mem hi)
  · simp [List.getD, hi]

theorem subF_length (xs ys : List Int) : ∀ m i b, (subF xs ys m i b).length = m
  | 0, _, _ => rfl
  | m + 1, i, b => by simp [subF, subF_length xs ys m]

set_option maxHeartbeats 2000000 in
theorem less_pc (xs ys : List Int) (hx : dig xs) (hy : dig ys) (lx : xs.length ≤ 1000000) : PC Tryz.prog 130 [L xs, L ys] (L (tr (subF xs ys xs.length 0 0))) := by
  refine PCr.pc (PCr.of tab_ok Tryz.func130 rfl rfl rfl fun c hc hm => ?_)
  rw [show Tryz.f130.ntmps = _ from Tryz.ntmps130] at hc
  simp only [Tryz.f130]
  repeat' first | (refine AWp.seq fun K hK => ?_) | ((first | refine AWp.draw (id := 6) [.take 0, .take 1, .take 2, .take 3, .take 4, .take 5, .take 6, .take 7, .take 8, .take 9, .take 10] mixed_ok (by kernel_rfl) (by rw [hc]; rfl) ?_ | refine AWp.region (by rw [hc]; rfl) ?_ | refine AWp.skip ?_ | refine AWp.exit ?_ | refine AWp.label ?_ | refine AWp.ret ?_ | refine appK_g ?_); simp -implicitDefEqProofs (maxSteps := 1000000) (disch := omega) only [go_sem, ↓reduceIte]) | ((first | refine hK _ ?_ | (clear hK; first | refine hK _ ?_ | (clear hK; first | refine hK _ ?_ | (clear hK; refine hK _ ?_)))); clear hK) | (refine AWp.cond ?_; simp -implicitDefEqProofs (maxSteps := 1000000) (disch := omega) only [go_sem, ↓reduceIte]; try (refine ⟨fun hlt => ?_, fun hlt => ?_⟩ <;> (try simp only [cla, clb, ne_eq, reduceCtorEq] at hlt) <;> (try exact hlt.elim))) | (refine AWp.block ?_) | ((first | refine gdO_split (fun hlt => ?_) (fun hlt => ?_) | refine tkO_split (fun hlt => ?_) (fun hlt => ?_) | refine opO_split (fun hlt => ?_) (fun hlt => ?_)) <;> have hgd := hlt <;> (try simp only [cla, clb, ne_eq, cld] at hlt) <;> (simp -implicitDefEqProofs (maxSteps := 1000000) (disch := omega) only [go_sem, ↓reduceIte, hgd]) <;> clear hgd) | (with_reducible refine And.intro ?_ ?_; · first | omega | assumption | exact ⟨_, _, rfl, rfl⟩) | fail
  refine AWp.loopInv (F130 xs ys) (fun a => xs.length - a.1) (fun a => a.1 ≤ xs.length ∧ 0 ≤ a.2.2 ∧ a.2.2 ≤ 1 ∧ a.2.1.length = a.1 ∧ a.2.1 ++ subF xs ys (xs.length - a.1) a.1 a.2.2 = subF xs ys xs.length 0 0) (0, [], 0) (by simp) (Sub.of0 hm id rfl ?_ ?_ (fun _ _ _ _ h => h)) ?_
  all_goals (try dsimp only)
  all_goals (first | omega | (simp -implicitDefEqProofs (maxSteps := 1000000) (disch := omega) only [F130, id, go_sem, Nat.blt_eq, Nat.reduceAdd, Nat.reduceSub, Nat.reduceEqDiff, Nat.reduceLT, ↓reduceIte, and_true, true_and, AV.dat.injEq, DV.int.injEq, DV.bool.injEq, DV.lst.injEq, eq_self_iff_true]; first | done | omega | (simp; done) | (simp; omega)) | (simp; done) | (simp; omega) | skip)
  · rintro ⟨i, out, b⟩ ⟨h1, h2, h3, h4, h5⟩ ih
    simp only at h1 h2 h3 h4 h5
    have a1 := dig_getD hx i
    have a2 := atF_dig hy i
    simp only [F130]
    repeat' first | (refine AWp.seq fun K hK => ?_) | ((first | refine AWp.draw (id := 6) [.take 0, .take 1, .take 2, .take 3, .take 4, .take 5, .take 6, .take 7, .take 8, .take 9, .take 10] mixed_ok (by kernel_rfl) (by rw [hc]; rfl) ?_ | refine AWp.region (by rw [hc]; rfl) ?_ | refine AWp.skip ?_ | refine AWp.exit ?_ | refine AWp.label ?_ | refine AWp.ret ?_ | refine appK_g ?_); simp -implicitDefEqProofs (maxSteps := 1000000) (disch := omega) only [go_sem, ↓reduceIte]) | ((first | refine hK _ ?_ | (clear hK; first | refine hK _ ?_ | (clear hK; first | refine hK _ ?_ | (clear hK; refine hK _ ?_)))); clear hK) | (refine AWp.cond ?_; simp -implicitDefEqProofs (maxSteps := 1000000) (disch := omega) only [go_sem, ↓reduceIte]; try (refine ⟨fun hlt => ?_, fun hlt => ?_⟩ <;> (try simp only [cla, clb, ne_eq, reduceCtorEq] at hlt) <;> (try exact hlt.elim))) | (refine AWp.block ?_) | ((first | refine gdO_split (fun hlt => ?_) (fun hlt => ?_) | refine tkO_split (fun hlt => ?_) (fun hlt => ?_) | refine opO_split (fun hlt => ?_) (fun hlt => ?_)) <;> have hgd := hlt <;> (try simp only [cla, clb, ne_eq, cld] at hlt) <;> (simp -implicitDefEqProofs (maxSteps := 1000000) (disch := omega) only [go_sem, ↓reduceIte, hgd]) <;> clear hgd) | (with_reducible refine And.intro ?_ ?_; · first | omega | assumption | exact ⟨_, _, rfl, rfl⟩) | ((first | refine ⟨_, at_pc _ _ (by omega), ?_⟩ | refine ⟨_, trimmed_pc _ (by omega), ?_⟩); simp -implicitDefEqProofs (maxSteps := 1000000) (disch := omega) only [go_sem, ↓reduceIte]) | fail
    · refine ih (i + 1, out ++ [xs.getD i 0 - atF ys i - b + 1000000000], 1) _ ⟨?_, ?_, ?_, ?_, ?_⟩ ?_ (Sub.of0 hm (fun _ => 2) rfl ?_ ?_ ?_)
      all_goals (try dsimp only)
      all_goals (first | omega | (simp -implicitDefEqProofs (maxSteps := 1000000) (disch := omega) only [F130, id, go_sem, Nat.blt_eq, Nat.reduceAdd, Nat.reduceSub, Nat.reduceEqDiff, Nat.reduceLT, ↓reduceIte, and_true, true_and, AV.dat.injEq, DV.int.injEq, DV.bool.injEq, DV.lst.injEq, eq_self_iff_true]; first | done | omega | (simp; done) | (simp; omega)) | (simp; done) | (simp; omega) | skip)
      · rw [← h5, show xs.length - i = (xs.length - (i + 1)) + 1 by omega]
        simp only [subF, if_pos hlt]
        all_goals simp
    · refine ih (i + 1, out ++ [xs.getD i 0 - atF ys i - b], 0) _ ⟨?_, ?_, ?_, ?_, ?_⟩ ?_ (Sub.of0 hm (fun _ => 2) rfl ?_ ?_ ?_)
      all_goals (try dsimp only)
      all_goals (first | omega | (simp -implicitDefEqProofs (maxSteps := 1000000) (disch := omega) only [F130, id, go_sem, Nat.blt_eq, Nat.reduceAdd, Nat.reduceSub, Nat.reduceEqDiff, Nat.reduceLT, ↓reduceIte, and_true, true_and, AV.dat.injEq, DV.int.injEq, DV.bool.injEq, DV.lst.injEq, eq_self_iff_true]; first | done | omega | (simp; done) | (simp; omega)) | (simp; done) | (simp; omega) | skip)
      · have hn : ¬ xs.getD i 0 - atF ys i - b < 0 := by omega
        rw [← h5, show xs.length - i = (xs.length - (i + 1)) + 1 by omega]
        simp only [subF, if_neg hn]
        all_goals simp
    · have he : subF xs ys xs.length 0 0 = out := by rw [← h5, show xs.length - i = 0 by omega]; simp [subF]
      rw [he]
end Go.Proofs.YthhjcfejgoddlaaGreatDoor
end

section
set_option linter.unusedSimpArgs false
set_option linter.unusedVariables false
set_option maxRecDepth 100000
namespace Go.Proofs.YthhjcfejgoddlaaGreatDoor
open Go Go.Abs
attribute [local go_sem] wrap64 Int.tdiv_eq_ediv_of_nonneg Int.tmod_eq_emod_of_nonneg eq_self Bool.false_eq_true Bool.true_eq_false Bool.not_true Bool.not_false
attribute [local go_sem_proc] Nat.reduceAdd Nat.reduceMul Nat.reduceEqDiff Nat.reduceLT Nat.reduceLeDiff Int.reduceEq Int.reduceNeg Int.reduceToNat reduceCtorEq Int.reduceBNe Int.reduceBEq

def pS (l : List Int) : Sto := (0, .box [gL 1 (l.map eI)] false) :: gS 3 1 1 (l.map eI) false []

def F141 (xs : List Int) (by' at' : Int) : Nat × Int × List Int → St := fun ⟨i, c, l⟩ =>
  ⟨[(0, .ptr 0 0), (1, L xs), (2, I by'), (3, I at'), (8, I c), (9, I i)], pS l, 2, 0⟩

theorem gLm_set (k : Nat) (l : List Int) (i : Nat) (x : Int) : gL k ((l.set i x).map eI) = gL k (l.map eI) := by
  unfold gL; simp
attribute [go_sem] gLm_set
/-! The value of parts: places. -/
def Bp (k : Nat) : Int := 1000000000 ^ k
theorem Bp_zero : Bp 0 = 1 := rfl
theorem Bp_succ (k : Nat) : Bp (k + 1) = 1000000000 * Bp k := by simp only [Bp, Int.pow_succ]; omega
theorem Bp_pos (k : Nat) : 0 < Bp k := by
  induction k with
  | zero => decide
  | succ k ih => rw [Bp_succ]; omega
theorem val_append (l m : List Int) : val (l ++ m) = val l + Bp l.length * val m := by
  induction l with
  | nil => simp [val, Bp]
  | cons x l ih => simp only [List.cons_append, val, ih, List.length_cons, Bp_succ]; grind
theorem val_set (l : List Int) (k : Nat) (y : Int) (h : k < l.length) : val (l.set k y) = val l + (y - l.getD k 0) * Bp k := by
  induction l generalizing k with
  | nil => simp at h
  | cons x l ih =>
    cases k with
    | zero => simp [val, Bp_zero]; omega
    | succ k =>
      have := ih k (by simpa using h)
      simp only [List.set_cons_succ, val, this, Bp_succ, List.getD_cons_succ]
      grind
theorem atF_nat (xs : List Int) (i : Nat) : atF xs i = xs.getD i 0 := by
  unfold atF
  by_cases h : i < xs.length
  · rw [if_pos (by omega)]; simp
  · rw [if_neg (by omega)]; simp [List.getD, h]
theorem val_drop (xs : List Int) (i : Nat) : val (xs.drop i) = xs.getD i 0 + 1000000000 * val (xs.drop (i + 1)) := by
  by_cases h : i < xs.length
  · rw [List.drop_eq_getElem_cons h]; simp [val, h]
  · rw [List.drop_eq_nil_of_le (by omega), List.drop_eq_nil_of_le (by omega)]; simp [val, h]
theorem val_snoc0 (l : List Int) : val (l ++ [0]) = val l := by rw [val_append]; simp [val]
theorem getD_snoc0 (l : List Int) (j : Nat) : (l ++ [0]).getD j 0 = l.getD j 0 := by
  simp only [List.getD, List.getElem?_append]
  by_cases h : j < l.length
  · rw [if_pos h]
  · rw [if_neg h, List.getElem?_eq_none (by omega : l.length ≤ j)]
    cases hj : j - l.length <;> simp
theorem getD_set_ne (l : List Int) (k j : Nat) (y : Int) (h : k ≠ j) : (l.set k y).getD j 0 = l.getD j 0 := by
  simp only [List.getD, List.getElem?_set_ne h]

theorem add_alg (v A a b c d p q x : Int) (hx : A + a * b + c = x) : v + (x - 1000000000 * q - A) * p + q * (1000000000 * p) + b * d * (1000000000 * p) = v + c * p + b * (a + 1000000000 * d) * p := by
  subst hx; grind
theorem add_step (l2 xs : List Int) (at' i : Nat) (cy by' x : Int) (hlen : at' + i < l2.length) (hxx : l2.getD (at' + i) 0 + atF xs i * by' + cy = x) :
    val (l2.set (at' + i) (x % 1000000000)) + x / 1000000000 * Bp (at' + (i + 1)) + by' * val (xs.drop (i + 1)) * Bp (at' + (i + 1)) = val l2 + cy * Bp (at' + i) + by' * val (xs.drop i) * Bp (at' + i) := by
  rw [val_set _ _ _ hlen, val_drop xs i, ← atF_nat xs i, show at' + (i + 1) = (at' + i) + 1 by omega, Bp_succ, show x % 1000000000 = x - 1000000000 * (x / 1000000000) by omega]
  exact add_alg _ _ _ _ _ _ _ _ _ hxx

theorem dig_snoc {l : List Int} {x : Int} (h : dig l) (hx : 0 ≤ x ∧ x < 1000000000) : dig (l ++ [x]) := fun y hy => by
  rcases List.mem_append.1 hy with h1 | h1
  · exact h y h1
  · rw [List.mem_singleton.1 h1]; exact hx
theorem dig_set {l : List Int} (h : dig l) (k : Nat) {x : Int} (hx : 0 ≤ x ∧ x < 1000000000) : dig (l.set k x) := fun y hy => by
  rcases List.mem_or_eq_of_mem_set hy with h1 | rfl
  · exact h y h1
  · exact hx

set_option maxHeartbeats 4000000 in
theorem add_pol (xs : List Int) (by' : Int) (at' : Nat) (l0 : List Int) (hx : dig xs) (hl : dig l0) (hb : 0 ≤ by' ∧ by' < 1000000000) (lx : xs.length ≤ 1000) (ll : l0.length ≤ 4000) (ha : at' ≤ 1000) :
    POL Tryz.prog 141 [.ptr 0 0, L xs, I by', I at'] (pS l0) 2 1 (fun r s1 n1 => r = .tup [] ∧ n1 = 2 ∧ ∃ l, s1 = pS l ∧ dig l ∧ l.length ≤ max (l0.length + 1) (at' + xs.length + 1) ∧ val l = val l0 + by' * val xs * Bp at') := by
  refine POL.of tab_ok Tryz.func141 rfl rfl rfl (by decide) fun c hc hm => ?_
  rw [show Tryz.f141.ntmps = _ from Tryz.ntmps141] at hc
  simp only [Tryz.f141]
  repeat' first | (refine AWp.seq fun K hK => ?_) | ((first | refine AWp.draw (id := 6) [.take 0, .take 1, .take 2, .take 3, .take 4, .take 5, .take 6, .take 7, .take 8, .take 9, .take 10, .take 11, .take 12, .take 13, .take 14, .take 15, .take 16, .take 17] mixed_ok (by kernel_rfl) (by rw [hc]; rfl) ?_ | refine AWp.region (by rw [hc]; rfl) ?_ | refine AWp.skip ?_ | refine AWp.exit ?_ | refine AWp.label ?_ | refine AWp.ret ?_ | refine appK_g ?_); simp -implicitDefEqProofs (maxSteps := 1000000) (disch := omega) only [go_sem, ↓reduceIte]) | ((first | refine hK _ ?_ | (clear hK; first | refine hK _ ?_ | (clear hK; first | refine hK _ ?_ | (clear hK; refine hK _ ?_)))); clear hK) | (refine AWp.cond ?_; simp -implicitDefEqProofs (maxSteps := 1000000) (disch := omega) only [go_sem, ↓reduceIte]; try (refine ⟨fun hlt => ?_, fun hlt => ?_⟩ <;> (try simp only [cla, clb, ne_eq, reduceCtorEq] at hlt) <;> (try exact hlt.elim))) | (refine AWp.block ?_) | ((first | refine gdO_split (fun hlt => ?_) (fun hlt => ?_) | refine tkO_split (fun hlt => ?_) (fun hlt => ?_) | refine opO_split (fun hlt => ?_) (fun hlt => ?_)) <;> have hgd := hlt <;> (try simp only [cla, clb, ne_eq, cld] at hlt) <;> (simp -implicitDefEqProofs (maxSteps := 1000000) (disch := omega) only [go_sem, ↓reduceIte, hgd]) <;> clear hgd) | (with_reducible refine And.intro ?_ ?_; · first | omega | assumption | exact ⟨_, _, rfl, rfl⟩) | fail
  refine AWp.loopInv (F141 xs by' at') (fun a => max xs.length (l0.length - at') + 1 - a.1)
    (fun a => a.1 ≤ max xs.length (l0.length - at') + 1 ∧ 0 ≤ a.2.1 ∧ a.2.1 < 1000000000 ∧ dig a.2.2 ∧ a.2.2.length ≤ max l0.length (at' + a.1) ∧ (0 < a.2.1 → a.1 ≤ max xs.length (l0.length - at')) ∧ (∀ j, at' + a.1 ≤ j → a.2.2.getD j 0 = l0.getD j 0) ∧
      val a.2.2 + a.2.1 * Bp (at' + a.1) + by' * val (xs.drop a.1) * Bp (at' + a.1) = val l0 + by' * val xs * Bp at') (0, 0, l0) ?_ (Sub.ofm hm id (Nat.le_succ 1) (fun _ _ => rfl) rfl ?_ ?_ (fun _ _ _ _ h => h)) ?_
  · refine ⟨Nat.zero_le _, Int.le_refl _, by simp only; omega, hl, by simp only; omega, fun h => by simp only at h; omega, fun _ _ => rfl, ?_⟩
    simp
  all_goals (try dsimp only)
  all_goals (first | omega | (simp -implicitDefEqProofs (maxSteps := 1000000) (disch := omega) only [F141, pS, id, go_sem, Nat.blt_eq, Nat.reduceAdd, Nat.reduceSub, Nat.reduceEqDiff, Nat.reduceLT, ↓reduceIte, and_true, true_and, AV.dat.injEq, DV.int.injEq, DV.bool.injEq, DV.lst.injEq, eq_self_iff_true]; first | done | omega | (simp; done) | (simp; omega)) | (simp; done) | (simp; omega) | skip)
  · rintro ⟨i, cy, l'⟩ ⟨h1, h2, h3, h4, h5, h6, h7, h8⟩ ih
    simp only at h1 h2 h3 h4 h5 h6 h7 h8
    simp only [F141]
    repeat' first | (refine AWp.seq fun K hK => ?_) | ((first | refine AWp.draw (id := 6) [.take 0, .take 1, .take 2, .take 3, .take 4, .take 5, .take 6, .take 7, .take 8, .take 9, .take 10, .take 11, .take 12, .take 13, .take 14, .take 15, .take 16, .take 17] mixed_ok (by kernel_rfl) (by rw [hc]; rfl) ?_ | refine AWp.region (by rw [hc]; rfl) ?_ | refine AWp.skip ?_ | refine AWp.exit ?_ | refine AWp.label ?_ | refine AWp.ret ?_ | refine appK_g ?_); simp -implicitDefEqProofs (maxSteps := 1000000) (disch := omega) only [go_sem, ↓reduceIte]) | ((first | refine hK _ ?_ | (clear hK; first | refine hK _ ?_ | (clear hK; first | refine hK _ ?_ | (clear hK; refine hK _ ?_)))); clear hK) | (refine AWp.cond ?_; simp -implicitDefEqProofs (maxSteps := 1000000) (disch := omega) only [go_sem, ↓reduceIte]; try (refine ⟨fun hlt => ?_, fun hlt => ?_⟩ <;> (try simp only [cla, clb, ne_eq, reduceCtorEq] at hlt) <;> (try exact hlt.elim))) | (refine AWp.block ?_) | ((first | refine gdO_split (fun hlt => ?_) (fun hlt => ?_) | refine tkO_split (fun hlt => ?_) (fun hlt => ?_) | refine opO_split (fun hlt => ?_) (fun hlt => ?_)) <;> have hgd := hlt <;> (try simp only [cla, clb, ne_eq, cld] at hlt) <;> (simp -implicitDefEqProofs (maxSteps := 1000000) (disch := omega) only [go_sem, ↓reduceIte, hgd]) <;> clear hgd) | (with_reducible refine And.intro ?_ ?_; · first | omega | assumption | exact ⟨_, _, rfl, rfl⟩) | fail
    case refine_2.refine_2 =>
      refine ⟨l', rfl, h4, by omega, ?_⟩
      have e1 : cy = 0 := by omega
      rw [e1, List.drop_eq_nil_of_le (by omega)] at h8
      simpa [val] using h8
    all_goals
      have hi : i ≤ max xs.length (l0.length - at') := by omega
      refine AWp.loopInv (fun l => F141 xs by' at' (i, cy, l)) (fun l => at' + i + 1 - l.length) (fun l => dig l ∧ l.length ≤ max l0.length (at' + (i + 1)) ∧ val l = val l' ∧ ∀ j, l.getD j 0 = l'.getD j 0) l' ⟨h4, by omega, rfl, fun _ => rfl⟩ (Sub.ofm hm id (Nat.le_succ 1) (fun _ _ => rfl) rfl ?_ ?_ (fun _ _ _ _ h => h)) ?_
      all_goals (try dsimp only)
      all_goals (first | omega | (simp -implicitDefEqProofs (maxSteps := 1000000) (disch := omega) only [F141, pS, id, go_sem, Nat.blt_eq, Nat.reduceAdd, Nat.reduceSub, Nat.reduceEqDiff, Nat.reduceLT, ↓reduceIte, and_true, true_and, AV.dat.injEq, DV.int.injEq, DV.bool.injEq, DV.lst.injEq, eq_self_iff_true]; first | done | omega | (simp; done) | (simp; omega)) | (simp; done) | (simp; omega) | skip)
    all_goals
      rintro l2 ⟨g1, g2, g3, g4⟩ ih2
      have a1 := atF_dig hx i
      have a2 := dig_getD g1 (at' + i)
      have hp1 : atF xs i * by' ≤ 999999999 * 999999999 := Int.mul_le_mul (by omega) (by omega) hb.1 (by omega)
      have hp : 0 ≤ atF xs i * by' := Int.mul_nonneg a1.1 hb.1
      simp only [F141, pS]
      repeat' first | (refine AWp.seq fun K hK => ?_) | ((first | refine AWp.draw (id := 6) [.take 0, .take 1, .take 2, .take 3, .take 4, .take 5, .take 6, .take 7, .take 8, .take 9, .take 10, .take 11, .take 12, .take 13, .take 14, .take 15, .take 16, .take 17] mixed_ok (by kernel_rfl) (by rw [hc]; rfl) ?_ | refine AWp.region (by rw [hc]; rfl) ?_ | refine AWp.skip ?_ | refine AWp.exit ?_ | refine AWp.label ?_ | refine AWp.ret ?_ | refine appK_g ?_); simp -implicitDefEqProofs (maxSteps := 1000000) (disch := omega) only [go_sem, ↓reduceIte]) | ((first | refine hK _ ?_ | (clear hK; first | refine hK _ ?_ | (clear hK; first | refine hK _ ?_ | (clear hK; refine hK _ ?_)))); clear hK) | (refine AWp.cond ?_; simp -implicitDefEqProofs (maxSteps := 1000000) (disch := omega) only [go_sem, ↓reduceIte]; try (refine ⟨fun hlt => ?_, fun hlt => ?_⟩ <;> (try simp only [cla, clb, ne_eq, reduceCtorEq] at hlt) <;> (try exact hlt.elim))) | (refine AWp.block ?_) | ((first | refine gdO_split (fun hlt => ?_) (fun hlt => ?_) | refine tkO_split (fun hlt => ?_) (fun hlt => ?_) | refine opO_split (fun hlt => ?_) (fun hlt => ?_)) <;> have hgd := hlt <;> (try simp only [cla, clb, ne_eq, cld] at hlt) <;> (simp -implicitDefEqProofs (maxSteps := 1000000) (disch := omega) only [go_sem, ↓reduceIte, hgd]) <;> clear hgd) | (with_reducible refine And.intro ?_ ?_; · first | omega | assumption | exact ⟨_, _, rfl, rfl⟩) | ((first | refine ⟨_, at_pc _ _ (by omega), ?_⟩); simp -implicitDefEqProofs (maxSteps := 1000000) (disch := omega) only [go_sem, ↓reduceIte]) | fail
    case refine_1.refine_3.refine_1.refine_2 | refine_2.refine_1.refine_3.refine_1.refine_2 =>
      refine ih2 (l2 ++ [0]) _ ⟨dig_snoc g1 (by omega), by simp; omega, by rw [val_snoc0, g3], fun j => by rw [getD_snoc0, g4]⟩ ?_ (Sub.ofm hm (fun i => if i = 0 then 0 else 3) (Nat.le_succ 1) ?_ rfl ?_ ?_ ?_)
      all_goals (try dsimp only)
      all_goals (first | omega | (simp -implicitDefEqProofs (maxSteps := 1000000) (disch := omega) only [F141, pS, id, go_sem, Nat.blt_eq, Nat.reduceAdd, Nat.reduceSub, Nat.reduceEqDiff, Nat.reduceLT, ↓reduceIte, and_true, true_and, AV.dat.injEq, DV.int.injEq, DV.bool.injEq, DV.lst.injEq, eq_self_iff_true]; first | done | omega | (simp; done) | (simp; omega)) | (simp; done) | (simp; omega) | skip)
      · intro a b h1 h2 h
        change a < 2 at h1; change b < 2 at h2
        (split at h <;> split at h) <;> omega
    all_goals
      have hlen : at' + i < l2.length := by omega
      generalize hxx : l2.getD (at' + i) 0 + atF xs ↑i * by' + cy = x at *
      have hx0 : 0 ≤ x := by omega
      refine ih (i + 1, x / 1000000000, l2.set (at' + i) (x % 1000000000)) _ ⟨by simp only; omega, by simp only; omega, by simp only; omega, dig_set g1 _ (by omega), ?_, ?_, ?_, ?_⟩ ?_ (Sub.ofm hm id (Nat.le_succ 1) (fun _ _ => rfl) rfl ?_ ?_ (fun _ _ _ _ h => h))
      · simp; omega
      · simp only
        intro hpos
        rcases Nat.lt_or_ge i (max xs.length (l0.length - at')) with h | h
        · omega
        · exfalso
          have e1 : l2.getD (at' + i) 0 = 0 := by
            rw [g4, h7 _ (Nat.le_refl _)]
            simp [List.getD, show l0.length ≤ at' + i by omega]
          have e2 : atF xs i = 0 := by
            rw [atF_nat]; simp [List.getD, show xs.length ≤ i by omega]
          rw [e1, e2] at hxx
          omega
      · intro j hj
        simp only at hj ⊢
        rw [getD_set_ne _ _ _ _ (by omega), g4, h7 j (by omega)]
      · simp only
        rw [add_step _ _ _ _ _ _ _ hlen hxx, g3]; exact h8
      all_goals (try dsimp only)
      all_goals (first | omega | (simp -implicitDefEqProofs (maxSteps := 1000000) (disch := omega) only [F141, pS, id, go_sem, Nat.blt_eq, Nat.reduceAdd, Nat.reduceSub, Nat.reduceEqDiff, Nat.reduceLT, ↓reduceIte, and_true, true_and, AV.dat.injEq, DV.int.injEq, DV.bool.injEq, DV.lst.injEq, eq_self_iff_true]; first | done | omega | (simp; done) | (simp; omega)) | (simp; done) | (simp; omega) | skip)
end Go.Proofs.YthhjcfejgoddlaaGreatDoor
end

section
set_option linter.unusedSimpArgs false
set_option linter.unusedVariables false
set_option maxRecDepth 100000
namespace Go.Proofs.YthhjcfejgoddlaaGreatDoor
open Go Go.Abs
attribute [local go_sem] wrap64 Int.tdiv_eq_ediv_of_nonneg Int.tmod_eq_emod_of_nonneg eq_self Bool.false_eq_true Bool.true_eq_false Bool.not_true Bool.not_false
attribute [local go_sem_proc] Nat.reduceAdd Nat.reduceMul Nat.reduceEqDiff Nat.reduceLT Nat.reduceLeDiff Int.reduceEq Int.reduceNeg Int.reduceToNat reduceCtorEq Int.reduceBNe Int.reduceBEq

def F112 (xs ys : List Int) : Nat × List Int → St := fun ⟨i, l⟩ =>
  ⟨[(0, L xs), (1, L ys), (5, .ptr 0 0), (10, L ys), (11, I ys.length), (12, I i)], pS l, 2, 0⟩

set_option maxHeartbeats 4000000 in
theorem times_pc (xs ys : List Int) (hx : dig xs) (hy : dig ys) (lx : xs.length ≤ 400) (ly : ys.length ≤ 400) :
    PC Tryz.prog 112 [L xs, L ys] (L (D (val xs * val ys).toNat)) := by
  refine PCr.pc (PCr.of tab_ok Tryz.func112 rfl rfl rfl fun c hc hm => ?_)
  rw [show Tryz.f112.ntmps = _ from Tryz.ntmps112] at hc
  simp only [Tryz.f112]
  repeat' first | (refine AWp.seq fun K hK => ?_) | ((first | refine AWp.region (by rw [hc]; rfl) ?_ | refine AWp.skip ?_ | refine AWp.exit ?_ | refine AWp.label ?_ | refine AWp.ret ?_ | refine appK_g ?_); simp -implicitDefEqProofs (maxSteps := 1000000) (disch := omega) only [go_sem, ↓reduceIte]) | ((first | refine hK _ ?_ | (clear hK; first | refine hK _ ?_ | (clear hK; first | refine hK _ ?_ | (clear hK; refine hK _ ?_)))); clear hK) | (refine AWp.cond ?_; simp -implicitDefEqProofs (maxSteps := 1000000) (disch := omega) only [go_sem, ↓reduceIte]; try (refine ⟨fun hlt => ?_, fun hlt => ?_⟩ <;> (try simp only [cla, clb, ne_eq, reduceCtorEq] at hlt) <;> (try exact hlt.elim))) | (refine AWp.block ?_) | ((first | refine gdO_split (fun hlt => ?_) (fun hlt => ?_) | refine tkO_split (fun hlt => ?_) (fun hlt => ?_) | refine opO_split (fun hlt => ?_) (fun hlt => ?_)) <;> have hgd := hlt <;> (try simp only [cla, clb, ne_eq, cld] at hlt) <;> (simp -implicitDefEqProofs (maxSteps := 1000000) (disch := omega) only [go_sem, ↓reduceIte, hgd]) <;> clear hgd) | (with_reducible refine And.intro ?_ ?_; · first | omega | assumption | exact ⟨_, _, rfl, rfl⟩) | fail
  refine AWp.loopInv (F112 xs ys) (fun a => ys.length - a.1) (fun a => a.1 ≤ ys.length ∧ dig a.2 ∧ a.2.length ≤ xs.length + a.1 ∧ val a.2 = val xs * val (ys.take a.1)) (0, []) ⟨Nat.zero_le _, dig_nil, by simp, by simp [val]⟩ (Sub.of0 hm id rfl ?_ ?_ (fun _ _ _ _ h => h)) ?_
  all_goals (try dsimp only)
  all_goals (first | omega | (simp -implicitDefEqProofs (maxSteps := 1000000) (disch := omega) only [F112, pS, id, go_sem, Nat.blt_eq, Nat.reduceAdd, Nat.reduceSub, Nat.reduceEqDiff, Nat.reduceLT, ↓reduceIte, and_true, true_and, AV.dat.injEq, DV.int.injEq, DV.bool.injEq, DV.lst.injEq, eq_self_iff_true]; first | done | omega | (simp; done) | (simp; omega)) | (simp; done) | (simp; omega) | skip)
  rintro ⟨i, l⟩ ⟨h1, h2, h3, h4⟩ ih
  simp only at h1 h2 h3 h4
  simp only [F112, pS]
  have hd := dig_getD hy i
  repeat' first | (refine AWp.regionXi (id := 5) 4 rfl rfl rfl (by rw [hc]; rfl) ?_; simp -implicitDefEqProofs (maxSteps := 1000000) (disch := omega) only [go_sem, ↓reduceIte]) | (refine AWp.seq fun K hK => ?_) | ((first | refine AWp.region (by rw [hc]; rfl) ?_ | refine AWp.skip ?_ | refine AWp.exit ?_ | refine AWp.label ?_ | refine AWp.ret ?_ | refine appK_g ?_); simp -implicitDefEqProofs (maxSteps := 1000000) (disch := omega) only [go_sem, ↓reduceIte]) | ((first | refine hK _ ?_ | (clear hK; first | refine hK _ ?_ | (clear hK; first | refine hK _ ?_ | (clear hK; refine hK _ ?_)))); clear hK) | (refine AWp.cond ?_; simp -implicitDefEqProofs (maxSteps := 1000000) (disch := omega) only [go_sem, ↓reduceIte]; try (refine ⟨fun hlt => ?_, fun hlt => ?_⟩ <;> (try simp only [cla, clb, ne_eq, reduceCtorEq] at hlt) <;> (try exact hlt.elim))) | (refine AWp.block ?_) | ((first | refine gdO_split (fun hlt => ?_) (fun hlt => ?_) | refine tkO_split (fun hlt => ?_) (fun hlt => ?_) | refine opO_split (fun hlt => ?_) (fun hlt => ?_)) <;> have hgd := hlt <;> (try simp only [cla, clb, ne_eq, cld] at hlt) <;> (simp -implicitDefEqProofs (maxSteps := 1000000) (disch := omega) only [go_sem, ↓reduceIte, hgd]) <;> clear hgd) | (with_reducible refine And.intro ?_ ?_; · first | omega | assumption | exact ⟨_, _, rfl, rfl⟩) | ((first | refine ⟨_, trimmed_pc _ (by omega), ?_⟩); simp -implicitDefEqProofs (maxSteps := 1000000) (disch := omega) only [go_sem, ↓reduceIte]) | fail
  · refine ⟨_, POL.po0 (add_pol xs (ys.getD i 0) i l hx h2 hd (by omega) (by omega) (by omega)) id _ _ _ ?_ (fun _ _ _ _ h => h) (fun _ h => h) rfl ?_, ?_⟩
    all_goals (try dsimp only)
    all_goals (first | omega | (simp -implicitDefEqProofs (maxSteps := 1000000) (disch := omega) only [F112, pS, id, go_sem, Nat.blt_eq, Nat.reduceAdd, Nat.reduceSub, Nat.reduceEqDiff, Nat.reduceLT, ↓reduceIte, and_true, true_and, AV.dat.injEq, DV.int.injEq, DV.bool.injEq, DV.lst.injEq, eq_self_iff_true]; first | done | omega | (simp; done) | (simp; omega)) | (simp; done) | (simp; omega) | skip)
    rintro _ _ _ ⟨_, _, _, ⟨rfl, rfl, l2, rfl, g1, g2, g3⟩, rfl, rfl, rfl⟩
    simp only [pS]
    simp -implicitDefEqProofs (maxSteps := 1000000) (disch := omega) only [go_sem, ↓reduceIte]
    repeat' first | (refine AWp.seq fun K hK => ?_) | ((first | refine AWp.region (by rw [hc]; rfl) ?_ | refine AWp.skip ?_ | refine AWp.exit ?_ | refine AWp.label ?_ | refine AWp.ret ?_ | refine appK_g ?_); simp -implicitDefEqProofs (maxSteps := 1000000) (disch := omega) only [go_sem, ↓reduceIte]) | ((first | refine hK _ ?_ | (clear hK; first | refine hK _ ?_ | (clear hK; first | refine hK _ ?_ | (clear hK; refine hK _ ?_)))); clear hK) | (refine AWp.cond ?_; simp -implicitDefEqProofs (maxSteps := 1000000) (disch := omega) only [go_sem, ↓reduceIte]; try (refine ⟨fun hlt => ?_, fun hlt => ?_⟩ <;> (try simp only [cla, clb, ne_eq, reduceCtorEq] at hlt) <;> (try exact hlt.elim))) | (refine AWp.block ?_) | ((first | refine gdO_split (fun hlt => ?_) (fun hlt => ?_) | refine tkO_split (fun hlt => ?_) (fun hlt => ?_) | refine opO_split (fun hlt => ?_) (fun hlt => ?_)) <;> have hgd := hlt <;> (try simp only [cla, clb, ne_eq, cld] at hlt) <;> (simp -implicitDefEqProofs (maxSteps := 1000000) (disch := omega) only [go_sem, ↓reduceIte, hgd]) <;> clear hgd) | (with_reducible refine And.intro ?_ ?_; · first | omega | assumption | exact ⟨_, _, rfl, rfl⟩) | fail
    refine ih (i + 1, l2) _ ⟨by simp only; omega, g1, by simp only; omega, ?_⟩ ?_ (Sub.of0 hm (fun i => if i = 0 then 0 else 2) rfl ?_ ?_ ?_)
    all_goals (try dsimp only)
    all_goals (first | omega | (simp -implicitDefEqProofs (maxSteps := 1000000) (disch := omega) only [F112, pS, id, go_sem, Nat.blt_eq, Nat.reduceAdd, Nat.reduceSub, Nat.reduceEqDiff, Nat.reduceLT, ↓reduceIte, and_true, true_and, AV.dat.injEq, DV.int.injEq, DV.bool.injEq, DV.lst.injEq, eq_self_iff_true]; first | done | omega | (simp; done) | (simp; omega)) | (simp; done) | (simp; omega) | skip)
    · rw [g3, h4, take_last (by omega), val_append]
      simp only [val]
      rw [show (List.take i ys).length = i by simp; omega]
      grind
    · intro a b h1 h2 h
      change a < 2 at h1; change b < 2 at h2
      (split at h <;> split at h) <;> omega
  · have : i = ys.length := by omega
    subst this
    rw [tr_D h2, h4, List.take_length]
end Go.Proofs.YthhjcfejgoddlaaGreatDoor
end

section
set_option linter.unusedSimpArgs false
set_option linter.unusedVariables false
set_option maxRecDepth 100000
namespace Go.Proofs.YthhjcfejgoddlaaGreatDoor
open Go Go.Abs

theorem Bp_mono {a b : Nat} (h : a ≤ b) : Bp a ≤ Bp b := by
  induction b with
  | zero => have : a = 0 := by omega
            subst this; exact Int.le_refl _
  | succ b ih =>
    by_cases hab : a = b + 1
    · subst hab; exact Int.le_refl _
    · have := ih (by omega); have := Bp_pos b; rw [Bp_succ]; omega
theorem val_lt {l : List Int} (h : dig l) : val l < Bp l.length := by
  induction l with
  | nil => decide
  | cons x l ih =>
    have h := dig_cons.1 h
    have := ih h.2
    simp only [val, List.length_cons, Bp_succ]; omega
theorem D_len (n : Nat) : (n : Int) < Bp (D n).length := by
  have := val_lt (dig_D n); rwa [val_D] at this
theorem D_len_ge {n : Nat} (h : n ≠ 0) : Bp ((D n).length - 1) ≤ n := by
  induction n using Nat.strongRecOn with
  | _ n ih =>
    rw [D_pos h]
    simp only [List.length_cons, Nat.add_sub_cancel]
    by_cases h0 : n / 1000000000 = 0
    · rw [h0, D_zero]; simp only [List.length_nil, Bp_zero]; omega
    · have h1 := ih (n / 1000000000) (by omega) h0
      have h2 : (D (n / 1000000000)).length ≠ 0 := fun e => h0 (D_nil.1 (List.eq_nil_of_length_eq_zero e))
      rw [show (D (n / 1000000000)).length = ((D (n / 1000000000)).length - 1) + 1 by omega, Bp_succ]
      omega
theorem D_len_le {m n : Nat} (h : m ≤ n) : (D m).length ≤ (D n).length := by
  by_cases hm : m = 0
  · subst hm; rw [D_zero]; exact Nat.zero_le _
  · rcases Nat.lt_or_ge (D n).length (D m).length with h1 | h1
    · have h2 := D_len_ge hm
      have h3 := D_len n
      have h4 := Bp_mono (show (D n).length ≤ (D m).length - 1 by omega)
      omega
    · exact h1
theorem D_len_lt {m n : Nat} (h : (D m).length < (D n).length) : m < n := by
  rcases Nat.lt_or_ge m n with h1 | h1
  · exact h1
  · have := D_len_le h1; omega

theorem addF_val (xs ys : List Int) (hx : dig xs) (hy : dig ys) : ∀ (m i : Nat) (c : Int), 0 ≤ c → c ≤ 1 → xs.length ≤ i + m → ys.length ≤ i + m →
    dig (addF xs ys m i c) ∧ (addF xs ys m i c).length = m + 1 ∧ val (addF xs ys m i c) = val (xs.drop i) + val (ys.drop i) + c
  | 0, i, c, h0, h1, h2, h3 => by
    rw [List.drop_eq_nil_of_le (by omega), List.drop_eq_nil_of_le (by omega)]
    refine ⟨?_, rfl, by simp [addF, val]⟩
    intro x hx; simp [addF] at hx; subst hx; omega
  | m + 1, i, c, h0, h1, h2, h3 => by
    have a1 := atF_dig hx i
    have a2 := atF_dig hy i
    obtain ⟨g1, g2, g3⟩ := addF_val xs ys hx hy m (i + 1) ((atF xs i + atF ys i + c) / 1000000000) (by omega) (by omega) (by omega) (by omega)
    refine ⟨?_, by simp [addF, g2], ?_⟩
    · simp only [addF]; exact dig_cons.2 ⟨by omega, g1⟩
    · simp only [addF, val, g3]
      rw [val_drop xs i, val_drop ys i, ← atF_nat, ← atF_nat]
      omega

theorem subF_val (xs ys : List Int) (hx : dig xs) (hy : dig ys) : ∀ (m i : Nat) (b : Int), 0 ≤ b → b ≤ 1 → xs.length = i + m → ys.length ≤ i + m →
    dig (subF xs ys m i b) ∧ ∃ fb : Int, 0 ≤ fb ∧ fb ≤ 1 ∧ val (subF xs ys m i b) = val (xs.drop i) - val (ys.drop i) - b + fb * Bp m
  | 0, i, b, h0, h1, h2, h3 => by
    rw [List.drop_eq_nil_of_le (by omega), List.drop_eq_nil_of_le (by omega)]
    exact ⟨dig_nil, b, h0, h1, by simp only [subF, val, Bp_zero]; omega⟩
  | m + 1, i, b, h0, h1, h2, h3 => by
    have a1 := dig_getD hx i
    have a2 := atF_dig hy i
    obtain ⟨g1, fb, g2, g3, g4⟩ := subF_val xs ys hx hy m (i + 1) (if xs.getD i 0 - atF ys i - b < 0 then 1 else 0) (by split <;> omega) (by split <;> omega) (by omega) (by omega)
    refine ⟨?_, fb, g2, g3, ?_⟩
    · simp only [subF]; exact dig_cons.2 ⟨by split <;> omega, g1⟩
    · simp only [subF, val, g4]
      rw [val_drop xs i, val_drop ys i, ← atF_nat ys i, Bp_succ]
      split
      · grind
      · grind

theorem sub_D {m n : Nat} (h : n ≤ m) : tr (subF (D m) (D n) (D m).length 0 0) = D (m - n) := by
  obtain ⟨g1, fb, g2, g3, g4⟩ := subF_val (D m) (D n) (dig_D m) (dig_D n) (D m).length 0 0 (Int.le_refl _) (by decide) (by simp) (by have := D_len_le h; omega)
  have h1 := val_lt g1
  rw [subF_length] at h1
  simp only [List.drop_zero, val_D] at g4
  have h2 := Bp_pos (D m).length
  have hv : val (subF (D m) (D n) (D m).length 0 0) = (m : Int) - n := by
    have : fb = 0 ∨ fb = 1 := by omega
    rcases this with rfl | rfl
    · omega
    · omega
  rw [tr_D g1, hv]
  congr 1; omega

theorem add_D (m n : Nat) : dig (addF (D m) (D n) (max (D m).length (D n).length) 0 0) ∧ (addF (D m) (D n) (max (D m).length (D n).length) 0 0).length = max (D m).length (D n).length + 1 ∧
    val (addF (D m) (D n) (max (D m).length (D n).length) 0 0) = (m + n : Nat) := by
  obtain ⟨g1, g2, g3⟩ := addF_val (D m) (D n) (dig_D m) (dig_D n) (max (D m).length (D n).length) 0 0 (Int.le_refl _) (by decide) (by omega) (by omega)
  refine ⟨g1, g2, ?_⟩
  rw [g3]; simp only [List.drop_zero, val_D]; omega

theorem cmpI_lt {x y : Int} (h : x < y) : cmpI x y = -1 := by simp [cmpI, h]
theorem cmpI_eq (x : Int) : cmpI x x = 0 := by simp [cmpI]
theorem cmpI_gt {x y : Int} (h : y < x) : cmpI x y = 1 := by
  unfold cmpI; rw [if_neg (by omega), if_neg (by omega)]
theorem cmpD_val (xs ys : List Int) (hx : dig xs) (hy : dig ys) : ∀ k, k ≤ xs.length → k ≤ ys.length → cmpD xs ys k = cmpI (val (xs.take k)) (val (ys.take k))
  | 0, _, _ => by simp [cmpD, val, cmpI]
  | k + 1, h1, h2 => by
    have ih := cmpD_val xs ys hx hy k (by omega) (by omega)
    have a1 := val_lt (dig_take hx k)
    have a2 := val_lt (dig_take hy k)
    have b1 := val_nonneg (dig_take hx k)
    have b2 := val_nonneg (dig_take hy k)
    have l1 : (xs.take k).length = k := by simp; omega
    have l2 : (ys.take k).length = k := by simp; omega
    rw [l1] at a1; rw [l2] at a2
    rw [take_last h1, take_last h2, val_append, val_append, l1, l2]
    simp only [val, cmpD, Int.mul_zero, Int.add_zero]
    rw [ih]
    generalize xs.getD k 0 = x
    generalize ys.getD k 0 = y
    generalize val (xs.take k) = u at *
    generalize val (ys.take k) = v at *
    have hp := Bp_pos k
    generalize Bp k = p at *
    rcases Int.lt_trichotomy x y with h | h | h
    · have h3 : p * (x + 1) ≤ p * y := Int.mul_le_mul_of_nonneg_left (by omega) (by omega)
      rw [Int.mul_add, Int.mul_one] at h3
      have h4 : u + p * x < v + p * y := by omega
      rw [cmpI_lt h, cmpI_lt h4]; simp
    · subst h
      rw [cmpI_eq]
      simp only [if_true]
      rcases Int.lt_trichotomy u v with c | c | c
      · rw [cmpI_lt c, cmpI_lt (by omega)]
      · subst c; rw [cmpI_eq, cmpI_eq]
      · rw [cmpI_gt c, cmpI_gt (by omega)]
    · have h3 : p * (y + 1) ≤ p * x := Int.mul_le_mul_of_nonneg_left (by omega) (by omega)
      rw [Int.mul_add, Int.mul_one] at h3
      have h4 : v + p * y < u + p * x := by omega
      rw [cmpI_gt h, cmpI_gt h4]; simp

theorem cmp_D (m n : Nat) : cmpL (D m) (D n) = cmpI m n := by
  unfold cmpL
  by_cases h : (D m).length = (D n).length
  · rw [if_pos (by simp [cmpI, h]), cmpD_val _ _ (dig_D m) (dig_D n) _ (Nat.le_refl _) (by omega)]
    rw [List.take_length, h, List.take_length, val_D, val_D]
  · rw [if_neg (by simp only [cmpI]; repeat' split
                   all_goals omega)]
    rcases Nat.lt_or_ge (D m).length (D n).length with h1 | h1
    · have := D_len_lt h1
      simp only [cmpI]; rw [if_pos (by omega), if_pos (by omega)]
    · have := D_len_lt (show (D n).length < (D m).length by omega)
      simp only [cmpI]; rw [if_neg (by omega), if_neg (by omega), if_neg (by omega), if_neg (by omega)]

theorem compare_D (m n : Nat) (lm : (D m).length ≤ 1000000) (ln : (D n).length ≤ 1000000) : PC Tryz.prog 82 [L (D m), L (D n)] (I (cmpI m n)) := by
  rw [← cmp_D]; exact compare_pc _ _ lm ln
theorem less_D (m n : Nat) (h : n ≤ m) (lm : (D m).length ≤ 1000000) : PC Tryz.prog 130 [L (D m), L (D n)] (L (D (m - n))) := by
  rw [← sub_D h]; exact less_pc _ _ (dig_D m) (dig_D n) lm
theorem times_D (m n : Nat) (lm : (D m).length ≤ 400) (ln : (D n).length ≤ 400) : PC Tryz.prog 112 [L (D m), L (D n)] (L (D (m * n))) := by
  have := times_pc (D m) (D n) (dig_D m) (dig_D n) lm ln
  rw [val_D, val_D] at this
  rwa [show ((m : Int) * n).toNat = m * n by rw [← Int.natCast_mul]; rfl] at this
end Go.Proofs.YthhjcfejgoddlaaGreatDoor
end

section
set_option linter.unusedSimpArgs false
set_option linter.unusedVariables false
set_option maxRecDepth 100000
namespace Go.Proofs.YthhjcfejgoddlaaGreatDoor
open Go Go.Abs
attribute [local go_sem] wrap64 Int.tdiv_eq_ediv_of_nonneg Int.tmod_eq_emod_of_nonneg eq_self Bool.false_eq_true Bool.true_eq_false Bool.not_true Bool.not_false
attribute [local go_sem_proc] Nat.reduceAdd Nat.reduceMul Nat.reduceEqDiff Nat.reduceLT Nat.reduceLeDiff Int.reduceEq Int.reduceNeg Int.reduceToNat reduceCtorEq Int.reduceBNe Int.reduceBEq

def sg (neg : Bool) (m : Nat) : Int := if neg then -(m : Int) else m
theorem Z_sg (x : Int) : sg (decide (x < 0)) x.natAbs = x := by
  unfold sg; by_cases h : x < 0 <;> simp [h] <;> omega
theorem signed_D (neg : Bool) (n : Nat) (ln : (D n).length ≤ 1000000) : PC Tryz.prog 91 [B neg, L (D n)] (Z (sg neg n)) := by
  have := signed_pc neg (D n) (dig_D n) ln
  rwa [val_D] at this
theorem signed_v (neg : Bool) (d : List Int) (n : Nat) (hd : dig d) (ld : d.length ≤ 1000000) (hv : val d = n) : PC Tryz.prog 91 [B neg, L d] (Z (sg neg n)) := by
  have := signed_pc neg d hd ld
  rwa [hv] at this
theorem opposite_Z (x : Int) (lx : (D x.natAbs).length ≤ 1000000) : PC Tryz.prog 94 [Z x] (Z (-x)) := by
  have := opposite_pc (decide (x < 0)) (D x.natAbs) (dig_D _) lx
  rw [val_D] at this
  have h := Z_sg x
  unfold sg at h
  rwa [h] at this

theorem cmpI_ge (x y : Int) : 0 ≤ cmpI x y ↔ y ≤ x := by unfold cmpI; (repeat' split) <;> omega
theorem Z_eq {x y : Int} (h : x = y) : Z x = Z y := by rw [h]
theorem Z_dats (z : Int) : Z z = .agg [.dat (.bool (decide (z < 0))), .dat (.lst ((D z.natAbs).map eI))] := rfl

set_option maxHeartbeats 2000000 in
theorem sum_raw (na nb : Bool) (m n : Nat) (lm : (D m).length ≤ 900000) (ln : (D n).length ≤ 900000) : PC Tryz.prog 93 [Zr na (D m), Zr nb (D n)] (Z (sg na m + sg nb n)) := by
  obtain ⟨a1, a2, a3⟩ := add_D m n
  have hm1 := D_len_le (Nat.sub_le m n)
  have hn1 := D_len_le (Nat.sub_le n m)
  have hc := cmpI_ge m n
  refine PCr.pc (PCr.of tab_ok Tryz.func93 rfl rfl rfl fun c hc hm => ?_)
  rw [show Tryz.f93.ntmps = _ from Tryz.ntmps93] at hc
  simp only [Tryz.f93]
  repeat' first | (refine AWp.seq fun K hK => ?_) | ((first | refine AWp.draw (id := 2) [.take 0, .take 1, .take 2, .take 3, .take 4, .take 5, .take 6, .take 7, .grp [8]] mixed_ok (by kernel_rfl) (by rw [hc]; rfl) ?_ | refine AWp.draw (id := 3) [.take 0, .take 1, .take 2, .take 3, .take 4, .take 5] mixed_ok (by kernel_rfl) (by rw [hc]; rfl) ?_ | refine AWp.draw (id := 4) [.take 0, .take 1, .take 2, .take 3, .take 4, .take 5, .take 6, .take 7, .grp [8]] mixed_ok (by kernel_rfl) (by rw [hc]; rfl) ?_ | refine AWp.draw (id := 5) [.take 0, .take 1, .take 2, .take 3, .take 4, .take 5, .take 6, .take 7, .grp [8]] mixed_ok (by kernel_rfl) (by rw [hc]; rfl) ?_ | refine AWp.region (by rw [hc]; rfl) ?_ | refine AWp.skip ?_ | refine AWp.exit ?_ | refine AWp.label ?_ | refine AWp.ret ?_ | refine appK_g ?_); simp -implicitDefEqProofs (maxSteps := 1000000) (disch := omega) only [go_sem, ↓reduceIte]) | ((first | refine hK _ ?_ | (clear hK; first | refine hK _ ?_ | (clear hK; first | refine hK _ ?_ | (clear hK; refine hK _ ?_)))); clear hK) | (refine AWp.cond ?_; simp -implicitDefEqProofs (maxSteps := 1000000) (disch := omega) only [go_sem, ↓reduceIte]; try (refine ⟨fun hlt => ?_, fun hlt => ?_⟩ <;> (try simp only [cla, clb, ne_eq, reduceCtorEq] at hlt) <;> (try exact hlt.elim))) | (refine AWp.block ?_) | ((first | refine gdO_split (fun hlt => ?_) (fun hlt => ?_) | refine tkO_split (fun hlt => ?_) (fun hlt => ?_) | refine opO_split (fun hlt => ?_) (fun hlt => ?_)) <;> have hgd := hlt <;> (try simp only [cla, clb, ne_eq, cld] at hlt) <;> (simp -implicitDefEqProofs (maxSteps := 1000000) (disch := omega) only [go_sem, ↓reduceIte, hgd]) <;> clear hgd) | (with_reducible refine And.intro ?_ ?_; · first | omega | assumption | exact ⟨_, _, rfl, rfl⟩) | ((first | refine ⟨_, parts_pc _ _, ?_⟩ | refine ⟨_, plus_pc _ _ (dig_D _) (dig_D _) (by omega) (by omega), ?_⟩ | refine ⟨_, compare_D _ _ (by omega) (by omega), ?_⟩ | refine ⟨_, less_D _ _ (by omega) (by omega), ?_⟩ | refine ⟨_, signed_v _ _ (m + n) a1 (by omega) a3, ?_⟩ | refine ⟨_, signed_D _ _ (by omega), ?_⟩); simp -implicitDefEqProofs (maxSteps := 1000000) (disch := omega) only [go_sem, ↓reduceIte]) | fail
  all_goals
    refine Z_eq (x := _) (y := _) ?_
    unfold sg
    cases na <;> cases nb <;> simp at * <;> omega
theorem sum_Z (x y : Int) (lx : (D x.natAbs).length ≤ 900000) (ly : (D y.natAbs).length ≤ 900000) : PC Tryz.prog 93 [Z x, Z y] (Z (x + y)) := by
  have := sum_raw (decide (x < 0)) (decide (y < 0)) x.natAbs y.natAbs lx ly
  rwa [Z_sg, Z_sg] at this

theorem sg_mul (na nb : Bool) (m n : Nat) : sg (!(na == nb)) (m * n) = sg na m * sg nb n := by
  unfold sg; cases na <;> cases nb <;> simp <;> grind
theorem D_mul_len (m n : Nat) : (D (m * n)).length ≤ (D m).length + (D n).length := by
  rcases Nat.lt_or_ge ((D m).length + (D n).length) (D (m * n)).length with h | h
  · exfalso
    by_cases h0 : m * n = 0
    · rw [h0, D_zero] at h; simp at h
    · have h1 := D_len_ge h0
      have h2 := D_len m
      have h3 := D_len n
      have h4 := Bp_mono (show (D m).length + (D n).length ≤ (D (m * n)).length - 1 by omega)
      have h5 : Bp ((D m).length + (D n).length) = Bp (D m).length * Bp (D n).length := by simp only [Bp, Int.pow_add]
      have h6 : (m : Int) * n ≤ m * Bp (D n).length := Int.mul_le_mul_of_nonneg_left (by omega) (by omega)
      have h7 : (m : Int) * Bp (D n).length < Bp (D m).length * Bp (D n).length := Int.mul_lt_mul_of_pos_right h2 (Bp_pos _)
      have h8 : ((m * n : Nat) : Int) = (m : Int) * n := by simp
      omega
  · exact h
set_option maxHeartbeats 2000000 in
theorem mul_raw (na nb : Bool) (m n : Nat) (lm : (D m).length ≤ 400) (ln : (D n).length ≤ 400) : PC Tryz.prog 79 [Zr na (D m), Zr nb (D n)] (Z (sg na m * sg nb n)) := by
  have hl := D_mul_len m n
  rw [← sg_mul]
  refine PCr.pc (PCr.of tab_ok Tryz.func79 rfl rfl rfl fun c hc hm => ?_)
  rw [show Tryz.f79.ntmps = _ from Tryz.ntmps79] at hc
  simp only [Tryz.f79]
  repeat' first | (refine AWp.seq fun K hK => ?_) | ((first | refine AWp.draw (id := 1) [.take 0, .take 1, .take 2, .take 3, .take 4, .take 5, .take 6, .take 7, .take 8, .take 9, .take 10, .grp [11]] mixed_ok (by kernel_rfl) (by rw [hc]; rfl) ?_ | refine AWp.region (by rw [hc]; rfl) ?_ | refine AWp.skip ?_ | refine AWp.exit ?_ | refine AWp.label ?_ | refine AWp.ret ?_ | refine appK_g ?_); simp -implicitDefEqProofs (maxSteps := 1000000) (disch := omega) only [go_sem, ↓reduceIte]) | ((first | refine hK _ ?_ | (clear hK; first | refine hK _ ?_ | (clear hK; first | refine hK _ ?_ | (clear hK; refine hK _ ?_)))); clear hK) | (refine AWp.cond ?_; simp -implicitDefEqProofs (maxSteps := 1000000) (disch := omega) only [go_sem, ↓reduceIte]; try (refine ⟨fun hlt => ?_, fun hlt => ?_⟩ <;> (try simp only [cla, clb, ne_eq, reduceCtorEq] at hlt) <;> (try exact hlt.elim))) | (refine AWp.block ?_) | ((first | refine gdO_split (fun hlt => ?_) (fun hlt => ?_) | refine tkO_split (fun hlt => ?_) (fun hlt => ?_) | refine opO_split (fun hlt => ?_) (fun hlt => ?_)) <;> have hgd := hlt <;> (try simp only [cla, clb, ne_eq, cld] at hlt) <;> (simp -implicitDefEqProofs (maxSteps := 1000000) (disch := omega) only [go_sem, ↓reduceIte, hgd]) <;> clear hgd) | (with_reducible refine And.intro ?_ ?_; · first | omega | assumption | exact ⟨_, _, rfl, rfl⟩) | ((first | refine ⟨_, parts_pc _ _, ?_⟩ | refine ⟨_, times_D _ _ (by omega) (by omega), ?_⟩ | refine ⟨_, signed_D _ _ (by omega), ?_⟩); simp -implicitDefEqProofs (maxSteps := 1000000) (disch := omega) only [go_sem, ↓reduceIte]) | fail
theorem mul_Z (x y : Int) (lx : (D x.natAbs).length ≤ 400) (ly : (D y.natAbs).length ≤ 400) : PC Tryz.prog 79 [Z x, Z y] (Z (x * y)) := by
  have := mul_raw (decide (x < 0)) (decide (y < 0)) x.natAbs y.natAbs lx ly
  rwa [Z_sg, Z_sg] at this
end Go.Proofs.YthhjcfejgoddlaaGreatDoor
end

section
set_option linter.unusedSimpArgs false
set_option linter.unusedVariables false
set_option maxRecDepth 100000
namespace Go.Proofs.YthhjcfejgoddlaaGreatDoor
open Go Go.Abs

/-! Long division, part by part. -/
def ovS (xs : List Int) (N : Nat) {n : Nat} (st : List Int × Nat) (k : Fin n) : List Int × Nat :=
  (st.1.set (xs.length - 1 - k.val) (((st.2 * 1000000000 + (xs.getD (xs.length - 1 - k.val) 0).toNat) / N : Nat) : Int), (st.2 * 1000000000 + (xs.getD (xs.length - 1 - k.val) 0).toNat) % N)
def ov (xs : List Int) (N : Nat) {n : Nat} (pre : List (Fin n)) : List Int × Nat := pre.foldl (ovS xs N) (List.replicate xs.length 0, 0)
theorem ov_snoc (xs : List Int) (N : Nat) {n : Nat} (pre : List (Fin n)) (k : Fin n) : ov xs N (pre ++ [k]) = ovS xs N (ov xs N pre) k := by
  simp [ov, List.foldl_append]
theorem snocInd {α : Type} {Q : List α → Prop} (h0 : Q []) (h1 : ∀ l a, Q l → Q (l ++ [a])) (l : List α) : Q l := by
  rw [← List.reverse_reverse l]
  induction l.reverse with
  | nil => exact h0
  | cons a l ih => rw [List.reverse_cons]; exact h1 _ _ ih
theorem ov_inv (xs : List Int) (hx : dig xs) (N : Nat) (hN : 0 < N) {n : Nat} (pre : List (Fin n)) : (ov xs N pre).1.length = xs.length ∧ dig (ov xs N pre).1 ∧ (ov xs N pre).2 < N := by
  refine snocInd (Q := fun pre => (ov xs N pre).1.length = xs.length ∧ dig (ov xs N pre).1 ∧ (ov xs N pre).2 < N) ?_ (fun pre k ih => ?_) pre
  · refine ⟨by simp [ov], ?_, by simpa [ov] using hN⟩
    intro x hx'
    simp [ov] at hx'
    omega
  · rw [ov_snoc]
    obtain ⟨h1, h2, h3⟩ := ih
    refine ⟨by simp [ovS, h1], dig_set h2 _ ⟨Int.natCast_nonneg _, ?_⟩, Nat.mod_lt _ hN⟩
    have hd := dig_getD hx (xs.length - 1 - k.val)
    have : ((ov xs N pre).2 * 1000000000 + (xs.getD (xs.length - 1 - k.val) 0).toNat) / N < 1000000000 := by
      rw [Nat.div_lt_iff_lt_mul hN]
      have h4 : ((ov xs N pre).2 + 1) * 1000000000 ≤ N * 1000000000 := Nat.mul_le_mul_right _ h3
      omega
    omega

theorem val_replicate0 (n : Nat) : val (List.replicate n 0) = 0 := by
  induction n with
  | zero => rfl
  | succ n ih => simp [List.replicate_succ, val, ih]

theorem ov_val (xs : List Int) (hx : dig xs) (N : Nat) (hN : 0 < N) (p : Nat) (hp : p ≤ xs.length) :
    (∀ j, j < xs.length - p → (ov xs N ((List.finRange xs.length).take p)).1.getD j 0 = 0) ∧
    val (ov xs N ((List.finRange xs.length).take p)).1 = Bp (xs.length - p) * (((val (xs.drop (xs.length - p))).toNat / N : Nat) : Int) ∧
    (ov xs N ((List.finRange xs.length).take p)).2 = (val (xs.drop (xs.length - p))).toNat % N := by
  induction p with
  | zero =>
    simp only [List.take_zero, Nat.sub_zero, List.drop_length]
    refine ⟨fun j hj => ?_, ?_, ?_⟩
    · simp [ov, List.getD, List.getElem?_replicate]; split <;> rfl
    · simp [ov, val_replicate0, val]
    · simp [ov, val]
  | succ p ih =>
    obtain ⟨g1, g2, g3⟩ := ih (by omega)
    clear ih
    have hlt : p < xs.length := by omega
    obtain ⟨e1, e2, e3⟩ := ov_inv xs hx N hN ((List.finRange xs.length).take p)
    rw [finRange_take_succ hlt, ov_snoc]
    generalize ov xs N ((List.finRange xs.length).take p) = st at *
    obtain ⟨q, r⟩ := st
    simp only at g1 g2 g3 e1 e2 e3
    simp only [ovS]
    have hj : xs.length - 1 - p = xs.length - (p + 1) := by omega
    rw [hj]
    have hd := dig_getD hx (xs.length - (p + 1))
    have hv := val_nonneg (fun x h => hx x (List.mem_of_mem_drop h) : dig (xs.drop (xs.length - p)))
    have hdrop : val (xs.drop (xs.length - (p + 1))) = xs.getD (xs.length - (p + 1)) 0 + 1000000000 * val (xs.drop (xs.length - p)) := by
      rw [val_drop xs (xs.length - (p + 1)), show xs.length - (p + 1) + 1 = xs.length - p by omega]
    have hnat : (val (xs.drop (xs.length - (p + 1)))).toNat = (val (xs.drop (xs.length - p))).toNat * 1000000000 + (xs.getD (xs.length - (p + 1)) 0).toNat := by omega
    have hdm := Nat.div_add_mod (val (xs.drop (xs.length - p))).toNat N
    have hsplit : (val (xs.drop (xs.length - p))).toNat * 1000000000 + (xs.getD (xs.length - (p + 1)) 0).toNat = (r * 1000000000 + (xs.getD (xs.length - (p + 1)) 0).toNat) + N * ((val (xs.drop (xs.length - p))).toNat / N * 1000000000) := by
      rw [g3]
      generalize (val (xs.drop (xs.length - p))).toNat / N = u at *
      generalize (val (xs.drop (xs.length - p))).toNat % N = v at *
      rw [← hdm]; grind
    refine ⟨fun j hj => ?_, ?_, ?_⟩
    · rw [getD_set_ne _ _ _ _ (by omega)]; exact g1 j (by omega)
    · rw [val_set _ _ _ (by omega), g2, g1 _ (by omega), hnat, hsplit, Nat.add_mul_div_left _ _ hN]
      rw [show xs.length - p = (xs.length - (p + 1)) + 1 by omega, Bp_succ]
      generalize Bp (xs.length - (p + 1)) = b
      simp only [Int.natCast_add, Int.natCast_mul]
      rw [show xs.length - (p + 1) + 1 = xs.length - p by omega]
      generalize (((val (xs.drop (xs.length - p))).toNat / N : Nat) : Int) = u
      generalize ((r * 1000000000 + (xs.getD (xs.length - (p + 1)) 0).toNat) / N : Nat) = v
      grind
    · rw [hnat, hsplit, Nat.add_mul_mod_self_left]

theorem ov_end (m N : Nat) (hN : 0 < N) : tr (ov (D m) N (List.finRange (D m).length)).1 = D (m / N) ∧ (ov (D m) N (List.finRange (D m).length)).2 = m % N := by
  obtain ⟨e1, e2, e3⟩ := ov_inv (D m) (dig_D m) N hN (List.finRange (D m).length)
  obtain ⟨g1, g2, g3⟩ := ov_val (D m) (dig_D m) N hN (D m).length (Nat.le_refl _)
  rw [show (List.finRange (D m).length).take (D m).length = List.finRange (D m).length from List.take_of_length_le (by simp)] at g1 g2 g3
  simp only [Nat.sub_self, List.drop_zero, val_D, Bp_zero, Int.one_mul, Int.toNat_natCast] at g2 g3
  refine ⟨?_, g3⟩
  rw [tr_D e2, g2]
  rfl
end Go.Proofs.YthhjcfejgoddlaaGreatDoor
end

section
set_option linter.unusedSimpArgs false
set_option linter.unusedVariables false
set_option maxRecDepth 100000
namespace Go.Proofs.YthhjcfejgoddlaaGreatDoor
open Go Go.Abs
attribute [local go_sem] wrap64 Int.tdiv_eq_ediv_of_nonneg Int.tmod_eq_emod_of_nonneg eq_self Bool.false_eq_true Bool.true_eq_false Bool.not_true Bool.not_false
attribute [local go_sem_proc] Nat.reduceAdd Nat.reduceMul Nat.reduceEqDiff Nat.reduceLT Nat.reduceLeDiff Int.reduceEq Int.reduceNeg Int.reduceToNat reduceCtorEq Int.reduceBNe Int.reduceBEq

theorem D_one_len {q : Nat} (h : q < 1000000000) : (D q).length ≤ 1 := by
  by_cases h0 : q = 0
  · subst h0; rw [D_zero]; exact Nat.zero_le _
  · rw [D_pos h0, show q / 1000000000 = 0 by omega, D_zero]; simp
theorem times_q (N : Nat) (q : Int) (h0 : 0 ≤ q) (h1 : q < 1000000000) (ln : (D N).length ≤ 400) : PC Tryz.prog 112 [L (D N), L [q]] (L (D (N * q.toNat))) := by
  have := times_pc (D N) [q] (dig_D N) (dig_cons.2 ⟨⟨h0, h1⟩, dig_nil⟩) ln (by simp)
  rw [val_D] at this
  simp only [val, Int.mul_zero, Int.add_zero] at this
  rwa [show ((N : Int) * q).toNat = N * q.toNat by
    obtain ⟨k, rfl⟩ := Int.eq_ofNat_of_zero_le h0
    rw [← Int.natCast_mul]; rfl] at this
theorem mul_toNat (N : Nat) (q : Int) (h0 : 0 ≤ q) : ((N * q.toNat : Nat) : Int) = N * q := by
  obtain ⟨k, rfl⟩ := Int.eq_ofNat_of_zero_le h0
  simp
theorem div_of (N R : Nat) (lo : Int) (h0 : 0 ≤ lo) (hN : 0 < N) (h1 : (N : Int) * lo ≤ R) (h2 : (R : Int) < N * (lo + 1)) : lo = ((R / N : Nat) : Int) ∧ R - N * lo.toNat = R % N := by
  obtain ⟨k, rfl⟩ := Int.eq_ofNat_of_zero_le h0
  have e1 : N * k ≤ R := by exact_mod_cast h1
  have e2 : R < N * (k + 1) := by exact_mod_cast h2
  have e3 : R / N = k := by
    exact Nat.div_eq_of_lt_le (by rw [Nat.mul_comm]; exact e1) (by rw [Nat.mul_comm]; exact e2)
  refine ⟨by rw [e3], ?_⟩
  have := Nat.div_add_mod R N
  rw [e3] at this
  simp only [Int.ofNat_eq_natCast, Int.toNat_natCast]; omega
def sOv (N : Nat) (q : List Int) (r : Nat) : Sto := [(3, .box [L (D r)] false), (2, .box [.own 1] false), (1, .row 3 1 (q.map eI) false), (0, .box [L (D N)] false)]

def gOv (N : Nat) (q : List Int) (r : Nat) (s : Sto) (n : Nat) : Prop := 4 ≤ n ∧ get 3 s = some (.box [L (D r)] false) ∧ get 2 s = some (.box [.own 1] false) ∧ get 1 s = some (.row 3 1 (q.map eI) false) ∧ get 0 s = some (.box [L (D N)] false)
theorem gOv_sub {N : Nat} {q : List Int} {r : Nat} {s : Sto} {n : Nat} (h : gOv N q r s n) : subS id 4 s (sOv N q r) := by
  obtain ⟨_, h3, h2, h1, h0⟩ := h
  simp only [sOv, subS, id, h3, h2, h1, h0, go_sem]
  simp
def FOv (N j : Nat) (q : List Int) (R : Nat) : Int × Int → St := fun ⟨lo, hi⟩ => ⟨[(3, .ptr 0 0), (6, .ptr 2 0), (7, .ptr 3 0), (8, I j), (10, I lo), (11, I hi)], sOv N q R, 4, 0⟩
set_option maxHeartbeats 8000000 in
theorem over_D (m N : Nat) (hN : 0 < N) (lm : (D m).length ≤ 300) (ln : (D N).length ≤ 300) : PC Tryz.prog 127 [L (D m), L (D N)] (.tup [L (D (m / N)), L (D (m % N))]) := by
  refine PCr.pc (PCr.of tab_ok Tryz.func127 rfl rfl rfl fun c hc hm => ?_)
  rw [show Tryz.f127.ntmps = _ from Tryz.ntmps127] at hc
  simp only [Tryz.f127]
  repeat' first | (refine AWp.seq fun K hK => ?_) | ((first | refine AWp.draw (id := 12) [.take 0, .take 1, .take 2, .take 3, .take 4, .take 5, .take 6] mixed_ok (by kernel_rfl) (by rw [hc]; rfl) ?_ | refine AWp.draw (id := 17) [.take 0, .take 1, .take 2, .take 3, .take 4, .take 5, .grp [6]] mixed_ok (by kernel_rfl) (by rw [hc]; rfl) ?_ | refine AWp.draw (id := 18) [.take 0, .take 1, .take 2, .take 3, .take 4] mixed_ok (by kernel_rfl) (by rw [hc]; rfl) ?_ | refine AWp.region (by rw [hc]; rfl) ?_ | refine AWp.skip ?_ | refine AWp.exit ?_ | refine AWp.label ?_ | refine AWp.ret ?_ | refine appK_g ?_); simp -implicitDefEqProofs (maxSteps := 1000000) (disch := omega) only [go_sem, ↓reduceIte]) | ((first | refine hK _ ?_ | (clear hK; first | refine hK _ ?_ | (clear hK; first | refine hK _ ?_ | (clear hK; refine hK _ ?_)))); clear hK) | (refine AWp.cond ?_; simp -implicitDefEqProofs (maxSteps := 1000000) (disch := omega) only [go_sem, ↓reduceIte]; try (refine ⟨fun hlt => ?_, fun hlt => ?_⟩ <;> (try simp only [cla, clb, ne_eq, reduceCtorEq] at hlt) <;> (try exact hlt.elim))) | (refine AWp.block ?_) | ((first | refine gdO_split (fun hlt => ?_) (fun hlt => ?_) | refine tkO_split (fun hlt => ?_) (fun hlt => ?_) | refine opO_split (fun hlt => ?_) (fun hlt => ?_)) <;> have hgd := hlt <;> (try simp only [cla, clb, ne_eq, cld] at hlt) <;> (simp -implicitDefEqProofs (maxSteps := 1000000) (disch := omega) only [go_sem, ↓reduceIte, hgd]) <;> clear hgd) | (with_reducible refine And.intro ?_ ?_; · first | omega | assumption | exact ⟨_, _, rfl, rfl⟩) | ((first | refine ⟨_, down_pc _, ?_⟩); simp -implicitDefEqProofs (maxSteps := 1000000) (disch := omega) only [go_sem, ↓reduceIte]) | fail
  refine AWp.sub (Sub.nilBox 3 0 rfl rfl) ?_
  simp -implicitDefEqProofs (maxSteps := 1000000) (disch := omega) only [go_sem, ↓reduceIte]
  have hEl := downE_len (D m)
  refine AWp.rangeF 140 [.cptr [dL (D m)]] (downE (D m)) [(8, 18), (9, 19)] (by simp [go_sem]) (down_it (D m) (by omega)) (fun el hel => ?_) (by rw [hc]; rfl) (.seq (.one _ _ _ _ _ _) (.one _ _ _ _ _ _)) (by rw [hc]; rfl) hm.2
    (fun pre s n => gOv N (ov (D m) N pre).1 (ov (D m) N pre).2 s n) (fun _ _ _ _ => False) ?_ ?_ ?_ ?_
  · obtain ⟨k, _, rfl⟩ := List.mem_map.1 hel; rfl
  · simp [gOv, ov, go_sem, D_zero]
  · intro c' l pre k s n hc' hm' hlen hn hI
    have hc := hc'.trans hc
    have hk : k.val < (D m).length := by have := k.isLt; omega
    rw [downE_get]
    simp only at hm' hn
    obtain ⟨o1, o2, o3⟩ := ov_inv (D m) (dig_D m) N hN pre
    have hr : (D (ov (D m) N pre).2).length ≤ 300 := by have := D_len_le (Nat.le_of_lt o3); omega
    have hd := dig_getD (dig_D m) ((D m).length - 1 - k.val)
    generalize hq : (ov (D m) N pre) = st at *
    obtain ⟨q, r⟩ := st
    simp only at o1 o2 o3 hr
    simp -implicitDefEqProofs (maxSteps := 1000000) (disch := omega) only [go_sem, ↓reduceIte]
    refine AWp.sub (σ' := ⟨[(3, .ptr 0 0), (6, .ptr 2 0), (7, .ptr 3 0), (8, I ((D m).length - 1 - k.val : Nat)), (9, I ((D m).getD ((D m).length - 1 - k.val) 0))], sOv N q r, 4, 0⟩) (Sub.of id ⟨by rw [hm']; exact Nat.le_refl _, fun _ _ => rfl⟩ rfl ?_ (gOv_sub hI) (fun _ _ _ _ h => h)) ?_
    · simp [subT, go_sem]
    simp only [sOv]
    simp -implicitDefEqProofs (maxSteps := 1000000) (disch := omega) only [go_sem, ↓reduceIte]
    generalize hx : (D m).getD ((D m).length - 1 - k.val) 0 = x at *
    have hR : tr (x :: D r) = D (r * 1000000000 + x.toNat) := by
      rw [tr_D (dig_cons.2 ⟨hd, dig_D r⟩)]
      congr 1; simp only [val, val_D]; omega
    have hlR : (D (r * 1000000000 + x.toNat)).length ≤ 301 := by
      have := tr_length (x :: D r); rw [hR] at this; simp at this; omega
    have hT : PC Tryz.prog 111 [L (x :: D r)] (L (D (r * 1000000000 + x.toNat))) := by rw [← hR]; exact trimmed_pc _ (by simp; omega)
    generalize hRR : r * 1000000000 + x.toNat = R at *
    have hcR := cmpI_ge R N
    have hR9 : (R : Int) < N * (999999999 + 1) := by
      have h4 : (r + 1) * 1000000000 ≤ N * 1000000000 := Nat.mul_le_mul_right _ o3
      omega
    repeat' first | (refine AWp.seq fun K hK => ?_) | ((first | refine AWp.draw (id := 12) [.take 0, .take 1, .take 2, .take 3, .take 4, .take 5, .take 6] mixed_ok (by kernel_rfl) (by rw [hc]; rfl) ?_ | refine AWp.draw (id := 17) [.take 0, .take 1, .take 2, .take 3, .take 4, .take 5, .grp [6]] mixed_ok (by kernel_rfl) (by rw [hc]; rfl) ?_ | refine AWp.draw (id := 18) [.take 0, .take 1, .take 2, .take 3, .take 4] mixed_ok (by kernel_rfl) (by rw [hc]; rfl) ?_ | refine AWp.region (by rw [hc]; rfl) ?_ | refine AWp.skip ?_ | refine AWp.exit ?_ | refine AWp.label ?_ | refine AWp.ret ?_ | refine appK_g ?_); simp -implicitDefEqProofs (maxSteps := 1000000) (disch := omega) only [go_sem, ↓reduceIte]) | ((first | refine hK _ ?_ | (clear hK; first | refine hK _ ?_ | (clear hK; first | refine hK _ ?_ | (clear hK; refine hK _ ?_)))); clear hK) | (refine AWp.cond ?_; simp -implicitDefEqProofs (maxSteps := 1000000) (disch := omega) only [go_sem, ↓reduceIte]; try (refine ⟨fun hlt => ?_, fun hlt => ?_⟩ <;> (try simp only [cla, clb, ne_eq, reduceCtorEq] at hlt) <;> (try exact hlt.elim))) | (refine AWp.block ?_) | ((first | refine gdO_split (fun hlt => ?_) (fun hlt => ?_) | refine tkO_split (fun hlt => ?_) (fun hlt => ?_) | refine opO_split (fun hlt => ?_) (fun hlt => ?_)) <;> have hgd := hlt <;> (try simp only [cla, clb, ne_eq, cld] at hlt) <;> (simp -implicitDefEqProofs (maxSteps := 1000000) (disch := omega) only [go_sem, ↓reduceIte, hgd]) <;> clear hgd) | (with_reducible refine And.intro ?_ ?_; · first | omega | assumption | exact ⟨_, _, rfl, rfl⟩) | fail
    refine ⟨fun h0 => ?_, fun h0 => ?_⟩
    have hT1 : D r = [] → PC Tryz.prog 111 [L [x]] (L (D R)) := fun h => by rwa [h] at hT
    rotate_left
    refine ⟨by omega, _, hT, ?_⟩
    rotate_left
    refine ⟨_, hT1 (by simpa using h0), ?_⟩
    all_goals
      simp -implicitDefEqProofs (maxSteps := 1000000) (disch := omega) only [go_sem, ↓reduceIte]
      repeat' first | (refine AWp.seq fun K hK => ?_) | ((first | refine AWp.draw (id := 12) [.take 0, .take 1, .take 2, .take 3, .take 4, .take 5, .take 6] mixed_ok (by kernel_rfl) (by rw [hc]; rfl) ?_ | refine AWp.draw (id := 17) [.take 0, .take 1, .take 2, .take 3, .take 4, .take 5, .grp [6]] mixed_ok (by kernel_rfl) (by rw [hc]; rfl) ?_ | refine AWp.draw (id := 18) [.take 0, .take 1, .take 2, .take 3, .take 4] mixed_ok (by kernel_rfl) (by rw [hc]; rfl) ?_ | refine AWp.region (by rw [hc]; rfl) ?_ | refine AWp.skip ?_ | refine AWp.exit ?_ | refine AWp.label ?_ | refine AWp.ret ?_ | refine appK_g ?_); simp -implicitDefEqProofs (maxSteps := 1000000) (disch := omega) only [go_sem, ↓reduceIte]) | ((first | refine hK _ ?_ | (clear hK; first | refine hK _ ?_ | (clear hK; first | refine hK _ ?_ | (clear hK; refine hK _ ?_)))); clear hK) | (refine AWp.cond ?_; simp -implicitDefEqProofs (maxSteps := 1000000) (disch := omega) only [go_sem, ↓reduceIte]; try (refine ⟨fun hlt => ?_, fun hlt => ?_⟩ <;> (try simp only [cla, clb, ne_eq, reduceCtorEq] at hlt) <;> (try exact hlt.elim))) | (refine AWp.block ?_) | ((first | refine gdO_split (fun hlt => ?_) (fun hlt => ?_) | refine tkO_split (fun hlt => ?_) (fun hlt => ?_) | refine opO_split (fun hlt => ?_) (fun hlt => ?_)) <;> have hgd := hlt <;> (try simp only [cla, clb, ne_eq, cld] at hlt) <;> (simp -implicitDefEqProofs (maxSteps := 1000000) (disch := omega) only [go_sem, ↓reduceIte, hgd]) <;> clear hgd) | (with_reducible refine And.intro ?_ ?_; · first | omega | assumption | exact ⟨_, _, rfl, rfl⟩) | ((first | refine ⟨_, compare_D R N (by omega) (by omega), ?_⟩); simp -implicitDefEqProofs (maxSteps := 1000000) (disch := omega) only [go_sem, ↓reduceIte]) | fail
    all_goals
      first
        | (have hR0 : (R : Int) < N * (0 + 1) := by omega
           refine AWp.loopInv (FOv N ((D m).length - 1 - k.val) q R) (fun a => (a.2 - a.1).toNat) (fun a => 0 ≤ a.1 ∧ a.1 ≤ a.2 ∧ a.2 ≤ 999999999 ∧ (N : Int) * a.1 ≤ R ∧ (R : Int) < N * (a.2 + 1)) (0, 0) ⟨Int.le_refl _, by simp only; omega, by simp only; omega, by simp only; omega, hR0⟩ (Sub.of id ⟨by rw [hm']; exact Nat.le_refl _, fun _ _ => rfl⟩ rfl ?_ ?_ (fun _ _ _ _ h => h)) ?_)
        | refine AWp.loopInv (FOv N ((D m).length - 1 - k.val) q R) (fun a => (a.2 - a.1).toNat) (fun a => 0 ≤ a.1 ∧ a.1 ≤ a.2 ∧ a.2 ≤ 999999999 ∧ (N : Int) * a.1 ≤ R ∧ (R : Int) < N * (a.2 + 1)) (0, 999999999) ⟨Int.le_refl _, by simp only; omega, by simp only; omega, by simp only; omega, hR9⟩ (Sub.of id ⟨by rw [hm']; exact Nat.le_refl _, fun _ _ => rfl⟩ rfl ?_ ?_ (fun _ _ _ _ h => h)) ?_
    all_goals (try (simp only [FOv, sOv, subT, subS, go_sem]; simp; done))
    all_goals
      rintro ⟨lo, hi⟩ ⟨b1, b2, b3, b4, b5⟩ ih
      simp only at b1 b2 b3 b4 b5
      have hmq := mul_toNat N (lo + (hi - lo + 1) / 2) (by omega)
      have hml := mul_toNat N lo b1
      have hlq := D_mul_len N (lo + (hi - lo + 1) / 2).toNat
      have hlq1 := D_one_len (q := (lo + (hi - lo + 1) / 2).toNat) (by omega)
      have hll := D_mul_len N lo.toNat
      have hll1 := D_one_len (q := lo.toNat) (by omega)
      have hcq := cmpI_ge ((N * (lo + (hi - lo + 1) / 2).toNat : Nat) : Int) R
      have hcq2 : cmpI ((N * (lo + (hi - lo + 1) / 2).toNat : Nat) : Int) R ≤ 0 ↔ ((N * (lo + (hi - lo + 1) / 2).toNat : Nat) : Int) ≤ R := by unfold cmpI; (repeat' split) <;> omega
      simp only [FOv, sOv]
      repeat' first | (refine AWp.seq fun K hK => ?_) | ((first | refine AWp.draw (id := 12) [.take 0, .take 1, .take 2, .take 3, .take 4, .take 5, .take 6] mixed_ok (by kernel_rfl) (by rw [hc]; rfl) ?_ | refine AWp.draw (id := 17) [.take 0, .take 1, .take 2, .take 3, .take 4, .take 5, .grp [6]] mixed_ok (by kernel_rfl) (by rw [hc]; rfl) ?_ | refine AWp.draw (id := 18) [.take 0, .take 1, .take 2, .take 3, .take 4] mixed_ok (by kernel_rfl) (by rw [hc]; rfl) ?_ | refine AWp.region (by rw [hc]; rfl) ?_ | refine AWp.skip ?_ | refine AWp.exit ?_ | refine AWp.label ?_ | refine AWp.ret ?_ | refine appK_g ?_); simp -implicitDefEqProofs (maxSteps := 1000000) (disch := omega) only [go_sem, ↓reduceIte]) | ((first | refine hK _ ?_ | (clear hK; first | refine hK _ ?_ | (clear hK; first | refine hK _ ?_ | (clear hK; refine hK _ ?_)))); clear hK) | (refine AWp.cond ?_; simp -implicitDefEqProofs (maxSteps := 1000000) (disch := omega) only [go_sem, ↓reduceIte]; try (refine ⟨fun hlt => ?_, fun hlt => ?_⟩ <;> (try simp only [cla, clb, ne_eq, reduceCtorEq] at hlt) <;> (try exact hlt.elim))) | (refine AWp.block ?_) | ((first | refine gdO_split (fun hlt => ?_) (fun hlt => ?_) | refine tkO_split (fun hlt => ?_) (fun hlt => ?_) | refine opO_split (fun hlt => ?_) (fun hlt => ?_)) <;> have hgd := hlt <;> (try simp only [cla, clb, ne_eq, cld] at hlt) <;> (simp -implicitDefEqProofs (maxSteps := 1000000) (disch := omega) only [go_sem, ↓reduceIte, hgd]) <;> clear hgd) | (with_reducible refine And.intro ?_ ?_; · first | omega | assumption | exact ⟨_, _, rfl, rfl⟩) | ((first | refine ⟨_, times_q N _ (by omega) (by omega) (by omega), ?_⟩ | refine ⟨_, compare_D _ _ (by omega) (by omega), ?_⟩ | refine ⟨_, less_D _ _ (by omega) (by omega), ?_⟩); simp -implicitDefEqProofs (maxSteps := 1000000) (disch := omega) only [go_sem, ↓reduceIte]) | fail
    all_goals
      have hq1 : (N : Int) * (lo + (hi - lo + 1) / 2 - 1 + 1) = N * (lo + (hi - lo + 1) / 2) := by rw [Int.sub_add_cancel]
      first
        | (refine ih (lo + (hi - lo + 1) / 2, hi) _ ⟨by simp only; omega, by simp only; omega, b3, by simp only; omega, b5⟩ (by simp only; omega) (Sub.of id ⟨by rw [hm']; exact Nat.le_refl _, fun _ _ => rfl⟩ rfl ?_ ?_ (fun _ _ _ _ h => h)) <;> (simp only [FOv, sOv, subT, subS, go_sem]; simp; done))
        | (refine ih (lo, lo + (hi - lo + 1) / 2 - 1) _ ⟨b1, by simp only; omega, by simp only; omega, b4, by simp only; omega⟩ (by simp only; omega) (Sub.of id ⟨by rw [hm']; exact Nat.le_refl _, fun _ _ => rfl⟩ rfl ?_ ?_ (fun _ _ _ _ h => h)) <;> (simp only [FOv, sOv, subT, subS, go_sem]; simp; done))
        | (obtain ⟨d1, d2⟩ := div_of N R lo b1 hN b4 (by rw [show lo = hi by omega]; exact b5)
           rw [ov_snoc, hq]
           simp only [ovS, hx, hRR]
           rw [← d1, ← d2]
           first
             | exact ⟨Nat.le_refl _, rfl, rfl, rfl, rfl⟩
             | (rw [show R - N * lo.toNat = R by rw [show lo.toNat = 0 by omega]; simp]; exact ⟨Nat.le_refl _, rfl, rfl, rfl, rfl⟩))
  · intro s n hI
    rw [hEl] at hI
    obtain ⟨e1, e2⟩ := ov_end m N hN
    obtain ⟨o1, o2, o3⟩ := ov_inv (D m) (dig_D m) N hN (List.finRange (D m).length)
    generalize ov (D m) N (List.finRange (D m).length) = st at *
    obtain ⟨q, r⟩ := st
    simp only at e1 e2 o1 o2 o3 hI
    subst e2
    simp -implicitDefEqProofs (maxSteps := 1000000) (disch := omega) only [go_sem, ↓reduceIte]
    first | (refine hK _ ?_; clear hK) | (clear hK; refine hK _ ?_; clear hK) | (clear hK; clear hK; refine hK _ ?_; clear hK) | (clear hK; clear hK; clear hK; refine hK _ ?_; clear hK)
    refine AWp.sub (σ' := ⟨[(6, .ptr 2 0), (7, .ptr 3 0)], sOv N q (m % N), 4, 1⟩) (Sub.of0 hm id rfl ?_ (gOv_sub hI) (fun _ _ _ _ h => h)) ?_
    · simp [subT, go_sem]
    simp only [sOv]
    refine AWp.sub (Sub.frz 1 rfl) ?_
    refine AWp.sub (Sub.datBox 2 0 1 rfl rfl rfl) ?_
    simp -implicitDefEqProofs (maxSteps := 1000000) (disch := omega) only [go_sem, ↓reduceIte]
    repeat' first | (refine AWp.seq fun K hK => ?_) | ((first | refine AWp.draw (id := 12) [.take 0, .take 1, .take 2, .take 3, .take 4, .take 5, .take 6] mixed_ok (by kernel_rfl) (by rw [hc]; rfl) ?_ | refine AWp.draw (id := 17) [.take 0, .take 1, .take 2, .take 3, .take 4, .take 5, .grp [6]] mixed_ok (by kernel_rfl) (by rw [hc]; rfl) ?_ | refine AWp.draw (id := 18) [.take 0, .take 1, .take 2, .take 3, .take 4] mixed_ok (by kernel_rfl) (by rw [hc]; rfl) ?_ | refine AWp.region (by rw [hc]; rfl) ?_ | refine AWp.skip ?_ | refine AWp.exit ?_ | refine AWp.label ?_ | refine AWp.ret ?_ | refine appK_g ?_); simp -implicitDefEqProofs (maxSteps := 1000000) (disch := omega) only [go_sem, ↓reduceIte]) | ((first | refine hK _ ?_ | (clear hK; first | refine hK _ ?_ | (clear hK; first | refine hK _ ?_ | (clear hK; refine hK _ ?_)))); clear hK) | (refine AWp.cond ?_; simp -implicitDefEqProofs (maxSteps := 1000000) (disch := omega) only [go_sem, ↓reduceIte]; try (refine ⟨fun hlt => ?_, fun hlt => ?_⟩ <;> (try simp only [cla, clb, ne_eq, reduceCtorEq] at hlt) <;> (try exact hlt.elim))) | (refine AWp.block ?_) | ((first | refine gdO_split (fun hlt => ?_) (fun hlt => ?_) | refine tkO_split (fun hlt => ?_) (fun hlt => ?_) | refine opO_split (fun hlt => ?_) (fun hlt => ?_)) <;> have hgd := hlt <;> (try simp only [cla, clb, ne_eq, cld] at hlt) <;> (simp -implicitDefEqProofs (maxSteps := 1000000) (disch := omega) only [go_sem, ↓reduceIte, hgd]) <;> clear hgd) | (with_reducible refine And.intro ?_ ?_; · first | omega | assumption | exact ⟨_, _, rfl, rfl⟩) | ((first | refine ⟨_, trimmed_pc q (by omega), ?_⟩); simp -implicitDefEqProofs (maxSteps := 1000000) (disch := omega) only [go_sem, ↓reduceIte]) | fail
    rw [e1]
  · intro _ _ _ _ _ h; exact h.elim
end Go.Proofs.YthhjcfejgoddlaaGreatDoor
end

section
set_option linter.unusedSimpArgs false
set_option linter.unusedVariables false
set_option maxRecDepth 100000
namespace Go.Proofs.YthhjcfejgoddlaaGreatDoor
open Go Go.Abs
attribute [local go_sem] wrap64 Int.tdiv_eq_ediv_of_nonneg Int.tmod_eq_emod_of_nonneg eq_self Bool.false_eq_true Bool.true_eq_false Bool.not_true Bool.not_false
attribute [local go_sem_proc] Nat.reduceAdd Nat.reduceMul Nat.reduceEqDiff Nat.reduceLT Nat.reduceLeDiff Int.reduceEq Int.reduceNeg Int.reduceToNat reduceCtorEq Int.reduceBNe Int.reduceBEq

theorem sg_natAbs (neg : Bool) (n : Nat) : (sg neg n).natAbs = n := by unfold sg; cases neg <;> simp
theorem D_1 : D 1 = [1] := by rw [D_pos (by decide), show 1 / 1000000000 = 0 from rfl, D_zero]; rfl
theorem Z_one : Z 1 = Zr false [1] := by
  show Zr (decide ((1 : Int) < 0)) (D 1) = _
  rw [D_1]; rfl

theorem fdm (x y q r : Int) (h : x = y * q + r) (h2 : (0 ≤ r ∧ r < y) ∨ (y < r ∧ r ≤ 0)) : x.fdiv y = q ∧ x.fmod y = r := by
  have key : ∀ x y q r : Int, x = y * q + r → 0 ≤ r → r < y → x.fdiv y = q ∧ x.fmod y = r := fun x y q r h h1 h2 => by
    have := (Int.ediv_emod_unique (a := x) (b := y) (r := r) (q := q) (by omega)).2 ⟨by omega, h1, h2⟩
    rw [Int.fdiv_eq_ediv_of_nonneg x (by omega), Int.fmod_eq_emod_of_nonneg x (by omega)]
    exact this
  rcases h2 with ⟨h1, h2⟩ | ⟨h1, h2⟩
  · exact key x y q r h h1 h2
  · have := key (-x) (-y) q (-r) (by rw [h]; grind) (by omega) (by omega)
    rw [Int.fmod_def] at this ⊢
    rw [Int.neg_fdiv_neg] at this
    refine ⟨this.1, ?_⟩
    rw [this.1, h]; omega
theorem Zp_eq {a b c d : Int} (h : c = a ∧ d = b) : AV.tup [Z a, Z b] = AV.tup [Z c, Z d] := by rw [h.1, h.2]
theorem D_len_pos {n : Nat} : 0 < (D n).length ↔ n ≠ 0 := by
  rw [List.length_pos_iff, ne_eq, D_nil]
set_option maxHeartbeats 2000000 in
theorem divided_raw (na nb : Bool) (m n : Nat) (hn : 0 < n) (lm : (D m).length ≤ 300) (ln : (D n).length ≤ 300) :
    PC Tryz.prog 86 [Zr na (D m), Zr nb (D n)] (.tup [Z ((sg na m).fdiv (sg nb n)), Z ((sg na m).fmod (sg nb n))]) := by
  have h1 := D_len_le (Nat.div_le_self m n)
  have h2 := D_len_le (Nat.le_of_lt (Nat.mod_lt m hn))
  refine PCr.pc (PCr.of tab_ok Tryz.func86 rfl rfl rfl fun c hc hm => ?_)
  rw [show Tryz.f86.ntmps = _ from Tryz.ntmps86] at hc
  simp only [Tryz.f86]
  have hz1 : (sg na (m % n)).natAbs = m % n := sg_natAbs _ _
  have hz2 : (sg (!na == nb) (m / n)).natAbs = m / n := sg_natAbs _ _
  have o1 : PC Tryz.prog 94 [Zr false [1]] (Z (-1)) := by
    rw [← Z_one]; exact opposite_Z 1 (by rw [show (Int.natAbs 1) = 1 from rfl, D_1]; simp)
  have l1 : (D (Int.natAbs (-1))).length ≤ 900000 := by
    rw [show (Int.natAbs (-1)) = 1 from rfl, D_1]; simp
  have s1 : PC Tryz.prog 93 [Z (sg (!na == nb) (m / n)), Z (-1)] (Z (sg (!na == nb) (m / n) + -1)) := sum_Z _ _ (by rw [hz2]; omega) l1
  have s2 : PC Tryz.prog 93 [Z (sg na (m % n)), Zr nb (D n)] (Z (sg na (m % n) + sg nb n)) := by
    have := sum_raw (decide (sg na (m % n) < 0)) nb (sg na (m % n)).natAbs n (by rw [hz1]; omega) (by omega)
    rwa [Z_sg] at this
  repeat' first | (refine AWp.seq fun K hK => ?_) | ((first | refine AWp.draw (id := 1) [.take 0, .take 1, .take 2, .take 3, .take 4, .take 5, .take 6, .take 7, .take 8, .take 9] mixed_ok (by kernel_rfl) (by rw [hc]; rfl) ?_ | refine AWp.draw (id := 2) [.take 0, .take 1, .take 2, .take 3, .take 4, .take 5, .take 6, .take 7, .take 8, .take 9, .take 10, .grp [11, 12], .grp [13], .grp [14]] mixed_ok (by kernel_rfl) (by rw [hc]; rfl) ?_ | refine AWp.draw (id := 4) [.take 0, .take 1, .take 2, .take 3, .take 4, .take 5, .take 6, .grp [7], .grp [8]] mixed_ok (by kernel_rfl) (by rw [hc]; rfl) ?_ | refine AWp.draw (id := 5) [.take 0, .grp [1, 2], .grp [3]] mixed_ok (by kernel_rfl) (by rw [hc]; rfl) ?_ | refine AWp.region (by rw [hc]; rfl) ?_ | refine AWp.skip ?_ | refine AWp.exit ?_ | refine AWp.label ?_ | refine AWp.ret ?_ | refine appK_g ?_); simp -implicitDefEqProofs (maxSteps := 1000000) (disch := omega) only [go_sem, ↓reduceIte]) | ((first | refine hK _ ?_ | (clear hK; first | refine hK _ ?_ | (clear hK; first | refine hK _ ?_ | (clear hK; refine hK _ ?_)))); clear hK) | (refine AWp.cond ?_; simp -implicitDefEqProofs (maxSteps := 1000000) (disch := omega) only [go_sem, ↓reduceIte]; try (refine ⟨fun hlt => ?_, fun hlt => ?_⟩ <;> (try simp only [cla, clb, ne_eq, reduceCtorEq] at hlt) <;> (try exact hlt.elim))) | (refine AWp.block ?_) | ((first | refine gdO_split (fun hlt => ?_) (fun hlt => ?_) | refine tkO_split (fun hlt => ?_) (fun hlt => ?_) | refine opO_split (fun hlt => ?_) (fun hlt => ?_)) <;> have hgd := hlt <;> (try simp only [cla, clb, ne_eq, cld] at hlt) <;> (simp -implicitDefEqProofs (maxSteps := 1000000) (disch := omega) only [go_sem, ↓reduceIte, hgd]) <;> clear hgd) | (with_reducible refine And.intro ?_ ?_; · first | omega | assumption | exact ⟨_, _, rfl, rfl⟩) | ((first | refine ⟨_, parts_pc _ _, ?_⟩ | refine ⟨_, over_D m n hn lm ln, ?_⟩ | refine ⟨_, signed_D _ _ (by omega), ?_⟩ | refine ⟨_, one_pc, ?_⟩ | refine ⟨_, o1, ?_⟩ | refine ⟨_, s1, ?_⟩ | refine ⟨_, s2, ?_⟩); simp -implicitDefEqProofs (maxSteps := 1000000) (disch := omega) only [go_sem, ↓reduceIte]) | (with_reducible refine And.intro ?_ ?_) | fail
  all_goals
    refine Zp_eq (a := _) (b := _) (c := _) (d := _) (fdm _ _ _ _ ?_ ?_)
    all_goals
      have hq := Nat.div_add_mod m n
      have hr := Nat.mod_lt m hn
      have hr0 := D_len_pos (n := m % n)
      rw [sg_natAbs] at *
      have hq' : ((n * (m / n) : Nat) : Int) = (n : Int) * ((m / n : Nat) : Int) := Int.natCast_mul _ _
      generalize m / n = q at *
      generalize m % n = r at *
      unfold sg
      cases na <;> cases nb <;> simp at * <;> first | omega | grind
theorem divided_Z (x y : Int) (hy : y ≠ 0) (lx : (D x.natAbs).length ≤ 300) (ly : (D y.natAbs).length ≤ 300) : PC Tryz.prog 86 [Z x, Z y] (.tup [Z (x.fdiv y), Z (x.fmod y)]) := by
  have := divided_raw (decide (x < 0)) (decide (y < 0)) x.natAbs y.natAbs (by omega) lx ly
  rwa [Z_sg, Z_sg] at this
end Go.Proofs.YthhjcfejgoddlaaGreatDoor
end

section
set_option linter.unusedSimpArgs false
set_option linter.unusedVariables false
set_option maxRecDepth 100000
namespace Go.Proofs.YthhjcfejgoddlaaGreatDoor
open Go Go.Abs
attribute [local go_sem] wrap64 Int.tdiv_eq_ediv_of_nonneg Int.tmod_eq_emod_of_nonneg eq_self Bool.false_eq_true Bool.true_eq_false Bool.not_true Bool.not_false
attribute [local go_sem_proc] Nat.reduceAdd Nat.reduceMul Nat.reduceEqDiff Nat.reduceLT Nat.reduceLeDiff Int.reduceEq Int.reduceNeg Int.reduceToNat reduceCtorEq Int.reduceBNe Int.reduceBEq

theorem unit_pc (neg : Bool) (d : List Int) (ld : d.length ≤ 1000000) : PC Tryz.prog 87 [Zr neg d] (B (decide (d = [] ∨ d = [1]))) := by
  refine PCr.pc (PCr.of tab_ok Tryz.func87 rfl rfl rfl fun c hc hm => ?_)
  rw [show Tryz.f87.ntmps = _ from Tryz.ntmps87] at hc
  simp only [Tryz.f87]
  repeat' first | (refine AWp.seq fun K hK => ?_) | ((first | refine AWp.region (by rw [hc]; rfl) ?_ | refine AWp.skip ?_ | refine AWp.exit ?_ | refine AWp.label ?_ | refine AWp.ret ?_ | refine appK_g ?_); simp -implicitDefEqProofs (maxSteps := 1000000) (disch := omega) only [go_sem, ↓reduceIte]) | ((first | refine hK _ ?_ | (clear hK; first | refine hK _ ?_ | (clear hK; first | refine hK _ ?_ | (clear hK; refine hK _ ?_)))); clear hK) | (refine AWp.cond ?_; simp -implicitDefEqProofs (maxSteps := 1000000) (disch := omega) only [go_sem, ↓reduceIte]; try (refine ⟨fun hlt => ?_, fun hlt => ?_⟩ <;> (try simp only [cla, clb, ne_eq, reduceCtorEq] at hlt) <;> (try exact hlt.elim))) | (refine AWp.block ?_) | ((first | refine gdO_split (fun hlt => ?_) (fun hlt => ?_) | refine tkO_split (fun hlt => ?_) (fun hlt => ?_) | refine opO_split (fun hlt => ?_) (fun hlt => ?_)) <;> have hgd := hlt <;> (try simp only [cla, clb, ne_eq, cld] at hlt) <;> (simp -implicitDefEqProofs (maxSteps := 1000000) (disch := omega) only [go_sem, ↓reduceIte, hgd]) <;> clear hgd) | (with_reducible refine And.intro ?_ ?_; · first | omega | assumption | exact ⟨_, _, rfl, rfl⟩) | fail
  · simp [List.eq_nil_of_length_eq_zero (by omega : d.length = 0)]
  · match d, hlt with
    | [x], _ => simp; rfl
  · match d, hlt with
    | [], _ => rename_i h _; simp at *
    | [x], h => simp at h
    | x :: y :: l, _ => simp

theorem Compare_pc (na nb : Bool) (a b : List Int) (la : a.length ≤ 1000000) (lb : b.length ≤ 1000000) : PC Tryz.prog 23 [Zr na a, Zr nb b] (I (if na then (if nb then cmpL b a else -1) else if nb then 1 else cmpL a b)) := by
  refine PCr.pc (PCr.of tab_ok Tryz.func23 rfl rfl rfl fun c hc hm => ?_)
  rw [show Tryz.f23.ntmps = _ from Tryz.ntmps23] at hc
  simp only [Tryz.f23]
  repeat' first | (refine AWp.seq fun K hK => ?_) | ((first | refine AWp.draw (id := 2) [.take 0, .take 1, .take 2, .take 3, .take 4, .take 5] mixed_ok (by kernel_rfl) (by rw [hc]; rfl) ?_ | refine AWp.draw (id := 7) [.take 0, .take 1, .take 2, .take 3, .take 4, .take 5] mixed_ok (by kernel_rfl) (by rw [hc]; rfl) ?_ | refine AWp.region (by rw [hc]; rfl) ?_ | refine AWp.skip ?_ | refine AWp.exit ?_ | refine AWp.label ?_ | refine AWp.ret ?_ | refine appK_g ?_); simp -implicitDefEqProofs (maxSteps := 1000000) (disch := omega) only [go_sem, ↓reduceIte]) | ((first | refine hK _ ?_ | (clear hK; first | refine hK _ ?_ | (clear hK; first | refine hK _ ?_ | (clear hK; refine hK _ ?_)))); clear hK) | (refine AWp.cond ?_; simp -implicitDefEqProofs (maxSteps := 1000000) (disch := omega) only [go_sem, ↓reduceIte]; try (refine ⟨fun hlt => ?_, fun hlt => ?_⟩ <;> (try simp only [cla, clb, ne_eq, reduceCtorEq] at hlt) <;> (try exact hlt.elim))) | (refine AWp.block ?_) | ((first | refine gdO_split (fun hlt => ?_) (fun hlt => ?_) | refine tkO_split (fun hlt => ?_) (fun hlt => ?_) | refine opO_split (fun hlt => ?_) (fun hlt => ?_)) <;> have hgd := hlt <;> (try simp only [cla, clb, ne_eq, cld] at hlt) <;> (simp -implicitDefEqProofs (maxSteps := 1000000) (disch := omega) only [go_sem, ↓reduceIte, hgd]) <;> clear hgd) | (with_reducible refine And.intro ?_ ?_; · first | omega | assumption | exact ⟨_, _, rfl, rfl⟩) | ((first | refine ⟨_, parts_pc _ _, ?_⟩ | refine ⟨_, compare_pc _ _ (by omega) (by omega), ?_⟩); simp -implicitDefEqProofs (maxSteps := 1000000) (disch := omega) only [go_sem, ↓reduceIte]) | fail
  all_goals simp_all

theorem Sign_pc (neg : Bool) (d : List Int) : PC Tryz.prog 18 [Zr neg d] (I (if d = [] then 0 else if neg then -1 else 1)) := by
  refine PCr.pc (PCr.of tab_ok Tryz.func18 rfl rfl rfl fun c hc hm => ?_)
  rw [show Tryz.f18.ntmps = _ from Tryz.ntmps18] at hc
  simp only [Tryz.f18]
  repeat' first | (refine AWp.seq fun K hK => ?_) | ((first | refine AWp.region (by rw [hc]; rfl) ?_ | refine AWp.skip ?_ | refine AWp.exit ?_ | refine AWp.label ?_ | refine AWp.ret ?_ | refine appK_g ?_); simp -implicitDefEqProofs (maxSteps := 1000000) (disch := omega) only [go_sem, ↓reduceIte]) | ((first | refine hK _ ?_ | (clear hK; first | refine hK _ ?_ | (clear hK; first | refine hK _ ?_ | (clear hK; refine hK _ ?_)))); clear hK) | (refine AWp.cond ?_; simp -implicitDefEqProofs (maxSteps := 1000000) (disch := omega) only [go_sem, ↓reduceIte]; try (refine ⟨fun hlt => ?_, fun hlt => ?_⟩ <;> (try simp only [cla, clb, ne_eq, reduceCtorEq] at hlt) <;> (try exact hlt.elim))) | (refine AWp.block ?_) | ((first | refine gdO_split (fun hlt => ?_) (fun hlt => ?_) | refine tkO_split (fun hlt => ?_) (fun hlt => ?_) | refine opO_split (fun hlt => ?_) (fun hlt => ?_)) <;> have hgd := hlt <;> (try simp only [cla, clb, ne_eq, cld] at hlt) <;> (simp -implicitDefEqProofs (maxSteps := 1000000) (disch := omega) only [go_sem, ↓reduceIte, hgd]) <;> clear hgd) | (with_reducible refine And.intro ?_ ?_; · first | omega | assumption | exact ⟨_, _, rfl, rfl⟩) | fail
  · simp [List.eq_nil_of_length_eq_zero (by omega : d.length = 0)]
  · rw [if_neg (fun e => by subst e; simp at *), if_pos hlt]
  · rw [if_neg (fun e => by subst e; simp at *), if_neg (by simp [hlt])]

def idx {α : Type} (p : α → Bool) (xs : List α) : Int := if xs.any p = true then ((xs.findIdx p : Nat) : Int) else -1
theorem idx_some {α : Type} (p : α → Bool) (xs : List α) (i : Nat) (h : i < xs.length) (h1 : p xs[i] = true) (h2 : ∀ j (hj : j < i), p (xs[j]'(by omega)) = false) : idx p xs = i := by
  unfold idx
  rw [if_pos (List.any_eq_true.2 ⟨_, List.getElem_mem h, h1⟩), (List.findIdx_eq h).2 ⟨h1, h2⟩]
theorem idx_none {α : Type} (p : α → Bool) (xs : List α) (h2 : ∀ j (hj : j < xs.length), p xs[j] = false) : idx p xs = -1 := by
  unfold idx
  rw [if_neg]
  intro h
  obtain ⟨x, hx, hp⟩ := List.any_eq_true.1 h
  obtain ⟨j, hj, rfl⟩ := List.getElem_of_mem hx
  rw [h2 j hj] at hp; cases hp
theorem idx_ge {α : Type} (p : α → Bool) (xs : List α) : (decide (0 ≤ idx p xs)) = xs.any p := by
  unfold idx
  by_cases h : xs.any p = true
  · rw [if_pos h, h]; simp
  · rw [if_neg h]; simp at h ⊢; exact h

def F142 (xs : List Int) (f : FuncId) (caps : List DV) (i : Nat) : St := ⟨[(0, L xs), (1, .dat (.fn f caps)), (7, I xs.length), (8, I i)], [], 0, 0⟩
theorem idx_pc (xs : List Int) (f : FuncId) (caps : List DV) (p : Int → Bool) (lx : xs.length ≤ 1000000) (hp : ∀ x ∈ xs, PC Tryz.prog f (I x :: caps.map .dat) (B (p x))) : PC Tryz.prog 142 [L xs, .dat (.fn f caps)] (I (idx p xs)) := by
  refine PCr.pc (PCr.of tab_ok Tryz.func142 rfl rfl rfl fun c hc hm => ?_)
  rw [show Tryz.f142.ntmps = _ from Tryz.ntmps142] at hc
  simp only [Tryz.f142]
  repeat' first | (refine AWp.seq fun K hK => ?_) | ((first | refine AWp.region (by rw [hc]; rfl) ?_ | refine AWp.skip ?_ | refine AWp.exit ?_ | refine AWp.label ?_ | refine AWp.ret ?_ | refine appK_g ?_); simp -implicitDefEqProofs (maxSteps := 1000000) (disch := omega) only [go_sem, ↓reduceIte]) | ((first | refine hK _ ?_ | (clear hK; first | refine hK _ ?_ | (clear hK; first | refine hK _ ?_ | (clear hK; refine hK _ ?_)))); clear hK) | (refine AWp.cond ?_; simp -implicitDefEqProofs (maxSteps := 1000000) (disch := omega) only [go_sem, ↓reduceIte]; try (refine ⟨fun hlt => ?_, fun hlt => ?_⟩ <;> (try simp only [cla, clb, ne_eq, reduceCtorEq] at hlt) <;> (try exact hlt.elim))) | (refine AWp.block ?_) | ((first | refine gdO_split (fun hlt => ?_) (fun hlt => ?_) | refine tkO_split (fun hlt => ?_) (fun hlt => ?_) | refine opO_split (fun hlt => ?_) (fun hlt => ?_)) <;> have hgd := hlt <;> (try simp only [cla, clb, ne_eq, cld] at hlt) <;> (simp -implicitDefEqProofs (maxSteps := 1000000) (disch := omega) only [go_sem, ↓reduceIte, hgd]) <;> clear hgd) | (with_reducible refine And.intro ?_ ?_; · first | omega | assumption | exact ⟨_, _, rfl, rfl⟩) | fail
  refine AWp.loopInv (F142 xs f caps) (fun i => xs.length - i) (fun i => i ≤ xs.length ∧ ∀ j, j < i → p (xs.getD j 0) = false) 0 ⟨Nat.zero_le _, fun j h => absurd h (Nat.not_lt_zero _)⟩ (Sub.of0 hm id rfl ?_ ?_ (fun _ _ _ _ h => h)) ?_
  all_goals (try dsimp only)
  all_goals (first | omega | (simp -implicitDefEqProofs (maxSteps := 1000000) (disch := omega) only [F142, id, go_sem, Nat.blt_eq, Nat.reduceAdd, Nat.reduceSub, Nat.reduceEqDiff, Nat.reduceLT, ↓reduceIte, and_true, true_and, AV.dat.injEq, DV.int.injEq, DV.bool.injEq, DV.lst.injEq, eq_self_iff_true]; first | done | omega | (simp; done) | (simp; omega)) | (simp; done) | (simp; omega) | skip)
  rintro i ⟨h1, h2⟩ ih
  simp only [F142]
  have hpi : i < xs.length → PC Tryz.prog f (I (xs.getD i 0) :: caps.map .dat) (B (p (xs.getD i 0))) := fun h => hp _ (by simp [h])
  repeat' first | (refine AWp.seq fun K hK => ?_) | ((first | refine AWp.region (by rw [hc]; rfl) ?_ | refine AWp.skip ?_ | refine AWp.exit ?_ | refine AWp.label ?_ | refine AWp.ret ?_ | refine appK_g ?_); simp -implicitDefEqProofs (maxSteps := 1000000) (disch := omega) only [go_sem, ↓reduceIte]) | ((first | refine hK _ ?_ | (clear hK; first | refine hK _ ?_ | (clear hK; first | refine hK _ ?_ | (clear hK; refine hK _ ?_)))); clear hK) | (refine AWp.cond ?_; simp -implicitDefEqProofs (maxSteps := 1000000) (disch := omega) only [go_sem, ↓reduceIte]; try (refine ⟨fun hlt => ?_, fun hlt => ?_⟩ <;> (try simp only [cla, clb, ne_eq, reduceCtorEq] at hlt) <;> (try exact hlt.elim))) | (refine AWp.block ?_) | ((first | refine gdO_split (fun hlt => ?_) (fun hlt => ?_) | refine tkO_split (fun hlt => ?_) (fun hlt => ?_) | refine opO_split (fun hlt => ?_) (fun hlt => ?_)) <;> have hgd := hlt <;> (try simp only [cla, clb, ne_eq, cld] at hlt) <;> (simp -implicitDefEqProofs (maxSteps := 1000000) (disch := omega) only [go_sem, ↓reduceIte, hgd]) <;> clear hgd) | (with_reducible refine And.intro ?_ ?_; · first | omega | assumption | exact ⟨_, _, rfl, rfl⟩) | ((first | refine ⟨_, hpi (by omega), ?_⟩); simp -implicitDefEqProofs (maxSteps := 1000000) (disch := omega) only [go_sem, ↓reduceIte]) | fail
  · have hi : i < xs.length := by omega
    have e : ∀ j (hj : j < xs.length), xs.getD j 0 = xs[j] := fun j hj => by simp [hj]
    rw [idx_some p xs i hi (by rw [← e]; exact hlt) (fun j hj => by rw [← e]; exact h2 j hj)]
  · refine ih (i + 1) _ ⟨by omega, fun j hj => ?_⟩ (by omega) (Sub.of0 hm id rfl ?_ ?_ (fun _ _ _ _ h => h))
    · by_cases h : j = i
      · subst h; exact hlt
      · exact h2 j (by omega)
    all_goals (try dsimp only)
    all_goals (first | omega | (simp -implicitDefEqProofs (maxSteps := 1000000) (disch := omega) only [F142, id, go_sem, Nat.blt_eq, Nat.reduceAdd, Nat.reduceSub, Nat.reduceEqDiff, Nat.reduceLT, ↓reduceIte, and_true, true_and, AV.dat.injEq, DV.int.injEq, DV.bool.injEq, DV.lst.injEq, eq_self_iff_true]; first | done | omega | (simp; done) | (simp; omega)) | (simp; done) | (simp; omega) | skip)
  · rw [idx_none p xs (fun j hj => by have := h2 j (by omega); simpa [hj] using this)]

theorem has_pc (xs : List Int) (f : FuncId) (caps : List DV) (p : Int → Bool) (lx : xs.length ≤ 1000000) (hp : ∀ x ∈ xs, PC Tryz.prog f (I x :: caps.map .dat) (B (p x))) : PC Tryz.prog 114 [L xs, .dat (.fn f caps)] (B (xs.any p)) := by
  have hi := idx_pc xs f caps p lx hp
  rw [← idx_ge]
  refine PCr.pc (PCr.of tab_ok Tryz.func114 rfl rfl rfl fun c hc hm => ?_)
  rw [show Tryz.f114.ntmps = _ from Tryz.ntmps114] at hc
  simp only [Tryz.f114]
  repeat' first | (refine AWp.seq fun K hK => ?_) | ((first | refine AWp.region (by rw [hc]; rfl) ?_ | refine AWp.skip ?_ | refine AWp.exit ?_ | refine AWp.label ?_ | refine AWp.ret ?_ | refine appK_g ?_); simp -implicitDefEqProofs (maxSteps := 1000000) (disch := omega) only [go_sem, ↓reduceIte]) | ((first | refine hK _ ?_ | (clear hK; first | refine hK _ ?_ | (clear hK; first | refine hK _ ?_ | (clear hK; refine hK _ ?_)))); clear hK) | (refine AWp.cond ?_; simp -implicitDefEqProofs (maxSteps := 1000000) (disch := omega) only [go_sem, ↓reduceIte]; try (refine ⟨fun hlt => ?_, fun hlt => ?_⟩ <;> (try simp only [cla, clb, ne_eq, reduceCtorEq] at hlt) <;> (try exact hlt.elim))) | (refine AWp.block ?_) | ((first | refine gdO_split (fun hlt => ?_) (fun hlt => ?_) | refine tkO_split (fun hlt => ?_) (fun hlt => ?_) | refine opO_split (fun hlt => ?_) (fun hlt => ?_)) <;> have hgd := hlt <;> (try simp only [cla, clb, ne_eq, cld] at hlt) <;> (simp -implicitDefEqProofs (maxSteps := 1000000) (disch := omega) only [go_sem, ↓reduceIte, hgd]) <;> clear hgd) | (with_reducible refine And.intro ?_ ?_; · first | omega | assumption | exact ⟨_, _, rfl, rfl⟩) | ((first | refine ⟨_, hi, ?_⟩); simp -implicitDefEqProofs (maxSteps := 1000000) (disch := omega) only [go_sem, ↓reduceIte]) | fail

theorem bad_pc (x : Int) : PC Tryz.prog 115 [I x] (B (decide (x < 0 ∨ 1000000000 ≤ x))) := by
  refine PCr.pc (PCr.of tab_ok Tryz.func115 rfl rfl rfl fun c hc hm => ?_)
  rw [show Tryz.f115.ntmps = _ from Tryz.ntmps115] at hc
  simp only [Tryz.f115]
  repeat' first | (refine AWp.seq fun K hK => ?_) | ((first | refine AWp.region (by rw [hc]; rfl) ?_ | refine AWp.skip ?_ | refine AWp.exit ?_ | refine AWp.label ?_ | refine AWp.ret ?_ | refine appK_g ?_); simp -implicitDefEqProofs (maxSteps := 1000000) (disch := omega) only [go_sem, ↓reduceIte]) | ((first | refine hK _ ?_ | (clear hK; first | refine hK _ ?_ | (clear hK; first | refine hK _ ?_ | (clear hK; refine hK _ ?_)))); clear hK) | (refine AWp.cond ?_; simp -implicitDefEqProofs (maxSteps := 1000000) (disch := omega) only [go_sem, ↓reduceIte]; try (refine ⟨fun hlt => ?_, fun hlt => ?_⟩ <;> (try simp only [cla, clb, ne_eq, reduceCtorEq] at hlt) <;> (try exact hlt.elim))) | (refine AWp.block ?_) | ((first | refine gdO_split (fun hlt => ?_) (fun hlt => ?_) | refine tkO_split (fun hlt => ?_) (fun hlt => ?_) | refine opO_split (fun hlt => ?_) (fun hlt => ?_)) <;> have hgd := hlt <;> (try simp only [cla, clb, ne_eq, cld] at hlt) <;> (simp -implicitDefEqProofs (maxSteps := 1000000) (disch := omega) only [go_sem, ↓reduceIte, hgd]) <;> clear hgd) | (with_reducible refine And.intro ?_ ?_; · first | omega | assumption | exact ⟨_, _, rfl, rfl⟩) | fail
  all_goals (simp; omega)

/-- What an integer is. -/
def okI (neg : Bool) (d : List Int) : Prop := d.length ≤ 40 ∧ ¬ (d = [] ∧ neg = true) ∧ (d ≠ [] → d.getD (d.length - 1) 0 ≠ 0) ∧ dig d
instance (neg : Bool) (d : List Int) : Decidable (okI neg d) := by unfold okI dig; infer_instance

theorem okI_iff (neg : Bool) (d : List Int) : okI neg d ↔ d.length ≤ 40 ∧ (d.length = 0 → neg = false) ∧ (0 < d.length → d.getD (d.length - 1) 0 ≠ 0) ∧ (d.any fun x => decide (x < 0 ∨ 1000000000 ≤ x)) = false := by
  unfold okI dig
  have e : ((d.any fun x => decide (x < 0 ∨ 1000000000 ≤ x)) = false) ↔ ∀ x ∈ d, 0 ≤ x ∧ x < 1000000000 := by
    rw [List.any_eq_false]
    constructor
    · intro h x hx; have := h x hx; simp at this; omega
    · intro h x hx; have := h x hx; simp; omega
  rw [e]
  cases d with
  | nil => cases neg <;> simp
  | cons x l => simp

theorem Check_pc (neg : Bool) (d : List Int) (ld : d.length ≤ 1000000) : PC Tryz.prog 61 [Zr neg d] (I (if okI neg d then 0 else 10)) := by
  have hh := has_pc d 115 [] (fun x => decide (x < 0 ∨ 1000000000 ≤ x)) ld (fun x _ => bad_pc x)
  refine PCr.pc (PCr.of tab_ok Tryz.func61 rfl rfl rfl fun c hc hm => ?_)
  rw [show Tryz.f61.ntmps = _ from Tryz.ntmps61] at hc
  simp only [Tryz.f61]
  repeat' first | (refine AWp.seq fun K hK => ?_) | ((first | refine AWp.region (by rw [hc]; rfl) ?_ | refine AWp.skip ?_ | refine AWp.exit ?_ | refine AWp.label ?_ | refine AWp.ret ?_ | refine appK_g ?_); simp -implicitDefEqProofs (maxSteps := 1000000) (disch := omega) only [go_sem, ↓reduceIte]) | ((first | refine hK _ ?_ | (clear hK; first | refine hK _ ?_ | (clear hK; first | refine hK _ ?_ | (clear hK; refine hK _ ?_)))); clear hK) | (refine AWp.cond ?_; simp -implicitDefEqProofs (maxSteps := 1000000) (disch := omega) only [go_sem, ↓reduceIte]; try (refine ⟨fun hlt => ?_, fun hlt => ?_⟩ <;> (try simp only [cla, clb, ne_eq, reduceCtorEq] at hlt) <;> (try exact hlt.elim))) | (refine AWp.block ?_) | ((first | refine gdO_split (fun hlt => ?_) (fun hlt => ?_) | refine tkO_split (fun hlt => ?_) (fun hlt => ?_) | refine opO_split (fun hlt => ?_) (fun hlt => ?_)) <;> have hgd := hlt <;> (try simp only [cla, clb, ne_eq, cld] at hlt) <;> (simp -implicitDefEqProofs (maxSteps := 1000000) (disch := omega) only [go_sem, ↓reduceIte, hgd]) <;> clear hgd) | (with_reducible refine And.intro ?_ ?_; · first | omega | assumption | exact ⟨_, _, rfl, rfl⟩) | ((first | refine ⟨_, hh, ?_⟩); simp -implicitDefEqProofs (maxSteps := 1000000) (disch := omega) only [go_sem, ↓reduceIte]) | fail
  all_goals
    simp only [okI_iff]
    generalize d.getD (d.length - 1) 0 = g at *
    generalize (d.any fun x => decide (x < 0 ∨ 1000000000 ≤ x)) = bb at *
    clear hh
    split
    · rename_i h; obtain ⟨h1, h2, h3, h4⟩ := h
      first
        | rfl
        | omega
        | exact absurd (by assumption) (h3 (by omega))
        | (exfalso; have e := h2 (by omega); rw [e] at hlt; cases hlt; done)
        | (exfalso; rw [h4] at hlt; cases hlt; done)
    · rename_i h
      first | rfl | (exfalso; apply h; refine ⟨by omega, fun e => by first | assumption | omega, fun e => by first | assumption | omega, by assumption⟩)

/-- all of them are integers -/
def zrow (z : Bool × List Int) : List DV := [.bool z.1, dL z.2]
def LZ (zs : List (Bool × List Int)) : AV := .dat (.lst (zs.map zrow))
theorem zrow_getD (zs : List (Bool × List Int)) (k : Nat) (h : k < zs.length) : (zs.map zrow).getD k [] = [.bool (zs.getD k (false, [])).1, .lst ((zs.getD k (false, [])).2.map eI)] := by
  simp [List.getD, h, zrow, dL]
attribute [go_sem] zrow_getD LZ
def F78 (zs : List (Bool × List Int)) (i : Nat) : St := ⟨[(6, LZ zs), (7, I zs.length), (8, I i)], [], 0, 0⟩
theorem are_pc (zs : List (Bool × List Int)) (lz : zs.length ≤ 1000000) (ld : ∀ z ∈ zs, z.2.length ≤ 1000000) : PC Tryz.prog 78 [LZ zs] (I (if ∀ z ∈ zs, okI z.1 z.2 then 0 else 10)) := by
  refine PCr.pc (PCr.of tab_ok Tryz.func78 rfl rfl rfl fun c hc hm => ?_)
  rw [show Tryz.f78.ntmps = _ from Tryz.ntmps78] at hc
  simp only [Tryz.f78]
  repeat' first | (refine AWp.seq fun K hK => ?_) | ((first | refine AWp.region (by rw [hc]; rfl) ?_ | refine AWp.skip ?_ | refine AWp.exit ?_ | refine AWp.label ?_ | refine AWp.ret ?_ | refine appK_g ?_); simp -implicitDefEqProofs (maxSteps := 1000000) (disch := omega) only [go_sem, ↓reduceIte]) | ((first | refine hK _ ?_ | (clear hK; first | refine hK _ ?_ | (clear hK; first | refine hK _ ?_ | (clear hK; refine hK _ ?_)))); clear hK) | (refine AWp.cond ?_; simp -implicitDefEqProofs (maxSteps := 1000000) (disch := omega) only [go_sem, ↓reduceIte]; try (refine ⟨fun hlt => ?_, fun hlt => ?_⟩ <;> (try simp only [cla, clb, ne_eq, reduceCtorEq] at hlt) <;> (try exact hlt.elim))) | (refine AWp.block ?_) | ((first | refine gdO_split (fun hlt => ?_) (fun hlt => ?_) | refine tkO_split (fun hlt => ?_) (fun hlt => ?_) | refine opO_split (fun hlt => ?_) (fun hlt => ?_)) <;> have hgd := hlt <;> (try simp only [cla, clb, ne_eq, cld] at hlt) <;> (simp -implicitDefEqProofs (maxSteps := 1000000) (disch := omega) only [go_sem, ↓reduceIte, hgd]) <;> clear hgd) | (with_reducible refine And.intro ?_ ?_; · first | omega | assumption | exact ⟨_, _, rfl, rfl⟩) | fail
  refine AWp.loopInv (F78 zs) (fun i => zs.length - i) (fun i => i ≤ zs.length ∧ ∀ j, j < i → okI (zs.getD j (false, [])).1 (zs.getD j (false, [])).2) 0 ⟨Nat.zero_le _, fun j h => absurd h (Nat.not_lt_zero _)⟩ (Sub.of0 hm id rfl ?_ ?_ (fun _ _ _ _ h => h)) ?_
  all_goals (try dsimp only)
  all_goals (first | omega | (simp -implicitDefEqProofs (maxSteps := 1000000) (disch := omega) only [F78, id, go_sem, Nat.blt_eq, Nat.reduceAdd, Nat.reduceSub, Nat.reduceEqDiff, Nat.reduceLT, ↓reduceIte, and_true, true_and, AV.dat.injEq, DV.int.injEq, DV.bool.injEq, DV.lst.injEq, eq_self_iff_true]; first | done | omega | (simp; done) | (simp; omega)) | (simp; done) | (simp; omega) | skip)
  rintro i ⟨h1, h2⟩ ih
  simp only [F78]
  have hl : i < zs.length → (zs.getD i (false, [])).2.length ≤ 1000000 := fun h => ld _ (by simp [h])
  generalize hz : zs.getD i (false, []) = z at *
  repeat' first | (refine AWp.seq fun K hK => ?_) | ((first | refine AWp.region (by rw [hc]; rfl) ?_ | refine AWp.skip ?_ | refine AWp.exit ?_ | refine AWp.label ?_ | refine AWp.ret ?_ | refine appK_g ?_); simp -implicitDefEqProofs (maxSteps := 1000000) (disch := omega) only [go_sem, ↓reduceIte, hz]) | ((first | refine hK _ ?_ | (clear hK; first | refine hK _ ?_ | (clear hK; first | refine hK _ ?_ | (clear hK; refine hK _ ?_)))); clear hK) | (refine AWp.cond ?_; simp -implicitDefEqProofs (maxSteps := 1000000) (disch := omega) only [go_sem, ↓reduceIte, hz]; try (refine ⟨fun hlt => ?_, fun hlt => ?_⟩ <;> (try simp only [cla, clb, ne_eq, reduceCtorEq] at hlt) <;> (try exact hlt.elim))) | (refine AWp.block ?_) | ((first | refine gdO_split (fun hlt => ?_) (fun hlt => ?_) | refine tkO_split (fun hlt => ?_) (fun hlt => ?_) | refine opO_split (fun hlt => ?_) (fun hlt => ?_)) <;> have hgd := hlt <;> (try simp only [cla, clb, ne_eq, cld] at hlt) <;> (simp -implicitDefEqProofs (maxSteps := 1000000) (disch := omega) only [go_sem, ↓reduceIte, hz, hgd]) <;> clear hgd) | (with_reducible refine And.intro ?_ ?_; · first | omega | assumption | exact ⟨_, _, rfl, rfl⟩) | (refine ⟨_, Check_pc _ _ (hl (by omega)), ?_⟩; simp -implicitDefEqProofs (maxSteps := 1000000) (disch := omega) only [go_sem, ↓reduceIte]) | fail
  · have hk : ¬ okI z.1 z.2 := fun h => by rw [if_pos h] at hlt; exact hlt rfl
    rw [if_neg hk, if_neg (fun h => hk (h z (by rw [← hz]; simp [show i < zs.length by omega])))]
  · have hk : okI z.1 z.2 := by
      by_cases h : okI z.1 z.2
      · exact h
      · rw [if_neg h] at hlt; exact absurd hlt (by decide)
    refine ih (i + 1) _ ⟨by omega, fun j hj => ?_⟩ (by omega) (Sub.of0 hm id rfl ?_ ?_ (fun _ _ _ _ h => h))
    · by_cases h : j = i
      · subst h; rw [hz]; exact hk
      · exact h2 j (by omega)
    all_goals (try dsimp only)
    all_goals (first | omega | (simp -implicitDefEqProofs (maxSteps := 1000000) (disch := omega) only [F78, id, go_sem, Nat.blt_eq, Nat.reduceAdd, Nat.reduceSub, Nat.reduceEqDiff, Nat.reduceLT, ↓reduceIte, and_true, true_and, AV.dat.injEq, DV.int.injEq, DV.bool.injEq, DV.lst.injEq, eq_self_iff_true]; first | done | omega | (simp; done) | (simp; omega)) | (simp; done) | (simp; omega) | skip)
  · rw [if_pos]
    intro z' hz'
    obtain ⟨j, hj, rfl⟩ := List.getElem_of_mem hz'
    have := h2 j (by omega)
    simpa [hj] using this
end Go.Proofs.YthhjcfejgoddlaaGreatDoor
end

section
set_option linter.unusedSimpArgs false
set_option linter.unusedVariables false
set_option maxRecDepth 100000
namespace Go.Proofs.YthhjcfejgoddlaaGreatDoor
open Go Go.Abs Go.RowKit

def fvm (z : Bool) (f : FuncId) : Value := .agg #[.bool z, .func (.func f) #[] #[]]
def ent (k : Int) (z : Bool) (f : FuncId) (b : Nat) : MapEntry := { key := .int .u8 k, val := fvm z f, born := b }
def ents : Array MapEntry := #[ent 43 false 93 0, ent 45 false 148 1, ent 42 false 79 2, ent 47 true 149 3, ent 37 true 150 4]
theorem ins (w : World) (es : Array MapEntry) (c : Nat) (k : Int) (v : Value) (hf : Instr.findNow (.int .u8) (.int .u8 k) es.toList 0 = some none) :
    (Instr.mapUpdate 123 (.map (some w.heap.size)) (.int .u8 k) v).run Tryz.prog (w.alloc (.map es c)) = .ok () (w.alloc (.map (es.push { key := .int .u8 k, val := v, born := c }) (c + 1))) := by
  have h0 := (MapKept.heap_alloc w (.map es c)).1
  have h1 := MapKept.run_getObj_map (P := Tryz.prog) h0
  have h2 := MapKept.run_setObj_map (P := Tryz.prog) (.map (es.push { key := .int .u8 k, val := v, born := c }) (c + 1)) h0
  have h3 := MapKept.run_findKey (P := Tryz.prog) (w := w.alloc (.map es c)) Tryz.underlying5 hf
  have h4 := MapKept.run_checkKey (P := Tryz.prog) (w := w.alloc (.map es c)) (k := .int .u8 k) Tryz.underlying5 rfl false 9999
  have h5 : ({ w.alloc (.map es c) with heap := (w.alloc (.map es c)).heap.setIfInBounds w.heap.size (.map (es.push { key := .int .u8 k, val := v, born := c }) (c + 1)) } : World) = w.alloc (.map (es.push { key := .int .u8 k, val := v, born := c }) (c + 1)) := by
    simp only [World.alloc]
    congr 1
    refine Array.ext_getElem? fun i => ?_
    simp only [Array.getElem?_setIfInBounds, Array.getElem?_push, Array.size_push]
    by_cases hi : w.heap.size = i
    · subst hi; simp
    · rw [if_neg hi, if_neg (by omega), if_neg (by omega)]
  rw [h5] at h2
  unfold Instr.mapUpdate
  simp only [Sem.run_bind, run_underlying Tryz.underlying123, Result.andThen_ok, h1, h3, h4, h2]

theorem combines_calls (w : World) : Calls Tryz.prog 123 #[] w fun e w' => ∃ r, e = .returned (.map (some r)) ∧ Below w.heap.size w w' ∧ w'.heap[r]? = some (.map ents 5) := by
  have hmm : ∀ w, (Instr.makeMap 123 none).run Tryz.prog w = .ok (.map (some w.heap.size)) (w.alloc (.map #[] 0)) := fun w => rfl
  have i1 := ins w #[] 0 43 (fvm false 93) rfl
  have i2 := ins w #[ent 43 false 93 0] 1 45 (fvm false 148) rfl
  have i3 := ins w #[ent 43 false 93 0, ent 45 false 148 1] 2 42 (fvm false 79) rfl
  have i4 := ins w #[ent 43 false 93 0, ent 45 false 148 1, ent 42 false 79 2] 3 47 (fvm true 149) rfl
  have i5 := ins w #[ent 43 false 93 0, ent 45 false 148 1, ent 42 false 79 2, ent 47 true 149 3] 4 37 (fvm true 150) rfl
  simp only [fvm, ent, List.push_toArray, List.cons_append, List.nil_append, Nat.reduceAdd] at i1 i2 i3 i4 i5
  go_enter Tryz.func123, Tryz.ntmps123
  go_wp2
  go_ret
  exact ⟨_, rfl, (Below.refl _ _).alloc (Nat.le_refl _) _, (MapKept.heap_alloc w _).1⟩

theorem lookup_ent (w : World) (r : Nat) (h : w.heap[r]? = some (.map ents 5)) (k : Int) (z : Bool) (f : FuncId) (hk : ∃ i, Instr.findNow (.int .u8) (.int .u8 k) ents.toList 0 = some (some (i, fvm z f))) :
    (Instr.lookup 123 (.map (some r)) (.int .u8 k) false).run Tryz.prog w = .ok (fvm z f) w := by
  obtain ⟨i, hk⟩ := hk
  have h1 := MapKept.run_getObj_map (P := Tryz.prog) h
  have h3 := MapKept.run_findKey (P := Tryz.prog) (w := w) Tryz.underlying5 hk
  have h4 := MapKept.run_checkKey (P := Tryz.prog) (w := w) (k := .int .u8 k) Tryz.underlying5 rfl ents.isEmpty 9999
  unfold Instr.lookup
  simp only [Sem.run_bind, run_underlying Tryz.underlying123, Result.andThen_ok, h1, h3, h4, Sem.run_pure]
  rfl

theorem AWp.regionRaw {P : Program} {T : Tab} {c : Ctx} {ro : Option Nat} {id : Nat} {ops : Array Oper} {σ : St} {Q : Exit → St → Prop} (k : Nat) (σ1 : St)
    (hraw : ∀ φ a w, Rel c φ σ a w → ∀ Q', (∀ φ' a' w', Rel c φ' σ1 a' w' → wpListIn (FF ro) 0 P ops Q' (ops.toList.drop k) a' w') → wpListIn (FF ro) 0 P ops Q' ops.toList a w)
    (hok : (ops.toList.drop k).all (dstOk c.N) = true) (h : runO P T ops.toList (ops.toList.drop k) σ1 fun σ' => Q .normal σ') : AWp P T c ro (.region id ops false) σ Q := by
  intro hT φ a w hR
  refine wpIn_region_list (hraw φ a w hR _ fun φ' a' w' hR' => ?_)
  have := runO_ok (ro := ro) (Q := Conc c Q) hT ops.toList (ops.toList.drop k) σ1 φ' a' w' _ hok hR' h (fun φ' σ' a' w' hK hR' => ⟨φ', σ', hR', hK⟩)
  simpa using this

theorem pick_raw {c : Ctx} {ro : Option Nat} {σ : St} (hN : 34 ≤ c.N) (op : Int) (z : Bool) (f : FuncId) (hop : lk 0 σ.t = .dat (.int .u8 op)) (hk : ∃ i, Instr.findNow (.int .u8) (.int .u8 op) ents.toList 0 = some (some (i, fvm z f)))
    {o0 o1 o2 : Oper} {ty0 ty1 ty2 : TypeId} {p0 p1 p2 : String} {f0 f1 f2 : Array Edge} {tl : List Oper} {ops : Array Oper}
    (e0 : o0 = ⟨some 18, .call { callee := .value (.func 123), args := #[], argTypes := #[] }, ty0, p0, f0, none⟩)
    (e1 : o1 = ⟨some 19, .move (.tmp 0), ty1, p1, f1, none⟩) (e2 : o2 = ⟨some 20, .lookup 123 (.tmp 18) (.tmp 19) false, ty2, p2, f2, none⟩)
    (φ : Nat → Lay) (a : Act) (w : World) (hR : Rel c φ σ a w) (Q' : Exit → Act → World → Prop)
    (hn : ∀ φ' a' w', Rel c φ' { σ with t := (20, .agg [B z, .dat (.fn f [])]) :: (19, .und) :: (18, .und) :: σ.t } a' w' → wpListIn (FF ro) 0 Tryz.prog ops Q' tl a' w') : wpListIn (FF ro) 0 Tryz.prog ops Q' (o0 :: o1 :: o2 :: tl) a w := by
  subst e0; subst e1; subst e2
  unfold wpListIn
  rw [if_pos (by simp [Region.wanted])]
  refine ⟨fun _ _ => trivial, ?_⟩
  have hent : Enters Tryz.prog 123 := enters_of' Tryz.func123 rfl rfl
  have hrun : (Oper.semAt (FF ro).round a.eval ⟨some 18, .call { callee := .value (.func 123), args := #[], argTypes := #[] }, ty0, p0, f0, none⟩).run Tryz.prog w = .ok (.enter 123 #[]) w := by
    rw [Oper.semAt_eq _ _ _ (by intro _ h; cases h)]
    simp [execOp, resolve, Act.eval, Deferred.ofValue, invoke, hent #[] w]
  rw [hrun, Oper.uponIn_enter]
  refine ⟨fun h => by simp [FF] at h, callsIn_FF ((combines_calls w).mono fun e w' he => ?_)⟩
  obtain ⟨r, rfl, hb, hr⟩ := he
  have g := hR.mem.grown hb
  have R1 := hR.put (dst := some 18) g (.und (.map (some r))) (fun d hd => by cases hd; omega)
  have R2 := R1.put (dst := some 19) (Goes.refl R1.mem) (.und (.int .u8 op)) (fun d hd => by cases hd; omega)
  have hs : a.tmps.size = c.N := hR.size
  have h0 : a.tmps.getD 0 undef = .int .u8 op := by
    have := hR.tm 0
    rw [hop] at this
    exact this.int
  have e0 : (a.put (some 18) (.map (some r))).eval (.tmp 0) = .int .u8 op := by
    rw [← h0]; simp [Act.put, Act.eval]
  have e18 : ((a.put (some 18) (.map (some r))).put (some 19) (.int .u8 op)).eval (.tmp 18) = .map (some r) := by
    simp [Act.put, Act.eval, hs]; omega
  have e19 : ((a.put (some 18) (.map (some r))).put (some 19) (.int .u8 op)).eval (.tmp 19) = .int .u8 op := by
    simp [Act.put, Act.eval, hs]; omega
  show wpListIn (FF ro) 0 Tryz.prog ops Q' _ (a.put (some 18) (.map (some r))) w'
  unfold wpListIn
  rw [if_pos (by simp [Region.wanted])]
  refine ⟨fun _ _ => trivial, ?_⟩
  have hrun1 : (Oper.semAt (FF ro).round (a.put (some 18) (.map (some r))).eval ⟨some 19, .move (.tmp 0), ty1, p1, f1, none⟩).run Tryz.prog w' = .ok (.value (.int .u8 op)) w' := by
    rw [Oper.semAt_eq _ _ _ (by intro _ h; cases h)]
    simp [execOp, e0]
  rw [hrun1, Oper.uponIn_value]
  unfold wpListIn
  rw [if_pos (by simp [Region.wanted])]
  refine ⟨fun _ _ => trivial, ?_⟩
  have hrun2 : (Oper.semAt (FF ro).round ((a.put (some 18) (.map (some r))).put (some 19) (.int .u8 op)).eval ⟨some 20, .lookup 123 (.tmp 18) (.tmp 19) false, ty2, p2, f2, none⟩).run Tryz.prog w' = .ok (.value (fvm z f)) w' := by
    rw [Oper.semAt_eq _ _ _ (by intro _ h; cases h)]
    simp [execOp, e18, e19, lookup_ent w' r hr op z f hk]
  rw [hrun2, Oper.uponIn_value]
  have hv : RV φ σ.n (c.AA φ σ.s) w' (.agg [B z, .dat (.fn f [])]) (fvm z f) := by
    refine .agg _ [.bool z, .func (.func f) #[] #[]] rfl (fun j x hj => ?_) (by simp [Value.oneCell'])
    rcases j with _ | _ | j
    · simp at hj; subst hj; exact .dat _ _ (.bool z)
    · simp at hj; subst hj; exact .dat _ _ (.fn f [] [] rfl (by simp))
    · simp at hj
  have R3 := R2.put (dst := some 20) (Goes.refl R2.mem) hv (fun d hd => by cases hd; omega)
  exact hn φ _ _ R3
end Go.Proofs.YthhjcfejgoddlaaGreatDoor
end

section
set_option linter.unusedSimpArgs false
set_option linter.unusedVariables false
set_option maxRecDepth 100000
namespace Go.Proofs.YthhjcfejgoddlaaGreatDoor
open Go Go.Abs
attribute [local go_sem] wrap64 Int.tdiv_eq_ediv_of_nonneg Int.tmod_eq_emod_of_nonneg eq_self Bool.false_eq_true Bool.true_eq_false Bool.not_true Bool.not_false
attribute [local go_sem_proc] Nat.reduceAdd Nat.reduceMul Nat.reduceEqDiff Nat.reduceLT Nat.reduceLeDiff Int.reduceEq Int.reduceNeg Int.reduceToNat reduceCtorEq Int.reduceBNe Int.reduceBEq

def lenZ (z : Int) : Nat := (D z.natAbs).length
def tlV : Value := .iface 79 (.agg #[])
theorem tlV_of {v : Value} (h : ∃ φ n A w, RV φ n A w (.dat (.ifc 79 true [])) v) : v = tlV := by
  obtain ⟨φ, n, A, w, h⟩ := h
  cases h with
  | dat _ _ h =>
    cases h with
    | ifc _ _ _ vs hl =>
      have : vs = [] := List.eq_nil_of_length_eq_zero hl
      subst this; rfl
theorem lenZ_le {a b : Int} (h : a.natAbs ≤ b.natAbs) : lenZ a ≤ lenZ b := D_len_le h
theorem lenZ_dvd {a b c : Int} (h : c = a * b) (hb : b ≠ 0) : lenZ a ≤ lenZ c := by
  subst h
  refine lenZ_le ?_
  rw [Int.natAbs_mul]
  exact Nat.le_mul_of_pos_right _ (by omega)
theorem lenZ_mul (a b : Int) : lenZ (a * b) ≤ lenZ a + lenZ b := by
  unfold lenZ; rw [Int.natAbs_mul]; exact D_mul_len _ _
theorem one_Z : PC Tryz.prog 85 [] (Z 1) := by rw [Z_one]; exact one_pc

theorem lenZ_zero : lenZ 0 = 0 := by simp [lenZ, D_zero]
theorem sq_pow (b : Int) (k : Nat) : (b * b) ^ k = b ^ (2 * k) := by
  rw [Int.pow_mul]; congr 1; grind
theorem big_of {X a b : Int} (h : a * b = X) (ha : 40 < lenZ a) (hb : b ≠ 0) : 40 < lenZ X := Nat.lt_of_lt_of_le ha (lenZ_dvd h.symm hb)
theorem pow_ne {b : Int} (h : b ≠ 0) (k : Nat) : b ^ k ≠ 0 := by
  induction k with
  | zero => simp
  | succ k ih => rw [Int.pow_succ]; exact Int.mul_ne_zero ih h
theorem ne_of_big {a b : Int} (h : 40 < lenZ (a * b)) : a ≠ 0 ∧ b ≠ 0 := by
  constructor
  · rintro rfl; rw [Int.zero_mul, lenZ_zero] at h; omega
  · rintro rfl; rw [Int.mul_zero, lenZ_zero] at h; omega
theorem pw_odd {out base X : Int} {n : Int} (h0 : 0 < n) (h1 : n % 2 = 1) (h : out * base ^ n.toNat = X) : (out * base) * (base * base) ^ (n / 2).toNat = X := by
  rw [sq_pow, ← h, show n.toNat = 2 * (n / 2).toNat + 1 by omega, Int.pow_succ]; grind
theorem pw_even {out base X : Int} {n : Int} (h0 : 0 < n) (h1 : ¬ n % 2 = 1) (h : out * base ^ n.toNat = X) : out * (base * base) ^ (n / 2).toNat = X := by
  rw [sq_pow, ← h, show n.toNat = 2 * (n / 2).toNat by omega]
theorem pw_big {o b X : Int} {k : Nat} (hk : 0 < k) (h : o * b ^ k = X) (hb : 40 < lenZ b) (ho : o ≠ 0) (hb0 : b ≠ 0) : 40 < lenZ X := by
  obtain ⟨j, rfl⟩ : ∃ j, k = j + 1 := ⟨k - 1, by omega⟩
  refine big_of (a := b) (b := o * b ^ j) (by rw [← h, Int.pow_succ]; grind) hb (Int.mul_ne_zero ho (pow_ne hb0 j))
def bZ (z : Int) : Obj' := .box [B (decide (z < 0)), L (D z.natAbs)] false
def F89 : Int × Int × Int → St := fun ⟨n, out, base⟩ => ⟨[(1, I n), (4, .ptr 1 0), (5, .ptr 2 0), (6, .ptr 3 0)], [(3, bZ base), (2, bZ out), (1, .box [B false, .nil] false)], 4, 0⟩
set_option maxHeartbeats 4000000 in
theorem power_px (x n : Int) (hn : 0 ≤ n) (hn2 : n ≤ 9223372036854775807) (lx : lenZ x ≤ 40) :
    PX Tryz.prog 89 [Z x, I n] (fun r => r = Z (x ^ n.toNat) ∧ lenZ (x ^ n.toNat) ≤ 40) (fun v => v = tlV ∧ 40 < lenZ (x ^ n.toNat)) := by
  refine PX.of tab_ok Tryz.func89 rfl rfl rfl fun c hc hm => ?_
  rw [show Tryz.f89.ntmps = _ from Tryz.ntmps89] at hc
  simp only [Tryz.f89]
  repeat' first | (refine AWp.seq fun K hK => ?_) | ((first | refine AWp.region (by rw [hc]; rfl) ?_ | refine AWp.skip ?_ | refine AWp.exit ?_ | refine AWp.label ?_ | refine AWp.ret ?_ | refine appK_g ?_); simp -implicitDefEqProofs (maxSteps := 1000000) (disch := omega) only [go_sem, ↓reduceIte]) | ((first | refine hK _ ?_ | (clear hK; first | refine hK _ ?_ | (clear hK; first | refine hK _ ?_ | (clear hK; refine hK _ ?_)))); clear hK) | (refine AWp.cond ?_; simp -implicitDefEqProofs (maxSteps := 1000000) (disch := omega) only [go_sem, ↓reduceIte]; try (refine ⟨fun hlt => ?_, fun hlt => ?_⟩ <;> (try simp only [cla, clb, ne_eq, reduceCtorEq] at hlt) <;> (try exact hlt.elim))) | (refine AWp.block ?_) | ((first | refine gdO_split (fun hlt => ?_) (fun hlt => ?_) | refine tkO_split (fun hlt => ?_) (fun hlt => ?_) | refine opO_split (fun hlt => ?_) (fun hlt => ?_)) <;> have hgd := hlt <;> (try simp only [cla, clb, ne_eq, cld] at hlt) <;> (simp -implicitDefEqProofs (maxSteps := 1000000) (disch := omega) only [go_sem, ↓reduceIte, hgd]) <;> clear hgd) | (with_reducible refine And.intro ?_ ?_; · first | omega | assumption | exact ⟨_, _, rfl, rfl⟩) | ((first | refine ⟨_, one_Z, ?_⟩); simp -implicitDefEqProofs (maxSteps := 1000000) (disch := omega) only [go_sem, ↓reduceIte]) | fail
  refine AWp.loopInv F89 (fun a => a.1.toNat) (fun a => 0 ≤ a.1 ∧ a.1 ≤ 9223372036854775807 ∧ lenZ a.2.1 ≤ 40 ∧ lenZ a.2.2 ≤ 40 ∧ a.2.1 * a.2.2 ^ a.1.toNat = x ^ n.toNat ∧ (a.2.1 = 0 → a.2.2 = 0)) (n, 1, x)
    ⟨hn, hn2, by simp [lenZ, D_1], lx, by simp, by simp⟩ (Sub.of0 hm id rfl ?_ ?_ (fun _ _ _ _ h => h)) ?_
  all_goals (try dsimp only)
  all_goals (first | omega | (simp -implicitDefEqProofs (maxSteps := 1000000) (disch := omega) only [F89, bZ, id, go_sem, Nat.blt_eq, Nat.reduceAdd, Nat.reduceSub, Nat.reduceEqDiff, Nat.reduceLT, ↓reduceIte, and_true, true_and, AV.dat.injEq, DV.int.injEq, DV.bool.injEq, DV.lst.injEq, eq_self_iff_true]; first | done | omega | (simp; done) | (simp; omega)) | (simp; done) | (simp; omega) | skip)
  rintro ⟨n', out, base⟩ ⟨h1, h2, h3, h4, h5, h6⟩ ih
  simp only at h1 h2 h3 h4 h5 h6
  simp only [F89, bZ]
  have m1 := mul_Z out base (by unfold lenZ at h3; omega) (by unfold lenZ at h4; omega)
  have m2 := mul_Z base base (by unfold lenZ at h4; omega) (by unfold lenZ at h4; omega)
  repeat' first | (refine AWp.regionPanic (id := 12) 2 rfl rfl rfl (by rw [hc]; rfl) ?_; simp -implicitDefEqProofs (maxSteps := 1000000) (disch := omega) only [go_sem, ↓reduceIte]) | (refine AWp.regionPanic (id := 8) 2 rfl rfl rfl (by rw [hc]; rfl) ?_; simp -implicitDefEqProofs (maxSteps := 1000000) (disch := omega) only [go_sem, ↓reduceIte]) | (refine AWp.seq fun K hK => ?_) | ((first | refine AWp.region (by rw [hc]; rfl) ?_ | refine AWp.skip ?_ | refine AWp.exit ?_ | refine AWp.label ?_ | refine AWp.ret ?_ | refine appK_g ?_); simp -implicitDefEqProofs (maxSteps := 1000000) (disch := omega) only [go_sem, ↓reduceIte]) | ((first | refine hK _ ?_ | (clear hK; first | refine hK _ ?_ | (clear hK; first | refine hK _ ?_ | (clear hK; refine hK _ ?_)))); clear hK) | (refine AWp.cond ?_; simp -implicitDefEqProofs (maxSteps := 1000000) (disch := omega) only [go_sem, ↓reduceIte]; try (refine ⟨fun hlt => ?_, fun hlt => ?_⟩ <;> (try simp only [cla, clb, ne_eq, reduceCtorEq] at hlt) <;> (try exact hlt.elim))) | (refine AWp.block ?_) | ((first | refine gdO_split (fun hlt => ?_) (fun hlt => ?_) | refine tkO_split (fun hlt => ?_) (fun hlt => ?_) | refine opO_split (fun hlt => ?_) (fun hlt => ?_)) <;> have hgd := hlt <;> (try simp only [cla, clb, ne_eq, cld] at hlt) <;> (simp -implicitDefEqProofs (maxSteps := 1000000) (disch := omega) only [go_sem, ↓reduceIte, hgd]) <;> clear hgd) | (with_reducible refine And.intro ?_ ?_; · first | omega | assumption | exact ⟨_, _, rfl, rfl⟩) | ((first | refine ⟨_, m1, ?_⟩ | refine ⟨_, m2, ?_⟩); simp -implicitDefEqProofs (maxSteps := 1000000) (disch := omega) only [go_sem, ↓reduceIte]) | fail
  · refine ⟨_, _, _, rfl, fun v hv => ⟨tlV_of hv, ?_⟩⟩
    have hb := ne_of_big (a := out) (b := base) (by unfold lenZ; omega)
    refine big_of (a := out * base) (b := (base * base) ^ (n' / 2).toNat) (pw_odd (by omega) (by assumption) h5) (by unfold lenZ; omega) (pow_ne (Int.mul_ne_zero hb.2 hb.2) _)
  · refine ⟨_, _, _, rfl, fun v hv => ⟨tlV_of hv, ?_⟩⟩
    have hb := ne_of_big (a := base) (b := base) (by unfold lenZ; omega)
    exact pw_big (by omega) (pw_odd (by omega) (by assumption) h5) (by unfold lenZ; omega) (Int.mul_ne_zero (fun e => hb.1 (h6 e)) hb.1) (Int.mul_ne_zero hb.1 hb.1)
  · refine ih (n' / 2, out * base, base * base) _ ⟨by simp only; omega, by simp only; omega, by simp only; unfold lenZ; omega, by simp only; unfold lenZ; omega, pw_odd (by omega) (by assumption) h5, ?_⟩ (by simp only; omega) (Sub.of0 hm (fun i => if i = 3 then 4 else i) rfl ?_ ?_ ?_)
    · simp only; intro e
      rcases Int.mul_eq_zero.1 e with e | e
      · rw [h6 e]; rfl
      · rw [e]; rfl
    all_goals (try dsimp only)
    all_goals (first | omega | (simp -implicitDefEqProofs (maxSteps := 1000000) (disch := omega) only [F89, bZ, id, go_sem, Nat.blt_eq, Nat.reduceAdd, Nat.reduceSub, Nat.reduceEqDiff, Nat.reduceLT, ↓reduceIte, and_true, true_and, AV.dat.injEq, DV.int.injEq, DV.bool.injEq, DV.lst.injEq, eq_self_iff_true]; first | done | omega | (simp; done) | (simp; omega)) | (simp; done) | (simp; omega) | skip)
    · intro a b h1 h2 h
      change a < 4 at h1; change b < 4 at h2
      (split at h <;> split at h) <;> omega
  · have hp := pw_odd (by omega) (by assumption) h5
    rw [show (n' / 2).toNat = 0 by omega] at hp
    refine ih (n' / 2, out * base, base) _ ⟨by simp only; omega, by simp only; omega, by simp only; unfold lenZ; omega, h4, by simp only; rw [show (n' / 2).toNat = 0 by omega]; simpa using hp, ?_⟩ (by simp only; omega) (Sub.of0 hm (fun i => if i = 3 then 4 else i) rfl ?_ ?_ ?_)
    · simp only; intro e
      rcases Int.mul_eq_zero.1 e with e | e
      · exact h6 e
      · exact e
    all_goals (try dsimp only)
    all_goals (first | omega | (simp -implicitDefEqProofs (maxSteps := 1000000) (disch := omega) only [F89, bZ, id, go_sem, Nat.blt_eq, Nat.reduceAdd, Nat.reduceSub, Nat.reduceEqDiff, Nat.reduceLT, ↓reduceIte, and_true, true_and, AV.dat.injEq, DV.int.injEq, DV.bool.injEq, DV.lst.injEq, eq_self_iff_true]; first | done | omega | (simp; done) | (simp; omega)) | (simp; done) | (simp; omega) | skip)
    · intro a b h1 h2 h
      change a < 4 at h1; change b < 4 at h2
      (split at h <;> split at h) <;> omega
  · refine ⟨_, _, _, rfl, fun v hv => ⟨tlV_of hv, ?_⟩⟩
    have hb := ne_of_big (a := base) (b := base) (by unfold lenZ; omega)
    exact pw_big (by omega) (pw_even (by omega) (by assumption) h5) (by unfold lenZ; omega) (fun e => hb.1 (h6 e)) (Int.mul_ne_zero hb.1 hb.1)
  · refine ih (n' / 2, out, base * base) _ ⟨by simp only; omega, by simp only; omega, h3, by simp only; unfold lenZ; omega, pw_even (by omega) (by assumption) h5, ?_⟩ (by simp only; omega) (Sub.of0 hm (fun i => if i = 3 then 4 else i) rfl ?_ ?_ ?_)
    · simp only; intro e; rw [h6 e]; rfl
    all_goals (try dsimp only)
    all_goals (first | omega | (simp -implicitDefEqProofs (maxSteps := 1000000) (disch := omega) only [F89, bZ, id, go_sem, Nat.blt_eq, Nat.reduceAdd, Nat.reduceSub, Nat.reduceEqDiff, Nat.reduceLT, ↓reduceIte, and_true, true_and, AV.dat.injEq, DV.int.injEq, DV.bool.injEq, DV.lst.injEq, eq_self_iff_true]; first | done | omega | (simp; done) | (simp; omega)) | (simp; done) | (simp; omega) | skip)
    · intro a b h1 h2 h
      change a < 4 at h1; change b < 4 at h2
      (split at h <;> split at h) <;> omega
  all_goals (first | omega | skip)
  · have e : x ^ n.toNat = out := by rw [← h5, show n'.toNat = 0 by omega]; simp
    rw [e]; exact ⟨rfl, h3⟩
end Go.Proofs.YthhjcfejgoddlaaGreatDoor
end

section
set_option linter.unusedSimpArgs false
set_option linter.unusedVariables false
set_option maxRecDepth 100000
namespace Go.Proofs.YthhjcfejgoddlaaGreatDoor
open Go Go.Abs Go.RowKit

theorem catch_idle (p q : Value) (w : World) :
    CallsD Tryz.prog 126 #[p, q] .returning w fun e u' w' => e = .returned (.tuple #[]) ∧ u' = .returning ∧ w' = w := by
  refine callsD_of_wpS Tryz.func126 rfl fun c₀ cs hu => ?_
  apply wpS_seq
  apply wpS_region
  simp [wpOpsS, go_sem, recoverD, hu, Tryz.ntmps126, Exit.thenS]
  refine wpS_of_wp ?_
  go_wp2
  cases c₀
  simp_all [bodyPostS, results, Tryz.results126]
theorem catch_tl (b b' : Nat) (x0 x1 y : Value) (w : World) (h0 : w.cell? ⟨b, 0, none⟩ = some x0) (h1 : w.cell? ⟨b, 1, none⟩ = some x1) (h2 : w.cell? ⟨b', 0, none⟩ = some y) (f0 : ∀ o, w.frozen? ⟨b, o, none⟩ = false) (f1 : ∀ o, w.frozen? ⟨b', o, none⟩ = false) (hb : b < w.heap.size) (hb' : b' < w.heap.size) (hne : ¬ b = b') :
    CallsD Tryz.prog 126 #[.pointer (some ⟨b, 0, none⟩), .pointer (some ⟨b', 0, none⟩)] (.panicking [{ v := .iface 79 (.agg #[]), recovered := false }]) w fun e u' w' =>
      e = .returned (.tuple #[]) ∧ u' = .panicking [{ v := .iface 79 (.agg #[]), recovered := true }] ∧ w' = (((w.setCell ⟨b, 0, none⟩ (.bool false)).setCell ⟨b, 1, none⟩ (.slice none 0 0)).setCell ⟨b', 0, none⟩ (.int .i64 2)).alloc (.cells #[] 79) := by
  refine callsD_of_wpS Tryz.func126 rfl fun c₀ cs hu => ?_
  apply wpS_seq
  apply wpS_region
  simp [wpOpsS, go_sem, recoverD, hu, Tryz.ntmps126, Exit.thenS]
  have hta : ∀ w, (Instr.typeAssert (.iface 79 (.agg #[])) 20 79 true).run Tryz.prog w = .ok (.tuple #[.agg #[], .bool true]) w := fun _ => by kernel_rfl
  refine wpS_of_wp ?_
  simp only [Array.replicate_succ, Array.replicate_zero, List.push_toArray, List.append_toArray, List.nil_append, List.cons_append, List.setIfInBounds_toArray, List.set_cons_succ, List.set_cons_zero]
  go_wp2
  simp [bodyPostS, results, Tryz.results126]
theorem bcell {W w1 : World} (hb : Below W.heap.size W w1) : (∀ b o, b < W.heap.size → w1.cell? ⟨b, o, none⟩ = W.cell? ⟨b, o, none⟩) ∧ (∀ b o, b < W.heap.size → w1.frozen? ⟨b, o, none⟩ = W.frozen? ⟨b, o, none⟩) :=
  ⟨fun b o h => hb.cell (p := ⟨b, o, none⟩) h, fun b o h => hb.frozen (p := ⟨b, o, none⟩) h⟩
theorem Z_val {A : Nat → Nat → Prop} {w : World} {z : Int} {v : Value} (h : RV φ0 0 A w (Z z) v) : ∃ a cap, v = .agg #[.bool (decide (z < 0)), .slice a (lenZ z) cap] ∧ RD A w (.lst ((D z.natAbs).map eI)) (.slice a (lenZ z) cap) := by
  cases h with
  | agg xs vs hl h h1 =>
    match vs, hl with
    | [x, y], _ =>
      have hx := h 0 _ rfl
      have hy := h 1 _ rfl
      simp only [List.getD_cons_zero, List.getD_cons_succ] at hx hy
      cases hx with
      | dat _ _ hx =>
      cases hy with
      | dat _ _ hy =>
      cases hx
      have key : ∀ es, RD A w (.lst es) y → ∃ a cap, y = .slice a es.length cap := fun es hy => by
        cases hy with
        | emp a cap => exact ⟨a, cap, rfl⟩
        | lst _ b o sz cap vs hs hz hc hm hh => exact ⟨_, cap, rfl⟩
      obtain ⟨a, cap, e⟩ := key _ hy
      have hn : ((D z.natAbs).map eI).length = lenZ z := by simp [lenZ]
      rw [hn] at e
      subst e
      exact ⟨a, cap, rfl, hy⟩
theorem isS {w : World} {a b : Addr} {v : Value} (h : (w.cell? b).isSome = true) : ((w.setCell a v).cell? b).isSome = true := by
  obtain ⟨u, hu⟩ := Option.isSome_iff_exists.1 h
  obtain ⟨v', hv⟩ := cell?_setCell_some (p := a) (x := v) hu
  rw [hv]; rfl
theorem csS {w : World} {a b : Addr} {v : Value} (h : (w.cell? b).isSome = true) : (w.setCell a v).cell? b = if a = b then some v else w.cell? b := by
  by_cases e : a = b
  · subst e; rw [if_pos rfl, World.cell?_setCell_same' w a v h]
  · rw [if_neg e, World.cell?_setCell_other _ _ _ _ e]
theorem tupR_zero (A : Nat → Nat → Prop) (w : World) : RV φ0 0 A w (.tup [Zr false [], I 2]) (.tuple #[.agg #[.bool false, .slice none 0 0], .int .i64 2]) := by
  refine .tup _ [.agg #[.bool false, .slice none 0 0], .int .i64 2] rfl fun j x hj => ?_
  rcases j with _ | _ | j
  · simp at hj; subst hj
    refine .agg _ [.bool false, .slice none 0 0] rfl (fun j x hj => ?_) (by simp [Value.oneCell'])
    rcases j with _ | _ | j
    · simp at hj; subst hj; exact .dat _ _ (.bool _)
    · simp at hj; subst hj; exact .dat _ _ (.emp _ _)
    · simp at hj
  · simp at hj; subst hj; exact .dat _ _ (.int _ _)
  · simp at hj
theorem tupR_Z (A : Nat → Nat → Prop) (w : World) (z : Int) (n : Int) (sl : Value) (h : RD A w (.lst ((D z.natAbs).map eI)) sl) : RV φ0 0 A w (.tup [Z z, I n]) (.tuple #[.agg #[.bool (decide (z < 0)), sl], .int .i64 n]) := by
  refine .tup _ [.agg #[.bool (decide (z < 0)), sl], .int .i64 n] rfl fun j x hj => ?_
  rcases j with _ | _ | j
  · simp at hj; subst hj
    refine .agg _ [.bool (decide (z < 0)), sl] rfl (fun j x hj => ?_) (fun u hu => by
      simp only [List.mem_cons, List.not_mem_nil, or_false] at hu
      rcases hu with rfl | rfl
      · rfl
      · exact h.one)
    rcases j with _ | _ | j
    · simp at hj; subst hj; exact .dat _ _ (.bool _)
    · simp at hj; subst hj; exact .dat _ _ h
    · simp at hj
  · simp at hj; subst hj; exact .dat _ _ (.int _ _)
  · simp at hj
def limR (z : Int) : AV := if lenZ z ≤ 40 then .tup [Z z, I 0] else .tup [Zr false [], I 2]

set_option maxHeartbeats 2000000 in
theorem limited_pc (g : FuncId) (caps : List DV) (R : Int → Prop) (Pz : Prop) (h : PX Tryz.prog g (caps.map .dat) (fun r => ∃ z, r = Z z ∧ R z) (fun v => v = tlV ∧ Pz)) :
    PCr Tryz.prog 83 [.dat (.fn g caps)] (fun r => (∃ z, R z ∧ r = limR z) ∨ (Pz ∧ r = .tup [Zr false [], I 2])) := by
  refine ⟨enters_of' Tryz.func83 rfl rfl, fun w A vs hgw hl hv => ?_⟩
  match vs, hl with
  | [v0], _ =>
  have h0 := hv 0 _ rfl
  simp only [List.getD_cons_zero] at h0
  cases h0 with
  | dat _ _ h0 =>
  cases h0 with
  | fn _ _ cv hl hcv =>
  obtain ⟨hent, hcall⟩ := h
  have hmf : ∀ (fn : Fn) (first cap : Array Value) (w : World), (Instr.makeFunc fn first cap).run Tryz.prog w = .ok (.func fn first cap) w := fun _ _ _ _ => rfl
  go_enter_defers Tryz.func83, Tryz.ntmps83
  go_wp2
  generalize hWW : (w.alloc (Obj.cells #[Value.bool false, Value.slice none 0 0] 24)).alloc (Obj.cells #[Value.int IntKind.i64 0] 28) = W
  have hW : Below w.heap.size w W := by rw [← hWW]; exact ((Below.refl _ _).alloc (Nat.le_refl _) _).alloc (by simp) _
  have hsz : W.heap.size = w.heap.size + 2 := by rw [← hWW]; simp
  have hk : Keeps A w (fun b o => A b o ∧ b < w.heap.size) W := fun b o v ha hv => ⟨⟨ha, World.block_lt_of_cell? _ _ hv⟩, by rw [hW.cell (World.block_lt_of_cell? _ _ hv)]; exact hv⟩
  have hc := hcall W _ cv (hgw.keep hk hW) (by simp [hl]) (fun j x hj => by
    rw [List.getElem?_map] at hj
    cases hq : caps[j]? with
    | none => rw [hq] at hj; simp at hj
    | some d => rw [hq] at hj; simp at hj; subst hj; exact .dat _ _ ((hcv j d hq).keep hk))
  have c0 : W.cell? ⟨w.heap.size, 0, none⟩ = some (.bool false) := by rw [← hWW]; simp [go_sem]
  have c1 : W.cell? ⟨w.heap.size, 1, none⟩ = some (.slice none 0 0) := by rw [← hWW]; simp [go_sem]
  have c2 : W.cell? ⟨w.heap.size + 1, 0, none⟩ = some (.int .i64 0) := by rw [← hWW]; simp [go_sem]
  have f0 : ∀ o, W.frozen? ⟨w.heap.size, o, none⟩ = false := fun o => by rw [← hWW]; simp [go_sem]
  have f1 : ∀ o, W.frozen? ⟨w.heap.size + 1, o, none⟩ = false := fun o => by rw [← hWW]; simp [go_sem]
  have hdoor : ∀ (b : Bool) (sl : Value) (n : Int) (w3 : World) (tmps : Array Value), w3.cell? ⟨w.heap.size, 0, none⟩ = some (.bool b) → w3.cell? ⟨w.heap.size, 1, none⟩ = some sl → w3.cell? ⟨w.heap.size + 1, 0, none⟩ = some (.int .i64 n) → tmps[2]? = some (.pointer (some ⟨w.heap.size, 0, none⟩)) → tmps[3]? = some (.pointer (some ⟨w.heap.size + 1, 0, none⟩)) →
      (results Tryz.f83 tmps).run Tryz.prog w3 = .ok (.tuple #[.agg #[.bool b, sl], .int .i64 n]) w3 := by
    intro b sl n w3 tmps e0 e1 e2 t2 t3
    unfold results
    rw [Tryz.results83]
    simp [t2, t3, asAddr]
    simp [go_sem, e0, e1, e2]
  rw [hent, Oper.upon_enter]
  refine hc.mono ?_
  rintro e w' ⟨hb, ⟨v, r, rfl, ⟨z, rfl, hz⟩, hrv⟩ | ⟨v, rfl, rfl, hP⟩⟩
  all_goals
    obtain ⟨hcc, hff⟩ := bcell hb
    have d0 : w'.cell? ⟨w.heap.size, 0, none⟩ = some (.bool false) := by rw [hcc _ _ (by omega)]; exact c0
    have d1 : w'.cell? ⟨w.heap.size, 1, none⟩ = some (.slice none 0 0) := by rw [hcc _ _ (by omega)]; exact c1
    have d2 : w'.cell? ⟨w.heap.size + 1, 0, none⟩ = some (.int .i64 0) := by rw [hcc _ _ (by omega)]; exact c2
    have g0 : ∀ o, w'.frozen? ⟨w.heap.size, o, none⟩ = false := fun o => by rw [hff _ _ (by omega)]; exact f0 o
    have g1 : ∀ o, w'.frozen? ⟨w.heap.size + 1, o, none⟩ = false := fun o => by rw [hff _ _ (by omega)]; exact f1 o
    clear c0 c1 c2 f0 f1 hcc hff
  all_goals have hBw : Below w.heap.size w w' := hW.trans (hb.mono (by omega))
  · obtain ⟨a, cap, rfl, hrd⟩ := Z_val hrv
    by_cases hlen : (40 : Int) < (lenZ z : Int)
    · go_wp2
      refine leaves_cons (f := 126) (args := #[.pointer (some ⟨w.heap.size, 0, none⟩), .pointer (some ⟨w.heap.size + 1, 0, none⟩)]) (by simp) (by simp [go_sem]) ?_
      refine (catch_idle _ _ _).mono ?_
      rintro e u' w'' ⟨rfl, rfl, rfl⟩
      refine ⟨_, hdoor false (.slice none 0 0) 2 _ _ ?_ ?_ ?_ rfl rfl, ?_⟩
      · simp (maxDischargeDepth := 20) [csS, isS, d0, d1, d2]
      · simp (maxDischargeDepth := 20) [csS, isS, d0, d1, d2]
      · simp (maxDischargeDepth := 20) [csS, isS, d0, d1, d2]
      · refine ⟨_, limR z, rfl, .inl ⟨z, hz, rfl⟩, ((((hBw.setCell (Nat.le_refl _) _).setCell (Nat.le_refl _) _).setCell (Nat.le_refl _) _).setCell (Nat.le_refl _) _).setCell (by simp) _, ?_⟩
        rw [limR, if_neg (by omega)]
        exact tupR_zero _ _
    · go_wp2
      refine leaves_cons (f := 126) (args := #[.pointer (some ⟨w.heap.size, 0, none⟩), .pointer (some ⟨w.heap.size + 1, 0, none⟩)]) (by simp) (by simp [go_sem]) ?_
      refine (catch_idle _ _ _).mono ?_
      rintro e u' w'' ⟨rfl, rfl, rfl⟩
      refine ⟨_, hdoor (decide (z < 0)) (.slice a (lenZ z) cap) 0 _ _ ?_ ?_ ?_ rfl rfl, ?_⟩
      · simp (maxDischargeDepth := 20) [csS, isS, d0, d1, d2]
      · simp (maxDischargeDepth := 20) [csS, isS, d0, d1, d2]
      · simp (maxDischargeDepth := 20) [csS, isS, d0, d1, d2]
      · refine ⟨_, limR z, rfl, .inl ⟨z, hz, rfl⟩, ((((hBw.setCell (Nat.le_refl _) _).setCell (Nat.le_refl _) _).setCell (Nat.le_refl _) _).setCell (Nat.le_refl _) _).setCell (by simp) _, ?_⟩
        rw [limR, if_pos (by omega)]
        refine tupR_Z _ _ z 0 _ ?_
        generalize hd : (D z.natAbs).map eI = es at hrd
        have hn : es.length = lenZ z := by rw [← hd]; simp [lenZ]
        refine hrd.keep fun b o v hA hv => ?_
        have hne : b ≠ w.heap.size ∧ b ≠ w.heap.size + 1 := by rcases hA with h | h <;> omega
        refine ⟨hA.elim (fun h => .inl h.1) (fun h => .inr (by omega)), ?_⟩
        rw [World.cell?_setCell_other _ _ _ _ (by simp; try omega), World.cell?_setCell_other _ _ _ _ (by simp; try omega), World.cell?_setCell_other _ _ _ _ (by simp; try omega), World.cell?_setCell_other _ _ _ _ (by simp; try omega), World.cell?_setCell_other _ _ _ _ (by simp; try omega)]
        exact hv
  · go_wp2
    refine leaves_cons (f := 126) (args := #[.pointer (some ⟨w.heap.size, 0, none⟩), .pointer (some ⟨w.heap.size + 1, 0, none⟩)]) (by simp) (by simp [go_sem]) ?_
    refine (catch_tl w.heap.size (w.heap.size + 1) _ _ _ w' d0 d1 d2 g0 g1 (by have := hb.size; omega) (by have := hb.size; omega) (by omega)).mono ?_
    rintro e u' w'' ⟨rfl, rfl, rfl⟩
    refine ⟨_, hdoor false (.slice none 0 0) 2 _ _ ?_ ?_ ?_ rfl rfl, ?_⟩
    · rw [World.cell?_alloc_lt _ _ _ (by have := hb.size; simp; omega)]; simp (maxDischargeDepth := 20) [csS, isS, d0, d1, d2]
    · rw [World.cell?_alloc_lt _ _ _ (by have := hb.size; simp; omega)]; simp (maxDischargeDepth := 20) [csS, isS, d0, d1, d2]
    · rw [World.cell?_alloc_lt _ _ _ (by have := hb.size; simp; omega)]; simp (maxDischargeDepth := 20) [csS, isS, d0, d1, d2]
    · refine ⟨_, _, rfl, .inr ⟨hP, rfl⟩, (((hBw.setCell (Nat.le_refl _) _).setCell (Nat.le_refl _) _).setCell (by simp) _).alloc (by have := hb.size; simp; omega) _, tupR_zero _ _⟩
end Go.Proofs.YthhjcfejgoddlaaGreatDoor
end

section
set_option linter.unusedSimpArgs false
set_option linter.unusedVariables false
set_option maxRecDepth 100000
namespace Go.Proofs.YthhjcfejgoddlaaGreatDoor
open Go Go.Abs
attribute [local go_sem] wrap64 Int.tdiv_eq_ediv_of_nonneg Int.tmod_eq_emod_of_nonneg eq_self Bool.false_eq_true Bool.true_eq_false Bool.not_true Bool.not_false
attribute [local go_sem_proc] Nat.reduceAdd Nat.reduceMul Nat.reduceEqDiff Nat.reduceLT Nat.reduceLeDiff Int.reduceEq Int.reduceNeg Int.reduceToNat reduceCtorEq Int.reduceBNe Int.reduceBEq

theorem limited_ok (g : FuncId) (caps : List DV) (z : Int) (h : PC Tryz.prog g (caps.map .dat) (Z z)) : PC Tryz.prog 83 [.dat (.fn g caps)] (limR z) := by
  have h1 := limited_pc g caps (fun y => y = z) False (h.pcr.px.mono (fun r hr => ⟨z, hr, rfl⟩) (fun v hv => hv.elim))
  exact ⟨h1.1, fun w A vs hg hl hv => (h1.2 w A vs hg hl hv).mono fun e w' ⟨v, r, he, hr, hb, hrv⟩ => ⟨v, he, hb, by
    rcases hr with ⟨y, rfl, rfl⟩ | ⟨h, _⟩
    · exact hrv
    · exact h.elim⟩⟩

theorem getD_D_last {n : Nat} (h : D n ≠ []) : (D n).getD ((D n).length - 1) 0 ≠ 0 := by
  induction n using Nat.strongRecOn with
  | _ n ih =>
    by_cases h0 : n = 0
    · subst h0; exact absurd D_zero h
    · rw [D_pos h0]
      by_cases h1 : n / 1000000000 = 0
      · rw [h1, D_zero]; simp; omega
      · have := ih (n / 1000000000) (by omega) (fun e => h1 (D_nil.1 e))
        have hl : (D (n / 1000000000)).length ≠ 0 := fun e => h1 (D_nil.1 (List.eq_nil_of_length_eq_zero e))
        simp only [List.length_cons, Nat.add_sub_cancel]
        rw [show (D (n / 1000000000)).length = ((D (n / 1000000000)).length - 1) + 1 by omega, List.getD_cons_succ]
        exact this
theorem tr_of_last {d : List Int} (h : d ≠ [] → d.getD (d.length - 1) 0 ≠ 0) : tr d = d := by
  by_cases hd : d = []
  · subst hd; rfl
  · have := h hd
    rw [← List.dropLast_concat_getLast hd]
    have e : d.getD (d.length - 1) 0 = d.getLast hd := by
      rw [List.getLast_eq_getElem]
      simp [List.getD, show d.length - 1 < d.length by have := List.length_pos_iff.2 hd; omega]
    exact tr_snoc_ne _ (by rw [← e]; exact this)
/-- What is an integer, as a number. -/
theorem okI_Z {neg : Bool} {d : List Int} (h : okI neg d) : Zr neg d = Z (sg neg (val d).toNat) ∧ lenZ (sg neg (val d).toNat) ≤ 40 ∧ d = D (val d).toNat := by
  obtain ⟨h1, h2, h3, h4⟩ := h
  have hd : d = D (val d).toNat := by
    have := tr_D h4
    rw [tr_of_last h3] at this
    exact this
  have hn : (sg neg (val d).toNat).natAbs = (val d).toNat := sg_natAbs _ _
  refine ⟨?_, by unfold lenZ; rw [hn, ← hd]; exact h1, hd⟩
  show Zr neg d = Zr (decide (sg neg (val d).toNat < 0)) (D (sg neg (val d).toNat).natAbs)
  rw [hn, ← hd]
  congr 1
  unfold sg
  cases neg
  · simp; omega
  · have : d ≠ [] := fun e => h2 ⟨e, rfl⟩
    have : (val d).toNat ≠ 0 := fun e => this (by rw [hd, e, D_zero])
    simp; omega
theorem okZ {z : Int} (h : lenZ z ≤ 40) : okI (decide (z < 0)) (D z.natAbs) := by
  refine ⟨h, ?_, fun h => getD_D_last h, dig_D _⟩
  rintro ⟨h1, h2⟩
  have := D_nil.1 h1
  simp at h2; omega

theorem sub_fn (x y : Int) (lx : lenZ x ≤ 100) (ly : lenZ y ≤ 100) : PC Tryz.prog 148 [Z x, Z y] (Z (x - y)) := by
  unfold lenZ at lx ly
  have o := opposite_Z y (by omega)
  have s := sum_Z x (-y) (by omega) (by rw [Int.natAbs_neg]; omega)
  rw [show x + -y = x - y by omega] at s
  refine PCr.pc (PCr.of tab_ok Tryz.func148 rfl rfl rfl fun c hc hm => ?_)
  rw [show Tryz.f148.ntmps = _ from Tryz.ntmps148] at hc
  simp only [Tryz.f148]
  repeat' first | (refine AWp.seq fun K hK => ?_) | ((first | refine AWp.draw (id := 1) [.take 0, .take 1, .take 2, .take 3, .grp [4]] mixed_ok (by kernel_rfl) (by rw [hc]; rfl) ?_ | refine AWp.region (by rw [hc]; rfl) ?_ | refine AWp.skip ?_ | refine AWp.exit ?_ | refine AWp.label ?_ | refine AWp.ret ?_ | refine appK_g ?_); simp -implicitDefEqProofs (maxSteps := 1000000) (disch := omega) only [go_sem, ↓reduceIte]) | ((first | refine hK _ ?_ | (clear hK; first | refine hK _ ?_ | (clear hK; first | refine hK _ ?_ | (clear hK; refine hK _ ?_)))); clear hK) | (refine AWp.cond ?_; simp -implicitDefEqProofs (maxSteps := 1000000) (disch := omega) only [go_sem, ↓reduceIte]; try (refine ⟨fun hlt => ?_, fun hlt => ?_⟩ <;> (try simp only [cla, clb, ne_eq, reduceCtorEq] at hlt) <;> (try exact hlt.elim))) | (refine AWp.block ?_) | ((first | refine gdO_split (fun hlt => ?_) (fun hlt => ?_) | refine tkO_split (fun hlt => ?_) (fun hlt => ?_) | refine opO_split (fun hlt => ?_) (fun hlt => ?_)) <;> have hgd := hlt <;> (try simp only [cla, clb, ne_eq, cld] at hlt) <;> (simp -implicitDefEqProofs (maxSteps := 1000000) (disch := omega) only [go_sem, ↓reduceIte, hgd]) <;> clear hgd) | (with_reducible refine And.intro ?_ ?_; · first | omega | assumption | exact ⟨_, _, rfl, rfl⟩) | ((first | refine ⟨_, o, ?_⟩ | refine ⟨_, s, ?_⟩); simp -implicitDefEqProofs (maxSteps := 1000000) (disch := omega) only [go_sem, ↓reduceIte]) | fail
theorem div_fn (x y : Int) (hy : y ≠ 0) (lx : lenZ x ≤ 100) (ly : lenZ y ≤ 100) : PC Tryz.prog 149 [Z x, Z y] (Z (x.fdiv y)) := by
  unfold lenZ at lx ly
  have o := divided_Z x y hy (by omega) (by omega)
  refine PCr.pc (PCr.of tab_ok Tryz.func149 rfl rfl rfl fun c hc hm => ?_)
  rw [show Tryz.f149.ntmps = _ from Tryz.ntmps149] at hc
  simp only [Tryz.f149]
  repeat' first | (refine AWp.seq fun K hK => ?_) | ((first | refine AWp.region (by rw [hc]; rfl) ?_ | refine AWp.skip ?_ | refine AWp.exit ?_ | refine AWp.label ?_ | refine AWp.ret ?_ | refine appK_g ?_); simp -implicitDefEqProofs (maxSteps := 1000000) (disch := omega) only [go_sem, ↓reduceIte]) | ((first | refine hK _ ?_ | (clear hK; first | refine hK _ ?_ | (clear hK; first | refine hK _ ?_ | (clear hK; refine hK _ ?_)))); clear hK) | (refine AWp.cond ?_; simp -implicitDefEqProofs (maxSteps := 1000000) (disch := omega) only [go_sem, ↓reduceIte]; try (refine ⟨fun hlt => ?_, fun hlt => ?_⟩ <;> (try simp only [cla, clb, ne_eq, reduceCtorEq] at hlt) <;> (try exact hlt.elim))) | (refine AWp.block ?_) | ((first | refine gdO_split (fun hlt => ?_) (fun hlt => ?_) | refine tkO_split (fun hlt => ?_) (fun hlt => ?_) | refine opO_split (fun hlt => ?_) (fun hlt => ?_)) <;> have hgd := hlt <;> (try simp only [cla, clb, ne_eq, cld] at hlt) <;> (simp -implicitDefEqProofs (maxSteps := 1000000) (disch := omega) only [go_sem, ↓reduceIte, hgd]) <;> clear hgd) | (with_reducible refine And.intro ?_ ?_; · first | omega | assumption | exact ⟨_, _, rfl, rfl⟩) | ((first | refine ⟨_, o, ?_⟩); simp -implicitDefEqProofs (maxSteps := 1000000) (disch := omega) only [go_sem, ↓reduceIte]) | fail
theorem mod_fn (x y : Int) (hy : y ≠ 0) (lx : lenZ x ≤ 100) (ly : lenZ y ≤ 100) : PC Tryz.prog 150 [Z x, Z y] (Z (x.fmod y)) := by
  unfold lenZ at lx ly
  have o := divided_Z x y hy (by omega) (by omega)
  refine PCr.pc (PCr.of tab_ok Tryz.func150 rfl rfl rfl fun c hc hm => ?_)
  rw [show Tryz.f150.ntmps = _ from Tryz.ntmps150] at hc
  simp only [Tryz.f150]
  repeat' first | (refine AWp.seq fun K hK => ?_) | ((first | refine AWp.region (by rw [hc]; rfl) ?_ | refine AWp.skip ?_ | refine AWp.exit ?_ | refine AWp.label ?_ | refine AWp.ret ?_ | refine appK_g ?_); simp -implicitDefEqProofs (maxSteps := 1000000) (disch := omega) only [go_sem, ↓reduceIte]) | ((first | refine hK _ ?_ | (clear hK; first | refine hK _ ?_ | (clear hK; first | refine hK _ ?_ | (clear hK; refine hK _ ?_)))); clear hK) | (refine AWp.cond ?_; simp -implicitDefEqProofs (maxSteps := 1000000) (disch := omega) only [go_sem, ↓reduceIte]; try (refine ⟨fun hlt => ?_, fun hlt => ?_⟩ <;> (try simp only [cla, clb, ne_eq, reduceCtorEq] at hlt) <;> (try exact hlt.elim))) | (refine AWp.block ?_) | ((first | refine gdO_split (fun hlt => ?_) (fun hlt => ?_) | refine tkO_split (fun hlt => ?_) (fun hlt => ?_) | refine opO_split (fun hlt => ?_) (fun hlt => ?_)) <;> have hgd := hlt <;> (try simp only [cla, clb, ne_eq, cld] at hlt) <;> (simp -implicitDefEqProofs (maxSteps := 1000000) (disch := omega) only [go_sem, ↓reduceIte, hgd]) <;> clear hgd) | (with_reducible refine And.intro ?_ ?_; · first | omega | assumption | exact ⟨_, _, rfl, rfl⟩) | ((first | refine ⟨_, o, ?_⟩); simp -implicitDefEqProofs (maxSteps := 1000000) (disch := omega) only [go_sem, ↓reduceIte]) | fail

def cZ (z : Int) : DV := .cptr [.bool (decide (z < 0)), .lst ((D z.natAbs).map eI)]
theorem do_fn (q : Bool) (f : FuncId) (x y v : Int) (h : PC Tryz.prog f [Z x, Z y] (Z v)) : PC Tryz.prog 124 [.dat (.cptr [.bool q, .fn f []]), .dat (cZ x), .dat (cZ y)] (Z v) := by
  refine PCr.pc (PCr.of tab_ok Tryz.func124 rfl rfl rfl fun c hc hm => ?_)
  rw [show Tryz.f124.ntmps = _ from Tryz.ntmps124] at hc
  simp only [Tryz.f124]
  simp only [cZ]
  repeat' first | (refine AWp.seq fun K hK => ?_) | ((first | refine AWp.region (by rw [hc]; rfl) ?_ | refine AWp.skip ?_ | refine AWp.exit ?_ | refine AWp.label ?_ | refine AWp.ret ?_ | refine appK_g ?_); simp -implicitDefEqProofs (maxSteps := 1000000) (disch := omega) only [go_sem, ↓reduceIte]) | ((first | refine hK _ ?_ | (clear hK; first | refine hK _ ?_ | (clear hK; first | refine hK _ ?_ | (clear hK; refine hK _ ?_)))); clear hK) | (refine AWp.cond ?_; simp -implicitDefEqProofs (maxSteps := 1000000) (disch := omega) only [go_sem, ↓reduceIte]; try (refine ⟨fun hlt => ?_, fun hlt => ?_⟩ <;> (try simp only [cla, clb, ne_eq, reduceCtorEq] at hlt) <;> (try exact hlt.elim))) | (refine AWp.block ?_) | ((first | refine gdO_split (fun hlt => ?_) (fun hlt => ?_) | refine tkO_split (fun hlt => ?_) (fun hlt => ?_) | refine opO_split (fun hlt => ?_) (fun hlt => ?_)) <;> have hgd := hlt <;> (try simp only [cla, clb, ne_eq, cld] at hlt) <;> (simp -implicitDefEqProofs (maxSteps := 1000000) (disch := omega) only [go_sem, ↓reduceIte, hgd]) <;> clear hgd) | (with_reducible refine And.intro ?_ ?_; · first | omega | assumption | exact ⟨_, _, rfl, rfl⟩) | ((first | refine ⟨_, h, ?_⟩); simp -implicitDefEqProofs (maxSteps := 1000000) (disch := omega) only [go_sem, ↓reduceIte]) | fail

/-- The ways to combine two integers. -/
def wayOf (op : Int) : Bool × FuncId := if op = 43 then (false, 93) else if op = 45 then (false, 148) else if op = 42 then (false, 79) else if op = 47 then (true, 149) else (true, 150)
def isOp (op : Int) : Prop := op = 43 ∨ op = 45 ∨ op = 42 ∨ op = 47 ∨ op = 37
theorem way_ent {op : Int} (h : isOp op) : ∃ i, Instr.findNow (.int .u8) (.int .u8 op) ents.toList 0 = some (some (i, fvm (wayOf op).1 (wayOf op).2)) := by
  rcases h with rfl | rfl | rfl | rfl | rfl
  · exact ⟨0, rfl⟩
  · exact ⟨1, rfl⟩
  · exact ⟨2, rfl⟩
  · exact ⟨3, rfl⟩
  · exact ⟨4, rfl⟩
theorem LZ2 (na nb : Bool) (a b : List Int) : LZ [(na, a), (nb, b)] = .dat (.lst [[.bool na, .lst (a.map eI)], [.bool nb, .lst (b.map eI)]]) := rfl

theorem combined_bad (op : Int) (na nb : Bool) (a b : List Int) (la : a.length ≤ 1000000) (lb : b.length ≤ 1000000) (h : ¬ (okI na a ∧ okI nb b)) :
    PC Tryz.prog 80 [.dat (.int .u8 op), Zr na a, Zr nb b] (.tup [Zr false [], I 10]) := by
  have hare := are_pc [(na, a), (nb, b)] (by simp) (by intro z hz; simp at hz; rcases hz with rfl | rfl <;> assumption)
  rw [if_neg (by intro hh; exact h ⟨hh (na, a) (by simp), hh (nb, b) (by simp)⟩), LZ2] at hare
  refine PCr.pc (PCr.of tab_ok Tryz.func80 rfl rfl rfl fun c hc hm => ?_)
  rw [show Tryz.f80.ntmps = _ from Tryz.ntmps80] at hc
  simp only [Tryz.f80]
  repeat' first | (refine AWp.seq fun K hK => ?_) | ((first | refine AWp.region (by rw [hc]; rfl) ?_ | refine AWp.skip ?_ | refine AWp.exit ?_ | refine AWp.label ?_ | refine AWp.ret ?_ | refine appK_g ?_); simp -implicitDefEqProofs (maxSteps := 1000000) (disch := omega) only [go_sem, ↓reduceIte]) | ((first | refine hK _ ?_ | (clear hK; first | refine hK _ ?_ | (clear hK; first | refine hK _ ?_ | (clear hK; refine hK _ ?_)))); clear hK) | (refine AWp.cond ?_; simp -implicitDefEqProofs (maxSteps := 1000000) (disch := omega) only [go_sem, ↓reduceIte]; try (refine ⟨fun hlt => ?_, fun hlt => ?_⟩ <;> (try simp only [cla, clb, ne_eq, reduceCtorEq] at hlt) <;> (try exact hlt.elim))) | (refine AWp.block ?_) | ((first | refine gdO_split (fun hlt => ?_) (fun hlt => ?_) | refine tkO_split (fun hlt => ?_) (fun hlt => ?_) | refine opO_split (fun hlt => ?_) (fun hlt => ?_)) <;> have hgd := hlt <;> (try simp only [cla, clb, ne_eq, cld] at hlt) <;> (simp -implicitDefEqProofs (maxSteps := 1000000) (disch := omega) only [go_sem, ↓reduceIte, hgd]) <;> clear hgd) | (with_reducible refine And.intro ?_ ?_; · first | omega | assumption | exact ⟨_, _, rfl, rfl⟩) | (refine ⟨_, hare, ?_⟩; simp -implicitDefEqProofs (maxSteps := 1000000) (disch := omega) only [go_sem, ↓reduceIte]) | fail
theorem combined_ok (op : Int) (x y v : Int) (hop : isOp op) (lx : lenZ x ≤ 40) (ly : lenZ y ≤ 40) (hz : (wayOf op).1 = false ∨ y ≠ 0) (hf : PC Tryz.prog (wayOf op).2 [Z x, Z y] (Z v)) :
    PC Tryz.prog 80 [.dat (.int .u8 op), Z x, Z y] (limR v) := by
  have hare := are_pc [(decide (x < 0), D x.natAbs), (decide (y < 0), D y.natAbs)] (by simp) (by intro z hz; unfold lenZ at lx ly; simp at hz; rcases hz with rfl | rfl <;> simp <;> omega)
  rw [if_pos (by intro z hz; simp at hz; rcases hz with rfl | rfl; exact okZ lx; exact okZ ly), LZ2] at hare
  have hlim := limited_ok 124 [.cptr [.bool (wayOf op).1, .fn (wayOf op).2 []], cZ x, cZ y] v (do_fn _ _ x y v hf)
  have hent := way_ent hop
  have hl0 : ((D y.natAbs).length : Int) = 0 ↔ y = 0 := by
    have := D_nil (n := y.natAbs)
    constructor
    · intro h; have := this.1 (List.eq_nil_of_length_eq_zero (by omega)); omega
    · intro h; rw [this.2 (by omega)]; rfl
  generalize wayOf op = wz at *
  obtain ⟨q, f⟩ := wz
  simp only at hz hf hlim hent
  have hy : q = true → ¬ ((D y.natAbs).length : Int) = 0 := fun h e => by
    rcases hz with h' | h'
    · rw [h'] at h; cases h
    · exact h' (hl0.1 e)
  have key : limR v = .tup [Z v, I 0] ∨ limR v = .tup [Zr false [], I 2] := by
    unfold limR; split
    · exact .inl rfl
    · exact .inr rfl
  rcases key with hk | hk
  all_goals
    rw [hk] at hlim ⊢
    cases q
    all_goals
      have hy := hy
      refine PCr.pc (PCr.of tab_ok Tryz.func80 rfl rfl rfl fun c hc hm => ?_)
      rw [show Tryz.f80.ntmps = _ from Tryz.ntmps80] at hc
      simp only [Tryz.f80]
      repeat' first | (refine AWp.regionRaw (id := 4) 3 _ (fun φ a w hR Q' hn => pick_raw (by rw [hc]; decide) op _ f rfl hent rfl rfl rfl φ a w hR Q' hn) (by rw [hc]; rfl) ?_; simp -implicitDefEqProofs (maxSteps := 1000000) (disch := omega) only [go_sem, ↓reduceIte]) | (refine AWp.seq fun K hK => ?_) | ((first | refine AWp.region (by rw [hc]; rfl) ?_ | refine AWp.skip ?_ | refine AWp.exit ?_ | refine AWp.label ?_ | refine AWp.ret ?_ | refine appK_g ?_); simp -implicitDefEqProofs (maxSteps := 1000000) (disch := omega) only [go_sem, ↓reduceIte]) | ((first | refine hK _ ?_ | (clear hK; first | refine hK _ ?_ | (clear hK; first | refine hK _ ?_ | (clear hK; refine hK _ ?_)))); clear hK) | (refine AWp.cond ?_; simp -implicitDefEqProofs (maxSteps := 1000000) (disch := omega) only [go_sem, ↓reduceIte]; try (refine ⟨fun hlt => ?_, fun hlt => ?_⟩ <;> (try simp only [cla, clb, ne_eq, reduceCtorEq] at hlt) <;> (try exact hlt.elim))) | (refine AWp.block ?_) | ((first | refine gdO_split (fun hlt => ?_) (fun hlt => ?_) | refine tkO_split (fun hlt => ?_) (fun hlt => ?_) | refine opO_split (fun hlt => ?_) (fun hlt => ?_)) <;> have hgd := hlt <;> (try simp only [cla, clb, ne_eq, cld] at hlt) <;> (simp -implicitDefEqProofs (maxSteps := 1000000) (disch := omega) only [go_sem, ↓reduceIte, hgd]) <;> clear hgd) | (with_reducible refine And.intro ?_ ?_; · first | omega | assumption | exact ⟨_, _, rfl, rfl⟩) | (refine ⟨_, hare, ?_⟩; simp -implicitDefEqProofs (maxSteps := 1000000) (disch := omega) only [go_sem, ↓reduceIte]) | (refine ⟨_, hlim, ?_⟩; simp -implicitDefEqProofs (maxSteps := 1000000) (disch := omega) only [go_sem, ↓reduceIte]) | fail
    all_goals exact absurd (by assumption) (hy rfl)

theorem Z_zero : Z 0 = Zr false [] := by
  show Zr (decide ((0 : Int) < 0)) (D 0) = _
  rw [D_zero]; rfl
theorem combined_zero (op : Int) (x : Int) (hop : op = 47 ∨ op = 37) (lx : lenZ x ≤ 40) :
    PC Tryz.prog 80 [.dat (.int .u8 op), Z x, Zr false []] (.tup [Zr false [], I 11]) := by
  have hare := are_pc [(decide (x < 0), D x.natAbs), (false, [])] (by simp) (by intro z hz; unfold lenZ at lx; simp at hz; rcases hz with rfl | rfl <;> simp <;> omega)
  rw [if_pos (by intro z hz; simp at hz; rcases hz with rfl | rfl; exact okZ lx; decide), LZ2] at hare
  simp only [List.map_nil] at hare
  have hent := way_ent (op := op) (by unfold isOp; omega)
  have hq : (wayOf op).1 = true := by rcases hop with rfl | rfl <;> rfl
  generalize wayOf op = wz at *
  obtain ⟨q, f⟩ := wz
  simp only at hq hent
  subst hq
  refine PCr.pc (PCr.of tab_ok Tryz.func80 rfl rfl rfl fun c hc hm => ?_)
  rw [show Tryz.f80.ntmps = _ from Tryz.ntmps80] at hc
  simp only [Tryz.f80]
  repeat' first | (refine AWp.regionRaw (id := 4) 3 _ (fun φ a w hR Q' hn => pick_raw (by rw [hc]; decide) op _ f rfl hent rfl rfl rfl φ a w hR Q' hn) (by rw [hc]; rfl) ?_; simp -implicitDefEqProofs (maxSteps := 1000000) (disch := omega) only [go_sem, ↓reduceIte]) | (refine AWp.seq fun K hK => ?_) | ((first | refine AWp.region (by rw [hc]; rfl) ?_ | refine AWp.skip ?_ | refine AWp.exit ?_ | refine AWp.label ?_ | refine AWp.ret ?_ | refine appK_g ?_); simp -implicitDefEqProofs (maxSteps := 1000000) (disch := omega) only [go_sem, ↓reduceIte, Int.reduceBEq]) | ((first | refine hK _ ?_ | (clear hK; first | refine hK _ ?_ | (clear hK; first | refine hK _ ?_ | (clear hK; refine hK _ ?_)))); clear hK) | (refine AWp.cond ?_; simp -implicitDefEqProofs (maxSteps := 1000000) (disch := omega) only [go_sem, ↓reduceIte, Int.reduceBEq]; try (refine ⟨fun hlt => ?_, fun hlt => ?_⟩ <;> (try simp only [cla, clb, ne_eq, reduceCtorEq] at hlt) <;> (try exact hlt.elim))) | (refine AWp.block ?_) | ((first | refine gdO_split (fun hlt => ?_) (fun hlt => ?_) | refine tkO_split (fun hlt => ?_) (fun hlt => ?_) | refine opO_split (fun hlt => ?_) (fun hlt => ?_)) <;> have hgd := hlt <;> (try simp only [cla, clb, ne_eq, cld] at hlt) <;> (simp -implicitDefEqProofs (maxSteps := 1000000) (disch := omega) only [go_sem, ↓reduceIte, Int.reduceBEq, hgd]) <;> clear hgd) | (with_reducible refine And.intro ?_ ?_; · first | omega | assumption | exact ⟨_, _, rfl, rfl⟩) | (refine ⟨_, hare, ?_⟩; simp -implicitDefEqProofs (maxSteps := 1000000) (disch := omega) only [go_sem, ↓reduceIte]) | fail
  all_goals exact absurd rfl hlt
end Go.Proofs.YthhjcfejgoddlaaGreatDoor
end
