/- NumSmall: for every x and y of the kind int the law answers true: on ints the functions agree with the operations of the language, where nothing overflows. -/
import Derived.Test.YthhjcfejgoddlaaGreatDoorKf
import Derived.Test.YthhjcfejgoddlaaGreatDoorQ8
import Derived.Test.YthhjcfejgoddlaaGreatDoorCards
import Derived.Test.YthhjcfejgoddlaaGreatDoorTie
import Derived.SevenTiedAt
section
/- NumSmall: the row proved, the card closed. -/
namespace Go.Proofs.YthhjcfejgoddlaaGreatDoor
open Go Go.Abs Go.ChangeShapes Go.WideShapes Go.RowKit
set_option maxRecDepth 100000

theorem numSmall_lifted (os : Os) (started : os.Started) (H : Type) (enc : TypeId × Value → H) :
    ReturnsInHanded {} Tryz.checked os 8 .any (fun w args => (Rows.numSmallSpec.pre enc Tryz.prog Tryz.f8 [] false w args ∧ laidMetH Tryz.prog laidAll w) ∧ sizedMet enc Tryz.prog Tryz.f8 (OpenSpec.ofChange Rows.numSmallSpec) false w args)
      (Rows.numSmallSpec.post enc Tryz.prog Tryz.f8 false true false false) := by
  refine law_words os started H enc rfl (by kernel_rfl) Tryz.func8 (by kernel_rfl) (by kernel_rfl) (fun ds hl => ?_) (fun W args ds p hval hA => ?_) #[.int .i64 0, .int .i64 0] (by kernel_rfl) (by kernel_rfl) (by kernel_rfl) (door_shaped os _) (door_met os _)
  · rw [Tryz.params8] at hl
    match ds, hl with
    | [d1, d2], _ => rfl
  · rw [Tryz.params8] at hA hval ⊢
    obtain ⟨v0, v1, d0, d1, p0, p1, hargs, rfl, rfl, h0, h1⟩ := trodAll_two (args := args.toArray) hA
    obtain rfl : args = [v0, v1] := by simpa using congrArg Array.toList hargs
    obtain ⟨n, rfl, rfl, rfl, hn⟩ := open_int Tryz.underlying3 (hval 0 3 v0 rfl rfl) h0
    obtain ⟨k, rfl, rfl, rfl, hk⟩ := open_int Tryz.underlying3 (hval 1 3 v1 rfl rfl) h1
    refine ⟨rfl, [.dat (.int .i64 n), .dat (.int .i64 k)], ?_, rfl, ?_⟩
    · exact NumSmall_pc n k (wf_lo hn) (wf_hi hn) (wf_lo hk) (wf_hi hk) (cmpI n k) rfl (by simp only [cmpI]; (repeat' split) <;> omega)
    · intro j x hj
      rcases j with _ | _ | j
      · obtain rfl := Option.some.inj hj; exact .dat _ _ (.int _ _)
      · obtain rfl := Option.some.inj hj; exact .dat _ _ (.int _ _)
      · simp at hj
theorem numSmall_holds : Rows.NumSmallSaid :=
  OpenClaim.holds_of_wide 8 Tryz.f8 rfl rfl rfl rfl rfl rfl rfl ⟨rfl, rfl, rfl, rfl, rfl⟩ rfl rfl rfl rfl rfl (by kernel_rfl) Tryz.func8 (by kernel_rfl)
    (of_decide_eq_true (by kernel_rfl)) (by unfold Func.isWrapper; rw [if_neg (of_decide_eq_false (by kernel_rfl))]; exact ⟨rfl, rfl⟩)
    (fun os started H enc _ => numSmall_lifted os started H enc)
theorem numSmall_card : Rows.NumSmallCardSaid :=
  Claim7.holds_tied_plain_at .later [] [.data, .data, .data, .sentinel, .sentinel] true (true, "71052e42115e9a5c8fe1e7044380f4a842a6957b7952595d1464e543b10f7a3d") true
    numSmall_holds (fun _ h => by cases h) (by kernel_rfl) (fun _ h => by cases h) numSmall_row_tie rfl ⟨rfl, rfl⟩ (by kernel_rfl) rfl
    (fun f fn hf hfn => by
      obtain rfl : f = 8 := Option.some.inj ((show Tryz.prog.funcNamed "foregone/foregonelaw01.NumSmall" = some 8 by kernel_rfl).symm.trans hf) |>.symm
      obtain rfl : fn = Tryz.f8 := (Option.some.inj (Tryz.func8.symm.trans hfn)).symm
      exact ⟨by kernel_rfl, fun j t ht => by
        rw [Tryz.params8] at ht
        have h3 : t = 3 := by
          rcases j with _ | _ | j
          · simpa using ht.symm
          · simpa using ht.symm
          · simp at ht
        subst h3
        exact (show Tryz.prog.wantsStandIn 3 = false by kernel_rfl)⟩)
    (by kernel_rfl)
end Go.Proofs.YthhjcfejgoddlaaGreatDoor
end
