/- The frame of the rows: from a contract to the row's words. -/
import Derived.Test.YthhjcfejgoddlaaGreatDoorKd
import Derived.Test.YthhjcfejgoddlaaGreatDoorRows
import Derived.Test.YthhjcfejgoddlaaGreatDoorChecked
import Derived.ChangeSame
import Derived.ChangeVars
import Derived.JoinedOf
import Derived.RowKit
import Derived.RowKitTokens
import Derived.LaidLaws
import Derived.LaidHandle
import Derived.Stop.Joined
import Derived.Stop.LaidErr
import Derived.MakeChecks
import Derived.LaidMore
import Derived.Carry
import Derived.KernelRfl
section
/- The frame of all rows: from what the row lists to what a call may lean on; from a contract over abstract values to the row's words. -/
namespace Go.Proofs.YthhjcfejgoddlaaGreatDoor
open Go Go.Abs Go.ChangeShapes Go.WideShapes Go.RowKit
set_option maxRecDepth 100000

theorem T_own : ownKnob Tryz.prog.godebug = none := by kernel_rfl
theorem gSyn : Tryz.prog.globalNamed "strconv.ErrSyntax" = some 0 := by kernel_rfl
theorem gRan : Tryz.prog.globalNamed "strconv.ErrRange" = some 1 := by kernel_rfl
theorem gPow : Tryz.prog.globalNamed "internal/strconv.uint64pow10" = some 2 := by kernel_rfl
theorem tSyn : (Tryz.prog.globals[0]?).map (·.type) = some 86 := by kernel_rfl
theorem tRan : (Tryz.prog.globals[1]?).map (·.type) = some 86 := by kernel_rfl
theorem tPow : (Tryz.prog.globals[2]?).map (·.type) = some 182 := by kernel_rfl
theorem cPow : Tryz.prog.cellsOf 182 = 20 := by kernel_rfl
theorem c108 : Tryz.prog.cellsOf 108 = 1 := by kernel_rfl
theorem c174 : Tryz.prog.cellsOf 174 = 1 := by kernel_rfl
theorem c9' : Tryz.prog.cellsOf 9 = 1 := by kernel_rfl
theorem starT : Tryz.prog.typeName? 3 172 = some "*errors.errorString" := by kernel_rfl
abbrev laidAll : List (String × DataW Unit) := [("math/bits.deBruijn32tab", Rows.laid_math_bits_deBruijn32tab), ("math/bits.deBruijn64tab", Rows.laid_math_bits_deBruijn64tab), ("internal/strconv.uint64pow10", Rows.laid_internal_strconv_uint64pow10), ("strconv.ErrRange", Rows.laid_strconv_ErrRange), ("strconv.ErrSyntax", Rows.laid_strconv_ErrSyntax)]
theorem star_eq : "*" ++ "errors.errorString" = "*errors.errorString" := by decide
theorem row172 (u : TypeId) (h : Tryz.prog.typeName? 3 u = some "*errors.errorString") : u = 172 :=
  typeName_ptr_named (nm := "errors.errorString") (by rw [star_eq]; kernel_rfl) (by kernel_rfl) (by decide) u (by rw [star_eq]; exact h)
theorem errW_of {n : String} {text : List UInt8} {r : List (String × DataW Unit)} {W : World} {g : Nat}
    (h : laidMet Tryz.prog ((n, .iface "*errors.errorString" (.ptr (.agg [.lit (.string text)]))) :: r) W) (hg : Tryz.prog.globalNamed n = some g) (ht : (Tryz.prog.globals[g]?).map (·.type) = some 86) : ErrW (fun _ _ => True) W n := by
  obtain ⟨a, s, hv, hcell, _, _⟩ := laid_sentinel h hg ht Tryz.underlying86 row172 Tryz.underlying172 Tryz.underlying174 rfl rfl Tryz.underlying9 c174 c9'
  obtain ⟨b, o, sp⟩ := a
  have hsp : sp = none := by
    cases sp with
    | none => rfl
    | some k =>
      unfold World.cell? at hcell
      split at hcell
      · simp at hcell
      · cases hcell
  subst hsp
  refine ⟨172, .pointer (some ⟨b, o, none⟩), .ifc 172 false [.cptr [.str s]], hv, ?_⟩
  exact RD.ifc 172 false [.cptr [.str s]] [.pointer (some ⟨b, o, none⟩)] rfl (fun _ => rfl) (fun j d hj => by
    rcases j with _ | j
    · obtain rfl := Option.some.inj hj
      refine RD.cptr [.str s] b o (fun _ => .string s) (fun j hj => ?_) (fun j d hj => ?_)
      · have : j = 0 := by simpa using hj
        subst this
        exact ⟨hcell, trivial⟩
      · rcases j with _ | j
        · obtain rfl := Option.some.inj hj; exact .str s
        · simp at hj
    · simp at hj)
theorem gw_of_laid {W : World} (h : laidMetH Tryz.prog laidAll W) : GW (fun _ _ => True) W := by
  rw [MakeChecks.laidMetH_plain _ _ _ (by decide)] at h
  have h2 := h.tail.tail
  have h3 := h2.tail
  exact ⟨Lib.tabIs_of_head gPow tPow Tryz.underlying182 Tryz.underlying108 c108 cPow h2, errW_of h3 gRan tRan, errW_of h3.tail gSyn tSyn⟩

/-- The arguments, read again. -/
theorem trodAll_back {H : Type} {enc : TypeId × Value → H} (hl : laidOutB Tryz.prog = true) {W W' : World} (hb : Below W.heap.size W W') : ∀ (ts : List TypeId) (vs : List Value) (ds : List (DataW H)) (ps : List MemPlace),
    (∀ t ∈ ts, Tryz.prog.readableRec t = true ∧ t < Tryz.prog.types.size) → DataW.TrodAll enc Tryz.prog W 0 (fun _ => true) true ts vs ds ps → (∀ x ∈ ps, x.block < W.heap.size) →
    DataW.TrodAll enc Tryz.prog W' 0 (fun b => decide (b < W.heap.size)) true ts vs ds ps
  | [], vs, ds, ps, _, h, _ => by
    cases vs with
    | nil => cases ds with
      | nil => exact h
      | cons d r => exact absurd h (by intro h; cases h)
    | cons v r => exact absurd h (by intro h; cases ds <;> cases h)
  | t :: ts, vs, ds, ps, ht, h, hlt => by
    cases vs with
    | nil => exact absurd h (by intro h; cases ds <;> cases h)
    | cons v r =>
      cases ds with
      | nil => exact absurd h (by intro h; cases h)
      | cons d dr =>
        obtain ⟨p, q, h1, h2, rfl⟩ := h
        exact ⟨p, q, Below.trod hl (ht t (by simp)).1 (ht t (by simp)).2 h1 hb (fun x hx => hlt x (by simp [hx])), trodAll_back hl hb ts r dr q (fun t h => ht t (by simp [h])) h2 (fun x hx => hlt x (by simp [hx])), rfl⟩
theorem wf_lo {n : Int} (h : (Lit.int .i64 n).wf = true) : -9223372036854775808 ≤ n := by
  simp only [Lit.wf, Bool.and_eq_true, decide_eq_true_eq] at h; exact h.1
theorem wf_hi {n : Int} (h : (Lit.int .i64 n).wf = true) : n ≤ 9223372036854775807 := by
  simp only [Lit.wf, Bool.and_eq_true, decide_eq_true_eq] at h; exact h.2
theorem T_laidOut : laidOutB Tryz.prog = true := by kernel_rfl
theorem bool_of_RV {A : Nat → Nat → Prop} {w : World} {b : Bool} {v : Value} (h : RV φ0 0 A w (.dat (.bool b)) v) : v = .bool b := by
  cases h with
  | dat _ _ h => cases h; rfl
/-- FROM A CONTRACT TO THE ROW's WORDS: a law, its arguments data. -/
theorem law_words {f : FuncId} {fn : Func} {s : ChangeSpec} (os : Os) (started : os.Started) (H : Type) (enc : TypeId × Value → H)
    (hv : s.vars = []) (noInit : Tryz.prog.inits.idxOf? f = none) (hfn : Tryz.prog.funcs[f]? = some fn) (hres : fn.resultTypes = #[4])
    (hpar : (fn.params.toList.all fun t => Tryz.prog.readableRec t && decide (t < Tryz.prog.types.size)) = true)
    (hspec : ∀ ds : List (DataW H), ds.length = fn.params.size → s.fn H ds = { results := [.lit (.bool true)], args := ds })
    (hread : ∀ (W : World) (args : List Value) (ds : List (DataW H)) (p : List MemPlace), (∀ (j : Nat) t v, fn.params[j]? = some t → args[j]? = some v → Value.okWide Tryz.prog W .any 0 t v) →
      DataW.TrodAll enc Tryz.prog W 0 (fun _ => true) true fn.params.toList args ds p →
      ds.length = fn.params.size ∧ ∃ avs, PC Tryz.prog f avs (.dat (.bool true)) ∧ args.length = avs.length ∧ ∀ j x, avs[j]? = some x → RV φ0 0 (fun _ _ => True) W x (args.getD j undef))
    (args0 : Array Value)
    (hok : Input.okWideB Tryz.prog ((World.doorLaid Tryz.prog 62 os).forCall (fun _ _ => 0) ⟨#[], args0, []⟩) f ⟨#[], args0, []⟩ = true)
    (hpre : s.preB enc Tryz.prog fn [] false ((World.doorLaid Tryz.prog 62 os).forCall (fun _ _ => 0) ⟨#[], args0, []⟩).memory args0 8 = true)
    (hsz : s.sizedB enc Tryz.prog fn false ((World.doorLaid Tryz.prog 62 os).forCall (fun _ _ => 0) ⟨#[], args0, []⟩).memory args0 8 = true)
    (hsh : ((World.doorLaid Tryz.prog 62 os).forCall (fun _ _ => 0) ⟨#[], args0, []⟩).Shaped Tryz.prog)
    (hmet : laidMetH Tryz.prog laidAll ((World.doorLaid Tryz.prog 62 os).forCall (fun _ _ => 0) ⟨#[], args0, []⟩).memory) :
    ReturnsInHanded {} Tryz.checked os f .any (fun w args => (s.pre enc Tryz.prog fn [] false w args ∧ laidMetH Tryz.prog laidAll w) ∧ sizedMet enc Tryz.prog fn (OpenSpec.ofChange s) false w args)
      (s.post enc Tryz.prog fn false true false false) := by
  refine returnsInHanded_of_change_and (C := Tryz.checked) (X := fun w _ => laidMetH Tryz.prog laidAll w) (fun _ _ _ hh h => h.of_heap hh) T_own started noInit hfn
    (ChangeSpec.witness_shaped (enc := enc) (C := Tryz.checked) (os := os) (X := fun w _ => laidMetH Tryz.prog laidAll w) false (World.doorLaid Tryz.prog 62 os) args0 8 rfl hsh hok hpre hsz hmet) ?_
  intro W base args ds gs before hval0 hW _ _ hL _
  have hval : ∀ (j : Nat) t v, fn.params[j]? = some t → args.toList[j]? = some v → Value.okWide Tryz.prog W .any 0 t v := fun j t v h1 h2 => hval0 j t v h1 (by simpa using h2)
  have hW' := hW
  obtain ⟨p, q, hA, hV, rfl, hfz, hnd⟩ := hW
  have hAlt := hA.lt
  rw [hv] at hV
  obtain ⟨rfl, rfl⟩ : gs = [] ∧ q = [] := by
    cases gs with
    | nil => exact ⟨rfl, hV⟩
    | cons g r => exact absurd hV (by intro h; cases h)
  obtain ⟨hlen, avs, hpc, hl, hrv⟩ := hread W args.toList ds p hval hA
  have hcall := hpc.2 W (fun _ _ => True) args.toList (gw_of_laid hL) hl hrv
  rw [Array.toArray_toList] at hcall
  refine hcall.mono fun e W' ⟨v, he, hb, hr⟩ => ?_
  obtain rfl := bool_of_RV hr
  refine ⟨_, he, _, _, _, [], p, [], hW', ?_, ?_, ?_, Below.frame hb _, fun h => by cases h⟩
  · rw [List.append_nil, hspec ds hlen, hres]
    exact trodAll_mk1 (shut_bool Tryz.underlying4 true)
  · rw [List.append_nil, hspec ds hlen]
    refine trodAll_back T_laidOut hb _ _ _ _ (fun t ht => ?_) hA hAlt
    have := List.all_eq_true.1 hpar t ht
    simp only [Bool.and_eq_true, decide_eq_true_eq] at this
    exact this
  · rw [List.append_nil, hspec ds hlen, hv]; rfl
theorem door_met (os : Os) (args : Array Value) : laidMetH Tryz.prog laidAll ((World.doorLaid Tryz.prog 62 os).forCall (fun _ _ => 0) ⟨#[], args, []⟩).memory :=
  laidMetH_of_parts3 (fuel := 8) (laidMet_of_run' 8 (by kernel_rfl) (by kernel_rfl)) (by kernel_rfl) (by kernel_rfl)
theorem door_shaped (os : Os) (args : Array Value) : ((World.doorLaid Tryz.prog 62 os).forCall (fun _ _ => 0) ⟨#[], args, []⟩).Shaped Tryz.prog :=
  World.shaped_of_RefB (by kernel_rfl) (by kernel_rfl)
end Go.Proofs.YthhjcfejgoddlaaGreatDoor
end
