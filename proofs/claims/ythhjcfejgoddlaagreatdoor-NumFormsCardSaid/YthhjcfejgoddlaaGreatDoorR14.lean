/- NumForms: for every integer, int, string and row of bytes the law answers true: the forms agree with the specification (Check, FromInt, ToInt, Text, Read, Bytes, FromBytes). -/
import Derived.Test.YthhjcfejgoddlaaGreatDoorSf
import Derived.Test.YthhjcfejgoddlaaGreatDoorSa
import Derived.ChangeSlices
import Derived.Test.YthhjcfejgoddlaaGreatDoorQ14
import Derived.ChangeMaps5
import Derived.Test.YthhjcfejgoddlaaGreatDoorCards
import Derived.Test.YthhjcfejgoddlaaGreatDoorTie
import Derived.SevenTiedAt
section
/- The frame, second part: an integer among the arguments, read as data. -/
namespace Go.Proofs.YthhjcfejgoddlaaGreatDoor
open Go Go.Abs Go.ChangeShapes Go.WideShapes Go.RowKit
set_option maxRecDepth 100000

theorem c24 : Tryz.prog.cellsOf 24 = 2 := by kernel_rfl
theorem c22 : Tryz.prog.cellsOf 22 = 1 := by kernel_rfl
theorem c3 : Tryz.prog.cellsOf 3 = 1 := by kernel_rfl
theorem c4 : Tryz.prog.cellsOf 4 = 1 := by kernel_rfl
theorem spot_none {w : World} {a : Addr} {v : Value} (h : w.cell? a = some v) : a = ⟨a.block, a.off, none⟩ := by
  obtain ⟨b, o, sp⟩ := a
  cases sp with
  | none => rfl
  | some k =>
    unfold World.cell? at h
    split at h
    · simp at h
    · cases h
/-- A slice of ints among what is read. -/
theorem rd_ints {H : Type} {enc : TypeId × Value → H} {W : World} {fuel : Nat} {cs : List Value} {x : DataW H × List MemPlace} (h : DataW.trod enc Tryz.prog W 0 (fun _ => true) true fuel 22 cs = some x) :
    ∃ (v : Value) (zs : List Int), cs = [v] ∧ RD (fun _ _ => True) W (.lst (zs.map eI)) v := by
  rcases open_ints Tryz.underlying22 Tryz.underlying3 c3 h with ⟨hcs, _⟩ | ⟨a, len, cap, zs, hcs, _, hl, _, hz, _, hc, _⟩
  · exact ⟨_, [], hcs, .emp _ _⟩
  · have hz' : zs.length = cap := hz
    refine ⟨_, zs.take len, hcs, ?_⟩
    have hlen : ((zs.take len).map eI).length = len := by simp; omega
    rcases Nat.eq_zero_or_pos len with h0 | h0
    · subst h0; exact .emp _ _
    · have ha := spot_none (hc 0 (by omega))
      have ha' : a = ⟨a.block, a.off, none⟩ := by
        have e : a.add 0 = a := by simp [Addr.add]
        rw [e] at ha; exact ha
      have hr := RD.lst (A := fun _ _ => True) (w := W) ((zs.take len).map eI) a.block a.off 1 cap (fun j => .int .i64 (zs.getD j 0)) (by intro e he; simp only [List.mem_map] at he; obtain ⟨z, _, rfl⟩ := he; rfl) (by decide) (by rw [hlen]; exact hl)
        (fun j hj => ⟨by
          have h1 := hc j (by rw [hlen] at hj; omega)
          have e : a.add j = ⟨a.block, a.off + j, none⟩ := by rw [ha']; simp [Addr.add]
          rw [e] at h1; exact h1, trivial⟩)
        (fun i e j d h1 h2 => by
          rw [List.getElem?_map] at h1
          cases hz : (zs.take len)[i]? with
          | none => rw [hz] at h1; simp at h1
          | some z =>
            rw [hz] at h1
            obtain rfl := Option.some.inj h1
            rcases j with _ | j
            · obtain rfl := Option.some.inj h2
              have : zs.getD (i * 1 + 0) 0 = z := by
                have hi := (List.getElem?_eq_some_iff.1 hz).1
                rw [List.getElem?_take] at hz
                split at hz
                · simp [List.getD, hz]
                · cases hz
              rw [this]; exact .int _ _
            · simp [eI] at h2)
      rw [hlen, ← ha'] at hr
      exact hr
theorem open_Int {H : Type} {enc : TypeId × Value → H} {W : World} {v : Value} {d : DataW H} {p : List MemPlace} (hval : Value.okWide Tryz.prog W .any 0 24 v)
    (h : DataW.Trod enc Tryz.prog W 0 (fun _ => true) true 24 v d p) : ∃ (neg : Bool) (zs : List Int), RV φ0 0 (fun _ _ => True) W (Zr neg zs) v := by
  obtain ⟨cs, rfl, hsz⟩ := okWide_struct Tryz.underlying24 hval
  rw [c24] at hsz
  obtain ⟨fuel, h⟩ := h
  obtain ⟨y0, y1, n, _, _, h0, h1⟩ := trod_struct2 Tryz.underlying24 h
  obtain ⟨l⟩ := cs
  match l, hsz with
  | [v0, v1], _ =>
    rw [c4] at h0
    rw [c22] at h1
    obtain ⟨b, hb, _⟩ := DataW.trod_bool Tryz.underlying4 h0
    obtain ⟨v, zs, hv, hr⟩ := rd_ints h1
    simp [Value.cells] at hb hv
    subst hb; subst hv
    refine ⟨b, zs, ?_⟩
    refine .agg [B b, L zs] [.bool b, v1] rfl (fun j x hj => ?_) (fun u hu => by
      simp only [List.mem_cons, List.not_mem_nil, or_false] at hu
      rcases hu with rfl | rfl
      · rfl
      · exact hr.one)
    rcases j with _ | _ | j
    · obtain rfl := Option.some.inj hj; exact .dat _ _ (.bool _)
    · obtain rfl := Option.some.inj hj; exact .dat _ _ hr
    · simp at hj
end Go.Proofs.YthhjcfejgoddlaaGreatDoor
end

section
/- The frame, third part: strings and rows of bytes among the arguments, read as data. -/
namespace Go.Proofs.YthhjcfejgoddlaaGreatDoor
open Go Go.Abs Go.ChangeShapes Go.WideShapes Go.RowKit
set_option maxRecDepth 100000

theorem c5 : Tryz.prog.cellsOf 5 = 1 := by kernel_rfl
theorem u8_wf {n : Int} (h : (Lit.int .u8 n).wf = true) : ∃ x : UInt8, (x.toNat : Int) = n := by
  simp only [Lit.wf, Bool.and_eq_true, decide_eq_true_eq] at h
  obtain ⟨h1, h2⟩ := h
  have h1' : (0 : Int) ≤ n := h1
  have h2' : n ≤ 255 := h2
  refine ⟨UInt8.ofNat n.toNat, ?_⟩
  rw [UInt8.toNat_ofNat']
  omega
theorem u8_list : ∀ (zs : List Int), (∀ n ∈ zs, (Lit.int .u8 n).wf = true) → ∃ l : List UInt8, zs = l.map fun x => (x.toNat : Int)
  | [], _ => ⟨[], rfl⟩
  | z :: zs, h => by
    obtain ⟨x, hx⟩ := u8_wf (h z (by simp))
    obtain ⟨l, hl⟩ := u8_list zs fun n hn => h n (by simp [hn])
    exact ⟨x :: l, by rw [List.map_cons, hx, hl]⟩
theorem rd_bytes {H : Type} {enc : TypeId × Value → H} {W : World} {fuel : Nat} {cs : List Value} {x : DataW H × List MemPlace} (h : DataW.trod enc Tryz.prog W 0 (fun _ => true) true fuel 54 cs = some x) :
    ∃ (v : Value) (l : List UInt8), cs = [v] ∧ RD (fun _ _ => True) W (.lst (l.map eU)) v := by
  rcases open_ints Tryz.underlying54 Tryz.underlying5 c5 h with ⟨hcs, _⟩ | ⟨a, len, cap, zs, hcs, _, hl, _, hz, _, hc, hwf⟩
  · exact ⟨_, [], hcs, .emp _ _⟩
  · have hz' : zs.length = cap := hz
    obtain ⟨l, rfl⟩ := u8_list zs hwf
    have hz2 : l.length = cap := by simpa using hz'
    refine ⟨_, l.take len, hcs, ?_⟩
    have hlen : ((l.take len).map eU).length = len := by simp; omega
    rcases Nat.eq_zero_or_pos len with h0 | h0
    · subst h0; exact .emp _ _
    · have ha := spot_none (hc 0 (by omega))
      have ha' : a = ⟨a.block, a.off, none⟩ := by
        have e : a.add 0 = a := by simp [Addr.add]
        rw [e] at ha; exact ha
      have hr := RD.lst (A := fun _ _ => True) (w := W) ((l.take len).map eU) a.block a.off 1 cap (fun j => .int .u8 ((l.getD j 0).toNat : Int)) (by intro e he; simp only [List.mem_map] at he; obtain ⟨z, _, rfl⟩ := he; rfl) (by decide) (by rw [hlen]; exact hl)
        (fun j hj => ⟨by
          rw [hlen] at hj
          have h1 := hc j (by omega)
          have e : a.add j = ⟨a.block, a.off + j, none⟩ := by rw [ha']; simp [Addr.add]
          have e2 : (l.map fun x => (x.toNat : Int)).getD j 0 = ((l.getD j 0).toNat : Int) := by
            simp [List.getD, show j < l.length by omega]
          rw [e, e2] at h1; exact h1, trivial⟩)
        (fun i e j d h1 h2 => by
          rw [List.getElem?_map] at h1
          cases hz : (l.take len)[i]? with
          | none => rw [hz] at h1; simp at h1
          | some z =>
            rw [hz] at h1
            obtain rfl := Option.some.inj h1
            rcases j with _ | j
            · obtain rfl := Option.some.inj h2
              have : l.getD (i * 1 + 0) 0 = z := by
                have hi := (List.getElem?_eq_some_iff.1 hz).1
                rw [List.getElem?_take] at hz
                split at hz
                · simp [List.getD, hz]
                · cases hz
              rw [this]; exact .int _ _
            · simp [eU] at h2)
      rw [hlen, ← ha'] at hr
      exact hr
theorem open_Bytes {H : Type} {enc : TypeId × Value → H} {W : World} {v : Value} {d : DataW H} {p : List MemPlace} (hval : Value.okWide Tryz.prog W .any 0 54 v)
    (h : DataW.Trod enc Tryz.prog W 0 (fun _ => true) true 54 v d p) : ∃ l : List UInt8, RV φ0 0 (fun _ _ => True) W (.dat (.lst (l.map eU))) v := by
  obtain ⟨a0, len, cap, rfl⟩ := okWide_slice Tryz.underlying54 hval
  obtain ⟨fuel, h⟩ := h
  obtain ⟨v, l, hv, hr⟩ := rd_bytes h
  simp [Value.cells] at hv
  subst hv
  exact ⟨l, .dat _ _ hr⟩
theorem open_Str {H : Type} {enc : TypeId × Value → H} {W : World} {v : Value} {d : DataW H} {p : List MemPlace} (hval : Value.okWide Tryz.prog W .any 0 9 v)
    (h : DataW.Trod enc Tryz.prog W 0 (fun _ => true) true 9 v d p) : ∃ l : List UInt8, RV φ0 0 (fun _ _ => True) W (.dat (.str (bs l))) v := by
  obtain ⟨s, rfl, _⟩ := Go.ChangeMaps.open_string Tryz.underlying9 hval h
  refine ⟨s.data.toList, ?_⟩
  have e : bs s.data.toList = s := by
    unfold bs
    first | rfl | simp
  rw [e]
  exact .dat _ _ (.str _)
end Go.Proofs.YthhjcfejgoddlaaGreatDoor
end

section
/- NumForms: the row proved, the card closed. -/
namespace Go.Proofs.YthhjcfejgoddlaaGreatDoor
open Go Go.Abs Go.ChangeShapes Go.WideShapes Go.RowKit
set_option maxRecDepth 100000

theorem numForms_lifted (os : Os) (started : os.Started) (H : Type) (enc : TypeId × Value → H) :
    ReturnsInHanded {} Tryz.checked os 14 .any (fun w args => (Rows.numFormsSpec.pre enc Tryz.prog Tryz.f14 [] false w args ∧ laidMetH Tryz.prog laidAll w) ∧ sizedMet enc Tryz.prog Tryz.f14 (OpenSpec.ofChange Rows.numFormsSpec) false w args)
      (Rows.numFormsSpec.post enc Tryz.prog Tryz.f14 false true false false) := by
  refine law_words os started H enc rfl (by kernel_rfl) Tryz.func14 (by kernel_rfl) (by kernel_rfl) (fun ds hl => ?_) (fun W args ds p hval hA => ?_) #[.agg #[.bool false, .slice none 0 0], .int .i64 0, .string ⟨#[]⟩, .slice none 0 0] (by kernel_rfl) (by kernel_rfl) (by kernel_rfl) (door_shaped os _) (door_met os _)
  · rw [Tryz.params14] at hl
    match ds, hl with
    | [d0, d1, d2, d3], _ => rfl
  · rw [Tryz.params14] at hA hval ⊢
    obtain ⟨v0, args, d0, ds, p0, p, rfl, rfl, rfl, h0, hA⟩ := trodAll_cons hA
    obtain ⟨v1, args, d1, ds, p1, p, rfl, rfl, rfl, h1, hA⟩ := trodAll_cons hA
    obtain ⟨v2, args, d2, ds, p2, p, rfl, rfl, rfl, h2, hA⟩ := trodAll_cons hA
    obtain ⟨v3, args, d3, ds, p3, p, rfl, rfl, rfl, h3, hA⟩ := trodAll_cons hA
    obtain ⟨rfl, rfl⟩ : args = [] ∧ ds = [] := by cases args <;> cases ds <;> first | exact ⟨rfl, rfl⟩ | exact absurd hA (by intro h; cases h)
    obtain ⟨b0, z0, r0⟩ := open_Int (hval 0 24 v0 rfl rfl) h0
    obtain ⟨n1, rfl, rfl, rfl, w1⟩ := open_int Tryz.underlying3 (hval 1 3 v1 rfl rfl) h1
    obtain ⟨l2, r2⟩ := open_Str (hval 2 9 v2 rfl rfl) h2
    obtain ⟨l3, r3⟩ := open_Bytes (hval 3 54 v3 rfl rfl) h3
    refine ⟨rfl, [Zr b0 z0, .dat (.int .i64 n1), .dat (.str (bs l2)), .dat (.lst (l3.map eU))], NumForms_ok b0 z0 n1 (wf_lo w1) (wf_hi w1) l2 l3, rfl, ?_⟩
    intro j x hj
    rcases j with _ | _ | _ | _ | j
    · obtain rfl := Option.some.inj hj; exact r0
    · obtain rfl := Option.some.inj hj; exact .dat _ _ (.int _ _)
    · obtain rfl := Option.some.inj hj; exact r2
    · obtain rfl := Option.some.inj hj; exact r3
    · simp at hj
theorem numForms_holds : Rows.NumFormsSaid :=
  OpenClaim.holds_of_wide 14 Tryz.f14 rfl rfl rfl rfl rfl rfl rfl ⟨rfl, rfl, rfl, rfl, rfl⟩ rfl rfl rfl rfl rfl (by kernel_rfl) Tryz.func14 (by kernel_rfl)
    (of_decide_eq_true (by kernel_rfl)) (by unfold Func.isWrapper; rw [if_neg (of_decide_eq_false (by kernel_rfl))]; exact ⟨rfl, rfl⟩)
    (fun os started H enc _ => numForms_lifted os started H enc)
theorem numForms_card : Rows.NumFormsCardSaid :=
  Claim7.holds_tied_plain_at .later [] [.data, .data, .data, .sentinel, .sentinel] true (true, "71052e42115e9a5c8fe1e7044380f4a842a6957b7952595d1464e543b10f7a3d") true
    numForms_holds (fun _ h => by cases h) (by kernel_rfl) (fun _ h => by cases h) numForms_row_tie rfl ⟨rfl, rfl⟩ (by kernel_rfl) rfl
    (fun f fn hf hfn => by
      obtain rfl : f = 14 := Option.some.inj ((show Tryz.prog.funcNamed "foregone/foregonelaw01.NumForms" = some 14 by kernel_rfl).symm.trans hf) |>.symm
      obtain rfl : fn = Tryz.f14 := (Option.some.inj (Tryz.func14.symm.trans hfn)).symm
      exact ⟨by kernel_rfl, fun j t ht => by
        rw [Tryz.params14] at ht
        have h3 : t = 3 ∨ t = 9 ∨ t = 24 ∨ t = 54 := by
          rcases j with _ | _ | _ | _ | j <;> simp at ht <;> simp [← ht]
        rcases h3 with rfl | rfl | rfl | rfl
        · exact (show Tryz.prog.wantsStandIn 3 = false by kernel_rfl)
        · exact (show Tryz.prog.wantsStandIn 9 = false by kernel_rfl)
        · exact (show Tryz.prog.wantsStandIn 24 = false by kernel_rfl)
        · exact (show Tryz.prog.wantsStandIn 54 = false by kernel_rfl)⟩)
    (by kernel_rfl)
end Go.Proofs.YthhjcfejgoddlaaGreatDoor
end
