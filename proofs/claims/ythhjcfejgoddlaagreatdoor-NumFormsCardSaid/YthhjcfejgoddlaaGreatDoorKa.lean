/- The rules of the abstract walk, first half: data, values, stores, operations. -/
import Derived.OrdersIn
import Derived.TacticsIn
import Derived.WalkKit
import Derived.Below
import Derived.Laws.AppendOwn
import Derived.Laws.OwnMore
import Derived.Laws.Rows
import Derived.RangeFuncOwn
import Derived.RangeFuncLeaves
import Derived.RangeFuncFrom
import Derived.RangeFuncCalls
import Derived.Test.YthhjcfejgoddlaaGreatDoorProg
import Derived.Lib.LaidTab
import Derived.Shelf.Strconv.Itoa3
import Derived.RangeFuncRecord
section
/- Data, and what it is in memory. -/
namespace Go.Abs
open Go.RowKit

inductive DV where
  | bool (b : Bool) | int (k : IntKind) (n : Int) | str (s : ByteArray)
  | lst (es : List (List DV))
  | pnil | cptr (cs : List DV)
  | fn (f : FuncId) (caps : List DV) | fnil
  | inil | ifc (t : TypeId) (agg : Bool) (cs : List DV)
  deriving Inhabited

def aggV (g : Bool) (vs : List Value) : Value := if g then .agg vs.toArray else vs.headD undef

/-- A value is the data, read in cells that A admits. -/
inductive RD (A : Nat → Nat → Prop) (w : World) : DV → Value → Prop
  | bool (b : Bool) : RD A w (.bool b) (.bool b)
  | int (k : IntKind) (n : Int) : RD A w (.int k n) (.int k n)
  | str (s : ByteArray) : RD A w (.str s) (.string s)
  | emp (a : Option Addr) (cap : Nat) : RD A w (.lst []) (.slice a 0 cap)
  | lst (es : List (List DV)) (b o sz cap : Nat) (vs : Nat → Value) (hs : ∀ e ∈ es, e.length = sz) (hz : 0 < sz) (hc : es.length ≤ cap)
      (hm : ∀ j, j < es.length * sz → w.cell? ⟨b, o + j, none⟩ = some (vs j) ∧ A b (o + j))
      (h : ∀ i e j d, es[i]? = some e → e[j]? = some d → RD A w d (vs (i * sz + j))) : RD A w (.lst es) (.slice (some ⟨b, o, none⟩) es.length cap)
  | pnil : RD A w .pnil (.pointer none)
  | cptr (cs : List DV) (b o : Nat) (vs : Nat → Value)
      (hm : ∀ j, j < cs.length → w.cell? ⟨b, o + j, none⟩ = some (vs j) ∧ A b (o + j))
      (h : ∀ j d, cs[j]? = some d → RD A w d (vs j)) : RD A w (.cptr cs) (.pointer (some ⟨b, o, none⟩))
  | fn (f : FuncId) (caps : List DV) (vs : List Value) (hl : vs.length = caps.length)
      (h : ∀ j d, caps[j]? = some d → RD A w d (vs.getD j undef)) : RD A w (.fn f caps) (.func (.func f) #[] vs.toArray)
  | fnil : RD A w .fnil .nilFunc
  | inil : RD A w .inil .nilIface
  | ifc (t : TypeId) (g : Bool) (cs : List DV) (vs : List Value) (hl : vs.length = cs.length) (hg : g = false → cs.length = 1)
      (h : ∀ j d, cs[j]? = some d → RD A w d (vs.getD j undef)) : RD A w (.ifc t g cs) (.iface t (aggV g vs))

def Keeps (A : Nat → Nat → Prop) (w : World) (A' : Nat → Nat → Prop) (w' : World) : Prop :=
  ∀ b o v, A b o → w.cell? ⟨b, o, none⟩ = some v → A' b o ∧ w'.cell? ⟨b, o, none⟩ = some v

theorem Keeps.refl (A : Nat → Nat → Prop) (w : World) : Keeps A w A w := fun _ _ _ h h' => ⟨h, h'⟩
theorem Keeps.trans {A B C : Nat → Nat → Prop} {w w' w'' : World} (h : Keeps A w B w') (k : Keeps B w' C w'') : Keeps A w C w'' :=
  fun b o v ha hv => let ⟨x, y⟩ := h b o v ha hv; k b o v x y

theorem RD.keep {A A' : Nat → Nat → Prop} {w w' : World} {d : DV} {v : Value} (h : RD A w d v) (k : Keeps A w A' w') : RD A' w' d v := by
  induction h with
  | bool b => exact .bool b
  | int k n => exact .int k n
  | str s => exact .str s
  | emp a cap => exact .emp a cap
  | lst es b o sz cap vs hs hz hc hm _ ih =>
    exact .lst es b o sz cap vs hs hz hc (fun j hj => let ⟨x, y⟩ := k b (o + j) _ (hm j hj).2 (hm j hj).1; ⟨y, x⟩) ih
  | pnil => exact .pnil
  | cptr cs b o vs hm _ ih => exact .cptr cs b o vs (fun j hj => let ⟨x, y⟩ := k b (o + j) _ (hm j hj).2 (hm j hj).1; ⟨y, x⟩) ih
  | fn f caps vs hl _ ih => exact .fn f caps vs hl ih
  | fnil => exact .fnil
  | inil => exact .inil
  | ifc t g cs vs hl hg _ ih => exact .ifc t g cs vs hl hg ih

theorem RD.one {A : Nat → Nat → Prop} {w : World} {d : DV} {v : Value} (h : RD A w d v) : v.oneCell' = true := by
  cases h <;> rfl

theorem RD.cells {A : Nat → Nat → Prop} {w : World} {d : DV} {v : Value} (h : RD A w d v) : v.cells = #[v] := by
  cases h <;> rfl


end Go.Abs
end

section
/- What a call may lean on: variables of the library's as their initialisers lay them. -/
namespace Go.Abs
open Go.RowKit Go.Proofs

def ErrW (A : Nat → Nat → Prop) (w : World) (name : String) : Prop :=
  ∃ tp p d, World.var? Tryz.prog w name = some #[.iface tp p] ∧ RD A w d (.iface tp p)

def GW (A : Nat → Nat → Prop) (w : World) : Prop :=
  Lib.TabIs Tryz.prog w "internal/strconv.uint64pow10" .u64 Lib.pow10Tab ∧ ErrW A w "strconv.ErrRange" ∧ ErrW A w "strconv.ErrSyntax"

theorem var_below {w w' : World} {name : String} {vs : Array Value} (h : World.var? Tryz.prog w name = some vs) (hb : Below w.heap.size w w') : World.var? Tryz.prog w' name = some vs := by
  unfold World.var? at h ⊢
  cases hg : Tryz.prog.globalNamed name with
  | none => rw [hg] at h; simp at h
  | some g =>
    rw [hg] at h
    simp only [Option.bind_some] at h ⊢
    split at h
    · rename_i cs t f hc
      rw [hb.block g (Array.getElem?_eq_some_iff.1 hc).1, hc]; exact h
    · cases h

theorem GW.keep {A A' : Nat → Nat → Prop} {w w' : World} (h : GW A w) (k : Keeps A w A' w') (hb : Below w.heap.size w w') : GW A' w' := by
  have er : ∀ {name}, ErrW A w name → ErrW A' w' name := fun ⟨tp, p, d, h1, h2⟩ => ⟨tp, p, d, var_below h1 hb, h2.keep k⟩
  exact ⟨var_below h.1 hb, er h.2.1, er h.2.2⟩

end Go.Abs
end

section
/- Abstract values, and what they stand for in memory: immutable data by content, own rows and boxes by name. -/
namespace Go.Abs
open Go.RowKit

inductive AV where
  | und | nil
  | dat (d : DV) | ptr (i off : Nat) | own (i : Nat) | eptr (i k j : Nat)
  | clo (f : FuncId) (caps : List AV) | agg (xs : List AV) | tup (xs : List AV)
  deriving Inhabited

structure Lay where
  b : Nat
  len : Nat := 0
  cap : Nat := 0
  sz : Nat := 0
  deriving Inhabited

inductive RV (φ : Nat → Lay) (n : Nat) (A : Nat → Nat → Prop) (w : World) : AV → Value → Prop
  | und (v : Value) : RV φ n A w .und v
  | nil : RV φ n A w .nil (.slice none 0 0)
  | dat (d : DV) (v : Value) (h : RD A w d v) : RV φ n A w (.dat d) v
  | ptr (i off : Nat) (h : i < n) : RV φ n A w (.ptr i off) (.pointer (some ⟨(φ i).b, off, none⟩))
  | own (i : Nat) (h : i < n) : RV φ n A w (.own i) (.slice (some ⟨(φ i).b, 0, none⟩) (φ i).len (φ i).cap)
  | eptr (i k j : Nat) (h : i < n) : RV φ n A w (.eptr i k j) (.pointer (some ⟨(φ i).b, k * (φ i).sz + j, none⟩))
  | clo (f : FuncId) (caps : List AV) (vs : List Value) (hl : vs.length = caps.length)
      (h : ∀ j x, caps[j]? = some x → RV φ n A w x (vs.getD j undef)) : RV φ n A w (.clo f caps) (.func (.func f) #[] vs.toArray)
  | agg (xs : List AV) (vs : List Value) (hl : vs.length = xs.length)
      (h : ∀ j x, xs[j]? = some x → RV φ n A w x (vs.getD j undef)) (h1 : ∀ u ∈ vs, u.oneCell' = true) : RV φ n A w (.agg xs) (.agg vs.toArray)
  | tup (xs : List AV) (vs : List Value) (hl : vs.length = xs.length)
      (h : ∀ j x, xs[j]? = some x → RV φ n A w x (vs.getD j undef)) : RV φ n A w (.tup xs) (.tuple vs.toArray)

theorem RV.keep {φ φ' : Nat → Lay} {n n' : Nat} {A A' : Nat → Nat → Prop} {w w' : World} {x : AV} {v : Value} (h : RV φ n A w x v) (k : Keeps A w A' w')
    (hφ : ∀ i, i < n → φ' i = φ i) (hn : n ≤ n') : RV φ' n' A' w' x v := by
  induction h with
  | und v => exact .und v
  | nil => exact .nil
  | dat d v h => exact .dat d v (h.keep k)
  | ptr i off h => rw [← hφ i h]; exact .ptr i off (by omega)
  | own i h => rw [← hφ i h]; exact .own i (by omega)
  | eptr i k j h => rw [← hφ i h]; exact .eptr i k j (by omega)
  | clo f caps vs hl _ ih => exact .clo f caps vs hl ih
  | agg xs vs hl _ h1 ih => exact .agg xs vs hl ih h1
  | tup xs vs hl _ ih => exact .tup xs vs hl ih

inductive Obj' where
  | box (xs : List AV) (frz : Bool) (ty : Option TypeId := none)
  | row (e : TypeId) (sz : Nat) (es : List (List DV)) (frz : Bool)
  deriving Inhabited

def Obj'.permits : Obj' → Nat → Prop
  | .box _ f _, _ => f = true
  | .row _ sz es f, off => f = true ∧ off < es.length * sz

abbrev Sto := List (Nat × Obj')
abbrev Tm := List (Nat × AV)

def lk : Nat → Tm → AV
  | _, [] => .und
  | k, (j, v) :: l => bif Nat.beq j k then v else lk k l

def get : Nat → Sto → Option Obj'
  | _, [] => none
  | k, (j, v) :: l => bif Nat.beq j k then some v else get k l

def set : Nat → Obj' → Sto → Sto
  | _, _, [] => []
  | k, o, (j, v) :: l => bif Nat.beq j k then (j, o) :: l else (j, v) :: set k o l

def del : Nat → Sto → Sto
  | _, [] => []
  | k, (j, v) :: l => bif Nat.beq j k then del k l else (j, v) :: del k l

theorem beq_ne {j k : Nat} (h : j ≠ k) : Nat.beq j k = false := by
  cases hb : Nat.beq j k
  · rfl
  · exact absurd (Nat.eq_of_beq_eq_true hb) h

theorem lk_cons (k j : Nat) (v : AV) (l : Tm) : lk k ((j, v) :: l) = if j = k then v else lk k l := by
  by_cases h : j = k
  · subst h; simp [lk]
  · have : Nat.beq j k = false := beq_ne h
    simp [lk, this, h]
theorem get_cons (k j : Nat) (v : Obj') (l : Sto) : get k ((j, v) :: l) = if j = k then some v else get k l := by
  by_cases h : j = k
  · subst h; simp [get]
  · have : Nat.beq j k = false := beq_ne h
    simp [get, this, h]
theorem get_set (k i : Nat) (o : Obj') (l : Sto) : get i (set k o l) = if i = k then (get k l).map (fun _ => o) else get i l := by
  induction l with
  | nil => simp [set, get]
  | cons p l ih =>
    obtain ⟨j, v⟩ := p
    by_cases h : j = k
    · subst h
      have : set j o ((j, v) :: l) = (j, o) :: l := by simp [set]
      rw [this]; simp only [get_cons]
      by_cases hi : i = j
      · subst hi; simp
      · simp [hi, Ne.symm hi]
    · have hb : Nat.beq j k = false := beq_ne h
      have : set k o ((j, v) :: l) = (j, v) :: set k o l := by simp [set, hb]
      rw [this]; simp only [get_cons, ih]
      by_cases hi : i = k
      · subst hi; simp [h]
      · simp [hi]
theorem get_del (k i : Nat) (l : Sto) : get i (del k l) = if i = k then none else get i l := by
  induction l with
  | nil => simp [del, get]
  | cons p l ih =>
    obtain ⟨j, v⟩ := p
    by_cases h : j = k
    · subst h
      have : del j ((j, v) :: l) = del j l := by simp [del]
      rw [this, ih, get_cons]
      by_cases hi : i = j
      · simp [hi]
      · simp [hi, Ne.symm hi]
    · have hb : Nat.beq j k = false := beq_ne h
      have : del k ((j, v) :: l) = (j, v) :: del k l := by simp [del, hb]
      rw [this]; simp only [get_cons, ih]
      by_cases hi : i = k
      · subst hi; simp [h]
      · simp [hi]

structure St where
  t : Tm
  s : Sto
  n : Nat
  d : Nat := 0

structure Ctx where
  w0 : World
  A0 : Nat → Nat → Prop
  N : Nat
  w1 : World := w0
  pin : Nat → Nat → Value → Prop := fun _ _ _ => False
  m : Nat := 0
  fl : Nat → Lay := fun _ => default
  fv : List (AV × Value) := []
  held : Nat → Option Obj := fun _ => none
  hid : Nat → Nat → Prop := fun _ _ => False

def Ctx.AA (c : Ctx) (φ : Nat → Lay) (s : Sto) (b o : Nat) : Prop :=
  ((c.A0 b o ∨ c.w0.heap.size ≤ b) ∧ ¬ c.hid b o) ∧ ∀ i x, get i s = some x → (φ i).b = b → x.permits o

def ObjOk (c : Ctx) (φ : Nat → Lay) (s : Sto) (n : Nat) (w : World) (i : Nat) : Obj' → Prop
  | .box xs _ ot => ∃ (vs : List Value) (ty : TypeId), w.heap[(φ i).b]? = some (.cells vs.toArray (ot.getD ty) (0, 0)) ∧ vs.length = xs.length ∧
      (∀ u ∈ vs, u.oneCell' = true) ∧ ∀ j x, xs[j]? = some x → RV φ n (c.AA φ s) w x (vs.getD j undef)
  | .row e sz es _ => 0 < sz ∧ (φ i).sz = sz ∧ (∀ el ∈ es, el.length = sz) ∧ es.length = (φ i).len ∧ ∃ cur : List Value, w.heap[(φ i).b]? = some (.cells cur.toArray e (0, 0)) ∧
      cur.length = (φ i).cap * sz ∧ (φ i).len ≤ (φ i).cap ∧ (φ i).cap ≤ maxLen ∧ (∀ u ∈ cur, u.oneCell' = true) ∧
      ∀ k el j d, es[k]? = some el → el[j]? = some d → RD (c.AA φ s) w d (cur.getD (k * sz + j) undef)

/-- Blocks of others' that stay as they are. -/
def Held (c : Ctx) (φ : Nat → Lay) (s : Sto) (w : World) : Prop :=
  (∀ b ob, c.held b = some ob → ob.isCells = true ∧ w.heap[b]? = some ob ∧ ∀ i o, get i s = some o → (φ i).b ≠ b) ∧ ∀ b o, c.hid b o → c.w0.heap.size ≤ b ∧ ∃ ob, c.held b = some ob

theorem Held.keep {c : Ctx} {φ φ' : Nat → Lay} {s s' : Sto} {w w' : World} (h : Held c φ s w) (hw : ∀ b ob, c.held b = some ob → w.heap[b]? = some ob → w'.heap[b]? = w.heap[b]?)
    (hs : ∀ i o, get i s' = some o → (∃ j o', get j s = some o' ∧ (φ j).b = (φ' i).b) ∨ w.heap.size ≤ (φ' i).b) : Held c φ' s' w' :=
  ⟨fun b ob hb => by
    obtain ⟨h1, h2, h3⟩ := h.1 b ob hb
    refine ⟨h1, (hw b ob hb h2).trans h2, fun i o ho he => ?_⟩
    rcases hs i o ho with ⟨j, o', g1, g2⟩ | g
    · exact h3 j o' g1 (g2.trans he)
    · have := (Array.getElem?_eq_some_iff.1 h2).1; omega, h.2⟩

structure Mem (c : Ctx) (φ : Nat → Lay) (s : Sto) (n : Nat) (w : World) : Prop where
  below : Below c.w0.heap.size c.w0 w
  obj : ∀ i o, get i s = some o → c.w0.heap.size ≤ (φ i).b ∧ i < n ∧ ObjOk c φ s n w i o
  inj : ∀ i j oi oj, get i s = some oi → get j s = some oj → (φ i).b = (φ j).b → i = j
  oth : KeepsOthers c.w1 w
  pin : ∀ b o v, c.pin b o v → c.AA φ s b o ∧ w.cell? ⟨b, o, none⟩ = some v
  fv : c.m ≤ n ∧ (∀ i, i < c.m → φ i = c.fl i) ∧ ∀ p ∈ c.fv, RV φ c.m (c.AA φ s) w p.1 p.2
  hld : Held c φ s w
  gw : GW c.A0 c.w0

theorem Mem.gwAA {c : Ctx} {φ : Nat → Lay} {s : Sto} {n : Nat} {w : World} (h : Mem c φ s n w) : GW (c.AA φ s) w :=
  h.gw.keep (fun b o v ha hv => by
    have hlt := World.block_lt_of_cell? _ _ hv
    simp only at hlt
    refine ⟨⟨⟨.inl ha, fun hh => ?_⟩, fun i x hi hb => ?_⟩, by rw [h.below.cell hlt]; exact hv⟩
    · have := (h.hld.2 _ _ hh).1; omega
    · have := (h.obj i x hi).1; omega) h.below

theorem Mem.nhid {c : Ctx} {φ : Nat → Lay} {s : Sto} {n : Nat} {w : World} (h : Mem c φ s n w) {i : Nat} {o : Obj'} (hi : get i s = some o) (off : Nat) : ¬ c.hid (φ i).b off := fun hh => by
  obtain ⟨_, ob, h1⟩ := h.hld.2 _ _ hh
  exact (h.hld.1 _ _ h1).2.2 i o hi rfl

theorem Mem.nhid_new {c : Ctx} {φ : Nat → Lay} {s : Sto} {n : Nat} {w : World} (h : Mem c φ s n w) {b : Nat} (hb : w.heap.size ≤ b) (off : Nat) : ¬ c.hid b off := fun hh => by
  obtain ⟨_, ob, h1⟩ := h.hld.2 _ _ hh
  have := (Array.getElem?_eq_some_iff.1 (h.hld.1 _ _ h1).2.1).1
  omega

/-- The marks that ranges over functions leave. -/
def Marks (c : Ctx) (w : World) (ds : List Deferred) (m : Nat) : Prop :=
  ds.length = m ∧ ds.Nodup ∧ ∀ d ∈ ds, ∃ r, d = { target := .collected r, args := #[] } ∧ c.w0.heap.size ≤ r ∧ w.heap[r]? = some (.deferred (some []))

theorem Marks.keep {c : Ctx} {w w' : World} {ds : List Deferred} {m : Nat} (h : Marks c w ds m) (k : KeepsOthers w w') : Marks c w' ds m :=
  ⟨h.1, h.2.1, fun d hd => let ⟨r, h1, h2, h3⟩ := h.2.2 d hd; ⟨r, h1, h2, k.same _ _ h3 rfl⟩⟩

structure Rel (c : Ctx) (φ : Nat → Lay) (σ : St) (a : Act) (w : World) : Prop where
  size : a.tmps.size = c.N
  defers : Marks c w a.defers σ.d
  tm : ∀ t, RV φ σ.n (c.AA φ σ.s) w (lk t σ.t) (a.tmps.getD t undef)
  mem : Mem c φ σ.s σ.n w

theorem ObjOk.keep {c : Ctx} {φ φ' : Nat → Lay} {s s' : Sto} {n n' : Nat} {w w' : World} {i : Nat} {o : Obj'} (h : ObjOk c φ s n w i o) (k : Keeps (c.AA φ s) w (c.AA φ' s') w')
    (hφ : ∀ j, j < n → φ' j = φ j) (hi : i < n) (hn : n ≤ n') (hb : w'.heap[(φ i).b]? = w.heap[(φ i).b]?) : ObjOk c φ' s' n' w' i o := by
  cases o with
  | box xs f =>
    obtain ⟨vs, ty, h1, h2, h3, h4⟩ := h
    refine ⟨vs, ty, ?_, h2, h3, fun j x hx => (h4 j x hx).keep k hφ hn⟩
    rw [hφ i hi, hb]; exact h1
  | row e sz es f =>
    obtain ⟨h0, hz, h1, h2, cur, h3, h4, h5, h6, h7, h8⟩ := h
    refine ⟨h0, ?_, h1, ?_, cur, ?_, ?_, ?_, ?_, h7, fun k' el j d a b => (h8 k' el j d a b).keep k⟩
    all_goals rw [hφ i hi]
    · exact hz
    · exact h2
    · rw [hb]; exact h3
    · exact h4
    · exact h5
    · exact h6

/-- What a step does to memory. -/
structure Goes (c : Ctx) (φ : Nat → Lay) (s : Sto) (n : Nat) (w : World) (φ' : Nat → Lay) (s' : Sto) (n' : Nat) (w' : World) : Prop where
  same : ∀ i, i < n → φ' i = φ i
  le : n ≤ n'
  keeps : Keeps (c.AA φ s) w (c.AA φ' s') w'
  mem : Mem c φ' s' n' w'
  oth : KeepsOthers w w'

theorem Goes.refl {c : Ctx} {φ : Nat → Lay} {s : Sto} {n : Nat} {w : World} (h : Mem c φ s n w) : Goes c φ s n w φ s n w :=
  ⟨fun _ _ => rfl, Nat.le_refl _, Keeps.refl _ _, h, KeepsOthers.refl _⟩

theorem Goes.trans {c : Ctx} {φ φ' φ'' : Nat → Lay} {s s' s'' : Sto} {n n' n'' : Nat} {w w' w'' : World} (h : Goes c φ s n w φ' s' n' w') (k : Goes c φ' s' n' w' φ'' s'' n'' w'') :
    Goes c φ s n w φ'' s'' n'' w'' :=
  ⟨fun i hi => (k.same i (by have := h.le; omega)).trans (h.same i hi), Nat.le_trans h.le k.le, h.keeps.trans k.keeps, k.mem, h.oth.trans k.oth⟩

theorem Goes.rv {c : Ctx} {φ φ' : Nat → Lay} {s s' : Sto} {n n' : Nat} {w w' : World} {x : AV} {v : Value} (h : Goes c φ s n w φ' s' n' w') (r : RV φ n (c.AA φ s) w x v) : RV φ' n' (c.AA φ' s') w' x v :=
  r.keep h.keeps h.same h.le

theorem Mem.fv_keep {c : Ctx} {φ φ' : Nat → Lay} {s s' : Sto} {n n' : Nat} {w w' : World} (h : Mem c φ s n w) (k : Keeps (c.AA φ s) w (c.AA φ' s') w') (hs : ∀ i, i < n → φ' i = φ i) (hn : n ≤ n') :
    c.m ≤ n' ∧ (∀ i, i < c.m → φ' i = c.fl i) ∧ ∀ p ∈ c.fv, RV φ' c.m (c.AA φ' s') w' p.1 p.2 :=
  ⟨Nat.le_trans h.fv.1 hn, fun i hi => (hs i (Nat.lt_of_lt_of_le hi h.fv.1)).trans (h.fv.2.1 i hi), fun p hp => (h.fv.2.2 p hp).keep k (fun i hi => hs i (Nat.lt_of_lt_of_le hi h.fv.1)) (Nat.le_refl _)⟩

/-- A block laid by others (a call): what was there is as it was. -/
theorem Mem.grown {c : Ctx} {φ : Nat → Lay} {s : Sto} {n : Nat} {w w' : World} (h : Mem c φ s n w) (hb : Below w.heap.size w w') : Goes c φ s n w φ s n w' := by
  have hk : Keeps (c.AA φ s) w (c.AA φ s) w' := fun b o v ha hv => ⟨ha, by rw [hb.cell (World.block_lt_of_cell? _ _ hv)]; exact hv⟩
  have hoth : KeepsOthers w w' := ⟨hb.size, fun k o hk _ => (hb.block k (Array.getElem?_eq_some_iff.1 hk).1).trans hk⟩
  refine ⟨fun _ _ => rfl, Nat.le_refl _, hk, ⟨h.below.trans (hb.mono h.below.size), fun i o ho => ?_, h.inj, h.oth.trans hoth, fun b o v hp => hk b o v (h.pin b o v hp).1 (h.pin b o v hp).2, h.fv_keep hk (fun _ _ => rfl) (Nat.le_refl _), h.hld.keep (fun b ob _ hw => hb.block b (Array.getElem?_eq_some_iff.1 hw).1) fun i o ho => .inl ⟨i, o, ho, rfl⟩, h.gw⟩, hoth⟩
  obtain ⟨h1, h2, h3⟩ := h.obj i o ho
  refine ⟨h1, h2, h3.keep hk (fun _ _ => rfl) h2 (Nat.le_refl _) (hb.block _ ?_)⟩
  cases o with
  | box xs f => obtain ⟨vs, ty, h1, _⟩ := h3; exact (Array.getElem?_eq_some_iff.1 h1).1
  | row e sz es f => obtain ⟨_, _, _, _, cur, h1, _⟩ := h3; exact (Array.getElem?_eq_some_iff.1 h1).1

def upd (φ : Nat → Lay) (n : Nat) (l : Lay) (i : Nat) : Lay := if i = n then l else φ i

theorem upd_new (φ : Nat → Lay) (n : Nat) (l : Lay) : upd φ n l n = l := by simp [upd]
theorem upd_old (φ : Nat → Lay) (n : Nat) (l : Lay) {i : Nat} (h : i < n) : upd φ n l i = φ i := by simp [upd, Nat.ne_of_lt h]

theorem ObjOk.lt {c : Ctx} {φ : Nat → Lay} {s : Sto} {n : Nat} {w : World} {i : Nat} {o : Obj'} (h : ObjOk c φ s n w i o) : (φ i).b < w.heap.size := by
  cases o with
  | box xs f => obtain ⟨vs, ty, h1, _⟩ := h; exact (Array.getElem?_eq_some_iff.1 h1).1
  | row e sz es f => obtain ⟨_, _, _, _, cur, h1, _⟩ := h; exact (Array.getElem?_eq_some_iff.1 h1).1

/-- A new object of the call's own, in a new block. -/
theorem Mem.alloc {c : Ctx} {φ : Nat → Lay} {s : Sto} {n : Nat} {w : World} (h : Mem c φ s n w) (o : Obj') (ob : Obj) (l : Lay) (hl : l.b = w.heap.size)
    (ho : Keeps (c.AA φ s) w (c.AA (upd φ n l) ((n, o) :: s)) (w.alloc ob) → ObjOk c (upd φ n l) ((n, o) :: s) (n + 1) (w.alloc ob) n o) :
    Goes c φ s n w (upd φ n l) ((n, o) :: s) (n + 1) (w.alloc ob) := by
  have hk : Keeps (c.AA φ s) w (c.AA (upd φ n l) ((n, o) :: s)) (w.alloc ob) := by
    intro b off v ha hv
    have hlt := World.block_lt_of_cell? _ _ hv
    simp only at hlt
    refine ⟨⟨ha.1, fun i x hx hb => ?_⟩, by rw [World.cell?_alloc_lt _ _ _ hlt]; exact hv⟩
    rw [get_cons] at hx
    by_cases hi : n = i
    · subst hi; rw [upd_new, hl] at hb; omega
    · rw [if_neg hi] at hx
      have := (h.obj i x hx).2.1
      rw [upd_old _ _ _ this] at hb
      exact ha.2 i x hx hb
  refine ⟨fun i hi => upd_old _ _ _ hi, by omega, hk, ⟨h.below.alloc h.below.size _, fun i x hx => ?_, fun i j oi oj hoi hoj hb => ?_, h.oth.trans (KeepsOthers.alloc w ob), fun b o v hp => hk b o v (h.pin b o v hp).1 (h.pin b o v hp).2, h.fv_keep hk (fun i hi => upd_old _ _ _ hi) (by omega), h.hld.keep (fun b ob' _ hw => Below.heap_alloc _ _ _ (Array.getElem?_eq_some_iff.1 hw).1) fun i x hx => by
    rw [get_cons] at hx
    by_cases hi : n = i
    · subst hi; right; rw [upd_new, hl]; exact Nat.le_refl _
    · rw [if_neg hi] at hx; left; exact ⟨i, x, hx, by rw [upd_old _ _ _ (h.obj i x hx).2.1]⟩, h.gw⟩, KeepsOthers.alloc w ob⟩
  · rw [get_cons] at hx
    by_cases hi : n = i
    · subst hi
      rw [if_pos rfl] at hx; cases hx
      exact ⟨by rw [upd_new, hl]; exact h.below.size, by omega, ho hk⟩
    · rw [if_neg hi] at hx
      obtain ⟨h1, h2, h3⟩ := h.obj i x hx
      refine ⟨by rw [upd_old _ _ _ h2]; exact h1, by omega, h3.keep hk (fun j hj => upd_old _ _ _ hj) h2 (by omega) (Below.heap_alloc _ _ _ h3.lt)⟩
  · rw [get_cons] at hoi hoj
    by_cases hi : n = i <;> by_cases hj : n = j
    · omega
    · subst hi
      rw [if_neg hj] at hoj
      obtain ⟨h1, h2, h3⟩ := h.obj j oj hoj
      rw [upd_new, upd_old _ _ _ h2, hl] at hb
      have := h3.lt; omega
    · subst hj
      rw [if_neg hi] at hoi
      obtain ⟨h1, h2, h3⟩ := h.obj i oi hoi
      rw [upd_new, upd_old _ _ _ h2, hl] at hb
      have := h3.lt; omega
    · rw [if_neg hi] at hoi; rw [if_neg hj] at hoj
      obtain ⟨_, h2, _⟩ := h.obj i oi hoi
      obtain ⟨_, h2', _⟩ := h.obj j oj hoj
      rw [upd_old _ _ _ h2, upd_old _ _ _ h2'] at hb
      exact h.inj i j oi oj hoi hoj hb

theorem othersOf {c : Ctx} {φ : Nat → Lay} {s : Sto} {n : Nat} {w w' : World} {i : Nat} {o : Obj'} (h : ObjOk c φ s n w i o) (hlt : (φ i).b < w'.heap.size) (hoth : ∀ b, b ≠ (φ i).b → w'.heap[b]? = w.heap[b]?) : KeepsOthers w w' := by
  have hc : ∃ vs ty, w.heap[(φ i).b]? = some (.cells vs ty (0, 0)) := by
    cases o with
    | box xs f => obtain ⟨vs, ty, h1, _⟩ := h; exact ⟨_, _, h1⟩
    | row e sz es f => obtain ⟨_, _, _, _, cur, h1, _⟩ := h; exact ⟨_, _, h1⟩
  obtain ⟨vs, ty, hc⟩ := hc
  refine ⟨?_, fun k ob hk hob => ?_⟩
  · rcases Nat.lt_or_ge w'.heap.size w.heap.size with hs | hs
    · have := hoth w'.heap.size (by omega)
      rw [Array.getElem?_eq_none (Nat.le_refl _), Array.getElem?_eq_getElem hs] at this
      cases this
    · exact hs
  · by_cases he : k = (φ i).b
    · subst he; rw [hc] at hk; cases hk; cases hob
    · exact (hoth k he).trans hk

/-- An object of the call's own is written in place. -/
theorem Mem.turn {c : Ctx} {φ : Nat → Lay} {s : Sto} {n : Nat} {w w' : World} (h : Mem c φ s n w) {i : Nat} {o o' : Obj'} (hi : get i s = some o)
    (hp : ∀ off, o.permits off → o'.permits off) (hb : Below c.w0.heap.size c.w0 w') (hoth : ∀ b, b ≠ (φ i).b → w'.heap[b]? = w.heap[b]?)
    (hin : ∀ off v, o.permits off → w.cell? ⟨(φ i).b, off, none⟩ = some v → w'.cell? ⟨(φ i).b, off, none⟩ = some v)
    (ho : Keeps (c.AA φ s) w (c.AA φ (set i o' s)) w' → ObjOk c φ (set i o' s) n w' i o') :
    Goes c φ s n w φ (set i o' s) n w' := by
  have hk : Keeps (c.AA φ s) w (c.AA φ (set i o' s)) w' := by
    intro b off v ha hv
    refine ⟨⟨ha.1, fun j x hx hb => ?_⟩, ?_⟩
    · rw [get_set] at hx
      by_cases hj : j = i
      · subst hj
        rw [if_pos rfl, hi] at hx; cases hx
        exact hp _ (ha.2 j o hi hb)
      · rw [if_neg hj] at hx; exact ha.2 j x hx hb
    · by_cases hbb : b = (φ i).b
      · subst hbb; exact hin off v (ha.2 i o hi rfl) hv
      · rw [World.cell?_of_block (w := w) (hoth b hbb)]; exact hv
  have hoth' : KeepsOthers w w' := othersOf (h.obj i o hi).2.2 (ho hk).lt hoth
  refine ⟨fun _ _ => rfl, Nat.le_refl _, hk, ⟨hb, fun j x hx => ?_, fun j k oj ok hoj hok he => ?_, h.oth.trans hoth', fun b o v hp => hk b o v (h.pin b o v hp).1 (h.pin b o v hp).2, h.fv_keep hk (fun _ _ => rfl) (Nat.le_refl _), h.hld.keep (fun b ob hb _ => hoth b fun e => (h.hld.1 b ob hb).2.2 i o hi e.symm) fun j x hx => by
    rw [get_set] at hx
    by_cases hj : j = i
    · subst hj; exact .inl ⟨j, o, hi, rfl⟩
    · rw [if_neg hj] at hx; exact .inl ⟨j, x, hx, rfl⟩, h.gw⟩, hoth'⟩
  · rw [get_set] at hx
    by_cases hj : j = i
    · subst hj
      rw [if_pos rfl, hi] at hx; cases hx
      obtain ⟨h1, h2, _⟩ := h.obj j o hi
      exact ⟨h1, h2, ho hk⟩
    · rw [if_neg hj] at hx
      obtain ⟨h1, h2, h3⟩ := h.obj j x hx
      exact ⟨h1, h2, h3.keep hk (fun _ _ => rfl) h2 (Nat.le_refl _) (hoth _ (fun e => hj (h.inj j i x o hx hi e)))⟩
  · rw [get_set] at hoj hok
    have gj : ∃ o1, get j s = some o1 := by
      by_cases hj : j = i
      · subst hj; exact ⟨_, hi⟩
      · rw [if_neg hj] at hoj; exact ⟨_, hoj⟩
    have gk : ∃ o1, get k s = some o1 := by
      by_cases hj : k = i
      · subst hj; exact ⟨_, hi⟩
      · rw [if_neg hj] at hok; exact ⟨_, hok⟩
    obtain ⟨o1, g1⟩ := gj
    obtain ⟨o2, g2⟩ := gk
    exact h.inj j k o1 o2 g1 g2 he

/-- Objects that are no longer named are let go. -/
theorem Mem.drop {c : Ctx} {φ : Nat → Lay} {s : Sto} {n : Nat} {w : World} (h : Mem c φ s n w) (i : Nat) : Goes c φ s n w φ (del i s) n w := by
  have hk : Keeps (c.AA φ s) w (c.AA φ (del i s)) w := fun b o v ha hv => ⟨⟨ha.1, fun j x hx hb => by
    rw [get_del] at hx
    by_cases hj : j = i
    · simp [hj] at hx
    · rw [if_neg hj] at hx; exact ha.2 j x hx hb⟩, hv⟩
  refine ⟨fun _ _ => rfl, Nat.le_refl _, hk, ⟨h.below, fun j x hx => ?_, fun j k oj ok hoj hok => ?_, h.oth, fun b o v hp => hk b o v (h.pin b o v hp).1 (h.pin b o v hp).2, h.fv_keep hk (fun _ _ => rfl) (Nat.le_refl _), h.hld.keep (fun _ _ _ _ => rfl) fun j x hx => by
    rw [get_del] at hx
    by_cases hj : j = i
    · simp [hj] at hx
    · rw [if_neg hj] at hx; exact .inl ⟨j, x, hx, rfl⟩, h.gw⟩, KeepsOthers.refl _⟩
  · rw [get_del] at hx
    by_cases hj : j = i
    · simp [hj] at hx
    · rw [if_neg hj] at hx
      obtain ⟨h1, h2, h3⟩ := h.obj j x hx
      exact ⟨h1, h2, h3.keep hk (fun _ _ => rfl) h2 (Nat.le_refl _) rfl⟩
  · rw [get_del] at hoj hok
    by_cases hj : j = i
    · simp [hj] at hoj
    · by_cases hj' : k = i
      · simp [hj'] at hok
      · rw [if_neg hj] at hoj; rw [if_neg hj'] at hok
        exact h.inj j k oj ok hoj hok

end Go.Abs
end

section
/- One operation over abstract values: operations that turn no memory. -/
set_option linter.unusedVariables false
set_option linter.unusedSimpArgs false
namespace Go.Abs
open Go.RowKit

structure TI where
  desc : TypeDesc
  zv : Value
  size : Nat
  bytes : Nat

abbrev Tab := List (Nat × TI)

def tget : Nat → Tab → Option TI
  | _, [] => none
  | k, (j, v) :: l => bif Nat.beq j k then some v else tget k l

def TOk (P : Program) (t : Nat) (i : TI) : Prop :=
  (P.info? t).map (fun x => (x.zero, x.size, x.bytes)) = some (some i.zv, i.size, i.bytes) ∧ P.underlying t = some i.desc

def TabOk (P : Program) (T : Tab) : Prop := ∀ t i, tget t T = some i → TOk P t i

theorem TabOk.nil (P : Program) : TabOk P [] := fun _ _ h => by simp [tget] at h
theorem TabOk.cons {P : Program} {T : Tab} {t : Nat} {i : TI} (h : TOk P t i) (hT : TabOk P T) : TabOk P ((t, i) :: T) := by
  intro u j hu
  unfold tget at hu
  cases hb : Nat.beq t u
  · rw [hb] at hu; exact hT u j hu
  · rw [hb] at hu; cases hu; rw [← Nat.eq_of_beq_eq_true hb]; exact h

theorem TOk.info {P : Program} {t : Nat} {i : TI} (h : TOk P t i) : ∃ x, P.info? t = some x ∧ x.zero = some i.zv ∧ x.size = i.size ∧ x.bytes = i.bytes := by
  have h1 := h.1
  cases hq : P.info? t with
  | none => simp [hq] at h1
  | some x => simp [hq] at h1; exact ⟨x, rfl, h1⟩

def aggD : TypeDesc → Bool
  | .struct _ | .array _ _ => true
  | _ => false

theorem run_isAgg' {P : Program} {t : Nat} {i : TI} (h : TOk P t i) (w : World) : (isAgg t).run P w = .ok (aggD i.desc) w := by
  unfold isAgg
  rw [Sem.run_bind, run_underlying h.2 w]
  cases i.desc <;> rfl

theorem run_sizeOf' {P : Program} {t : Nat} {i : TI} (h : TOk P t i) (w : World) : (sizeOf t).run P w = .ok i.size w := by
  obtain ⟨x, hx, _, hs, _⟩ := h.info
  simp [sizeOf, typeInfo, hx, hs]

theorem run_zero' {P : Program} {t : Nat} {i : TI} (h : TOk P t i) (w : World) : (zeroValue t).run P w = .ok i.zv w := by
  obtain ⟨x, hx, hz, _, _⟩ := h.info
  simp [zeroValue, typeInfo, hx, hz]

/-! Constants. -/
def constA : Value → AV
  | .bool b => .dat (.bool b)
  | .int k n => .dat (.int k n)
  | .string s => .dat (.str s)
  | .slice none 0 0 => .nil
  | .pointer none => .dat .pnil
  | .nilIface => .dat .inil
  | .nilFunc => .dat .fnil
  | _ => .und

theorem constA_rv {φ : Nat → Lay} {n : Nat} {A : Nat → Nat → Prop} {w : World} (v : Value) : RV φ n A w (constA v) v := by
  unfold constA
  split
  · exact .dat _ _ (.bool _)
  · exact .dat _ _ (.int _ _)
  · exact .dat _ _ (.str _)
  · exact .nil
  · exact .dat _ _ .pnil
  · exact .dat _ _ .inil
  · exact .dat _ _ .fnil
  · exact .und _

def evA (t : Tm) : Operand → AV
  | .tmp k => lk k t
  | .const v => constA v
  | .func f => .dat (.fn f [])
  | .global _ => .und

theorem Rel.ev {c : Ctx} {φ : Nat → Lay} {σ : St} {a : Act} {w : World} (h : Rel c φ σ a w) (x : Operand) : RV φ σ.n (c.AA φ σ.s) w (evA σ.t x) (a.eval x) := by
  cases x with
  | tmp k => exact h.tm k
  | const v => exact constA_rv v
  | func f => exact .dat _ _ (.fn f [] [] rfl (fun j d hj => by simp at hj))
  | global g => exact .und _

/-- The cells of a value. -/
def cellsA : AV → Option (List AV)
  | .agg xs => some xs
  | .und | .tup _ => none
  | x => some [x]

theorem cellsA_rv {φ : Nat → Lay} {n : Nat} {A : Nat → Nat → Prop} {w : World} {x : AV} {v : Value} {xs : List AV} (h : RV φ n A w x v) (hx : cellsA x = some xs) :
    v.cells.size = xs.length ∧ (∀ u ∈ v.cells.toList, u.oneCell' = true) ∧ ∀ j y, xs[j]? = some y → RV φ n A w y (v.cells.toList.getD j undef) := by
  have one : ∀ {x v}, RV φ n A w x v → v.oneCell' = true → v.cells = #[v] → xs = [x] → v.cells.size = xs.length ∧ (∀ u ∈ v.cells.toList, u.oneCell' = true) ∧ ∀ j y, xs[j]? = some y → RV φ n A w y (v.cells.toList.getD j undef) := by
    intro x v h h1 hc hxs
    subst hxs
    rw [hc]
    refine ⟨rfl, fun u hu => by simp at hu; rw [hu]; exact h1, fun j y hj => ?_⟩
    cases j with
    | zero => simp at hj; subst hj; simpa using h
    | succ j => simp at hj
  cases h with
  | und v => simp [cellsA] at hx
  | nil => simp only [cellsA, Option.some.injEq] at hx; exact one .nil rfl rfl hx.symm
  | dat d v h => simp only [cellsA, Option.some.injEq] at hx; exact one (.dat d v h) h.one h.cells hx.symm
  | ptr i off h => simp only [cellsA, Option.some.injEq] at hx; exact one (.ptr i off h) rfl rfl hx.symm
  | own i h => simp only [cellsA, Option.some.injEq] at hx; exact one (.own i h) rfl rfl hx.symm
  | eptr i k j h => simp only [cellsA, Option.some.injEq] at hx; exact one (.eptr i k j h) rfl rfl hx.symm
  | clo f caps vs hl h => simp only [cellsA, Option.some.injEq] at hx; exact one (.clo f caps vs hl h) rfl rfl hx.symm
  | agg xs' vs hl h h1 =>
    simp only [cellsA, Option.some.injEq] at hx; subst hx
    exact ⟨by simpa [Value.cells] using hl, by simpa [Value.cells] using h1, by simpa [Value.cells] using h⟩
  | tup xs vs hl h => simp [cellsA] at hx

/-! Integers, bools, strings. -/
def iA (k : IntKind) (n : Int) : AV := .dat (.int k n)
def bA (b : Bool) : AV := .dat (.bool b)

def intK (op : BinOp) (k : IntKind) (a b : Int) (K : AV → Prop) : Prop :=
  match op with
  | .add => K (.dat (.int k (k.wrap (a + b))))
  | .sub => K (.dat (.int k (k.wrap (a - b))))
  | .mul => K (.dat (.int k (k.wrap (a * b))))
  | .quo => b ≠ 0 ∧ K (.dat (.int k (k.wrap (a.tdiv b))))
  | .rem => b ≠ 0 ∧ K (.dat (.int k (a.tmod b)))
  | .and => K (.dat (.int k (k.wrap (BitVec.ofInt k.bits a &&& BitVec.ofInt k.bits b).toNat)))
  | .or => K (.dat (.int k (k.wrap (BitVec.ofInt k.bits a ||| BitVec.ofInt k.bits b).toNat)))
  | .xor => K (.dat (.int k (k.wrap (BitVec.ofInt k.bits a ^^^ BitVec.ofInt k.bits b).toNat)))
  | .andNot => K (.dat (.int k (k.wrap (BitVec.ofInt k.bits a &&& ~~~BitVec.ofInt k.bits b).toNat)))
  | .eql => K (.dat (.bool (a == b)))
  | .neq => K (.dat (.bool (a != b)))
  | .lss => K (.dat (.bool (decide (a < b))))
  | .leq => K (.dat (.bool (decide (a ≤ b))))
  | .gtr => K (.dat (.bool (decide (b < a))))
  | .geq => K (.dat (.bool (decide (b ≤ a))))
  | _ => False

def shK (op : BinOp) (k : IntKind) (a b : Int) (K : AV → Prop) : Prop :=
  0 ≤ b ∧ match op with
  | .shl => K (.dat (.int k (k.wrap (a * 2 ^ min b.toNat k.bits))))
  | .shr => K (.dat (.int k (a.fdiv (2 ^ min b.toNat k.bits))))
  | _ => False

def strK (op : BinOp) (x y : ByteArray) (K : AV → Prop) : Prop :=
  match op with
  | .add => x.size + y.size ≤ 9223372036854775807 ∧ K (.dat (.str (x ++ y)))
  | .eql => K (.dat (.bool (x.toList == y.toList)))
  | .neq => K (.dat (.bool (!(x.toList == y.toList))))
  | .lss => K (.dat (.bool (Op.bytesLess x.toList y.toList)))
  | .leq => K (.dat (.bool (Op.bytesLess x.toList y.toList || x.toList == y.toList)))
  | .gtr => K (.dat (.bool (!(Op.bytesLess x.toList y.toList || x.toList == y.toList))))
  | .geq => K (.dat (.bool (!(Op.bytesLess x.toList y.toList))))
  | _ => False

def boolK (op : BinOp) (a b : Bool) (K : AV → Prop) : Prop :=
  match op with
  | .eql => K (.dat (.bool (a == b)))
  | .neq => K (.dat (.bool (!(a == b))))
  | _ => False

def nilK' (op : BinOp) (b : Bool) (K : AV → Prop) : Prop :=
  match op with
  | .eql => K (.dat (.bool b))
  | .neq => K (.dat (.bool (!b)))
  | _ => False

def isShift : BinOp → Bool
  | .shl | .shr => true
  | _ => false

def binK (T : Tab) (op : BinOp) (t : TypeId) (x y : AV) (K : AV → Prop) : Prop :=
  match x, y with
  | .dat (.int k a), .dat (.int k' b) => bif isShift op then shK op k a b K else (k = k' ∧ intK op k a b K)
  | .dat (.str a), .dat (.str b) => strK op a b K
  | .dat (.bool a), .dat (.bool b) => (∃ i, tget t T = some i ∧ i.desc = .bool) ∧ boolK op a b K
  | .dat (.lst es), .nil => (∃ i e, tget t T = some i ∧ i.desc = .slice e) ∧ es ≠ [] ∧ nilK' op false K
  | .own _, .nil => (∃ i e, tget t T = some i ∧ i.desc = .slice e) ∧ nilK' op false K
  | .nil, .nil => (∃ i e, tget t T = some i ∧ i.desc = .slice e) ∧ nilK' op true K
  | _, _ => False

/-- A comparison with the literal nil of an interface type. -/
def isNilC : BinOp → Operand → Bool
  | .eql, .const .nilIface => true
  | .neq, .const .nilIface => true
  | _, _ => false

def nilcK (T : Tab) (op : BinOp) (t : TypeId) (x : AV) (K : AV → Prop) : Prop :=
  match x with
  | .dat .inil => (∃ i ms, tget t T = some i ∧ i.desc = .interface ms) ∧ nilK' op true K
  | .dat (.ifc _ _ _) => (∃ i ms, tget t T = some i ∧ i.desc = .interface ms) ∧ nilK' op false K
  | _ => False

def binC (T : Tab) (op : BinOp) (t : TypeId) (yo : Operand) (x y : AV) (K : AV → Prop) : Prop :=
  bif isNilC op yo then nilcK T op t x K else binK T op t x y K

theorem RV.int {φ : Nat → Lay} {n : Nat} {A : Nat → Nat → Prop} {w : World} {k : IntKind} {m : Int} {v : Value} (h : RV φ n A w (.dat (.int k m)) v) : v = .int k m := by
  cases h with | dat d v h => cases h; rfl
theorem RV.bool {φ : Nat → Lay} {n : Nat} {A : Nat → Nat → Prop} {w : World} {b : Bool} {v : Value} (h : RV φ n A w (.dat (.bool b)) v) : v = .bool b := by
  cases h with | dat d v h => cases h; rfl
theorem RV.str {φ : Nat → Lay} {n : Nat} {A : Nat → Nat → Prop} {w : World} {s : ByteArray} {v : Value} (h : RV φ n A w (.dat (.str s)) v) : v = .string s := by
  cases h with | dat d v h => cases h; rfl

theorem run_equal_bool {P : Program} {t : TypeId} (h : P.underlying t = some .bool) (a b : Bool) (w : World) : (Op.equal t (.bool a) (.bool b)).run P w = .ok (a == b) w := by
  have : ∀ d, (Op.equalIn (d + 1) t (.bool a) (.bool b)).run P w = .ok (a == b) w := fun d => by simp [Op.equalIn, run_underlying h]
  exact this 9999

theorem run_equal_slice {P : Program} {t e : TypeId} (h : P.underlying t = some (.slice e)) (a : Option Addr) (l cap : Nat) (w : World) :
    (Op.equal t (.slice a l cap) (.slice none 0 0)).run P w = .ok a.isNone w := by
  have : ∀ d, (Op.equalIn (d + 1) t (.slice a l cap) (.slice none 0 0)).run P w = .ok a.isNone w := fun d => by cases a <;> simp [Op.equalIn, run_underlying h]
  exact this 9999

theorem binK_ok {P : Program} {T : Tab} (hT : TabOk P T) {φ : Nat → Lay} {n : Nat} {A : Nat → Nat → Prop} {w : World} {op : BinOp} {t : TypeId} {x y : AV} {K : AV → Prop} {u v : Value} {xo yo : Operand}
    (hx : RV φ n A w x u) (hy : RV φ n A w y v) (h : binK T op t x y K) :
    ∃ r z, (do eqGuard op t xo yo u v; binOp op t u v : Sem Value).run P w = .ok z w ∧ RV φ n A w r z ∧ K r := by
  unfold binK at h
  split at h
  · rename_i k a k' b
    cases hx.int; cases hy.int
    cases hs : isShift op
    · rw [hs] at h
      obtain ⟨rfl, h⟩ := h
      cases op <;> simp only [intK] at h <;> (try exact h.elim) <;> (try (cases hs)) <;>
        first
          | exact ⟨_, _, by simp [eqGuard, binOp, Op.intArith, Op.intBits, Op.intCmp], .dat _ _ (.int _ _), h⟩
          | exact ⟨_, _, by simp [eqGuard, binOp, Op.intArith, Op.intBits, Op.intCmp], .dat _ _ (.bool _), h⟩
          | exact ⟨_, _, by simp [eqGuard, binOp, Op.intDiv, h.1], .dat _ _ (.int _ _), h.2⟩
    · rw [hs] at h
      obtain ⟨h0, h⟩ := h
      have hn : ¬ b < 0 := by omega
      cases op <;> simp only at h <;> (try exact h.elim) <;>
        exact ⟨_, _, by simp [eqGuard, binOp, Op.shift, hn], .dat _ _ (.int _ _), h⟩
  · rename_i a b
    cases hx.str; cases hy.str
    cases op <;> simp only [strK] at h <;> (try exact h.elim) <;>
      first
        | exact ⟨_, _, by simp [eqGuard, binOp, Op.stringOp], .dat _ _ (.bool _), h⟩
        | (obtain ⟨h1, h2⟩ := h
           have hn : ¬ (9223372036854775807 : Int) < (a.size : Int) + (b.size : Int) := by omega
           exact ⟨_, _, by simp [eqGuard, binOp, Op.stringOp, IntKind.max, hn, IntKind.signed, IntKind.bits], .dat _ _ (.str _), h2⟩)
  · rename_i a b
    obtain ⟨⟨i, hi, hd⟩, h⟩ := h
    have hu := (hT t i hi).2
    rw [hd] at hu
    cases hx.bool; cases hy.bool
    have he := run_equal_bool hu a b w
    cases op <;> simp only [boolK] at h <;> (try exact h.elim)
    · exact ⟨_, _, by simp only [eqGuard, binOp]; simp [he], .dat _ _ (.bool _), h⟩
    · exact ⟨_, _, by simp only [eqGuard, binOp]; simp [he], .dat _ _ (.bool _), h⟩
  · rename_i es
    obtain ⟨⟨i, e, hi, hd⟩, hne, h⟩ := h
    have hu := (hT t i hi).2
    rw [hd] at hu
    cases hy
    cases hx with
    | dat _ _ hx =>
      cases hx with
      | emp a cap => exact absurd rfl hne
      | lst es b o sz cap vs hs hz hc hm h' =>
        have he := run_equal_slice (P := P) hu (some ⟨b, o, none⟩) es.length cap w
        cases op <;> simp only [nilK'] at h <;> (try exact h.elim) <;> exact ⟨_, _, by simp only [eqGuard, binOp]; simp [he], .dat _ _ (.bool _), h⟩
  · rename_i k
    obtain ⟨⟨i, e, hi, hd⟩, h⟩ := h
    have hu := (hT t i hi).2
    rw [hd] at hu
    cases hy
    cases hx with
    | own _ hk =>
      have he := run_equal_slice (P := P) hu (some ⟨(φ k).b, 0, none⟩) (φ k).len (φ k).cap w
      cases op <;> simp only [nilK'] at h <;> (try exact h.elim) <;> exact ⟨_, _, by simp only [eqGuard, binOp]; simp [he], .dat _ _ (.bool _), h⟩
  · obtain ⟨⟨i, e, hi, hd⟩, h⟩ := h
    have hu := (hT t i hi).2
    rw [hd] at hu
    cases hy; cases hx
    have he := run_equal_slice (P := P) hu none 0 0 w
    cases op <;> simp only [nilK'] at h <;> (try exact h.elim) <;> exact ⟨_, _, by simp only [eqGuard, binOp]; simp [he], .dat _ _ (.bool _), h⟩
  · exact h.elim

theorem run_equal_iface {P : Program} {t : TypeId} {ms : Array (String × TypeId)} (h : P.underlying t = some (.interface ms)) (w : World) :
    (Op.equal t .nilIface .nilIface).run P w = .ok true w ∧ ∀ u v, (Op.equal t (.iface u v) .nilIface).run P w = .ok false w := by
  have h1 : ∀ d, (Op.equalIn (d + 1) t .nilIface .nilIface).run P w = .ok true w := fun d => by simp [Op.equalIn, run_underlying h]
  have h2 : ∀ d u v, (Op.equalIn (d + 1) t (.iface u v) .nilIface).run P w = .ok false w := fun d u v => by simp [Op.equalIn, run_underlying h]
  exact ⟨h1 9999, h2 9999⟩

theorem binC_ok {P : Program} {T : Tab} (hT : TabOk P T) {φ : Nat → Lay} {n : Nat} {A : Nat → Nat → Prop} {w : World} {op : BinOp} {t : TypeId} {x y : AV} {K : AV → Prop} {u v : Value} {xo yo : Operand}
    (hx : RV φ n A w x u) (hy : RV φ n A w y v) (hv : ∀ c, yo = .const c → v = c) (h : binC T op t yo x y K) :
    ∃ r z, (do eqGuard op t xo yo u v; binOp op t u v : Sem Value).run P w = .ok z w ∧ RV φ n A w r z ∧ K r := by
  unfold binC at h
  cases hn : isNilC op yo <;> simp only [hn, cond_true, cond_false] at h
  · exact binK_ok hT hx hy h
  · have hyo : yo = .const .nilIface := by
      unfold isNilC at hn
      split at hn
      · rfl
      · rfl
      · cases hn
    subst hyo
    have hv' := hv _ rfl
    subst hv'
    unfold nilcK at h
    split at h
    · obtain ⟨⟨i, ms, hi, hd⟩, h⟩ := h
      have hu := (hT t i hi).2
      rw [hd] at hu
      have he := (run_equal_iface (P := P) hu w).1
      cases hx with
      | dat _ _ hx =>
        cases hx
        cases op <;> simp only [nilK'] at h <;> (try exact h.elim) <;> exact ⟨_, _, by simp only [eqGuard, binOp]; simp [he], .dat _ _ (.bool _), h⟩
    · obtain ⟨⟨i, ms, hi, hd⟩, h⟩ := h
      have hu := (hT t i hi).2
      rw [hd] at hu
      have he := (run_equal_iface (P := P) hu w).2
      cases hx with
      | dat _ _ hx =>
        cases hx
        cases op <;> simp only [nilK'] at h <;> (try exact h.elim) <;> exact ⟨_, _, by simp only [eqGuard, binOp]; simp [he], .dat _ _ (.bool _), h⟩
    · exact h.elim

end Go.Abs
end

section
/- One operation over abstract values: the rest of the operations that turn no memory. -/
set_option linter.unusedVariables false
set_option linter.unusedSimpArgs false
namespace Go.Abs
open Go.RowKit

/-- What an operation that turns no memory comes to. -/
def Val (P : Program) (φ : Nat → Lay) (n : Nat) (A : Nat → Nat → Prop) (w : World) (m : Sem Value) (K : AV → Prop) : Prop :=
  ∃ r z, m.run P w = .ok z w ∧ RV φ n A w r z ∧ K r

section
variable {P : Program} {T : Tab} {φ : Nat → Lay} {n : Nat} {A : Nat → Nat → Prop} {w : World} {K : AV → Prop}

def unK (op : UnOp) (x : AV) (K : AV → Prop) : Prop :=
  match op, x with
  | .not, .dat (.bool b) => K (.dat (.bool (!b)))
  | .neg, .dat (.int k m) => K (.dat (.int k (k.wrap (0 - m))))
  | _, _ => False

theorem unK_ok {op : UnOp} {x : AV} {u : Value} (hx : RV φ n A w x u) (h : unK op x K) : Val P φ n A w (Op.unary op u) K := by
  unfold unK at h
  split at h
  · cases hx.bool; exact ⟨_, _, by simp [Op.unary], .dat _ _ (.bool _), h⟩
  · cases hx.int; exact ⟨_, _, by simp [Op.unary, Op.intArith], .dat _ _ (.int _ _), h⟩
  · exact h.elim

def convK (T : Tab) (src dst : TypeId) (x : AV) (K : AV → Prop) : Prop :=
  match tget src T, tget dst T, x with
  | some _, some i, .dat (.int _ m) => match i.desc with
    | .int k => K (.dat (.int k (k.wrap m)))
    | _ => False
  | some _, some i, .dat (.str s) => match i.desc with
    | .string => K (.dat (.str s))
    | _ => False
  | _, _, _ => False

theorem convK_ok (hT : TabOk P T) {src dst : TypeId} {x : AV} {u : Value} (hx : RV φ n A w x u) (h : convK T src dst x K) : Val P φ n A w (convert src dst u) K := by
  unfold convK at h
  split at h
  · rename_i j i k m hs hd
    cases hx.int
    split at h
    · rename_i k' hk
      have h1 := (hT _ _ hs).2
      have h2 := (hT _ _ hd).2
      rw [hk] at h2
      exact ⟨_, _, by simp [convert, run_underlying h1, run_underlying h2, Conv.intToInt], .dat _ _ (.int _ _), h⟩
    · exact h.elim
  · rename_i j i s hs hd
    cases hx.str
    split at h
    · rename_i hk
      have h1 := (hT _ _ hs).2
      have h2 := (hT _ _ hd).2
      rw [hk] at h2
      exact ⟨_, _, by simp [convert, run_underlying h1, run_underlying h2], .dat _ _ (.str _), h⟩
    · exact h.elim
  · exact h.elim

def lenK (s : Sto) (T : Tab) (t : TypeId) (x : AV) (K : AV → Prop) : Prop :=
  match tget t T, x with
  | some i, .dat (.lst es) => match i.desc with
    | .slice _ => K (.dat (.int .i64 es.length))
    | _ => False
  | some i, .nil => match i.desc with
    | .slice _ => K (.dat (.int .i64 0))
    | _ => False
  | some i, .own k => match i.desc, get k s with
    | .slice _, some (.row _ _ es _) => K (.dat (.int .i64 es.length))
    | _, _ => False
  | some i, .dat (.str b) => match i.desc with
    | .string => K (.dat (.int .i64 b.size))
    | _ => False
  | _, _ => False

theorem RD.lst_inv {es : List (List DV)} {v : Value} (h : RD A w (.lst es) v) : ∃ a cap, v = .slice a es.length cap ∧ es.length ≤ cap ∨ v = .slice a 0 cap ∧ es = [] := by
  cases h with
  | emp a cap => exact ⟨a, cap, .inr ⟨rfl, rfl⟩⟩
  | lst es b o sz cap vs hs hz hc hm h => exact ⟨_, cap, .inl ⟨rfl, hc⟩⟩

theorem lenK_ok (hT : TabOk P T) {c : Ctx} {s : Sto} {t ty : TypeId} {x : AV} {u : Value} (hm : Mem c φ s n w) (hx : RV φ n (c.AA φ s) w x u) (h : lenK s T t x K) :
    Val P φ n (c.AA φ s) w (Builtin.len_ #[t] ty #[u]) K := by
  unfold lenK at h
  split at h
  · rename_i i es ht
    split at h
    · rename_i e hd
      have h1 := (hT _ _ ht).2; rw [hd] at h1
      cases hx with
      | dat d v hx =>
        obtain ⟨a, cap, ⟨rfl, _⟩ | ⟨rfl, rfl⟩⟩ := hx.lst_inv
        · exact ⟨_, _, by simp [Builtin.len_, run_underlying h1, goInt], .dat _ _ (.int _ _), h⟩
        · exact ⟨_, _, by simp [Builtin.len_, run_underlying h1, goInt], .dat _ _ (.int _ _), h⟩
    · exact h.elim
  · rename_i i ht
    split at h
    · rename_i e hd
      have h1 := (hT _ _ ht).2; rw [hd] at h1
      cases hx
      exact ⟨_, _, by simp [Builtin.len_, run_underlying h1, goInt], .dat _ _ (.int _ _), h⟩
    · exact h.elim
  · rename_i i k ht
    split at h
    · rename_i e sz es f hd hg
      have h1 := (hT _ _ ht).2; rw [hd] at h1
      obtain ⟨_, _, hz, hsz, hes, hlen, _⟩ := hm.obj k _ hg
      cases hx
      exact ⟨.dat (.int .i64 ((φ k).len : Int)), .int .i64 ((φ k).len : Int), by simp [Builtin.len_, run_underlying h1, goInt], .dat _ _ (.int _ _), by rw [← hlen]; exact h⟩
    · exact h.elim
  · rename_i i b ht
    split at h
    · rename_i hd
      have h1 := (hT _ _ ht).2; rw [hd] at h1
      cases hx.str
      exact ⟨_, _, by simp [Builtin.len_, run_underlying h1, goInt], .dat _ _ (.int _ _), h⟩
    · exact h.elim
  · exact h.elim

def maxK (x y : AV) (K : AV → Prop) : Prop :=
  match x, y with
  | .dat (.int k a), .dat (.int _ b) => K (.dat (.int k (max a b)))
  | _, _ => False
def minK (x y : AV) (K : AV → Prop) : Prop :=
  match x, y with
  | .dat (.int k a), .dat (.int _ b) => K (.dat (.int k (min a b)))
  | _, _ => False

theorem maxK_ok {t : Array TypeId} {ty : TypeId} {x y : AV} {u v : Value} (hx : RV φ n A w x u) (hy : RV φ n A w y v) (h : maxK x y K) : Val P φ n A w (Builtin.max_ t ty #[u, v]) K := by
  unfold maxK at h
  split at h
  · rename_i k a k' b
    cases hx.int; cases hy.int
    refine ⟨_, .int k (if b > a then b else a), by simp [Builtin.max_, Builtin.max2], .dat _ _ (.int _ _), ?_⟩
    have : (if b > a then b else a) = max a b := by rw [Int.max_def]; split <;> split <;> omega
    rw [this]; exact h
  · exact h.elim
theorem minK_ok {t : Array TypeId} {ty : TypeId} {x y : AV} {u v : Value} (hx : RV φ n A w x u) (hy : RV φ n A w y v) (h : minK x y K) : Val P φ n A w (Builtin.min_ t ty #[u, v]) K := by
  unfold minK at h
  split at h
  · rename_i k a k' b
    cases hx.int; cases hy.int
    refine ⟨_, .int k (if b < a then b else a), by simp [Builtin.min_, Builtin.min2], .dat _ _ (.int _ _), ?_⟩
    have : (if b < a then b else a) = min a b := by rw [Int.min_def]; split <;> split <;> omega
    rw [this]; exact h
  · exact h.elim

def extK (x : AV) (i : Nat) (K : AV → Prop) : Prop :=
  match x with
  | .tup xs => match xs[i]? with
    | some y => K y
    | none => False
  | _ => False

theorem extK_ok {x : AV} {i : Nat} {u : Value} (hx : RV φ n A w x u) (h : extK x i K) : Val P φ n A w (Instr.extract u i) K := by
  unfold extK at h
  split at h
  · rename_i xs
    split at h
    · rename_i y hy
      cases hx with
      | tup _ vs hl hv =>
        have hlt : i < vs.length := by have := (List.getElem?_eq_some_iff.1 hy).1; omega
        have e : vs.getD i undef = vs[i] := by simp [List.getD, List.getElem?_eq_getElem hlt]
        refine ⟨y, vs.getD i undef, ?_, hv i y hy, h⟩
        simp [Instr.extract, hlt, e]
    · exact h.elim
  · exact h.elim

/-! Loads. -/
def loadK (s : Sto) (T : Tab) (t : TypeId) (x : AV) (K : AV → Prop) : Prop :=
  match tget t T, x with
  | some i, .ptr k off => match get k s with
    | some (.box xs _ _) => bif aggD i.desc then (off + i.size ≤ xs.length ∧ K (.agg ((xs.drop off).take i.size))) else (match xs[off]? with | some y => K y | none => False)
    | _ => False
  | some i, .eptr k e j => match get k s with
    | some (.row _ _ es _) => e < es.length ∧ bif aggD i.desc then (j + i.size ≤ (es.getD e []).length ∧ K (.agg ((((es.getD e []).drop j).take i.size).map .dat)))
        else (match (es.getD e [])[j]? with | some d => K (.dat d) | none => False)
    | _ => False
  | some i, .dat (.cptr cs) => bif aggD i.desc then (i.size ≤ cs.length ∧ K (.agg ((cs.take i.size).map .dat))) else (match cs[0]? with | some d => K (.dat d) | none => False)
  | _, _ => False

theorem run_loadVar' (hT : TabOk P T) {t : TypeId} {i : TI} (ht : tget t T = some i) (b o : Nat) (vs : Nat → Value) (hv : ∀ j, j < (if aggD i.desc then i.size else 1) → w.cell? ⟨b, o + j, none⟩ = some (vs j)) :
    (loadVar t ⟨b, o, none⟩).run P w = .ok (if aggD i.desc then .agg ((List.range i.size).map vs).toArray else vs 0) w := by
  have hadd : ∀ j, (⟨b, o, none⟩ : Addr).add j = ⟨b, o + j, none⟩ := fun j => Addr.add_lit b o j
  unfold loadVar
  rw [Sem.run_bind, run_isAgg' (hT _ _ ht)]
  simp only [Result.andThen_ok]
  cases ha : aggD i.desc
  · rw [ha] at hv
    have := hv 0 (by simp)
    simp at this
    simp [this]
  · rw [ha] at hv
    have hl := run_loadCells (P := P) w ⟨b, o, none⟩ i.size vs (fun j hj => by rw [hadd]; exact hv j (by simpa using hj))
    simp [run_sizeOf' (hT _ _ ht), hl]

theorem loadK_ok (hT : TabOk P T) {c : Ctx} {s : Sto} {t : TypeId} {x : AV} {u : Value} (hm : Mem c φ s n w) (hx : RV φ n (c.AA φ s) w x u) (h : loadK s T t x K) :
    Val P φ n (c.AA φ s) w (Instr.loadAt t u) K := by
  unfold loadK at h
  split at h
  · rename_i i k off ht
    split at h
    · rename_i xs f hg
      obtain ⟨_, _, vs, ty, hh, hl, h1, hv⟩ := hm.obj k _ hg
      cases hx
      have hc : ∀ j, j < vs.length → w.cell? ⟨(φ k).b, j, none⟩ = some (vs.getD j undef) := fun j hj => by
        rw [cell_of_row w _ _ _ _ _ hh]; simp [List.getD, List.getElem?_eq_getElem hj]
      cases ha : aggD i.desc
      · rw [ha] at h
        simp only [cond_false] at h
        split at h
        · rename_i y hy
          have hlt : off < vs.length := by have := (List.getElem?_eq_some_iff.1 hy).1; omega
          have := run_loadVar' (P := P) (w := w) hT ht (φ k).b off (fun j => vs.getD (off + j) undef) (fun j hj => by
            rw [ha] at hj; exact hc _ (by simp at hj; omega))
          rw [ha] at this
          exact ⟨y, _, by simp only [Instr.loadAt, Instr.sureAddr, Sem.run_bind, Sem.run_pure, Result.andThen_ok]; exact this, by simpa using hv off y hy, h⟩
        · exact h.elim
      · rw [ha] at h
        simp only [cond_true] at h
        have := run_loadVar' (P := P) (w := w) hT ht (φ k).b off (fun j => vs.getD (off + j) undef) (fun j hj => by
          rw [ha] at hj; exact hc _ (by simp at hj; omega))
        rw [ha] at this
        refine ⟨_, _, by simp only [Instr.loadAt, Instr.sureAddr, Sem.run_bind, Sem.run_pure, Result.andThen_ok]; exact this, .agg _ _ (by simp; omega) (fun j y hj => ?_) (fun u hu => ?_), h.2⟩
        · have hj' : j < i.size := by have := (List.getElem?_eq_some_iff.1 hj).1; simp at this; omega
          rw [List.getElem?_take, if_pos hj', List.getElem?_drop] at hj
          have := hv _ _ hj
          simpa [List.getD, hj'] using this
        · obtain ⟨j, hj, rfl⟩ := List.mem_map.1 hu
          have hj' : off + j < vs.length := by simp at hj; omega
          refine h1 _ ?_
          simp [List.getD, List.getElem?_eq_getElem hj']
    · exact h.elim
  · rename_i i k e j ht
    split at h
    · rename_i te sz es f hg
      obtain ⟨he, h⟩ := h
      obtain ⟨_, _, hz, hsz, hes, hlen, cur, hh, hcl, hlc, _, h1, hv⟩ := hm.obj k _ hg
      cases hx
      have hel : (es.getD e []).length = sz := by
        have : es.getD e [] = es[e] := by simp [List.getD, List.getElem?_eq_getElem he]
        rw [this]; exact hes _ (List.getElem_mem he)
      have hge : es[e]? = some (es.getD e []) := by simp [List.getD, List.getElem?_eq_getElem he]
      have hin : ∀ q, q < sz → e * sz + q < cur.length := fun q hq => by
        rw [hcl]
        have h2 : (e + 1) * sz ≤ (φ k).cap * sz := Nat.mul_le_mul_right _ (by omega)
        rw [Nat.add_mul] at h2; omega
      have hc : ∀ q, q < sz → w.cell? ⟨(φ k).b, e * sz + q, none⟩ = some (cur.getD (e * sz + q) undef) := fun q hq => by
        rw [cell_of_row w _ _ _ _ _ hh]; simp [List.getD, List.getElem?_eq_getElem (hin q hq)]
      rw [hsz]
      cases ha : aggD i.desc
      · rw [ha] at h
        simp only [cond_false] at h
        split at h
        · rename_i d hd
          have hjlt : j < sz := by have := (List.getElem?_eq_some_iff.1 hd).1; omega
          have := run_loadVar' (P := P) (w := w) hT ht (φ k).b (e * sz + j) (fun q => cur.getD (e * sz + (j + q)) undef) (fun q hq => by
            rw [ha] at hq; rw [Nat.add_assoc]; exact hc _ (by simp at hq; omega))
          rw [ha] at this
          exact ⟨_, _, by simp only [Instr.loadAt, Instr.sureAddr, Sem.run_bind, Sem.run_pure, Result.andThen_ok]; exact this, .dat _ _ (by simpa using hv e _ j d hge hd), h⟩
        · exact h.elim
      · rw [ha] at h
        simp only [cond_true] at h
        obtain ⟨hle, h⟩ := h
        rw [hel] at hle
        have := run_loadVar' (P := P) (w := w) hT ht (φ k).b (e * sz + j) (fun q => cur.getD (e * sz + (j + q)) undef) (fun q hq => by
          rw [ha] at hq; rw [Nat.add_assoc]; exact hc _ (by simp at hq; omega))
        rw [ha] at this
        refine ⟨_, _, by simp only [Instr.loadAt, Instr.sureAddr, Sem.run_bind, Sem.run_pure, Result.andThen_ok]; exact this, .agg _ _ (by rw [List.length_map, List.length_map, List.length_take, List.length_drop, hel]; simp; omega) (fun q y hq => ?_) (fun u hu => ?_), h⟩
        · rw [List.getElem?_map] at hq
          cases hd : (((es.getD e []).drop j).take i.size)[q]? with
          | none => rw [hd] at hq; simp at hq
          | some d =>
            rw [hd] at hq; simp at hq; subst hq
            have hq' : q < i.size := by have := (List.getElem?_eq_some_iff.1 hd).1; simp at this; omega
            rw [List.getElem?_take, if_pos hq', List.getElem?_drop] at hd
            refine .dat _ _ ?_
            have := hv e _ _ d hge hd
            simpa [List.getD, hq'] using this
        · obtain ⟨q, hq, rfl⟩ := List.mem_map.1 hu
          refine h1 _ ?_
          have := hin (j + q) (by simp at hq; omega)
          simp [List.getD, List.getElem?_eq_getElem this]
    · exact h.elim
  · rename_i i cs ht
    cases hx with
    | dat d v hx =>
      cases hx with
      | cptr _ b o vs hmm hd =>
        cases ha : aggD i.desc
        · rw [ha] at h
          simp only [cond_false] at h
          split at h
          · rename_i d hd0
            have := run_loadVar' (P := P) (w := w) hT ht b o vs (fun j hj => by
              rw [ha] at hj; exact (hmm _ (by have := (List.getElem?_eq_some_iff.1 hd0).1; simp at hj; omega)).1)
            rw [ha] at this
            exact ⟨_, _, by simp only [Instr.loadAt, Instr.sureAddr, Sem.run_bind, Sem.run_pure, Result.andThen_ok]; exact this, .dat _ _ (hd 0 d hd0), h⟩
          · exact h.elim
        · rw [ha] at h
          simp only [cond_true] at h
          have := run_loadVar' (P := P) (w := w) hT ht b o vs (fun j hj => by
            rw [ha] at hj; exact (hmm _ (by simp at hj; omega)).1)
          rw [ha] at this
          refine ⟨_, _, by simp only [Instr.loadAt, Instr.sureAddr, Sem.run_bind, Sem.run_pure, Result.andThen_ok]; exact this, .agg _ _ (by simp; omega) (fun j y hj => ?_) (fun u hu => ?_), h.2⟩
          · rw [List.getElem?_map] at hj
            cases hq : (cs.take i.size)[j]? with
            | none => rw [hq] at hj; simp at hj
            | some d =>
              rw [hq] at hj; simp at hj; subst hj
              have hj' : j < i.size := by have := (List.getElem?_eq_some_iff.1 hq).1; simp at this; omega
              rw [List.getElem?_take, if_pos hj'] at hq
              refine .dat _ _ ?_
              have := hd _ _ hq
              simpa [List.getD, hj'] using this
          · obtain ⟨q, hq, rfl⟩ := List.mem_map.1 hu
            have hq' : q < cs.length := by simp at hq; omega
            exact (hd q _ (List.getElem?_eq_getElem hq')).one
  · exact h.elim

end
end Go.Abs
end

section
/- One operation over abstract values: addresses, fields, cuts, structs, functions. -/
set_option linter.unusedVariables false
set_option linter.unusedSimpArgs false
namespace Go.Abs
open Go.RowKit

section
variable {P : Program} {T : Tab} {φ : Nat → Lay} {n : Nat} {A : Nat → Nat → Prop} {w : World} {K : AV → Prop}

def fieldOf (T : Tab) (t : TypeId) (f : Nat) : Option (Nat × TI) :=
  match tget t T with
  | some i => match i.desc with
    | .struct fs => match fs[f]? with
      | some fd => match tget fd.type T with
        | some j => some (fd.offset, j)
        | none => none
      | none => none
    | _ => none
  | none => none

theorem fieldOf_spec (hT : TabOk P T) {t : TypeId} {f off : Nat} {j : TI} (h : fieldOf T t f = some (off, j)) :
    ∃ fs fd, P.underlying t = some (.struct fs) ∧ fs[f]? = some fd ∧ fd.offset = off ∧ TOk P fd.type j := by
  unfold fieldOf at h
  split at h
  · rename_i i ht
    split at h
    · rename_i fs hd
      split at h
      · rename_i fd hf
        split at h
        · rename_i j' hj
          cases h
          have h1 := (hT _ _ ht).2; rw [hd] at h1
          exact ⟨fs, fd, h1, hf, rfl, hT _ _ hj⟩
        · cases h
      · cases h
    · cases h
  · cases h

def faddrK (T : Tab) (t : TypeId) (f : Nat) (x : AV) (K : AV → Prop) : Prop :=
  match fieldOf T t f with
  | some (off, j) => j.size ≠ 0 ∧ match x with
    | .ptr k o => K (.ptr k (o + off))
    | .eptr k e q => K (.eptr k e (q + off))
    | .dat (.cptr cs) => K (.dat (.cptr (cs.drop off)))
    | _ => False
  | none => False

theorem run_fieldAt' (hT : TabOk P T) {t : TypeId} {f off : Nat} {j : TI} (h : fieldOf T t f = some (off, j)) (hz : j.size ≠ 0) (b o : Nat) :
    (Instr.fieldAt t (.pointer (some ⟨b, o, none⟩)) f).run P w = .ok (.pointer (some ⟨b, o + off, none⟩)) w := by
  obtain ⟨fs, fd, hu, hf, ho, hj⟩ := fieldOf_spec hT h
  subst ho
  simp [Instr.fieldAt, run_underlying hu, hf, Instr.sureAddr, fieldPlace, run_sizeOf' hj, hz, Addr.add_lit]

theorem faddrK_ok (hT : TabOk P T) {t : TypeId} {f : Nat} {x : AV} {u : Value} (hx : RV φ n A w x u) (h : faddrK T t f x K) : Val P φ n A w (Instr.fieldAt t u f) K := by
  unfold faddrK at h
  split at h
  · rename_i off j hf
    obtain ⟨hz, h⟩ := h
    split at h
    · rename_i k o
      cases hx with
      | ptr _ _ hk => exact ⟨_, _, run_fieldAt' hT hf hz _ _, .ptr k (o + off) hk, h⟩
    · rename_i k e q
      cases hx with
      | eptr _ _ _ hk => exact ⟨_, _, run_fieldAt' hT hf hz _ _, by rw [Nat.add_assoc]; exact .eptr k e (q + off) hk, h⟩
    · cases hx with
      | dat d v hx =>
        cases hx with
        | cptr cs b o vs hm hd =>
          refine ⟨_, _, run_fieldAt' hT hf hz _ _, .dat _ _ (.cptr _ b (o + off) (fun q => vs (off + q)) (fun q hq => ?_) (fun q d hq => ?_)), h⟩
          · rw [Nat.add_assoc]; exact hm _ (by simp at hq; omega)
          · rw [List.getElem?_drop] at hq; exact hd _ _ hq
    · exact h.elim
  · exact h.elim

def fieldK (T : Tab) (t : TypeId) (f : Nat) (x : AV) (K : AV → Prop) : Prop :=
  match fieldOf T t f, x with
  | some (off, j), .agg xs => bif aggD j.desc then (off + j.size ≤ xs.length ∧ K (.agg ((xs.drop off).take j.size))) else (match xs[off]? with | some y => K y | none => False)
  | _, _ => False

theorem fieldK_ok (hT : TabOk P T) {t : TypeId} {f : Nat} {x : AV} {u : Value} (hx : RV φ n A w x u) (h : fieldK T t f x K) : Val P φ n A w (Instr.field t u f) K := by
  unfold fieldK at h
  split at h
  · rename_i off j xs hf0
    obtain ⟨fs, fd, hu, hf, ho, hj⟩ := fieldOf_spec hT hf0
    subst ho
    clear hf0
    cases hx with
    | agg _ vs hl hv h1 =>
      cases ha : aggD j.desc
      · rw [ha] at h
        simp only [cond_false] at h
        split at h
        · rename_i y hy
          have hlt : fd.offset < vs.length := by have := (List.getElem?_eq_some_iff.1 hy).1; omega
          have e : vs.getD fd.offset undef = vs[fd.offset] := by simp [List.getD, List.getElem?_eq_getElem hlt]
          refine ⟨y, vs.getD fd.offset undef, ?_, hv _ y hy, h⟩
          simp [Instr.field, run_underlying hu, hf, asAgg, part, run_isAgg' hj, ha, hlt, e]
        · exact h.elim
      · rw [ha] at h
        simp only [cond_true] at h
        refine ⟨_, .agg ((vs.drop fd.offset).take j.size).toArray, ?_, .agg _ _ (by simp; omega) (fun q y hq => ?_) (fun u hu => h1 u ?_), h.2⟩
        · have e : (vs.toArray.extract fd.offset (fd.offset + j.size)) = ((vs.drop fd.offset).take j.size).toArray := by
            rw [List.extract_toArray]
            congr 1
            rw [List.extract_eq_take_drop, Nat.add_sub_cancel_left]
          simp [Instr.field, run_underlying hu, hf, asAgg, part, run_isAgg' hj, ha, run_sizeOf' hj, e]
        · have hq' : q < j.size := by have := (List.getElem?_eq_some_iff.1 hq).1; simp at this; omega
          rw [List.getElem?_take, if_pos hq', List.getElem?_drop] at hq
          have := hv _ _ hq
          simpa [List.getD, List.getElem?_take, hq', List.getElem?_drop] using this
        · exact List.mem_of_mem_drop (List.mem_of_mem_take hu)
  · exact h.elim

/-! Elements. -/
def elemOf' (T : Tab) (t : TypeId) : Option TI :=
  match tget t T with
  | some i => match i.desc with
    | .slice e => tget e T
    | _ => none
  | none => none

theorem elemOf'_spec (hT : TabOk P T) {t : TypeId} {j : TI} (h : elemOf' T t = some j) : ∃ e, P.underlying t = some (.slice e) ∧ TOk P e j ∧ tget e T = some j := by
  unfold elemOf' at h
  split at h
  · rename_i i ht
    split at h
    · rename_i e hd
      have h1 := (hT _ _ ht).2; rw [hd] at h1
      exact ⟨e, h1, hT _ _ h, h⟩
    · cases h
  · cases h

def iaddrK (s : Sto) (T : Tab) (t : TypeId) (x y : AV) (K : AV → Prop) : Prop :=
  match elemOf' T t, x, y with
  | some j, .dat (.lst es), .dat (.int _ m) => 0 ≤ m ∧ m < es.length ∧ (es.getD m.toNat []).length = j.size ∧ K (.dat (.cptr (es.getD m.toNat [])))
  | some j, .own k, .dat (.int _ m) => match get k s with
    | some (.row _ sz es _) => sz = j.size ∧ 0 ≤ m ∧ m < es.length ∧ K (.eptr k m.toNat 0)
    | _ => False
  | _, _, _ => False

theorem run_indexAt' (hT : TabOk P T) {t : TypeId} {j : TI} (h : elemOf' T t = some j) (b o len cap : Nat) (k : IntKind) (m : Int) (h0 : 0 ≤ m) (h1 : m < len) :
    (Instr.indexAt t (.slice (some ⟨b, o, none⟩) len cap) (.int k m)).run P w = .ok (.pointer (some ⟨b, o + m.toNat * j.size, none⟩)) w := by
  obtain ⟨e, hu, hj, _⟩ := elemOf'_spec hT h
  simp [Instr.indexAt, run_underlying hu, asIntOf, h0, h1, run_sizeOf' hj, Addr.add_lit]

theorem iaddrK_ok (hT : TabOk P T) {c : Ctx} {s : Sto} {t : TypeId} {x y : AV} {u v : Value} (hm : Mem c φ s n w) (hx : RV φ n (c.AA φ s) w x u) (hy : RV φ n (c.AA φ s) w y v)
    (h : iaddrK s T t x y K) : Val P φ n (c.AA φ s) w (Instr.indexAt t u v) K := by
  unfold iaddrK at h
  split at h
  · rename_i j es k m ht
    obtain ⟨h0, h1, h2, h⟩ := h
    cases hy.int
    have hlt : m.toNat < es.length := by omega
    have hge : es[m.toNat]? = some (es.getD m.toNat []) := by simp [List.getD, List.getElem?_eq_getElem hlt]
    cases hx with
    | dat d v hx =>
      cases hx with
      | emp a cap => simp at hlt
      | lst es b o sz cap vs hs hz hc hmm hd =>
        have hsz : sz = j.size := by rw [← h2]; exact (hs _ (List.mem_of_getElem? hge)).symm
        subst hsz
        refine ⟨_, _, run_indexAt' hT ht b o es.length cap k m h0 h1, .dat _ _ (.cptr _ b (o + m.toNat * j.size) (fun q => vs (m.toNat * j.size + q)) (fun q hq => ?_) (fun q d hq => hd _ _ q d hge hq)), h⟩
        rw [Nat.add_assoc]
        refine hmm _ ?_
        rw [h2] at hq
        have : (m.toNat + 1) * j.size ≤ es.length * j.size := Nat.mul_le_mul_right _ (by omega)
        rw [Nat.add_mul] at this; omega
  · rename_i j k kk m ht
    cases hy.int
    split at h
    · rename_i te sz es f hg
      obtain ⟨rfl, h0, h1, h⟩ := h
      obtain ⟨_, _, hz, hsz, hes, hlen, _⟩ := hm.obj k _ hg
      cases hx with
      | own _ hk =>
        refine ⟨_, _, run_indexAt' hT ht (φ k).b 0 (φ k).len (φ k).cap kk m h0 (by rw [← hlen]; exact h1), ?_, h⟩
        rw [Nat.zero_add, ← hsz]
        have := RV.eptr (φ := φ) (n := n) (A := c.AA φ s) (w := w) k m.toNat 0 hk
        simpa using this
    · exact h.elim
  · exact h.elim

def byteAt (s : ByteArray) (m : Nat) : Int := (s.data.toList.getD m 0).toNat

def strIxK (T : Tab) (t : TypeId) (x y : AV) (K : AV → Prop) : Prop :=
  match tget t T, x, y with
  | some i, .dat (.str b), .dat (.int _ m) => match i.desc with
    | .string => 0 ≤ m ∧ m < b.size ∧ K (.dat (.int .u8 (byteAt b m.toNat)))
    | _ => False
  | _, _, _ => False

theorem strIxK_ok (hT : TabOk P T) {t : TypeId} {x y : AV} {u v : Value} (hx : RV φ n A w x u) (hy : RV φ n A w y v) (h : strIxK T t x y K) : Val P φ n A w (Instr.index t u v) K := by
  unfold strIxK at h
  split at h
  · rename_i i b k m ht
    split at h
    · rename_i hd
      obtain ⟨h0, h1, h⟩ := h
      have hu := (hT _ _ ht).2; rw [hd] at hu
      cases hx.str; cases hy.int
      have hlt : m.toNat < b.size := by omega
      have hg : b[m.toNat]? = some b[m.toNat] := by simp [hlt]
      refine ⟨_, .int .u8 (byteAt b m.toNat), ?_, .dat _ _ (.int _ _), h⟩
      have e : byteAt b m.toNat = (b[m.toNat].toNat : Int) := by
        unfold byteAt
        congr 2
        have : m.toNat < b.data.toList.length := hlt
        simp [List.getD, List.getElem?_eq_getElem this]
        rfl
      rw [e]
      simp [Instr.index, run_underlying hu, asIntOf, h0, hg]
    · exact h.elim
  · exact h.elim

/-! Cuts of data. -/
def bndK (x : Option AV) (d : Int) (K : Int → Prop) : Prop :=
  match x with
  | none => K d
  | some (.dat (.int _ m)) => K m
  | some _ => False

def cutK (T : Tab) (t : TypeId) (x : AV) (lo hi : Option AV) (K : AV → Prop) : Prop :=
  match x with
  | .dat (.lst es) => (∃ j, elemOf' T t = some j) ∧ bndK lo 0 fun l => bndK hi es.length fun h => 0 ≤ l ∧ l ≤ h ∧ h ≤ es.length ∧
      (∀ e ∈ es, ∀ j, elemOf' T t = some j → e.length = j.size) ∧ K (.dat (.lst ((es.take h.toNat).drop l.toNat)))
  | .nil => (∃ j, elemOf' T t = some j) ∧ bndK lo 0 fun l => bndK hi 0 fun h => l = 0 ∧ h = 0 ∧ K .nil
  | .dat (.str b) => (∃ i, tget t T = some i ∧ i.desc = .string) ∧ bndK lo 0 fun l => bndK hi b.size fun h => 0 ≤ l ∧ l ≤ h ∧ h ≤ b.size ∧ K (.dat (.str (b.extract l.toNat h.toNat)))
  | _ => False

theorem bnd_spec {x : Option AV} {v : Option Value} {d : Int} {K : Int → Prop} (hv : ∀ a, x = some a → ∃ u, v = some u ∧ RV φ n A w a u) (hn : x = none → v = none) (h : bndK x d K) :
    ∃ m, K m ∧ ((x = none ∧ v = none ∧ m = d) ∨ ∃ k, v = some (.int k m)) := by
  unfold bndK at h
  split at h
  · exact ⟨d, h, .inl ⟨rfl, hn rfl, rfl⟩⟩
  · rename_i k m
    obtain ⟨u, rfl, hu⟩ := hv _ rfl
    cases hu.int
    exact ⟨m, h, .inr ⟨k, rfl⟩⟩
  · exact h.elim

theorem run_sliceBounds' (len cap : Nat) (isS : Bool) {lo hi : Option Value} {l h : Int} (hl : (lo = none ∧ l = 0) ∨ ∃ k, lo = some (.int k l)) (hh : (hi = none ∧ h = len) ∨ ∃ k, hi = some (.int k h))
    (h0 : 0 ≤ l) (h1 : l ≤ h) (h2 : h ≤ len) (h3 : len ≤ cap) : (Instr.sliceBounds isS len cap lo hi none).run P w = .ok (l.toNat, h.toNat, cap) w := by
  have c1 : 0 ≤ h := by omega
  have c2 : h ≤ cap := by omega
  have c3 : l ≤ max h 0 := by omega
  have c4 : (len : Int).toNat = len := by omega
  rcases hl with ⟨rfl, rfl⟩ | ⟨k, rfl⟩ <;> rcases hh with ⟨rfl, rfl⟩ | ⟨k', rfl⟩ <;>
    simp [Instr.sliceBounds, Instr.sliceBound, asIntOf, h0, h1, c1, c2, c3]

theorem RD.cut {es : List (List DV)} {v : Value} {sz : Nat} (hes : ∀ e ∈ es, e.length = sz) (h : RD A w (.lst es) v) : ∃ a cap, v = .slice a es.length cap ∧ es.length ≤ cap ∧
    ∀ l h, l ≤ h → h ≤ es.length → RD A w (.lst ((es.take h).drop l)) (.slice (if cap = l then a else a.map (·.add (l * sz))) (h - l) (cap - l)) := by
  cases h with
  | emp a cap =>
    refine ⟨a, cap, rfl, Nat.zero_le _, fun l h h1 h2 => ?_⟩
    simp at h2
    have : l = 0 := by omega
    subst this; subst h2
    simp
    exact .emp _ _
  | lst es b o sz' cap vs hs hz hc hm hd =>
    refine ⟨_, cap, rfl, hc, fun l h h1 h2 => ?_⟩
    by_cases he : h = l
    · subst he
      have e0 : (es.take h).drop h = [] := by simp
      rw [e0, Nat.sub_self]
      exact .emp _ _
    · have hne : 0 < es.length := by omega
      have hsz : sz' = sz := by
        have h0 := hs _ (List.getElem_mem hne)
        have h1 := hes _ (List.getElem_mem hne)
        omega
      subst hsz
      have hcl : ¬ cap = l := by omega
      rw [if_neg hcl]
      simp only [Option.map_some, Addr.add_lit]
      have hlen : ((es.take h).drop l).length = h - l := by simp; omega
      rw [← hlen]
      refine .lst _ b (o + l * sz') sz' (cap - l) (fun j => vs (l * sz' + j)) (fun e he => hs e (List.mem_of_mem_take (List.mem_of_mem_drop he))) hz (by omega) (fun j hj => ?_) (fun i e j d hi hj => ?_)
      · rw [Nat.add_assoc]
        refine hm _ ?_
        rw [hlen] at hj
        have : l * sz' + (h - l) * sz' = h * sz' := by rw [← Nat.add_mul]; congr 1; omega
        have : h * sz' ≤ es.length * sz' := Nat.mul_le_mul_right _ h2
        omega
      · rw [List.getElem?_drop] at hi
        have hi' : l + i < h := by have := (List.getElem?_eq_some_iff.1 hi).1; simp at this; omega
        rw [List.getElem?_take, if_pos hi'] at hi
        have := hd _ _ _ _ hi hj
        rw [← Nat.add_assoc, ← Nat.add_mul]; exact this

theorem cutK_ok (hT : TabOk P T) {t : TypeId} {x : AV} {lo hi : Option AV} {u : Value} {lo' hi' : Option Value} (hx : RV φ n A w x u)
    (hlo : ∀ a, lo = some a → ∃ u, lo' = some u ∧ RV φ n A w a u) (hlo0 : lo = none → lo' = none) (hhi : ∀ a, hi = some a → ∃ u, hi' = some u ∧ RV φ n A w a u) (hhi0 : hi = none → hi' = none)
    (h : cutK T t x lo hi K) : Val P φ n A w (Instr.sliceAt t u lo' hi' none) K := by
  unfold cutK at h
  split at h
  · rename_i es
    obtain ⟨⟨j, hj⟩, h⟩ := h
    obtain ⟨l, h, hl⟩ := bnd_spec hlo hlo0 h
    obtain ⟨hh, h, hhh⟩ := bnd_spec hhi hhi0 h
    obtain ⟨h0, h1, h2, hes, h⟩ := h
    obtain ⟨e, hu, hj', _⟩ := elemOf'_spec hT hj
    cases hx with
    | dat d v hx =>
      obtain ⟨a, cap, rfl, hc, hr⟩ := RD.cut (fun e he => hes e he j hj) hx
      have hb := run_sliceBounds' (P := P) (w := w) es.length cap true (lo := lo') (hi := hi') (l := l) (h := hh) (by rcases hl with ⟨_, a, b⟩ | a; exact .inl ⟨a, b⟩; exact .inr a)
        (by rcases hhh with ⟨_, a, b⟩ | a; exact .inl ⟨a, b⟩; exact .inr a) h0 h1 h2 hc
      refine ⟨_, _, ?_, .dat _ _ (hr l.toNat hh.toNat (by omega) (by omega)), h⟩
      simp [Instr.sliceAt, Instr.slice, run_underlying hu, hb, run_sizeOf' hj']
  · obtain ⟨⟨j, hj⟩, h⟩ := h
    obtain ⟨l, h, hl⟩ := bnd_spec hlo hlo0 h
    obtain ⟨hh, h, hhh⟩ := bnd_spec hhi hhi0 h
    obtain ⟨rfl, rfl, h⟩ := h
    obtain ⟨e, hu, hj', _⟩ := elemOf'_spec hT hj
    cases hx
    have hb := run_sliceBounds' (P := P) (w := w) 0 0 true (lo := lo') (hi := hi') (l := 0) (h := 0) (by rcases hl with ⟨_, a, b⟩ | a; exact .inl ⟨a, b⟩; exact .inr a)
        (by rcases hhh with ⟨_, a, b⟩ | a; exact .inl ⟨a, b⟩; exact .inr a) (Int.le_refl _) (Int.le_refl _) (Int.le_refl _) (Nat.le_refl _)
    refine ⟨_, _, ?_, .nil, h⟩
    simp at hb
    simp [Instr.sliceAt, Instr.slice, run_underlying hu, hb, run_sizeOf' hj']
  · rename_i b
    obtain ⟨⟨i, hi, hd⟩, h⟩ := h
    obtain ⟨l, h, hl⟩ := bnd_spec hlo hlo0 h
    obtain ⟨hh, h, hhh⟩ := bnd_spec hhi hhi0 h
    obtain ⟨h0, h1, h2, h⟩ := h
    have hu := (hT _ _ hi).2; rw [hd] at hu
    cases hx.str
    have hb := run_sliceBounds' (P := P) (w := w) b.size b.size false (lo := lo') (hi := hi') (l := l) (h := hh) (by rcases hl with ⟨_, a, b⟩ | a; exact .inl ⟨a, b⟩; exact .inr a)
        (by rcases hhh with ⟨_, a, b⟩ | a; exact .inl ⟨a, b⟩; exact .inr a) h0 h1 h2 (Nat.le_refl _)
    refine ⟨_, _, ?_, .dat _ _ (.str _), h⟩
    simp [Instr.sliceAt, Instr.slice, run_underlying hu, hb]
  · exact h.elim

/-! Functions, interfaces. -/
def lamK (fn : Fn) (first : Array Operand) (cs : List AV) (K : AV → Prop) : Prop :=
  match fn with
  | .func f => first = #[] ∧ K (.clo f cs)
  | _ => False

theorem lamK_ok {fn : Fn} {first caps : Array Operand} {ρ : Operand → Value} {ev : Operand → AV} (he : ∀ x, RV φ n A w (ev x) (ρ x)) (h : lamK fn first (caps.toList.map ev) K) :
    Val P φ n A w (Instr.makeFunc fn (first.map ρ) (caps.map ρ)) K := by
  unfold lamK at h
  split at h
  · rename_i f
    obtain ⟨rfl, h⟩ := h
    refine ⟨_, .func (.func f) #[] (caps.toList.map ρ).toArray, ?_, .clo f _ _ (by simp) (fun j x hj => ?_), h⟩
    · have : caps.map ρ = (caps.toList.map ρ).toArray := by apply Array.ext'; simp
      simp [Instr.makeFunc, this]
    · rw [List.getElem?_map] at hj
      cases hc : caps.toList[j]? with
      | none => rw [hc] at hj; simp at hj
      | some o =>
        rw [hc] at hj; simp at hj; subst hj
        have : caps[j]? = some o := by simpa using hc
        simpa [List.getD, List.getElem?_map, this] using he o
  · exact h.elim

def ifaceD (d : TypeDesc) : Bool := match d with | .interface _ => true | _ => false

def mkIfK (T : Tab) (t : TypeId) (x : AV) (K : AV → Prop) : Prop :=
  match tget t T with
  | some i => ifaceD i.desc = false ∧ match x with
    | .dat d => K (.dat (.ifc t false [d]))
    | .agg [] => K (.dat (.ifc t true []))
    | _ => False
  | none => False

theorem mkIfK_ok (hT : TabOk P T) {t : TypeId} {x : AV} {u : Value} (hx : RV φ n A w x u) (h : mkIfK T t x K) : Val P φ n A w (Instr.makeInterface t u) K := by
  unfold mkIfK at h
  split at h
  · rename_i i ht
    obtain ⟨hi, h⟩ := h
    have hu := (hT _ _ ht).2
    have hr : ∀ u, (Instr.makeInterface t u).run P w = .ok (.iface t u) w := fun u => by
      simp only [Instr.makeInterface, Sem.run_bind, run_underlying hu, Result.andThen_ok]
      cases hd : i.desc <;> simp [hd, ifaceD] at hi ⊢
    split at h
    · rename_i d
      cases hx with
      | dat _ v hd => exact ⟨_, _, hr _, .dat _ _ (.ifc t false [d] [u] rfl (fun _ => rfl) (fun j e hj => by cases j <;> simp at hj; subst hj; simpa using hd)), h⟩
    · cases hx with
      | agg _ vs hl hv h1 =>
        have : vs = [] := List.eq_nil_of_length_eq_zero hl
        subst this
        exact ⟨_, _, hr _, .dat _ _ (.ifc t true [] [] rfl (fun h => by cases h) (fun j e hj => by simp at hj)), h⟩
    · exact h.elim
  · exact h.elim

end
end Go.Abs
end

section
/- One operation over abstract values: operations that make or write the call's own memory. -/
set_option linter.unusedVariables false
set_option linter.unusedSimpArgs false
namespace Go.Abs
open Go.RowKit

/-- What an operation comes to: a value, and memory of the call's own. -/
def Ope (P : Program) (c : Ctx) (φ : Nat → Lay) (s : Sto) (n : Nat) (w : World) (m : Sem Value) (K : AV → Sto → Nat → Prop) : Prop :=
  ∃ r z φ' s' n' w', m.run P w = .ok z w' ∧ Goes c φ s n w φ' s' n' w' ∧ RV φ' n' (c.AA φ' s') w' r z ∧ K r s' n'

section
variable {P : Program} {T : Tab} {c : Ctx} {φ : Nat → Lay} {s : Sto} {n : Nat} {w : World} {K : AV → Sto → Nat → Prop}

theorem Ope.of_val {m : Sem Value} (hm : Mem c φ s n w) (h : Val P φ n (c.AA φ s) w m fun r => K r s n) : Ope P c φ s n w m K := by
  obtain ⟨r, z, hr, hv, hk⟩ := h
  exact ⟨r, z, φ, s, n, w, hr, Goes.refl hm, hv, hk⟩

/-- A new variable of the call's own. -/
theorem new_box (hm : Mem c φ s n w) (vs : Array Value) (ty : TypeId) (xs : List AV) (hl : vs.size = xs.length) (h1 : ∀ u ∈ vs.toList, u.oneCell' = true)
    (hv : ∀ j x, xs[j]? = some x → RV φ n (c.AA φ s) w x (vs.toList.getD j undef)) :
    Goes c φ s n w (upd φ n { b := w.heap.size }) ((n, .box xs false) :: s) (n + 1) (w.alloc (.cells vs ty)) := by
  refine hm.alloc (.box xs false) _ _ rfl fun hk => ⟨vs.toList, ty, ?_, by simpa using hl, h1, fun j x hj => (hv j x hj).keep hk (fun i hi => upd_old _ _ _ hi) (by omega)⟩
  rw [upd_new]
  simpa using heap_alloc_new w (.cells vs ty)

def allocK (T : Tab) (t : TypeId) (s : Sto) (n : Nat) (K : AV → Sto → Nat → Prop) : Prop :=
  match tget t T with
  | some i => i.zv.cells.toList.all Value.oneCell' = true ∧ K (.ptr n 0) ((n, .box (i.zv.cells.toList.map constA) false) :: s) (n + 1)
  | none => False

theorem allocK_ok (hT : TabOk P T) {t : TypeId} (hm : Mem c φ s n w) (h : allocK T t s n K) : Ope P c φ s n w (Instr.alloc t true (.tuple #[])) K := by
  unfold allocK at h
  split at h
  · rename_i i ht
    refine ⟨_, _, _, _, _, _, ?_, new_box hm i.zv.cells t (i.zv.cells.toList.map constA) (by simp) (fun u hu => (List.all_eq_true.1 h.1) u hu) (fun j x hj => ?_), .ptr n 0 (by omega), h.2⟩
    · rw [upd_new]
      simp [Instr.alloc, run_zero' (hT _ _ ht), newVar, newRow]
    · rw [List.getElem?_map] at hj
      cases hc : i.zv.cells.toList[j]? with
      | none => rw [hc] at hj; simp at hj
      | some o =>
        rw [hc] at hj; simp at hj; subst hj
        have : i.zv.cells.toList.getD j undef = o := by simp only [List.getD, hc, Option.getD_some]
        rw [this]; exact constA_rv o
  · exact h.elim

def boxK (x : AV) (s : Sto) (n : Nat) (K : AV → Sto → Nat → Prop) : Prop :=
  match cellsA x with
  | some xs => K (.ptr n 0) ((n, .box xs false) :: s) (n + 1)
  | none => False

theorem boxK_ok {t : TypeId} {x : AV} {u : Value} (hm : Mem c φ s n w) (hx : RV φ n (c.AA φ s) w x u) (h : boxK x s n K) : Ope P c φ s n w (Instr.box t u) K := by
  unfold boxK at h
  split at h
  · rename_i xs hc
    obtain ⟨h1, h2, h3⟩ := cellsA_rv hx hc
    refine ⟨_, _, _, _, _, _, ?_, new_box hm u.cells t xs h1 h2 h3, .ptr n 0 (by omega), h⟩
    rw [upd_new]
    simp [Instr.box, newVar, newRow]
  · exact h.elim

/-! Stores. -/
def dat0 : AV → Option DV
  | .dat d => some d
  | .nil => some (.lst [])
  | _ => none

def dats0 : List AV → Option (List DV)
  | [] => some []
  | x :: xs => match dat0 x, dats0 xs with
    | some d, some ds => some (d :: ds)
    | _, _ => none

theorem dat0_rv {A : Nat → Nat → Prop} {x : AV} {d : DV} {v : Value} (h : RV φ n A w x v) (hd : dat0 x = some d) : RD A w d v := by
  cases h <;> simp [dat0] at hd
  · subst hd; exact .emp _ _
  · subst hd; assumption

theorem dats0_spec : ∀ {xs : List AV} {ds : List DV}, dats0 xs = some ds → ds.length = xs.length ∧ ∀ (j : Nat) (d : DV), ds[j]? = some d → ∃ x : AV, xs[j]? = some x ∧ dat0 x = some d
  | [], ds, h => by simp [dats0] at h; subst h; simp
  | x :: xs, ds, h => by
    unfold dats0 at h
    split at h
    · rename_i d ds' hd hds
      cases h
      obtain ⟨h1, h2⟩ := dats0_spec hds
      refine ⟨by simp [h1], fun j e hj => ?_⟩
      cases j with
      | zero => simp at hj; subst hj; exact ⟨x, by simp, hd⟩
      | succ j => simp at hj; simpa using h2 j e hj
    · cases h

def storeK (T : Tab) (t : TypeId) (x y : AV) (s : Sto) (K : Sto → Prop) : Prop :=
  match tget t T, cellsA y, x with
  | some i, some ys, .ptr k off => match get k s with
    | some (.box xs false ot) => ys.length = i.size ∧ off + ys.length ≤ xs.length ∧ K (set k (.box (xs.take off ++ ys ++ xs.drop (off + ys.length)) false ot) s)
    | _ => False
  | some i, some ys, .eptr k e j => match get k s, dats0 ys with
    | some (.row te sz es false), some ds => ys.length = i.size ∧ e < es.length ∧ j + ds.length ≤ sz ∧
        K (set k (.row te sz (es.set e ((es.getD e []).take j ++ ds ++ (es.getD e []).drop (j + ds.length))) false) s)
    | _, _ => False
  | _, _, _ => False

theorem run_storeVar' (hT : TabOk P T) {t : TypeId} {i : TI} (ht : tget t T = some i) (b o : Nat) (ty : TypeId) (cur : List Value) (v : Value) (hh : w.heap[b]? = some (.cells cur.toArray ty (0, 0)))
    (hs : v.cells.size = i.size) (hf : o + i.size ≤ cur.length) (h1 : ∀ u ∈ v.cells.toList, u.oneCell' = true) :
    (storeVar t ⟨b, o, none⟩ v).run P w = .ok () (w.setRow b (cur.take o ++ v.cells.toList ++ cur.drop (o + v.cells.toList.length)).toArray) := by
  have hst := run_storeCells_at P b o ty v.cells.toList 0 cur.toArray w hh (by simp; omega) h1
  simp only [Nat.add_zero] at hst
  simp [storeVar, run_sizeOf' (hT _ _ ht), hs, hst]

theorem splice_getD {α : Type} (xs ys : List α) (o j : Nat) (u : α) (hf : o + ys.length ≤ xs.length) :
    (xs.take o ++ ys ++ xs.drop (o + ys.length)).getD j u = if o ≤ j ∧ j < o + ys.length then ys.getD (j - o) u else xs.getD j u := by
  simp only [List.getD, List.getElem?_append, List.getElem?_take, List.getElem?_drop, List.length_append, List.length_take]
  have hm : min o xs.length = o := by omega
  rw [hm]
  by_cases h1 : j < o
  · rw [if_pos (by omega), if_pos h1, if_pos h1, if_neg (by omega)]
  · by_cases h2 : j < o + ys.length
    · rw [if_pos h2, if_neg h1, if_pos (by omega)]
    · rw [if_neg h2, if_neg (by omega)]
      congr 2; omega

theorem splice_get? {α : Type} (xs ys : List α) (o j : Nat) (x : α) (hf : o + ys.length ≤ xs.length) (h : (xs.take o ++ ys ++ xs.drop (o + ys.length))[j]? = some x) :
    (o ≤ j ∧ j < o + ys.length ∧ ys[j - o]? = some x) ∨ (¬ (o ≤ j ∧ j < o + ys.length) ∧ xs[j]? = some x) := by
  simp only [List.getElem?_append, List.getElem?_take, List.getElem?_drop, List.length_append, List.length_take] at h
  have hm : min o xs.length = o := by omega
  rw [hm] at h
  by_cases h1 : j < o
  · rw [if_pos (by omega), if_pos h1, if_pos h1] at h; exact .inr ⟨by omega, h⟩
  · by_cases h2 : j < o + ys.length
    · rw [if_pos h2, if_neg h1] at h; exact .inl ⟨by omega, h2, h⟩
    · rw [if_neg h2] at h
      exact .inr ⟨by omega, by rw [← h]; congr 1; omega⟩

theorem splice_mem {α : Type} {xs ys : List α} {o : Nat} {u : α} (h : u ∈ xs.take o ++ ys ++ xs.drop (o + ys.length)) : u ∈ xs ∨ u ∈ ys := by
  rcases List.mem_append.1 h with h | h
  · rcases List.mem_append.1 h with h | h
    · exact .inl (List.mem_of_mem_take h)
    · exact .inr h
  · exact .inl (List.mem_of_mem_drop h)

theorem below_setRow' {B : Nat} {w0 w : World} {g : Nat} (hb : Below B w0 w) (hg : B ≤ g) (cs : Array Value) : Below B w0 (w.setRow g cs) :=
  hb.trans ⟨rfl, rfl, rfl, by simp [World.setRow], fun k hk => setRow_other w g k cs (by omega)⟩

theorem storeK_ok (hT : TabOk P T) {t : TypeId} {x y : AV} {u v : Value} {K : Sto → Prop} (hm : Mem c φ s n w) (hx : RV φ n (c.AA φ s) w x u) (hy : RV φ n (c.AA φ s) w y v) (h : storeK T t x y s K) :
    ∃ s' w', (Instr.storeAt t u v).run P w = .ok () w' ∧ Goes c φ s n w φ s' n w' ∧ K s' := by
  unfold storeK at h
  split at h
  · rename_i i ys k off ht hc
    split at h
    · rename_i xs ot hg
      obtain ⟨hs, hf, h⟩ := h
      obtain ⟨c1, c2, c3⟩ := cellsA_rv hy hc
      obtain ⟨hb, hk, vs, ty, hh, hl, h1, hv⟩ := hm.obj k _ hg
      cases hx
      have hcl : v.cells.toList.length = ys.length := by simpa using c1
      have hrun := run_storeVar' (P := P) hT ht (φ k).b off (ot.getD ty) vs v hh (by omega) (by omega) c2
      refine ⟨_, _, by simp only [Instr.storeAt, Instr.sureAddr, Sem.run_bind, Sem.run_pure, Result.andThen_ok]; exact hrun, hm.turn (o' := .box (xs.take off ++ ys ++ xs.drop (off + ys.length)) false ot) hg (fun o ho => ho) (below_setRow' hm.below hb _) (fun b hb' => setRow_other _ _ _ _ hb') (fun o q ho => by cases ho) (fun hkp => ?_), h⟩
      refine ⟨_, ty, setRow_heap _ _ _ _ _ _ hh, by simp [hcl]; omega, fun u hu => ?_, fun j x hj => ?_⟩
      · rcases splice_mem hu with hu | hu
        · exact h1 u hu
        · exact c2 u hu
      · rw [splice_getD _ _ _ _ _ (by omega)]
        rcases splice_get? _ _ _ _ _ hf hj with ⟨a1, a2, a3⟩ | ⟨a1, a2⟩
        · rw [if_pos (by omega)]; exact (c3 _ _ a3).keep hkp (fun _ _ => rfl) (Nat.le_refl _)
        · rw [if_neg (by omega)]; exact (hv _ _ a2).keep hkp (fun _ _ => rfl) (Nat.le_refl _)
    · exact h.elim
  · rename_i i ys k e j ht hc
    split at h
    · rename_i te sz es ds hg hds
      obtain ⟨hs, he, hf, h⟩ := h
      obtain ⟨c1, c2, c3⟩ := cellsA_rv hy hc
      obtain ⟨d1, d2⟩ := dats0_spec hds
      obtain ⟨hb, hk, hz, hsz, hes, hlen, cur, hh, hcl, hlc, hml, h1, hv⟩ := hm.obj k _ hg
      cases hx
      have hvl : v.cells.toList.length = ds.length := by rw [d1]; simpa using c1
      have hge : es[e]? = some (es.getD e []) := by simp [List.getD, List.getElem?_eq_getElem he]
      have hel : (es.getD e []).length = sz := hes _ (List.mem_of_getElem? hge)
      have hmul : (e + 1) * sz ≤ (φ k).cap * sz := Nat.mul_le_mul_right _ (by omega)
      rw [Nat.add_mul, Nat.one_mul] at hmul
      rw [hsz]
      have hrun := run_storeVar' (P := P) hT ht (φ k).b (e * sz + j) te cur v hh (by omega) (by omega) c2
      refine ⟨_, _, by simp only [Instr.storeAt, Instr.sureAddr, Sem.run_bind, Sem.run_pure, Result.andThen_ok]; exact hrun, hm.turn (o' := .row te sz (es.set e ((es.getD e []).take j ++ ds ++ (es.getD e []).drop (j + ds.length))) false) hg (fun o ho => by cases ho.1) (below_setRow' hm.below hb _) (fun b hb' => setRow_other _ _ _ _ hb') (fun o q ho => by cases ho.1) (fun hkp => ?_), h⟩
      have hsp : ((es.getD e []).take j ++ ds ++ (es.getD e []).drop (j + ds.length)).length = sz := by simp only [List.length_append, List.length_take, List.length_drop]; omega
      refine ⟨hz, hsz, fun el hel' => ?_, by simpa using hlen, _, setRow_heap _ _ _ _ _ _ hh, by simp only [List.length_append, List.length_take, List.length_drop]; omega, hlc, hml, fun u hu => ?_, fun k' el j' d hk' hj' => ?_⟩
      · rcases List.mem_or_eq_of_mem_set hel' with h | h
        · exact hes el h
        · rw [h]; exact hsp
      · rcases splice_mem hu with hu | hu
        · exact h1 u hu
        · exact c2 u hu
      · rw [splice_getD _ _ _ _ _ (by omega)]
        by_cases hke : k' = e
        · subst hke
          rw [List.getElem?_set_self he] at hk'; cases hk'
          rcases splice_get? _ _ _ _ _ (by omega) hj' with ⟨a1, a2, a3⟩ | ⟨a1, a2⟩
          · obtain ⟨x, x1, x2⟩ := d2 _ _ a3
            rw [if_pos (by omega)]
            have := dat0_rv (c3 _ _ x1) x2
            have e : k' * sz + j' - (k' * sz + j) = j' - j := by omega
            rw [e]; exact this.keep hkp
          · rw [if_neg (by omega)]
            exact (hv _ _ _ _ hge a2).keep hkp
        · rw [List.getElem?_set_ne (Ne.symm hke)] at hk'
          have hl1 : el.length = sz := hes _ (List.mem_of_getElem? hk')
          have hj1 : j' < sz := by rw [← hl1]; exact (List.getElem?_eq_some_iff.1 hj').1
          have : ¬ (e * sz + j ≤ k' * sz + j' ∧ k' * sz + j' < e * sz + j + v.cells.toList.length) := by
            rcases Nat.lt_or_gt_of_ne hke with hlt | hgt
            · have : (k' + 1) * sz ≤ e * sz := Nat.mul_le_mul_right _ hlt
              rw [Nat.add_mul, Nat.one_mul] at this; omega
            · have : (e + 1) * sz ≤ k' * sz := Nat.mul_le_mul_right _ hgt
              rw [Nat.add_mul, Nat.one_mul] at this; omega
          rw [if_neg this]
          exact (hv _ _ _ _ hk' hj').keep hkp
    · exact h.elim
  · exact h.elim

end
end Go.Abs
end

section
/- One operation over abstract values: what is handed on becomes data; rows that grow; rows that are made. -/
set_option linter.unusedVariables false
set_option linter.unusedSimpArgs false
namespace Go.Abs
open Go.RowKit

section
variable {P : Program} {T : Tab} {c : Ctx} {φ : Nat → Lay} {s : Sto} {n : Nat} {w : World} {K : AV → Sto → Nat → Prop}

/-! Handed on: data. -/
def toC0 (s : Sto) : AV → Option (DV × Sto)
  | .dat d => some (d, s)
  | .nil => some (.lst [], s)
  | .own k => match get k s with
    | some (.row e sz es _) => some (.lst es, set k (.row e sz es true) s)
    | _ => none
  | .ptr k off => match get k s with
    | some (.box xs _ ot) => match dats0 xs with
      | some ds => some (.cptr (ds.drop off), set k (.box xs true ot) s)
      | none => none
    | _ => none
  | _ => none

def toCs0 (s : Sto) : List AV → Option (List DV × Sto)
  | [] => some ([], s)
  | x :: xs => match toC0 s x with
    | some (d, s1) => match toCs0 s1 xs with
      | some (ds, s2) => some (d :: ds, s2)
      | none => none
    | none => none

def toC (s : Sto) : AV → Option (DV × Sto)
  | .clo f caps => match toCs0 s caps with
    | some (ds, s1) => some (.fn f ds, s1)
    | none => none
  | x => toC0 s x

def toCs (s : Sto) : List AV → Option (List DV × Sto)
  | [] => some ([], s)
  | x :: xs => match toC s x with
    | some (d, s1) => match toCs s1 xs with
      | some (ds, s2) => some (d :: ds, s2)
      | none => none
    | none => none

def toA (s : Sto) : AV → Option (AV × Sto)
  | .agg xs => match toCs s xs with
    | some (ds, s1) => some (.agg (ds.map .dat), s1)
    | none => none
  | x => match toC s x with
    | some (d, s1) => some (.dat d, s1)
    | none => none

def toAs (s : Sto) : List AV → Option (List AV × Sto)
  | [] => some ([], s)
  | x :: xs => match toA s x with
    | some (d, s1) => match toAs s1 xs with
      | some (ds, s2) => some (d :: ds, s2)
      | none => none
    | none => none

/-- Freezing. -/
theorem Mem.freeze (h : Mem c φ s n w) {k : Nat} {o o' : Obj'} (hk : get k s = some o)
    (ho : (∃ xs f ot, o = .box xs f ot ∧ o' = .box xs true ot) ∨ (∃ e sz es f, o = .row e sz es f ∧ o' = .row e sz es true)) : Goes c φ s n w φ (set k o' s) n w := by
  refine h.turn hk (fun off hp => ?_) h.below (fun _ _ => rfl) (fun _ _ _ hv => hv) (fun hkp => ?_)
  · rcases ho with ⟨xs, f, ot, rfl, rfl⟩ | ⟨e, sz, es, f, rfl, rfl⟩
    · rfl
    · exact ⟨rfl, hp.2⟩
  · obtain ⟨h1, h2, h3⟩ := h.obj k o hk
    have := h3.keep hkp (fun _ _ => rfl) h2 (Nat.le_refl _) rfl
    rcases ho with ⟨xs, f, ot, rfl, rfl⟩ | ⟨e, sz, es, f, rfl, rfl⟩ <;> exact this

theorem row_rd (h : Mem c φ s n w) {k : Nat} {e : TypeId} {sz : Nat} {es : List (List DV)} (hk : get k s = some (.row e sz es true)) :
    RD (c.AA φ s) w (.lst es) (.slice (some ⟨(φ k).b, 0, none⟩) (φ k).len (φ k).cap) := by
  obtain ⟨hb, hn, hz, hsz, hes, hlen, cur, hh, hcl, hlc, _, h1, hv⟩ := h.obj k _ hk
  rw [← hlen]
  have hmul : es.length * sz ≤ (φ k).cap * sz := Nat.mul_le_mul_right _ (by omega)
  refine .lst es (φ k).b 0 sz (φ k).cap (fun j => cur.getD j undef) hes hz (by omega) (fun j hj => ⟨?_, ⟨.inr hb, h.nhid hk _⟩, fun i x hi he => ?_⟩) (fun i el j d hi hj => hv i el j d hi hj)
  · rw [cell_of_row w _ _ _ _ _ hh, Nat.zero_add]
    have : j < cur.length := by omega
    simp [List.getD, List.getElem?_eq_getElem this]
  · have := h.inj i k x _ hi hk he
    subst this
    rw [hk] at hi; cases hi
    exact ⟨rfl, by omega⟩

theorem toC0_ok (h : Mem c φ s n w) {x : AV} {d : DV} {s' : Sto} (ht : toC0 s x = some (d, s')) :
    Goes c φ s n w φ s' n w ∧ ∀ v, RV φ n (c.AA φ s) w x v → RD (c.AA φ s') w d v := by
  unfold toC0 at ht
  split at ht
  · cases ht; exact ⟨Goes.refl h, fun v hv => by cases hv; assumption⟩
  · cases ht; exact ⟨Goes.refl h, fun v hv => by cases hv; exact .emp _ _⟩
  · rename_i k
    split at ht
    · rename_i e sz es f hk
      cases ht
      have hf := h.freeze hk (.inr ⟨e, sz, es, f, rfl, rfl⟩)
      refine ⟨hf, fun v hv => ?_⟩
      cases hv
      exact row_rd hf.mem (e := e) (sz := sz) (by rw [get_set, if_pos rfl, hk]; rfl)
    · cases ht
  · rename_i k off
    split at ht
    · rename_i xs f ot hk
      split at ht
      · rename_i ds hds
        cases ht
        have hf := h.freeze hk (.inl ⟨xs, f, ot, rfl, rfl⟩)
        refine ⟨hf, fun v hv => ?_⟩
        cases hv
        have hk' : get k (set k (.box xs true ot) s) = some (.box xs true ot) := by rw [get_set, if_pos rfl, hk]; rfl
        obtain ⟨hb, hn, vs, ty, hh, hl, h1, hvv⟩ := hf.mem.obj k _ hk'
        obtain ⟨d1, d2⟩ := dats0_spec hds
        refine .cptr _ (φ k).b off (fun j => vs.getD (off + j) undef) (fun j hj => ⟨?_, ⟨.inr hb, hf.mem.nhid hk' _⟩, fun i x hi he => ?_⟩) (fun j d hj => ?_)
        · have : off + j < vs.length := by simp at hj; omega
          rw [cell_of_row w _ _ _ _ _ hh]
          simp [List.getD, List.getElem?_eq_getElem this]
        · have := hf.mem.inj i k x _ hi hk' he
          subst this
          rw [hk'] at hi; cases hi; rfl
        · rw [List.getElem?_drop] at hj
          obtain ⟨x, x1, x2⟩ := d2 _ _ hj
          exact dat0_rv (hvv _ _ x1) x2
      · cases ht
    · cases ht
  · cases ht

theorem toCs0_ok : ∀ {xs : List AV} {s : Sto} {ds : List DV} {s' : Sto} (h : Mem c φ s n w), toCs0 s xs = some (ds, s') →
    Goes c φ s n w φ s' n w ∧ ds.length = xs.length ∧ ∀ (vs : List Value), (∀ j x, xs[j]? = some x → RV φ n (c.AA φ s) w x (vs.getD j undef)) → ∀ (j : Nat) (d : DV), ds[j]? = some d → RD (c.AA φ s') w d (vs.getD j undef)
  | [], s, ds, s', h, ht => by simp only [toCs0, Option.some.injEq, Prod.mk.injEq] at ht; obtain ⟨rfl, rfl⟩ := ht; exact ⟨Goes.refl h, rfl, fun vs _ j d hj => by simp at hj⟩
  | x :: xs, s, ds, s', h, ht => by
    unfold toCs0 at ht
    split at ht
    · rename_i d s1 h1
      split at ht
      · rename_i ds' s2 h2
        cases ht
        obtain ⟨g1, r1⟩ := toC0_ok h h1
        obtain ⟨g2, l2, r2⟩ := toCs0_ok g1.mem h2
        refine ⟨g1.trans g2, by simp [l2], fun vs hv j e hj => ?_⟩
        cases j with
        | zero => simp at hj; subst hj; exact (r1 _ (hv 0 x rfl)).keep g2.keeps
        | succ j =>
          simp at hj
          have := r2 (vs.drop 1) (fun j y hy => by have := g1.rv (hv (j + 1) y (by simpa using hy)); simpa [List.getD, Nat.add_comm 1 j] using this) j e hj
          simpa [List.getD, Nat.add_comm 1 j] using this
      · cases ht
    · cases ht

theorem toC_ok (h : Mem c φ s n w) {x : AV} {d : DV} {s' : Sto} (ht : toC s x = some (d, s')) :
    Goes c φ s n w φ s' n w ∧ ∀ v, RV φ n (c.AA φ s) w x v → RD (c.AA φ s') w d v := by
  unfold toC at ht
  split at ht
  · rename_i f caps
    split at ht
    · rename_i ds s1 h1
      cases ht
      obtain ⟨g, l, r⟩ := toCs0_ok h h1
      refine ⟨g, fun v hv => ?_⟩
      cases hv with
      | clo _ _ vs hl hvv => exact .fn f ds vs (by omega) (r vs hvv)
    · cases ht
  · exact toC0_ok h ht

theorem toCs_ok : ∀ {xs : List AV} {s : Sto} {ds : List DV} {s' : Sto} (h : Mem c φ s n w), toCs s xs = some (ds, s') →
    Goes c φ s n w φ s' n w ∧ ds.length = xs.length ∧ ∀ (vs : List Value), (∀ j x, xs[j]? = some x → RV φ n (c.AA φ s) w x (vs.getD j undef)) → ∀ (j : Nat) (d : DV), ds[j]? = some d → RD (c.AA φ s') w d (vs.getD j undef)
  | [], s, ds, s', h, ht => by simp only [toCs, Option.some.injEq, Prod.mk.injEq] at ht; obtain ⟨rfl, rfl⟩ := ht; exact ⟨Goes.refl h, rfl, fun vs _ j d hj => by simp at hj⟩
  | x :: xs, s, ds, s', h, ht => by
    unfold toCs at ht
    split at ht
    · rename_i d s1 h1
      split at ht
      · rename_i ds' s2 h2
        cases ht
        obtain ⟨g1, r1⟩ := toC_ok h h1
        obtain ⟨g2, l2, r2⟩ := toCs_ok g1.mem h2
        refine ⟨g1.trans g2, by simp [l2], fun vs hv j e hj => ?_⟩
        cases j with
        | zero => simp at hj; subst hj; exact (r1 _ (hv 0 x rfl)).keep g2.keeps
        | succ j =>
          simp at hj
          have := r2 (vs.drop 1) (fun j y hy => by have := g1.rv (hv (j + 1) y (by simpa using hy)); simpa [List.getD, Nat.add_comm 1 j] using this) j e hj
          simpa [List.getD, Nat.add_comm 1 j] using this
      · cases ht
    · cases ht

/-- Data alone: the relation hangs on no names. -/
theorem toA_ok (h : Mem c φ s n w) {x y : AV} {s' : Sto} (ht : toA s x = some (y, s')) :
    Goes c φ s n w φ s' n w ∧ ∀ v, RV φ n (c.AA φ s) w x v → RV φ 0 (c.AA φ s') w y v := by
  unfold toA at ht
  split at ht
  · rename_i xs
    split at ht
    · rename_i ds s1 h1
      cases ht
      obtain ⟨g, l, r⟩ := toCs_ok h h1
      refine ⟨g, fun v hv => ?_⟩
      cases hv with
      | agg _ vs hl hvv h1' =>
        refine .agg _ vs (by simp; omega) (fun j x hj => ?_) h1'
        rw [List.getElem?_map] at hj
        cases hd : ds[j]? with
        | none => rw [hd] at hj; simp at hj
        | some d => rw [hd] at hj; simp at hj; subst hj; exact .dat _ _ (r vs hvv j d hd)
    · cases ht
  · split at ht
    · rename_i d s1 h1
      cases ht
      obtain ⟨g, r⟩ := toC_ok h h1
      exact ⟨g, fun v hv => .dat _ _ (r v hv)⟩
    · cases ht

theorem toAs_ok : ∀ {xs : List AV} {s : Sto} {ys : List AV} {s' : Sto} (h : Mem c φ s n w), toAs s xs = some (ys, s') →
    Goes c φ s n w φ s' n w ∧ ys.length = xs.length ∧ ∀ (vs : List Value), (∀ j x, xs[j]? = some x → RV φ n (c.AA φ s) w x (vs.getD j undef)) → ∀ (j : Nat) (y : AV), ys[j]? = some y → RV φ 0 (c.AA φ s') w y (vs.getD j undef)
  | [], s, ds, s', h, ht => by simp only [toAs, Option.some.injEq, Prod.mk.injEq] at ht; obtain ⟨rfl, rfl⟩ := ht; exact ⟨Goes.refl h, rfl, fun vs _ j d hj => by simp at hj⟩
  | x :: xs, s, ds, s', h, ht => by
    unfold toAs at ht
    split at ht
    · rename_i d s1 h1
      split at ht
      · rename_i ds' s2 h2
        cases ht
        obtain ⟨g1, r1⟩ := toA_ok h h1
        obtain ⟨g2, l2, r2⟩ := toAs_ok g1.mem h2
        refine ⟨g1.trans g2, by simp [l2], fun vs hv j e hj => ?_⟩
        cases j with
        | zero => simp at hj; subst hj; exact (r1 _ (hv 0 x rfl)).keep g2.keeps (fun i hi => by omega) (Nat.le_refl _)
        | succ j =>
          simp at hj
          have := r2 (vs.drop 1) (fun j y hy => by have := g1.rv (hv (j + 1) y (by simpa using hy)); simpa [List.getD, Nat.add_comm 1 j] using this) j e hj
          simpa [List.getD, Nat.add_comm 1 j] using this
      · cases ht
    · cases ht

/-! Rows that grow. -/
theorem Mem.renew (h : Mem c φ s n w) {w' : World} {k : Nat} {o o' : Obj'} (hk : get k s = some o) (l : Lay) (hl : l.b = (φ k).b)
    (hp : ∀ off, o.permits off → o'.permits off) (hb : Below c.w0.heap.size c.w0 w') (hoth : ∀ b, b ≠ (φ k).b → w'.heap[b]? = w.heap[b]?)
    (hin : ∀ off v, o.permits off → w.cell? ⟨(φ k).b, off, none⟩ = some v → w'.cell? ⟨(φ k).b, off, none⟩ = some v)
    (ho : Keeps (c.AA φ s) w (c.AA (upd φ n l) ((n, o') :: del k s)) w' → ObjOk c (upd φ n l) ((n, o') :: del k s) (n + 1) w' n o') :
    Goes c φ s n w (upd φ n l) ((n, o') :: del k s) (n + 1) w' := by
  have hsame : ∀ i, i < n → upd φ n l i = φ i := fun i hi => upd_old _ _ _ hi
  have hget : ∀ i x, get i ((n, o') :: del k s) = some x → (i = n ∧ x = o') ∨ (i ≠ n ∧ i ≠ k ∧ get i s = some x) := by
    intro i x hx
    rw [get_cons, get_del] at hx
    by_cases hi : n = i
    · subst hi; rw [if_pos rfl] at hx; cases hx; exact .inl ⟨rfl, rfl⟩
    · rw [if_neg hi] at hx
      by_cases hi' : i = k
      · simp [hi'] at hx
      · rw [if_neg hi'] at hx; exact .inr ⟨Ne.symm hi, hi', hx⟩
  have hkp : Keeps (c.AA φ s) w (c.AA (upd φ n l) ((n, o') :: del k s)) w' := by
    intro b off v ha hv
    refine ⟨⟨ha.1, fun i x hx he => ?_⟩, ?_⟩
    · rcases hget i x hx with ⟨rfl, rfl⟩ | ⟨h1, h2, h3⟩
      · rw [upd_new, hl] at he; exact hp _ (ha.2 k o hk he)
      · rw [hsame i (h.obj i x h3).2.1] at he; exact ha.2 i x h3 he
    · by_cases hbb : b = (φ k).b
      · subst hbb; exact hin off v (ha.2 k o hk rfl) hv
      · rw [World.cell?_of_block (w := w) (hoth b hbb)]; exact hv
  have hoth' : KeepsOthers w w' := othersOf (h.obj k o hk).2.2 (by have := (ho hkp).lt; rw [upd_new, hl] at this; exact this) hoth
  refine ⟨hsame, by omega, hkp, ⟨hb, fun i x hx => ?_, fun i j oi oj hoi hoj he => ?_, h.oth.trans hoth', fun b o v hp => hkp b o v (h.pin b o v hp).1 (h.pin b o v hp).2, h.fv_keep hkp hsame (by omega), h.hld.keep (fun b ob hb _ => hoth b fun e => (h.hld.1 b ob hb).2.2 k o hk e.symm) fun i x hx => by
    rcases hget i x hx with ⟨rfl, rfl⟩ | ⟨h1, h2, h3⟩
    · exact .inl ⟨k, o, hk, by rw [upd_new, hl]⟩
    · exact .inl ⟨i, x, h3, by rw [hsame i (h.obj i x h3).2.1]⟩, h.gw⟩, hoth'⟩
  · rcases hget i x hx with ⟨rfl, rfl⟩ | ⟨h1, h2, h3⟩
    · exact ⟨by rw [upd_new, hl]; exact (h.obj k o hk).1, by omega, ho hkp⟩
    · obtain ⟨a1, a2, a3⟩ := h.obj i x h3
      refine ⟨by rw [hsame i a2]; exact a1, by omega, a3.keep hkp hsame a2 (by omega) (hoth _ (fun e => h2 (h.inj i k x o h3 hk e)))⟩
  · rcases hget i oi hoi with ⟨rfl, rfl⟩ | ⟨h1, h2, h3⟩ <;> rcases hget j oj hoj with ⟨rfl, rfl⟩ | ⟨h1', h2', h3'⟩
    · rfl
    · rw [upd_new, hl, hsame j (h.obj j oj h3').2.1] at he
      exact absurd (h.inj k j o oj hk h3' he) (Ne.symm h2')
    · rw [upd_new, hl, hsame i (h.obj i oi h3).2.1] at he
      exact absurd (h.inj i k oi o h3 hk he) h2
    · rw [hsame i (h.obj i oi h3).2.1, hsame j (h.obj j oj h3').2.1] at he
      exact h.inj i j oi oj h3 h3' he

end
end Go.Abs
end

section
/- One operation over abstract values: append, make, slices and structs written out. -/
set_option linter.unusedVariables false
set_option linter.unusedSimpArgs false
namespace Go.Abs
open Go.RowKit

section
variable {P : Program} {T : Tab} {c : Ctx} {φ : Nat → Lay} {s : Sto} {n : Nat} {w : World} {K : AV → Sto → Nat → Prop}

/-- What is appended. -/
def srcE (s : Sto) : AV → Option (List (List DV))
  | .dat (.lst es) => some es
  | .nil => some []
  | .own k => match get k s with
    | some (.row _ _ es _) => some es
    | _ => none
  | _ => none

theorem srcE_ok (h : Mem c φ s n w) {y : AV} {es : List (List DV)} {v : Value} (hy : RV φ n (c.AA φ s) w y v) (hs : srcE s y = some es) :
    (es = [] ∧ ∃ a cap, v = .slice a 0 cap) ∨ ∃ b o sz cap, ∃ vs : Nat → Value, v = .slice (some ⟨b, o, none⟩) es.length cap ∧ 0 < sz ∧ (∀ e ∈ es, e.length = sz) ∧ (∀ j, j < es.length * sz → w.cell? ⟨b, o + j, none⟩ = some (vs j) ∧ (vs j).oneCell' = true) ∧
      ∀ (i : Nat) (e : List DV) (j : Nat) (d : DV), es[i]? = some e → e[j]? = some d → RD (c.AA φ s) w d (vs (i * sz + j)) := by
  unfold srcE at hs
  split at hs
  · cases hs
    cases hy with
    | dat _ _ hd =>
      cases hd with
      | emp a cap => exact .inl ⟨rfl, a, cap, rfl⟩
      | lst _ b o sz cap vs hsz hz hc hm hd =>
        refine .inr ⟨b, o, sz, cap, vs, rfl, hz, hsz, fun j hj => ⟨(hm j hj).1, ?_⟩, hd⟩
        have hi : j / sz < es.length := Nat.div_lt_of_lt_mul (by rw [Nat.mul_comm]; exact hj)
        have hmod : j % sz < es[j / sz].length := by rw [hsz _ (List.getElem_mem hi)]; exact Nat.mod_lt _ hz
        have := hd (j / sz) _ (j % sz) _ (List.getElem?_eq_getElem hi) (List.getElem?_eq_getElem hmod)
        rw [Nat.div_add_mod' j sz] at this
        exact this.one
  · cases hs; cases hy; exact .inl ⟨rfl, none, 0, rfl⟩
  · rename_i k
    split at hs
    · rename_i e sz es' f hk
      cases hs
      obtain ⟨hb, hn, hz, hsz, hes, hlen, cur, hh, hcl, hlc, _, h1, hv⟩ := h.obj k _ hk
      cases hy
      rw [← hlen]
      have hmul : es.length * sz ≤ (φ k).cap * sz := Nat.mul_le_mul_right _ (by omega)
      refine .inr ⟨(φ k).b, 0, sz, (φ k).cap, fun j => cur.getD j undef, rfl, hz, hes, fun j hj => ?_, fun i e j d hi hj => hv i e j d hi hj⟩
      have : j < cur.length := by omega
      rw [cell_of_row w _ _ _ _ _ hh, Nat.zero_add]
      refine ⟨by simp [List.getD, List.getElem?_eq_getElem this], h1 _ ?_⟩
      simp [List.getD, List.getElem?_eq_getElem this]
    · cases hs
  · cases hs

def appK (T : Tab) (t : TypeId) (x y : AV) (s : Sto) (n : Nat) (K : AV → Sto → Nat → Prop) : Prop :=
  match tget t T, srcE s y with
  | some i, some es2 => match i.desc with
    | .slice e => match tget e T with
      | some j => j.bytes ≤ 128 ∧ j.zv.cells.size = j.size ∧ j.zv.cells.toList.all Value.oneCell' = true ∧ 0 < j.size ∧ match x with
        | .nil => (es2 = [] → K .nil s n) ∧ (es2 ≠ [] → es2.length ≤ 1099511627776 ∧ (∀ el ∈ es2, el.length = j.size) ∧ K (.own n) ((n, .row e j.size es2 false) :: s) (n + 1))
        | .own k => match get k s with
          | some (.row e' sz es f) => e' = e ∧ sz = j.size ∧ (es2 = [] → K (.own k) s n) ∧
              (es2 ≠ [] → es.length + es2.length ≤ 1099511627776 ∧ (∀ el ∈ es2, el.length = j.size) ∧ K (.own n) ((n, .row e j.size (es ++ es2) f) :: del k s) (n + 1))
          | _ => False
        | _ => False
      | none => False
    | _ => False
  | _, _ => False

theorem run_app_nothing {t e ty : TypeId} {i : TypeInfo} (ht : P.underlying t = some (.slice e)) (hi : P.info? e = some i) (base a : Option Addr) (len cap c : Nat) (hle : len ≤ cap) :
    (Builtin.append_ #[t, t] ty #[.slice base len cap, .slice a 0 c]).run P w = .ok (.slice base len cap) w := by
  cases a <;> cases base <;> simp [Builtin.append_, run_underlying ht, sizeOf, typeInfo, hi, Builtin.lenOf, hle, Builtin.firstCells, loadCells, loadCellsFrom, storeCells]

theorem zeroCells_one (z : Array Value) (m : Nat) (h : ∀ u ∈ z.toList, u.oneCell' = true) (hz : 0 < z.size) : ∀ u ∈ (Builtin.zeroCells z m).toList, u.oneCell' = true := by
  intro u hu
  simp only [Builtin.zeroCells, Array.toList_map, List.mem_map] at hu
  obtain ⟨j, _, rfl⟩ := hu
  have hj : j % z.size < z.size := Nat.mod_lt _ hz
  rw [getElem!_pos z (j % z.size) hj]
  exact h _ (by simp)

/-- A new row of the call's own. -/
theorem new_row (hm : Mem c φ s n w) (cs : Array Value) (e : TypeId) (sz len cap : Nat) (es : List (List DV)) (f : Bool) (hz : 0 < sz) (hes : ∀ el ∈ es, el.length = sz) (hlen : es.length = len) (hcs : cs.size = cap * sz) (hle : len ≤ cap) (hml : cap ≤ maxLen)
    (h1 : ∀ u ∈ cs.toList, u.oneCell' = true) (hv : ∀ (k : Nat) (el : List DV) (j : Nat) (d : DV), es[k]? = some el → el[j]? = some d → RD (c.AA φ s) w d (cs.toList.getD (k * sz + j) undef)) :
    Goes c φ s n w (upd φ n { b := w.heap.size, len, cap, sz }) ((n, .row e sz es f) :: s) (n + 1) (w.alloc (.cells cs e)) := by
  refine hm.alloc (.row e sz es f) _ _ rfl fun hk => ?_
  simp only [ObjOk, upd_new]
  refine ⟨hz, trivial, hes, hlen, cs.toList, ?_, by simpa using hcs, hle, hml, h1, fun k el j d a b => (hv k el j d a b).keep hk⟩
  simpa using heap_alloc_new w (.cells cs e)

theorem news_get {es es2 : List (List DV)} {sz : Nat} (hes : ∀ e ∈ es, e.length = sz) (hes2 : ∀ e ∈ es2, e.length = sz) {k j : Nat} {el : List DV} {d : DV} (hk : (es ++ es2)[k]? = some el) (hj : el[j]? = some d) :
    (k < es.length ∧ es[k]? = some el ∧ k * sz + j < es.length * sz) ∨ (es.length ≤ k ∧ es2[k - es.length]? = some el ∧ es.length * sz ≤ k * sz + j ∧ k * sz + j < (es.length + es2.length) * sz ∧ k * sz + j - es.length * sz = (k - es.length) * sz + j) := by
  by_cases h : k < es.length
  · rw [List.getElem?_append_left h] at hk
    refine .inl ⟨h, hk, ?_⟩
    have h1 : j < sz := by rw [← hes _ (List.mem_of_getElem? hk)]; exact (List.getElem?_eq_some_iff.1 hj).1
    have : (k + 1) * sz ≤ es.length * sz := Nat.mul_le_mul_right _ h
    rw [Nat.add_mul, Nat.one_mul] at this; omega
  · rw [List.getElem?_append_right (by omega)] at hk
    have h1 : j < sz := by rw [← hes2 _ (List.mem_of_getElem? hk)]; exact (List.getElem?_eq_some_iff.1 hj).1
    have h2 : k - es.length < es2.length := (List.getElem?_eq_some_iff.1 hk).1
    have h3 : (k + 1) * sz ≤ (es.length + es2.length) * sz := Nat.mul_le_mul_right _ (by omega)
    rw [Nat.add_mul, Nat.one_mul] at h3
    have h4 : k * sz = es.length * sz + (k - es.length) * sz := by rw [← Nat.add_mul]; congr 1; omega
    exact .inr ⟨by omega, hk, by omega, by omega, by omega⟩

theorem appK_ok (hT : TabOk P T) {t ty : TypeId} {x y : AV} {u v : Value} (hm : Mem c φ s n w) (hx : RV φ n (c.AA φ s) w x u) (hy : RV φ n (c.AA φ s) w y v) (h : appK T t x y s n K) :
    Ope P c φ s n w (Builtin.append_ #[t, t] ty #[u, v]) K := by
  unfold appK at h
  split at h
  case h_2 => exact h.elim
  rename_i i es2 ht hsrc
  split at h
  case h_2 => exact h.elim
  rename_i e hd
  split at h
  case h_2 => exact h.elim
  rename_i j hj
  obtain ⟨hby, hzs, hz1, hsz0, h⟩ := h
  have hu := (hT _ _ ht).2; rw [hd] at hu
  obtain ⟨inf, hi, hiz, his, hib⟩ := (hT _ _ hj).info
  have hz1' : ∀ u ∈ j.zv.cells.toList, u.oneCell' = true := fun u hu => (List.all_eq_true.1 hz1) u hu
  have hbytes : ∀ m, m ≤ 1099511627776 → m * inf.bytes ≤ 140737488355328 := fun m hm => by
    rw [hib]
    calc m * j.bytes ≤ 1099511627776 * 128 := Nat.mul_le_mul hm hby
      _ = 140737488355328 := by decide
  split at h
  · -- nil
    cases hx
    by_cases he : es2 = []
    · subst he
      rcases srcE_ok hm hy hsrc with ⟨_, a, cap, rfl⟩ | ⟨b, o, sz, cap, vs, rfl, _⟩
      · exact ⟨_, _, _, _, _, _, run_app_nothing hu hi _ _ _ _ _ (Nat.le_refl _), Goes.refl hm, .nil, h.1 rfl⟩
      · exact ⟨_, _, _, _, _, _, run_app_nothing hu hi _ _ _ _ _ (Nat.le_refl _), Goes.refl hm, .nil, h.1 rfl⟩
    · obtain ⟨hlc, hel, h⟩ := h.2 he
      rcases srcE_ok hm hy hsrc with ⟨h0, _⟩ | ⟨b, o, sz, cap, vs, rfl, hz, hes2, hc, hr⟩
      · exact absurd h0 he
      · have hpos : 0 < es2.length := List.length_pos_iff.2 he
        have hszj : sz = j.size := by
          have h0 := hes2 _ (List.getElem_mem hpos)
          have h1 := hel _ (List.getElem_mem hpos)
          omega
        subst hszj
        have hrun := run_append_nil (P := P) w t ty e inf j.zv hu hi hiz ⟨b, o, none⟩ es2.length cap ((List.range (es2.length * j.size)).map vs) (by rw [his]; simp)
          (fun q v hq => by
            rw [List.getElem?_map] at hq
            have hq' : q < es2.length * j.size := by
              rcases Nat.lt_or_ge q (es2.length * j.size) with h | h
              · exact h
              · rw [List.getElem?_eq_none (by simpa using h)] at hq; simp at hq
            rw [List.getElem?_range hq'] at hq
            simp at hq; subst hq
            rw [Addr.add_lit]; exact (hc q hq').1) hpos (by omega) (by have := hbytes es2.length hlc; omega)
        have g1 := hm.grown (w' := w.drew) ((Below.refl _ w).drew)
        have hge := grownCap_ge w es2.length 0 e
        have g2 := new_row g1.mem ((((List.range (es2.length * j.size)).map vs).toArray ++ Builtin.zeroCells j.zv.cells (grownCap w es2.length 0 e - es2.length))) e j.size es2.length (grownCap w es2.length 0 e) es2 false hz hes2 rfl
          (by simp only [Array.size_append, List.size_toArray, List.length_map, List.length_range, size_zeroCells, hzs, ← Nat.add_mul]; congr 1; omega) hge (grownCap_le_maxLen w _ _ e (by simp only [maxLen]; omega))
          (fun u hu => by
            simp only [Array.toList_append, List.mem_append, List.mem_map, List.mem_range] at hu
            rcases hu with ⟨q, hq, rfl⟩ | hu
            · exact (hc q hq).2
            · exact zeroCells_one _ _ hz1' (by omega) u hu)
          (fun k el q d hk hq => by
            have h1 : q < j.size := by rw [← hes2 _ (List.mem_of_getElem? hk)]; exact (List.getElem?_eq_some_iff.1 hq).1
            have h2 : k < es2.length := (List.getElem?_eq_some_iff.1 hk).1
            have h3 : (k + 1) * j.size ≤ es2.length * j.size := Nat.mul_le_mul_right _ h2
            rw [Nat.add_mul, Nat.one_mul] at h3
            have h4 : k * j.size + q < es2.length * j.size := by omega
            have : ((((List.range (es2.length * j.size)).map vs).toArray ++ Builtin.zeroCells j.zv.cells (grownCap w es2.length 0 e - es2.length))).toList.getD (k * j.size + q) undef = vs (k * j.size + q) := by
              simp [List.getD, List.getElem?_append, h4]
            rw [this]
            exact (hr k el q d hk hq).keep g1.keeps)
        refine ⟨.own n, _, _, _, _, _, hrun, g1.trans g2, ?_, h⟩
        have := RV.own (φ := upd φ n { b := w.drew.heap.size, len := es2.length, cap := grownCap w es2.length 0 e, sz := j.size }) (n := n + 1) (A := c.AA (upd φ n { b := w.drew.heap.size, len := es2.length, cap := grownCap w es2.length 0 e, sz := j.size }) ((n, .row e j.size es2 false) :: s)) (w := w.drew.alloc (.cells (((List.range (es2.length * j.size)).map vs).toArray ++ Builtin.zeroCells j.zv.cells (grownCap w es2.length 0 e - es2.length)) e)) n (by omega)
        rw [upd_new] at this
        exact this
  · -- own
    rename_i k
    split at h
    case h_2 => exact h.elim
    rename_i e' sz es f hk
    obtain ⟨rfl, rfl, h⟩ := h
    obtain ⟨hb, hn, hz, hsz, hes, hlen, cur, hh, hcl, hlc, hml, h1, hv⟩ := hm.obj k _ hk
    cases hx with
    | own _ _ =>
    by_cases he : es2 = []
    · subst he
      rcases srcE_ok hm hy hsrc with ⟨_, a, cap, rfl⟩ | ⟨b, o, sz, cap, vs, rfl, _⟩
      · exact ⟨_, _, _, _, _, _, run_app_nothing hu hi _ _ _ _ _ hlc, Goes.refl hm, .own k hn, h.1 rfl⟩
      · exact ⟨_, _, _, _, _, _, run_app_nothing hu hi _ _ _ _ _ hlc, Goes.refl hm, .own k hn, h.1 rfl⟩
    · obtain ⟨hlc', hel, h⟩ := h.2 he
      rcases srcE_ok hm hy hsrc with ⟨h0, _⟩ | ⟨b, o, sz, cap, vs, rfl, hz', hes2, hc, hr⟩
      · exact absurd h0 he
      · have hpos : 0 < es2.length := List.length_pos_iff.2 he
        have hszj : sz = j.size := by
          have h0 := hes2 _ (List.getElem_mem hpos)
          have h1 := hel _ (List.getElem_mem hpos)
          omega
        subst hszj
        have hnews : ∀ q v, ((List.range (es2.length * j.size)).map vs)[q]? = some v → w.cell? ((⟨b, o, none⟩ : Addr).add q) = some v := fun q v hq => by
          rw [List.getElem?_map] at hq
          have hq' : q < es2.length * j.size := by
            rcases Nat.lt_or_ge q (es2.length * j.size) with h | h
            · exact h
            · rw [List.getElem?_eq_none (by simpa using h)] at hq; simp at hq
          rw [List.getElem?_range hq'] at hq
          simp at hq; subst hq
          rw [Addr.add_lit]; exact (hc q hq').1
        have hnews1 : ∀ u ∈ (List.range (es2.length * j.size)).map vs, u.oneCell' = true := fun u hu => by
          obtain ⟨q, hq, rfl⟩ := List.mem_map.1 hu
          exact (hc q (by simpa using hq)).2
        have hmulc : es.length * j.size ≤ (φ k).cap * j.size := Nat.mul_le_mul_right _ (by omega)
        have hallsz : ∀ e ∈ es ++ es2, e.length = j.size := fun e he' => by
          rcases List.mem_append.1 he' with h | h
          · exact hes e h
          · exact hes2 e h
        by_cases hroom : (φ k).len + es2.length ≤ (φ k).cap
        · have hmulr : (es.length + es2.length) * j.size ≤ (φ k).cap * j.size := Nat.mul_le_mul_right _ (by omega)
          have hrun := run_append_room (P := P) w t ty e' inf hu hi (φ k).b (φ k).len (φ k).cap cur.toArray hh ⟨b, o, none⟩ es2.length cap ((List.range (es2.length * j.size)).map vs) (by rw [his]; simp) hnews hnews1 hroom
            (by rw [his, ← hlen]; simp; rw [Nat.add_mul] at hmulr; omega)
          rw [his, ← hlen] at hrun
          have g := hm.renew (w' := w.setRow (φ k).b (cur.take (es.length * j.size) ++ (List.range (es2.length * j.size)).map vs ++ cur.drop (es.length * j.size + ((List.range (es2.length * j.size)).map vs).length)).toArray) (o' := .row e' j.size (es ++ es2) f) hk
            { b := (φ k).b, len := es.length + es2.length, cap := (φ k).cap, sz := j.size } rfl (fun off hp => ⟨hp.1, by have := hp.2; simp only [List.length_append, Nat.add_mul]; omega⟩) (below_setRow' hm.below hb _) (fun b' hb' => setRow_other _ _ _ _ hb')
            (fun off v' hp hv' => by
              have hp2 := hp.2
              rw [cell_of_row w _ _ _ _ _ hh] at hv'
              rw [cell_of_row _ _ _ _ _ _ (setRow_heap _ _ _ _ _ _ hh)]
              simp only [List.getElem?_toArray] at hv' ⊢
              rw [List.append_assoc, List.getElem?_append_left (by simp; omega), List.getElem?_take, if_pos hp2]
              exact hv')
            (fun hkp => by
              simp only [ObjOk, upd_new]
              refine ⟨hz, trivial, hallsz, by simp, _, setRow_heap _ _ _ _ _ _ hh, ?_, by omega, hml, fun u hu => ?_, fun k' el q d hk' hq => ?_⟩
              · simp only [List.length_append, List.length_take, List.length_map, List.length_range, List.length_drop]; rw [Nat.add_mul] at hmulr; omega
              · rcases splice_mem hu with h' | h'
                · exact h1 u h'
                · exact hnews1 u h'
              · rw [splice_getD _ _ _ _ _ (by simp; rw [Nat.add_mul] at hmulr; omega)]
                rcases news_get hes hes2 hk' hq with ⟨a1, a2, a3⟩ | ⟨a1, a2, a3, a4, a5⟩
                · rw [if_neg (by omega)]; exact (hv _ _ _ _ a2 hq).keep hkp
                · rw [Nat.add_mul] at a4
                  rw [if_pos (by simp; omega), a5]
                  have hlt : (k' - es.length) * j.size + q < es2.length * j.size := by omega
                  have : ((List.range (es2.length * j.size)).map vs).getD ((k' - es.length) * j.size + q) undef = vs ((k' - es.length) * j.size + q) := by simp [List.getD, hlt]
                  rw [this]
                  exact (hr _ _ _ _ a2 hq).keep hkp)
          refine ⟨.own n, _, _, _, _, _, by rw [← hlen]; exact hrun, g, ?_, h⟩
          have := RV.own (φ := upd φ n { b := (φ k).b, len := es.length + es2.length, cap := (φ k).cap, sz := j.size }) (n := n + 1) (A := c.AA (upd φ n { b := (φ k).b, len := es.length + es2.length, cap := (φ k).cap, sz := j.size }) ((n, .row e' j.size (es ++ es2) f) :: del k s))
            (w := w.setRow (φ k).b (cur.take (es.length * j.size) ++ (List.range (es2.length * j.size)).map vs ++ cur.drop (es.length * j.size + ((List.range (es2.length * j.size)).map vs).length)).toArray) n (by omega)
          rw [upd_new] at this
          exact this
        · have holds : ∀ q v, (cur.take (es.length * j.size))[q]? = some v → w.cell? ((⟨(φ k).b, 0, none⟩ : Addr).add q) = some v := fun q v hq => by
            rw [Addr.add_lit, Nat.zero_add, cell_of_row w _ _ _ _ _ hh]
            rw [List.getElem?_take] at hq
            split at hq
            · simpa using hq
            · cases hq
          have hrun := run_append_grow (P := P) w t ty e' inf j.zv hu hi hiz ⟨(φ k).b, 0, none⟩ (φ k).len (φ k).cap (cur.take (es.length * j.size)) (by rw [his, ← hlen]; simp; omega) holds ⟨b, o, none⟩ es2.length cap
            ((List.range (es2.length * j.size)).map vs) (by rw [his]; simp) hnews (by omega) (by omega) (growslice_fits (by omega) (hbytes _ (by omega)))
          rw [← hlen] at hrun
          have g0 := hm.drop k
          have g1 := g0.mem.grown (w' := w.drew) ((Below.refl _ w).drew)
          have g01 := g0.trans g1
          have hge := grownCap_ge w (es.length + es2.length) (φ k).cap e'
          have g2 := new_row g1.mem ((cur.take (es.length * j.size)).toArray ++ ((List.range (es2.length * j.size)).map vs).toArray ++ Builtin.zeroCells j.zv.cells (grownCap w (es.length + es2.length) (φ k).cap e' - (es.length + es2.length))) e' j.size
            (es.length + es2.length) (grownCap w (es.length + es2.length) (φ k).cap e') (es ++ es2) f hz hallsz (by simp)
            (by simp only [Array.size_append, List.size_toArray, List.length_map, List.length_range, size_zeroCells, hzs, List.length_take]
                have : min (es.length * j.size) cur.length = es.length * j.size := by omega
                rw [this, ← Nat.add_mul, ← Nat.add_mul]; congr 1; omega) hge (grownCap_le_maxLen w _ _ e' (by simp only [maxLen]; omega))
            (fun u hu => by
              simp only [Array.toList_append, List.mem_append] at hu
              rcases hu with (hu | hu) | hu
              · exact h1 u (List.mem_of_mem_take (by simpa using hu))
              · exact hnews1 u (by simpa using hu)
              · exact zeroCells_one _ _ hz1' (by omega) u hu)
            (fun k' el q d hk' hq => by
              have hmin : min (es.length * j.size) cur.length = es.length * j.size := by omega
              simp only [Array.toList_append, List.append_assoc]
              rcases news_get hes hes2 hk' hq with ⟨a1, a2, a3⟩ | ⟨a1, a2, a3, a4, a5⟩
              · have : ((cur.take (es.length * j.size)) ++ (((List.range (es2.length * j.size)).map vs) ++ (Builtin.zeroCells j.zv.cells (grownCap w (es.length + es2.length) (φ k).cap e' - (es.length + es2.length))).toList)).getD (k' * j.size + q) undef = cur.getD (k' * j.size + q) undef := by
                  simp only [List.getD]
                  rw [List.getElem?_append_left (by simp; omega), List.getElem?_take, if_pos a3]
                rw [this]
                exact (hv _ _ _ _ a2 hq).keep g01.keeps
              · rw [Nat.add_mul] at a4
                have hlt : (k' - es.length) * j.size + q < es2.length * j.size := by omega
                have : ((cur.take (es.length * j.size)) ++ (((List.range (es2.length * j.size)).map vs) ++ (Builtin.zeroCells j.zv.cells (grownCap w (es.length + es2.length) (φ k).cap e' - (es.length + es2.length))).toList)).getD (k' * j.size + q) undef = vs ((k' - es.length) * j.size + q) := by
                  simp only [List.getD]
                  rw [List.getElem?_append_right (by simp; omega), List.length_take, hmin, a5, List.getElem?_append_left (by simpa using hlt)]
                  simp [hlt]
                rw [this]
                exact (hr _ _ _ _ a2 hq).keep g01.keeps)
          refine ⟨.own n, _, _, _, _, _, by rw [← hlen]; exact hrun, g01.trans g2, ?_, h⟩
          have := RV.own (φ := upd φ n { b := w.drew.heap.size, len := es.length + es2.length, cap := grownCap w (es.length + es2.length) (φ k).cap e', sz := j.size }) (n := n + 1)
            (A := c.AA (upd φ n { b := w.drew.heap.size, len := es.length + es2.length, cap := grownCap w (es.length + es2.length) (φ k).cap e', sz := j.size }) ((n, .row e' j.size (es ++ es2) f) :: del k s))
            (w := w.drew.alloc (.cells ((cur.take (es.length * j.size)).toArray ++ ((List.range (es2.length * j.size)).map vs).toArray ++ Builtin.zeroCells j.zv.cells (grownCap w (es.length + es2.length) (φ k).cap e' - (es.length + es2.length))) e')) n (by omega)
          rw [upd_new] at this
          exact this
  · exact h.elim

end
end Go.Abs
end

section
/- One operation over abstract values: structs and slices written out, make. -/
set_option linter.unusedVariables false
set_option linter.unusedSimpArgs false
namespace Go.Abs
open Go.RowKit

section
variable {P : Program} {T : Tab} {c : Ctx} {φ : Nat → Lay} {s : Sto} {n : Nat} {w : World} {K : AV → Sto → Nat → Prop}

theorem fold_splice : ∀ (l : List Value) (k off : Nat) (arr : Array Value), off + k + l.length ≤ arr.size →
    ((l.zipIdx k).foldl (fun (cs : Array Value) (p : Value × Nat) => cs.setIfInBounds (off + p.2) p.1) arr).toList = arr.toList.take (off + k) ++ l ++ arr.toList.drop (off + k + l.length)
  | [], k, off, arr, h => by simp
  | v :: l, k, off, arr, h => by
    have ih := fold_splice l (k + 1) off (arr.setIfInBounds (off + k) v) (by simp at h ⊢; omega)
    simp only [List.zipIdx_cons, List.foldl_cons]
    rw [ih]
    simp only [List.length_cons] at h
    apply List.ext_getElem?
    intro j
    simp only [Array.toList_setIfInBounds, List.getElem?_append, List.length_take, List.length_set, Array.length_toList, List.getElem?_take, List.getElem?_drop, List.length_append, List.length_cons]
    have e1 : min (off + (k + 1)) arr.size = off + k + 1 := by omega
    have e2 : min (off + k) arr.size = off + k := by omega
    rw [e1, e2]
    by_cases h1 : j < off + k
    · rw [if_pos (by omega), if_pos (by omega), if_pos (by omega), if_pos (by omega), if_pos h1, if_pos h1, List.getElem?_set_ne (by omega)]
    · by_cases h2 : j = off + k
      · subst h2
        rw [if_pos (by omega), if_pos (by omega), if_pos (by omega), if_pos (by omega), if_neg (by omega), List.getElem?_set_self (by simp; omega)]
        simp
      · by_cases h3 : j < off + k + 1 + l.length
        · rw [if_pos (by omega), if_neg (by omega), if_pos (by omega), if_neg (by omega)]
          have : j - (off + k) = (j - (off + k + 1)) + 1 := by omega
          rw [this]; rfl
        · rw [if_neg (by omega), if_neg (by omega), List.getElem?_set_ne (by omega)]
          congr 1; omega

theorem fill_one (place : Nat → Option (Nat × Nat)) (arr : Array Value) (i off size : Nat) (v : Value) (rest : List (Nat × Value)) (hp : place i = some (off, size)) (hs : v.cells.size = size) (hf : off + size ≤ arr.size) :
    ∃ arr', arr'.toList = arr.toList.take off ++ v.cells.toList ++ arr.toList.drop (off + v.cells.toList.length) ∧ Instr.fill place arr ((i, v) :: rest) = Instr.fill place arr' rest := by
  refine ⟨_, ?_, by simp only [Instr.fill, hp]; rw [if_neg]; simp [hs]; omega⟩
  have := fold_splice v.cells.toList 0 off arr (by simp; omega)
  simp only [Nat.add_zero] at this
  rw [← this, ← Array.foldl_toList]
  simp

def fillA (T : Tab) (t : TypeId) : List AV → List (Nat × AV) → Option (List AV)
  | xs, [] => some xs
  | xs, (i, x) :: rest => match fieldOf T t i, cellsA x with
    | some (off, j), some ys => if ys.length = j.size ∧ off + ys.length ≤ xs.length then fillA T t (xs.take off ++ ys ++ xs.drop (off + ys.length)) rest else none
    | _, _ => none

def Cells (φ : Nat → Lay) (n : Nat) (A : Nat → Nat → Prop) (w : World) (xs : List AV) (vs : List Value) : Prop :=
  vs.length = xs.length ∧ (∀ u ∈ vs, u.oneCell' = true) ∧ ∀ j x, xs[j]? = some x → RV φ n A w x (vs.getD j undef)

theorem fillA_ok {A : Nat → Nat → Prop} (place : Nat → Option (Nat × Nat)) (t : TypeId) (hpl : ∀ i off j, fieldOf T t i = some (off, j) → place i = some (off, j.size)) :
    ∀ (ps : List (Nat × AV)) (qs : List (Nat × Value)) (xs xs' : List AV) (arr : Array Value), ps.length = qs.length → (∀ (i : Nat) (p : Nat × AV) (q : Nat × Value), ps[i]? = some p → qs[i]? = some q → p.1 = q.1 ∧ RV φ n A w p.2 q.2) →
      Cells φ n A w xs arr.toList → fillA T t xs ps = some xs' → ∃ arr', Instr.fill place arr qs = some arr' ∧ Cells φ n A w xs' arr'.toList
  | [], [], xs, xs', arr, _, _, hc, h => by simp only [fillA, Option.some.injEq] at h; subst h; exact ⟨arr, rfl, hc⟩
  | [], q :: qs, xs, xs', arr, hl, _, _, _ => by simp at hl
  | p :: ps, [], xs, xs', arr, hl, _, _, _ => by simp at hl
  | (i, x) :: ps, (i', v) :: qs, xs, xs', arr, hl, hr, hc, h => by
    obtain ⟨e, hx⟩ := hr 0 _ _ rfl rfl
    simp only at e hx
    subst e
    unfold fillA at h
    split at h
    · rename_i off j ys hf hcx
      split at h
      · rename_i hcond
        obtain ⟨h1, h2⟩ := hcond
        obtain ⟨c1, c2, c3⟩ := cellsA_rv hx hcx
        have hal : arr.size = xs.length := by simpa using hc.1
        obtain ⟨arr', ha, hfill⟩ := fill_one place arr i off j.size v qs (hpl _ _ _ hf) (by omega) (by omega)
        have hvl : v.cells.toList.length = ys.length := by simpa using c1
        obtain ⟨arr'', hfin, hc'⟩ := fillA_ok place t hpl ps qs (xs.take off ++ ys ++ xs.drop (off + ys.length)) xs' arr' (by simpa using hl) (fun k p q hp hq => hr (k + 1) p q (by simpa using hp) (by simpa using hq)) (by
          rw [ha]
          refine ⟨by simp only [List.length_append, List.length_take, List.length_drop, Array.length_toList]; omega, fun u hu => ?_, fun q y hq => ?_⟩
          · rcases splice_mem hu with h | h
            · exact hc.2.1 u h
            · exact c2 u h
          · rw [splice_getD _ _ _ _ _ (by simp; omega)]
            rcases splice_get? _ _ _ _ _ h2 hq with ⟨a1, a2, a3⟩ | ⟨a1, a2⟩
            · rw [if_pos (by omega)]; exact c3 _ _ a3
            · rw [if_neg (by omega)]; exact hc.2.2 _ _ a2) h
        exact ⟨arr'', by rw [hfill]; exact hfin, hc'⟩
      · cases h
    · cases h

def structK (T : Tab) (t : TypeId) (ps : List (Nat × AV)) (K : AV → Prop) : Prop :=
  match tget t T with
  | some i => match i.desc with
    | .struct fs => (fs.toList.all fun fd => (tget fd.type T).isSome) = true ∧ i.zv.cells.toList.all Value.oneCell' = true ∧ match fillA T t (i.zv.cells.toList.map constA) ps with
      | some xs => K (.agg xs)
      | none => False
    | _ => False
  | none => False

theorem run_places (hT : TabOk P T) : ∀ (fs : List Field), (fs.all fun fd => (tget fd.type T).isSome) = true →
    ∃ l : List (Nat × Nat), (fs.mapM (fun f => do pure (f.offset, ← sizeOf f.type) : Field → Sem (Nat × Nat))).run P w = .ok l w ∧ ∀ (i : Nat) (fd : Field) (j : TI), fs[i]? = some fd → tget fd.type T = some j → l[i]? = some (fd.offset, j.size)
  | [], _ => ⟨[], by simp, by simp⟩
  | fd :: fs, h => by
    simp only [List.all_cons, Bool.and_eq_true] at h
    obtain ⟨j, hj⟩ := Option.isSome_iff_exists.1 h.1
    obtain ⟨l, hl, hr⟩ := run_places hT fs h.2
    refine ⟨(fd.offset, j.size) :: l, ?_, fun i fd' j' hi hj' => ?_⟩
    · simp only [List.mapM_cons, bind_assoc, Sem.run_bind, run_sizeOf' (hT _ _ hj), Result.andThen_ok, hl, Sem.run_pure, pure_bind]
    · cases i with
      | zero => simp at hi; subst hi; rw [hj] at hj'; cases hj'; rfl
      | succ i => simp at hi; simpa using hr i fd' j' hi hj'

theorem structK_ok (hT : TabOk P T) {t : TypeId} {A : Nat → Nat → Prop} {K : AV → Prop} {ps : Array (Nat × Operand)} {ρ : Operand → Value} {ev : Operand → AV} (he : ∀ x, RV φ n A w (ev x) (ρ x))
    (h : structK T t (ps.toList.map fun p => (p.1, ev p.2)) K) : Val P φ n A w (Instr.build t (ps.map fun (i, x) => (i, ρ x))) K := by
  unfold structK at h
  split at h
  case h_2 => exact h.elim
  rename_i i ht
  split at h
  case h_2 => exact h.elim
  rename_i fs hd
  obtain ⟨hfs, hz1, h⟩ := h
  split at h
  case h_2 => exact h.elim
  rename_i xs hfill
  have hu := (hT _ _ ht).2; rw [hd] at hu
  obtain ⟨l, hl, hr⟩ := run_places (P := P) (w := w) hT fs.toList hfs
  have hq : (ps.map fun (i, x) => (i, ρ x)).toList = ps.toList.map fun p => (p.1, ρ p.2) := by simp
  obtain ⟨arr', h1, h2⟩ := fillA_ok (T := T) (φ := φ) (n := n) (A := A) (w := w) (fun i => l[i]?) t (fun k off j hf => by
      unfold fieldOf at hf
      rw [ht] at hf
      simp only [hd] at hf
      split at hf
      · rename_i fd hfd
        split at hf
        · rename_i j' hj'
          cases hf
          exact hr k fd j (by simpa using hfd) hj'
        · cases hf
      · cases hf) (ps.toList.map fun p => (p.1, ev p.2)) (ps.toList.map fun p => (p.1, ρ p.2)) _ xs i.zv.cells (by simp)
    (fun k p q hp hq => by
      rw [List.getElem?_map] at hp hq
      cases hk : ps.toList[k]? with
      | none => rw [hk] at hp; simp at hp
      | some o => rw [hk] at hp hq; simp at hp hq; subst hp; subst hq; exact ⟨rfl, he _⟩)
    ⟨by simp, fun u hu => (List.all_eq_true.1 hz1) u hu, fun j x hj => by
      rw [List.getElem?_map] at hj
      cases hc : i.zv.cells.toList[j]? with
      | none => rw [hc] at hj; simp at hj
      | some o =>
        rw [hc] at hj; simp at hj; subst hj
        have : i.zv.cells.toList.getD j undef = o := by simp only [List.getD, hc, Option.getD_some]
        rw [this]; exact constA_rv o⟩ hfill
  refine ⟨_, .agg arr'.toList.toArray, ?_, .agg xs arr'.toList h2.1 h2.2.2 h2.2.1, h⟩
  have hmap : (fs.mapM (fun f => do pure (f.offset, ← sizeOf f.type) : Field → Sem (Nat × Nat))).run P w = .ok l.toArray w := by
    rw [Array.mapM_eq_mapM_toList, Sem.run_map, hl]; rfl
  simp only [Instr.build, Sem.run_bind, run_zero' (hT _ _ ht), Result.andThen_ok, run_underlying hu, hmap, hq]
  simp only [List.getElem?_toArray, h1, Sem.run_pure, Array.toArray_toList]

/-! Slices written out. -/
def rowsC (s : Sto) (sz : Nat) : List AV → Option (List (List DV) × Sto)
  | [] => some ([], s)
  | x :: xs => match cellsA x with
    | some ys => match toCs s ys with
      | some (ds, s1) => if ds.length = sz then match rowsC s1 sz xs with
          | some (es, s2) => some (ds :: es, s2)
          | none => none
        else none
      | none => none
    | none => none

def sliceK (T : Tab) (t : TypeId) (len : Nat) (ps : List (Nat × AV)) (s : Sto) (n : Nat) (K : AV → Sto → Nat → Prop) : Prop :=
  match tget t T with
  | some i => match i.desc with
    | .slice e => match tget e T with
      | some j => 0 < j.size ∧ len * j.size ≤ 16777216 ∧ ps.map (·.1) = List.range len ∧ match rowsC s j.size (ps.map (·.2)) with
        | some (es, s1) => K (.own n) ((n, .row e j.size es false) :: s1) (n + 1)
        | none => False
      | none => False
    | _ => False
  | none => False

theorem rowsC_ok : ∀ {xs : List AV} {s : Sto} {sz : Nat} {es : List (List DV)} {s' : Sto} (h : Mem c φ s n w), rowsC s sz xs = some (es, s') →
    Goes c φ s n w φ s' n w ∧ es.length = xs.length ∧ (∀ e ∈ es, e.length = sz) ∧ ∀ (vs : List Value), vs.length = xs.length → (∀ j x, xs[j]? = some x → RV φ n (c.AA φ s) w x (vs.getD j undef)) →
      (∀ v ∈ vs, v.cells.size = sz ∧ ∀ u ∈ v.cells.toList, u.oneCell' = true) ∧ ∀ (k : Nat) (el : List DV) (j : Nat) (d : DV), es[k]? = some el → el[j]? = some d → RD (c.AA φ s') w d ((vs.getD k undef).cells.toList.getD j undef)
  | [], s, sz, es, s', h, ht => by
    simp only [rowsC, Option.some.injEq, Prod.mk.injEq] at ht; obtain ⟨rfl, rfl⟩ := ht
    exact ⟨Goes.refl h, rfl, by simp, fun vs hl _ => ⟨by have := List.eq_nil_of_length_eq_zero hl; subst this; simp, by simp⟩⟩
  | x :: xs, s, sz, es, s', h, ht => by
    unfold rowsC at ht
    split at ht
    case h_2 => cases ht
    rename_i ys hys
    split at ht
    case h_2 => cases ht
    rename_i ds s1 hds
    split at ht
    case isFalse => cases ht
    rename_i hsz
    split at ht
    case h_2 => cases ht
    rename_i es' s2 hes
    cases ht
    obtain ⟨g1, l1, r1⟩ := toCs_ok h hds
    obtain ⟨g2, l2, z2, r2⟩ := rowsC_ok g1.mem hes
    refine ⟨g1.trans g2, by simp [l2], fun e he => ?_, fun vs hl hv => ?_⟩
    · rcases List.mem_cons.1 he with h | h
      · rw [h]; exact hsz
      · exact z2 e h
    · cases vs with
      | nil => simp at hl
      | cons v vs =>
        obtain ⟨c1, c2, c3⟩ := cellsA_rv (hv 0 x rfl) hys
        simp only [List.getD_cons_zero] at c1 c2 c3
        obtain ⟨q1, q2⟩ := r2 vs (by simpa using hl) (fun j y hy => by have := g1.rv (hv (j + 1) y (by simpa using hy)); simpa using this)
        refine ⟨fun u hu => ?_, fun k el j d hk hj => ?_⟩
        · rcases List.mem_cons.1 hu with h | h
          · rw [h]; exact ⟨by omega, c2⟩
          · exact q1 u h
        · cases k with
          | zero =>
            simp at hk; subst hk
            exact (r1 _ c3 j d hj).keep g2.keeps
          | succ k =>
            simp at hk
            simpa using q2 k el j d hk hj

theorem flat_getD (sz : Nat) : ∀ (ls : List (List Value)) (k j : Nat), (∀ l ∈ ls, l.length = sz) → j < sz → k < ls.length → ls.flatten.getD (k * sz + j) undef = (ls.getD k []).getD j undef
  | [], k, j, _, _, h => by simp at h
  | l :: ls, k, j, hs, hj, hk => by
    have h0 := hs l (by simp)
    cases k with
    | zero =>
      simp only [List.flatten_cons, Nat.zero_mul, Nat.zero_add, List.getD_cons_zero, List.getD]
      rw [List.getElem?_append_left (by omega)]
      simp
    | succ k =>
      have ih := flat_getD sz ls k j (fun l hl => hs l (by simp [hl])) hj (by simpa using hk)
      simp only [List.getD, List.flatten_cons, List.getElem?_cons_succ] at ih ⊢
      rw [List.getElem?_append_right (by rw [h0, Nat.add_mul, Nat.one_mul]; omega)]
      have : (k + 1) * sz + j - l.length = k * sz + j := by rw [h0, Nat.add_mul, Nat.one_mul]; omega
      rw [this]; exact ih

theorem fill_rows (size : Nat) : ∀ (vs : List Value) (k : Nat) (arr : Array Value) (acc : List Value), (∀ v ∈ vs, v.cells.size = size) → arr.size = (k + vs.length) * size → arr.toList.take (k * size) = acc →
    ∃ arr', Instr.fill (fun i => some (i * size, size)) arr ((List.range' k vs.length).zip vs) = some arr' ∧ arr'.toList = acc ++ (vs.map fun v => v.cells.toList).flatten
  | [], k, arr, acc, _, hs, ha => by
    refine ⟨arr, by simp [Instr.fill], ?_⟩
    simp at hs ⊢
    rw [← ha, List.take_of_length_le (by simp [hs])]
  | v :: vs, k, arr, acc, hv, hs, ha => by
    have h0 := hv v (by simp)
    have hmul : (k + (vs.length + 1)) * size = k * size + size + vs.length * size := by rw [Nat.add_mul, Nat.add_mul, Nat.one_mul]; omega
    simp only [List.length_cons] at hs
    rw [hmul] at hs
    obtain ⟨arr', h1, h2⟩ := fill_one (fun i => some (i * size, size)) arr k (k * size) size v ((List.range' (k + 1) vs.length).zip vs) rfl h0 (by omega)
    have hvl : v.cells.toList.length = size := by simpa using h0
    have hlen : arr'.size = arr.size := by
      have := congrArg List.length h1
      simp only [List.length_append, List.length_take, List.length_drop, Array.length_toList] at this
      simp only [Array.length_toList] at hvl
      omega
    obtain ⟨arr'', h3, h4⟩ := fill_rows size vs (k + 1) arr' (acc ++ v.cells.toList) (fun u hu => hv u (by simp [hu])) (by rw [hlen, hs, Nat.add_mul, Nat.add_mul, Nat.one_mul]) (by
      rw [h1, ← ha]
      have e : (k + 1) * size = k * size + size := by rw [Nat.add_mul, Nat.one_mul]
      rw [e, List.take_append_of_le_length (by simp; omega), List.take_of_length_le (by simp; omega)])
    refine ⟨arr'', ?_, by rw [h4]; simp⟩
    simp only [List.length_cons, List.range'_succ, List.zip_cons_cons]
    rw [h2]; exact h3

theorem sliceK_ok' (hT : TabOk P T) {t : TypeId} {len : Nat} {ps : Array (Nat × Operand)} {ρ : Operand → Value} {ev : Operand → AV} (hm : Mem c φ s n w) (he : ∀ x, RV φ n (c.AA φ s) w (ev x) (ρ x))
    (h : sliceK T t len (ps.toList.map fun p => (p.1, ev p.2)) s n K) : ∃ r z φ' s' n' w', (Instr.buildSlice t len (ps.map fun (i, x) => (i, ρ x))).run P w = .ok z w' ∧ Goes c φ s n w φ' s' n' w' ∧ RV φ' n' (c.AA φ' s') w' r z ∧ K r s' n' ∧ Below w.heap.size w w' := by
  unfold sliceK at h
  split at h
  case h_2 => exact h.elim
  rename_i i ht
  split at h
  case h_2 => exact h.elim
  rename_i e hd
  split at h
  case h_2 => exact h.elim
  rename_i j hj
  obtain ⟨hz, hmax, hrange, h⟩ := h
  split at h
  case h_2 => exact h.elim
  rename_i es s1 hrows
  have hu := (hT _ _ ht).2; rw [hd] at hu
  obtain ⟨g1, l1, z1, r1⟩ := rowsC_ok hm hrows
  have hpl : ps.toList.length = len := by
    have := congrArg List.length hrange
    simpa using this
  have hvl : ((ps.toList.map fun p => ρ p.2)).length = len := by simpa using hpl
  obtain ⟨q1, q2⟩ := r1 (ps.toList.map fun p => ρ p.2) (by simp) (fun k x hk => by
    rw [List.getElem?_map, List.getElem?_map] at hk
    cases ho : ps.toList[k]? with
    | none => rw [ho] at hk; simp at hk
    | some o =>
      rw [ho] at hk; simp at hk; subst hk
      have : (ps.toList.map fun p => ρ p.2).getD k undef = ρ o.2 := by simp only [List.getD, List.getElem?_map, ho, Option.map_some, Option.getD_some]
      rw [this]; exact he _)
  have hesl : es.length = len := by rw [l1]; simpa using hpl
  have hqs : (ps.map fun (i, x) => (i, ρ x)).toList = (List.range' 0 len).zip (ps.toList.map fun p => ρ p.2) := by
    have hr : List.range' 0 len = ps.toList.map (·.1) := by
      rw [← List.range_eq_range', ← hrange]; simp [List.map_map, Function.comp_def]
    rw [hr, List.zip_map']
    simp
  have hsize : ∀ (z : Array Value), ((Array.range (len * j.size)).map (z[· % z.size]!)).size = (0 + (ps.toList.map fun p => ρ p.2).length) * j.size := fun z => by rw [hvl]; simp
  by_cases hpos : len = 0
  · subst hpos
    have hps : ps = #[] := by
      have : ps.toList = [] := List.eq_nil_of_length_eq_zero hpl
      simpa using this
    subst hps
    have hes : es = [] := List.eq_nil_of_length_eq_zero hesl
    subst hes
    have g2 := new_row g1.mem #[] e j.size 0 0 [] false hz (by simp) rfl (by simp) (Nat.le_refl _) (by simp) (by simp) (by simp)
    refine ⟨.own n, .slice (some ⟨w.heap.size, 0, none⟩) 0 0, _, _, _, _, ?_, g1.trans g2, ?_, h, (Below.refl _ _).alloc (Nat.le_refl _) _⟩
    · simp only [Instr.buildSlice, Sem.run_bind, run_underlying hu, Result.andThen_ok, run_sizeOf' (hT _ _ hj)]
      simp [Instr.fill, newRow]
      have : Array.map (fun _ => (default : Value)) (Array.range 0) = #[] := by simp [Array.range]
      rw [this]
    · have := RV.own (φ := upd φ n { b := w.heap.size, len := 0, cap := 0, sz := j.size }) (n := n + 1) (A := c.AA (upd φ n { b := w.heap.size, len := 0, cap := 0, sz := j.size }) ((n, .row e j.size [] false) :: s1)) (w := w.alloc (.cells #[] e)) n (by omega)
      rw [upd_new] at this
      exact this
  have hne : ¬ len * j.size = 0 := by
    intro h0
    rcases Nat.mul_eq_zero.1 h0 with h0 | h0 <;> omega
  obtain ⟨arr', f1, f2⟩ := fill_rows j.size (ps.toList.map fun p => ρ p.2) 0 ((Array.range (len * j.size)).map (j.zv.cells[· % j.zv.cells.size]!)) [] (fun v hv => (q1 v hv).1) (hsize _) (by simp)
  simp only [List.nil_append] at f2
  have hall : ∀ l ∈ (ps.toList.map fun p => ρ p.2).map (fun v => v.cells.toList), l.length = j.size := fun l hl => by
    obtain ⟨v, hv, rfl⟩ := List.mem_map.1 hl
    simpa using (q1 v hv).1
  have hsz' : arr'.size = len * j.size := by
    have : arr'.toList.length = len * j.size := by
      rw [f2, List.length_flatten, List.map_map]
      have : ((ps.toList.map fun p => ρ p.2).map ((fun l : List Value => l.length) ∘ fun v => v.cells.toList)) = List.replicate len j.size := by
        apply List.eq_replicate_iff.2
        refine ⟨by simpa using hpl, fun m hm' => ?_⟩
        obtain ⟨v, hv, rfl⟩ := List.mem_map.1 hm'
        simpa using (q1 v hv).1
      rw [this]; simp
    simpa using this
  have g2 := new_row g1.mem arr' e j.size len len es false hz z1 hesl hsz' (Nat.le_refl _) (by simp only [maxLen]; have := Nat.le_mul_of_pos_right len hz; omega)
    (fun u hu => by
      rw [f2] at hu
      obtain ⟨l, hl, hul⟩ := List.mem_flatten.1 hu
      obtain ⟨v, hv, rfl⟩ := List.mem_map.1 hl
      exact (q1 v hv).2 u hul)
    (fun k el q d hk hq => by
      have hkl : k < len := by rw [← hesl]; exact (List.getElem?_eq_some_iff.1 hk).1
      have hql : q < j.size := by rw [← z1 _ (List.mem_of_getElem? hk)]; exact (List.getElem?_eq_some_iff.1 hq).1
      rw [f2, flat_getD j.size _ k q hall hql (by simpa using (show k < ps.toList.length by omega))]
      have := q2 k el q d hk hq
      have e : (((ps.toList.map fun p => ρ p.2).map fun v => v.cells.toList).getD k []) = ((ps.toList.map fun p => ρ p.2).getD k undef).cells.toList := by
        have hk' : k < (ps.toList.map fun p => ρ p.2).length := by omega
        simp only [List.getD, List.getElem?_map (f := fun v : Value => v.cells.toList), List.getElem?_eq_getElem hk', Option.map_some, Option.getD_some]
      rw [e]; exact this)
  refine ⟨.own n, .slice (some ⟨w.heap.size, 0, none⟩) len len, _, _, _, _, ?_, g1.trans g2, ?_, h, (Below.refl _ _).alloc (Nat.le_refl _) _⟩
  · have hm2 : ¬ 16777216 < len * j.size := by omega
    simp only [Instr.buildSlice, Sem.run_bind, run_underlying hu, Result.andThen_ok, run_sizeOf' (hT _ _ hj)]
    rw [if_neg (by simpa using hm2), if_neg hne]
    simp only [Sem.run_bind, Sem.run_pure, Result.andThen_ok, run_zero' (hT _ _ hj), hqs]
    rw [hvl] at f1
    simp only [f1, newRow, Sem.run_bind, run_newObj, Result.andThen_ok, Sem.run_pure, World.alloc_eq]
  · have := RV.own (φ := upd φ n { b := w.heap.size, len := len, cap := len, sz := j.size }) (n := n + 1) (A := c.AA (upd φ n { b := w.heap.size, len := len, cap := len, sz := j.size }) ((n, .row e j.size es false) :: s1)) (w := w.alloc (.cells arr' e)) n (by omega)
    rw [upd_new] at this
    exact this

theorem sliceK_ok (hT : TabOk P T) {t : TypeId} {len : Nat} {ps : Array (Nat × Operand)} {ρ : Operand → Value} {ev : Operand → AV} (hm : Mem c φ s n w) (he : ∀ x, RV φ n (c.AA φ s) w (ev x) (ρ x))
    (h : sliceK T t len (ps.toList.map fun p => (p.1, ev p.2)) s n K) : Ope P c φ s n w (Instr.buildSlice t len (ps.map fun (i, x) => (i, ρ x))) K := by
  obtain ⟨r, z, φ', s', n', w', h1, h2, h3, h4, _⟩ := sliceK_ok' hT hm he h
  exact ⟨r, z, φ', s', n', w', h1, h2, h3, h4⟩

end
end Go.Abs
end

section
/- One operation over abstract values: make; all of them together; calls by pure contracts; regions in their order. -/
set_option linter.unusedVariables false
set_option linter.unusedSimpArgs false
namespace Go.Abs
open Go.RowKit

section
variable {P : Program} {T : Tab} {c : Ctx} {φ : Nat → Lay} {s : Sto} {n : Nat} {w : World} {K : AV → Sto → Nat → Prop}

def makeK (T : Tab) (t : TypeId) (x y : AV) (s : Sto) (n : Nat) (K : AV → Sto → Nat → Prop) : Prop :=
  match tget t T, x, y with
  | some i, .dat (.int _ l), .dat (.int _ cp) => match i.desc with
    | .slice e => match tget e T with
      | some j => j.bytes ≤ 128 ∧ 0 < j.size ∧ 0 ≤ l ∧ l ≤ cp ∧ cp ≤ 1099511627776 ∧ j.zv.cells.toList.all Value.oneCell' = true ∧ match dats0 (j.zv.cells.toList.map constA) with
        | some z => z.length = j.size ∧ K (.own n) ((n, .row e j.size (List.replicate l.toNat z) false) :: s) (n + 1)
        | none => False
      | none => False
    | _ => False
  | _, _, _ => False

theorem makeK_ok (hT : TabOk P T) {t : TypeId} {x y : AV} {u v : Value} (hm : Mem c φ s n w) (hx : RV φ n (c.AA φ s) w x u) (hy : RV φ n (c.AA φ s) w y v) (h : makeK T t x y s n K) :
    Ope P c φ s n w (Instr.makeSlice t u v) K := by
  unfold makeK at h
  split at h
  case h_2 => exact h.elim
  rename_i i kl l kc cp ht
  split at h
  case h_2 => exact h.elim
  rename_i e hd
  split at h
  case h_2 => exact h.elim
  rename_i j hj
  obtain ⟨hby, hsz, h0, hlc, hmax, hz1, h⟩ := h
  split at h
  case h_2 => exact h.elim
  rename_i z hz
  obtain ⟨hzl, h⟩ := h
  have hu := (hT _ _ ht).2; rw [hd] at hu
  obtain ⟨inf, hi, hiz, his, hib⟩ := (hT _ _ hj).info
  cases hx.int; cases hy.int
  have hrun := run_make (P := P) w t e inf j.zv hu hi hiz kl kc l cp h0 hlc (by rw [hib]; have := Int.mul_le_mul (show (j.bytes : Int) ≤ 128 by omega) hmax (by omega) (by omega); omega) (by omega)
  rw [his] at hrun
  obtain ⟨z1, z2⟩ := dats0_spec hz
  have hcell : ∀ q, q < cp.toNat * j.size → (madeCells j.zv.cells (cp.toNat * j.size)).toList.getD q undef = j.zv.cells.toList.getD (q % j.size) undef := fun q hq => by
    have hzs : j.zv.cells.size = j.size := by rw [z1] at hzl; simpa using hzl
    have hlt : q % j.size < j.zv.cells.size := by rw [hzs]; exact Nat.mod_lt _ hsz
    simp [madeCells, List.getD, List.getElem?_map, Array.toList_range, List.getElem?_range, hq, hzs]
    rw [getElem!_pos j.zv.cells (q % j.size) hlt, Array.getElem?_eq_getElem hlt]
    rfl
  have g := new_row hm (madeCells j.zv.cells (cp.toNat * j.size)) e j.size l.toNat cp.toNat (List.replicate l.toNat z) false hsz (fun el hel => by rw [(List.mem_replicate.1 hel).2]; exact hzl) (by simp) (size_madeCells _ _) (by omega) (by simp only [maxLen]; omega)
    (fun u hu => by
      obtain ⟨q, hq, rfl⟩ := List.mem_iff_getElem.1 hu
      have hq' : q < cp.toNat * j.size := by simpa [size_madeCells] using hq
      have e1 := hcell q hq'
      have hg : (madeCells j.zv.cells (cp.toNat * j.size)).toList.getD q undef = (madeCells j.zv.cells (cp.toNat * j.size)).toList[q] := by simp only [List.getD, List.getElem?_eq_getElem hq, Option.getD_some]
      rw [← hg, e1]
      have hlt : q % j.size < j.zv.cells.toList.length := by
        have hzs : j.zv.cells.size = j.size := by rw [z1] at hzl; simpa using hzl
        rw [Array.length_toList, hzs]; exact Nat.mod_lt _ hsz
      have : j.zv.cells.toList.getD (q % j.size) undef = j.zv.cells.toList[q % j.size] := by simp only [List.getD, List.getElem?_eq_getElem hlt, Option.getD_some]
      rw [this]
      exact (List.all_eq_true.1 hz1) _ (List.getElem_mem hlt))
    (fun k el q d hk hq => by
      have hkl : k < l.toNat := by have := (List.getElem?_eq_some_iff.1 hk).1; simpa using this
      have hel : el = z := (List.mem_replicate.1 (List.mem_of_getElem? hk)).2
      subst hel
      have hql : q < j.size := by rw [← hzl]; exact (List.getElem?_eq_some_iff.1 hq).1
      have hmul : (k + 1) * j.size ≤ cp.toNat * j.size := Nat.mul_le_mul_right _ (by omega)
      rw [Nat.add_mul, Nat.one_mul] at hmul
      rw [hcell _ (by omega)]
      have : (k * j.size + q) % j.size = q := by rw [Nat.add_comm, Nat.add_mul_mod_self_right]; exact Nat.mod_eq_of_lt hql
      rw [this]
      obtain ⟨y, y1, y2⟩ := z2 q d hq
      rw [List.getElem?_map] at y1
      cases hc : j.zv.cells.toList[q]? with
      | none => rw [hc] at y1; simp at y1
      | some o =>
        rw [hc] at y1; simp at y1; subst y1
        have : j.zv.cells.toList.getD q undef = o := by simp only [List.getD, hc, Option.getD_some]
        rw [this]
        exact dat0_rv (φ := φ) (n := n) (constA_rv o) y2)
  refine ⟨.own n, _, _, _, _, _, hrun, g, ?_, h⟩
  have := RV.own (φ := upd φ n { b := w.heap.size, len := l.toNat, cap := cp.toNat, sz := j.size }) (n := n + 1) (A := c.AA (upd φ n { b := w.heap.size, len := l.toNat, cap := cp.toNat, sz := j.size }) ((n, .row e j.size (List.replicate l.toNat z) false) :: s)) (w := w.alloc (.cells (madeCells j.zv.cells (cp.toNat * j.size)) e)) n (by omega)
  rw [upd_new] at this
  exact this

def pickA (q : Bool) (x y : AV) : AV :=
  match x, y with
  | .dat (.bool a), .dat (.bool b) => .dat (.bool (bif q then a else b))
  | x, y => bif q then x else y

theorem pickA_rv {A : Nat → Nat → Prop} {q : Bool} {x y : AV} {u v : Value} (hx : RV φ n A w x u) (hy : RV φ n A w y v) : RV φ n A w (pickA q x y) (if q then u else v) := by
  unfold pickA
  split
  · cases hx.bool; cases hy.bool; cases q <;> exact .dat _ _ (.bool _)
  · cases q
    · exact hy
    · exact hx

def builtinK (T : Tab) (b : Builtin) (xs : List Operand) (ts : List TypeId) (ev : Operand → AV) (s : Sto) (n : Nat) (K : AV → Sto → Nat → Prop) : Prop :=
  match b, xs, ts with
  | .len, [x], [t] => lenK s T t (ev x) fun r => K r s n
  | .append, [x, y], [t, t'] => t' = t ∧ appK T t (ev x) (ev y) s n K
  | .max, [x, y], _ => maxK (ev x) (ev y) fun r => K r s n
  | .min, [x, y], _ => minK (ev x) (ev y) fun r => K r s n
  | _, _, _ => False

def opK (T : Tab) (op : Op) (ty : TypeId) (ev : Operand → AV) (s : Sto) (n : Nat) (K : AV → Sto → Nat → Prop) : Prop :=
  match op with
  | .move x | .assign x => K (ev x) s n
  | .pick q x y => match ev q with
    | .dat (.bool b) => K (pickA b (ev x) (ev y)) s n
    | _ => False
  | .alloc t => allocK T t s n K
  | .box t x => boxK (ev x) s n K
  | .build t ps => structK T t (ps.toList.map fun p => (p.1, ev p.2)) fun r => K r s n
  | .buildSlice t l ps => sliceK T t l (ps.toList.map fun p => (p.1, ev p.2)) s n K
  | .load t x => loadK s T t (ev x) fun r => K r s n
  | .store t x y => storeK T t (ev x) (ev y) s fun s' => K .und s' n
  | .nilCheck x => match ev x with
    | .ptr k o => K (.ptr k o) s n
    | .dat (.cptr cs) => K (.dat (.cptr cs)) s n
    | _ => False
  | .binOp op t x y _ => binC T op t y (ev x) (ev y) fun r => K r s n
  | .unOp op _ x => unK op (ev x) fun r => K r s n
  | .convert a b x => convK T a b (ev x) fun r => K r s n
  | .makeInterface t x => mkIfK T t (ev x) fun r => K r s n
  | .makeFunc fn first caps => lamK fn first (caps.toList.map ev) fun r => K r s n
  | .makeSlice t l cp => makeK T t (ev l) (ev cp) s n K
  | .slice t x lo hi none => match ev x with
    | .own k => match toC0 s (.own k) with
      | some (d, s1) => cutK T t (.dat d) (lo.map ev) (hi.map ev) fun r => K r s1 n
      | none => False
    | y => cutK T t y (lo.map ev) (hi.map ev) fun r => K r s n
  | .fieldAddr t x f => faddrK T t f (ev x) fun r => K r s n
  | .field t x f => fieldK T t f (ev x) fun r => K r s n
  | .indexAddr t x y => iaddrK s T t (ev x) (ev y) fun r => K r s n
  | .index t x y => strIxK T t (ev x) (ev y) fun r => K r s n
  | .extract x i => extK (ev x) i fun r => K r s n
  | .call cl => match cl.callee with
    | .builtin b => builtinK T b cl.args.toList cl.argTypes.toList ev s n K
    | _ => False
  | _ => False

/-- What an operation comes to. -/
def Stp (P : Program) (c : Ctx) (φ : Nat → Lay) (s : Sto) (n : Nat) (w : World) (m : Sem Next) (K : AV → Sto → Nat → Prop) : Prop :=
  ∃ r z nx φ' s' n' w', m.run P w = .ok nx w' ∧ (nx = .value z ∨ (nx = .skip ∧ z = undef)) ∧ Goes c φ s n w φ' s' n' w' ∧ RV φ' n' (c.AA φ' s') w' r z ∧ K r s' n'

theorem Stp.of_ope {m : Sem Value} {k : Sem Next} (h : Ope P c φ s n w m K) (hk : k = do pure (.value (← m))) : Stp P c φ s n w k K := by
  obtain ⟨r, z, φ', s', n', w', hr, g, rv, hK⟩ := h
  exact ⟨r, z, .value z, φ', s', n', w', by rw [hk]; simp [hr], .inl rfl, g, rv, hK⟩

theorem Stp.of_val {m : Sem Value} {k : Sem Next} (hm : Mem c φ s n w) (h : Val P φ n (c.AA φ s) w m fun r => K r s n) (hk : k = do pure (.value (← m))) : Stp P c φ s n w k K :=
  .of_ope (.of_val hm h) hk

theorem opK_ok (hT : TabOk P T) {o : Oper} {ρ : Operand → Value} {ev : Operand → AV} (hcn : ∀ c, ρ (.const c) = c) (hm : Mem c φ s n w) (he : ∀ x, RV φ n (c.AA φ s) w (ev x) (ρ x)) (h : opK T o.op o.type ev s n K) :
    Stp P c φ s n w (execOp ρ o) K := by
  obtain ⟨dst, op, ty, pos, after, guard⟩ := o
  simp only at h
  unfold opK at h
  split at h
  · rename_i x; exact ⟨_, ρ x, _, _, _, _, _, rfl, .inl rfl, Goes.refl hm, he x, h⟩
  · rename_i x; exact ⟨_, ρ x, _, _, _, _, _, rfl, .inl rfl, Goes.refl hm, he x, h⟩
  · rename_i q x y
    split at h
    · rename_i b hb
      have := he q
      rw [hb] at this
      have hq := this.bool
      exact ⟨_, (if b then ρ x else ρ y), _, _, _, _, _, by simp [execOp, hq, asBool], .inl rfl, Goes.refl hm, pickA_rv (he x) (he y), h⟩
    · exact h.elim
  · exact .of_ope (allocK_ok hT hm h) rfl
  · exact .of_ope (boxK_ok hm (he _) h) rfl
  · exact .of_val hm (structK_ok hT he h) rfl
  · exact .of_ope (sliceK_ok hT hm he h) rfl
  · exact .of_val hm (loadK_ok hT hm (he _) h) rfl
  · obtain ⟨s', w', hr, g, hK⟩ := storeK_ok hT hm (he _) (he _) h
    exact ⟨_, undef, .skip, φ, s', n, w', by simp [execOp, hr], .inr ⟨rfl, rfl⟩, g, .und _, hK⟩
  · rename_i x
    split at h
    · rename_i k o hx
      have := he x
      rw [hx] at this
      cases hv : ρ x with
      | pointer a =>
        rw [hv] at this
        cases this with
        | ptr _ _ hk => exact ⟨_, _, _, _, _, _, _, by simp [execOp, hv], .inl rfl, Goes.refl hm, .ptr k o hk, h⟩
      | _ => rw [hv] at this; cases this
    · rename_i cs hx
      have := he x
      rw [hx] at this
      cases this with
      | dat _ _ hd =>
        generalize hv : ρ x = v at hd
        cases hd with
        | cptr _ b o vs h1 h2 => exact ⟨_, _, _, _, _, _, _, by simp [execOp, hv], .inl rfl, Goes.refl hm, .dat _ _ (.cptr _ b o vs h1 h2), h⟩
    · exact h.elim
  · rename_i bop t x y yt; exact .of_val hm (binC_ok hT (he _) (he _) (fun c e => by subst e; exact hcn c) h) rfl
  · exact .of_val hm (unK_ok (he _) h) rfl
  · exact .of_val hm (convK_ok hT (he _) h) rfl
  · exact .of_val hm (mkIfK_ok hT (he _) h) rfl
  · exact .of_val hm (lamK_ok he h) rfl
  · exact .of_ope (makeK_ok hT hm (he _) (he _) h) rfl
  · rename_i t x lo hi
    have hlo : ∀ (o : Option Operand) a, o.map ev = some a → ∃ u, o.map ρ = some u ∧ RV φ n (c.AA φ s) w a u := fun o a ha => by
      cases o with
      | none => simp at ha
      | some q => simp at ha; subst ha; exact ⟨ρ q, rfl, he q⟩
    have hlo0 : ∀ (o : Option Operand), o.map ev = none → o.map ρ = none := fun o ha => by cases o <;> simp at ha ⊢
    split at h
    · rename_i k hx
      split at h
      · rename_i d s1 h1
        obtain ⟨g, r⟩ := toC0_ok hm h1
        have hx' := he x
        rw [hx] at hx'
        obtain ⟨r', z, hr, rv, hK⟩ := cutK_ok (P := P) hT (φ := φ) (n := n) (A := c.AA φ s1) (w := w) (.dat _ _ (r _ hx')) (fun a ha => let ⟨u, hu, h⟩ := hlo lo a ha; ⟨u, hu, g.rv h⟩) (hlo0 lo) (fun a ha => let ⟨u, hu, h⟩ := hlo hi a ha; ⟨u, hu, g.rv h⟩) (hlo0 hi) h
        exact ⟨r', z, .value z, φ, s1, n, w, by simp [execOp, hr], .inl rfl, g, rv, hK⟩
      · exact h.elim
    · exact .of_val hm (cutK_ok hT (he x) (hlo lo) (hlo0 lo) (hlo hi) (hlo0 hi) h) rfl
  · exact .of_val hm (faddrK_ok hT (he _) h) rfl
  · exact .of_val hm (fieldK_ok hT (he _) h) rfl
  · exact .of_val hm (iaddrK_ok hT hm (he _) (he _) h) rfl
  · exact .of_val hm (strIxK_ok hT (he _) (he _) h) rfl
  · exact .of_val hm (extK_ok (he _) h) rfl
  · rename_i cl
    obtain ⟨callee, ⟨xs⟩, ⟨ts⟩⟩ := cl
    simp only at h
    split at h
    · rename_i b
      unfold builtinK at h
      split at h
      · rename_i x t
        exact .of_val hm (lenK_ok hT (ty := ty) hm (he x) h) (by simp [execOp, resolve, invoke, builtin])
      · rename_i x y t t'
        obtain ⟨rfl, h⟩ := h
        exact .of_ope (appK_ok hT (ty := ty) hm (he x) (he y) h) (by simp [execOp, resolve, invoke, builtin])
      · rename_i x y
        exact .of_val hm (maxK_ok (t := ⟨ts⟩) (ty := ty) (he x) (he y) h) (by simp [execOp, resolve, invoke, builtin])
      · rename_i x y
        exact .of_val hm (minK_ok (t := ⟨ts⟩) (ty := ty) (he x) (he y) h) (by simp [execOp, resolve, invoke, builtin])
      · exact h.elim
    · exact h.elim
  · exact h.elim

/-! Pure contracts. -/
def Enters (P : Program) (f : FuncId) : Prop := ∀ args w, (callFunc f args).run P w = .ok (.enter f args) w

def φ0 : Nat → Lay := fun _ => { b := 0 }

/-- Data go in, data come out; what was there is as it was. -/
def PC (P : Program) (f : FuncId) (args : List AV) (r : AV) : Prop :=
  Enters P f ∧ ∀ (w : World) (A : Nat → Nat → Prop) (vs : List Value), GW A w → vs.length = args.length → (∀ j x, args[j]? = some x → RV φ0 0 A w x (vs.getD j undef)) →
    Calls P f vs.toArray w fun e w' => ∃ v, e = .returned v ∧ Below w.heap.size w w' ∧ RV φ0 0 (fun b o => A b o ∨ w.heap.size ≤ b) w' r v

theorem RV.any {φ φ' : Nat → Lay} {A : Nat → Nat → Prop} {x : AV} {v : Value} (h : RV φ 0 A w x v) : RV φ' 0 A w x v := h.keep (Keeps.refl _ _) (fun i hi => by omega) (Nat.le_refl _)

def FF (ro : Option Nat) : Fence := { fn := fun _ => True, depth := none, alive := false, round := ro }

theorem callsIn_FF {ro : Option Nat} {m : Nat} {f : FuncId} {args : Array Value} {R : Ending → World → Prop} (h : Calls P f args w R) : CallsIn (FF ro) m P f args w R := by
  have h1 : CallsIn Fence.wide m P f args w R := callsIn_wide.2 h
  exact h1

def calleeK (P : Program) (s : Sto) (f : AV) (xs : List AV) (K : AV → Sto → Prop) : Prop :=
  match f with
  | .dat (.fn g caps) => match toAs s (xs ++ caps.map .dat) with
    | some (ys, s1) => ∃ r, PC P g ys r ∧ K r s1
    | none => False
  | .clo g caps => match toAs s (xs ++ caps) with
    | some (ys, s1) => ∃ r, PC P g ys r ∧ K r s1
    | none => False
  | _ => False

end
end Go.Abs
end

section
/- Regions in their order, code, functions: the rules over abstract values. -/
set_option linter.unusedVariables false
set_option linter.unusedSimpArgs false
namespace Go.Abs
open Go.RowKit

section
variable {P : Program} {T : Tab} {c : Ctx} {φ : Nat → Lay} {s : Sto} {n : Nat} {w : World}

def putA (dst : Option Nat) (r : AV) (t : Tm) : Tm :=
  match dst with
  | some d => (d, r) :: t
  | none => t

def dstOk (N : Nat) (o : Oper) : Bool :=
  match o.dst with
  | some d => Nat.blt d N
  | none => true

theorem lk_putA (dst : Option Nat) (r : AV) (t : Tm) (k : Nat) : lk k (putA dst r t) = if dst = some k then r else lk k t := by
  cases dst with
  | none => simp [putA]
  | some d => simp [putA, lk_cons]

theorem Rel.put {σ : St} {a : Act} {φ' : Nat → Lay} {s' : Sto} {n' : Nat} {w' : World} {dst : Option Nat} {r : AV} {z : Value} (h : Rel c φ σ a w) (g : Goes c φ σ.s σ.n w φ' s' n' w') (hr : RV φ' n' (c.AA φ' s') w' r z)
    (hd : ∀ d, dst = some d → d < c.N) : Rel c φ' { σ with t := putA dst r σ.t, s := s', n := n' } (a.put dst z) w' := by
  refine ⟨?_, ?_, fun t => ?_, g.mem⟩
  · cases dst <;> simp [Act.put, h.size]
  · cases dst <;> exact h.defers.keep g.oth
  · rw [lk_putA]
    cases dst with
    | none => rw [if_neg (by simp)]; exact g.rv (h.tm t)
    | some d =>
      by_cases ht : d = t
      · subst ht
        rw [if_pos rfl]
        have : d < a.tmps.size := by rw [h.size]; exact hd d rfl
        simp [Act.put, this]
        exact hr
      · rw [if_neg (by simpa using ht)]
        have : (a.put (some d) z).tmps.getD t undef = a.tmps.getD t undef := by simp [Act.put, Array.getElem?_setIfInBounds_ne ht]
        rw [this]; exact g.rv (h.tm t)

def callOf : Op → Option (Operand × List Operand)
  | .call cl => match cl.callee with
    | .value f => some (f, cl.args.toList)
    | _ => none
  | _ => none

def stepK (P : Program) (T : Tab) (o : Oper) (σ : St) (K : St → Prop) : Prop :=
  match callOf o.op with
  | some (f, xs) => calleeK P σ.s (evA σ.t f) (xs.map (evA σ.t)) fun r s1 => K { σ with t := putA o.dst r σ.t, s := s1 }
  | none => opK T o.op o.type (evA σ.t) σ.s σ.n fun r s1 n1 => K { σ with t := putA o.dst r σ.t, s := s1, n := n1 }

def guardK (ops : List Oper) (g : Option (Nat × Bool)) (t : Tm) (run skip : Prop) : Prop :=
  match g with
  | none => run
  | some (j, want) => match (ops[j]?).bind (·.dst) with
    | some d => match lk d t with
      | .dat (.bool b) => ((b == want) = true → run) ∧ ((b == want) = false → skip)
      | .tup [] => skip
      | _ => False
    | none => False

def runO (P : Program) (T : Tab) (ops : List Oper) : List Oper → St → (St → Prop) → Prop
  | [], σ, K => K σ
  | o :: rest, σ, K => guardK ops o.guard σ.t (stepK P T o σ fun σ' => runO P T ops rest σ' K) (runO P T ops rest { σ with t := putA o.dst (.tup []) σ.t } K)

/-- A state stands for what the machine holds. -/
def Conc (c : Ctx) (Q : Exit → St → Prop) : Exit → Act → World → Prop := fun e a w => ∃ φ σ, Rel c φ σ a w ∧ Q e σ

theorem calleeK_ok {ro : Option Nat} {f : AV} {xs : List AV} {K : AV → Sto → Prop} (hm : Mem c φ s n w) {o : Oper} {a : Act} {fo : Operand} {xo : List Operand} (ho : callOf o.op = some (fo, xo))
    (hf : RV φ n (c.AA φ s) w f (a.eval fo)) (hx : xs.length = xo.length) (hxs : ∀ j x, xs[j]? = some x → RV φ n (c.AA φ s) w x ((xo.map a.eval).getD j undef)) (h : calleeK P s f xs K)
    {next : Act → World → Prop} {Q : Exit → Act → World → Prop}
    (hn : ∀ r s1 w1 v, K r s1 → Goes c φ s n w φ s1 n w1 → RV φ n (c.AA φ s1) w1 r v → next (a.put o.dst v) w1) : o.wpIn (FF ro) 0 P a w next Q := by
  have key : ∀ (g : FuncId) (caps : List AV) (cv : List Value), a.eval fo = .func (.func g) #[] cv.toArray → cv.length = caps.length → (∀ j x, caps[j]? = some x → RV φ n (c.AA φ s) w x (cv.getD j undef)) →
      (match toAs s (xs ++ caps) with | some (ys, s1) => ∃ r, PC P g ys r ∧ K r s1 | none => False) → o.wpIn (FF ro) 0 P a w next Q := by
    intro g caps cv hfv hcl hcv h
    split at h
    case h_2 => exact h.elim
    rename_i ys s1 hys
    obtain ⟨r, ⟨hent, hpc⟩, hK⟩ := h
    obtain ⟨g1, l1, r1⟩ := toAs_ok hm hys
    have hlen : (xo.map a.eval).length = xs.length := by simp [hx]
    have hall : ∀ j x, (xs ++ caps)[j]? = some x → RV φ n (c.AA φ s) w x ((xo.map a.eval ++ cv).getD j undef) := fun j x hj => by
      by_cases hjl : j < xs.length
      · rw [List.getElem?_append_left hjl] at hj
        have := hxs j x hj
        simp only [List.getD] at this ⊢
        rw [List.getElem?_append_left (by omega)]; exact this
      · rw [List.getElem?_append_right (by omega)] at hj
        have := hcv _ _ hj
        simp only [List.getD] at this ⊢
        rw [List.getElem?_append_right (by omega), hlen]; exact this
    have hvs := r1 (xo.map a.eval ++ cv) hall
    have hcall := hpc w (c.AA φ s1) (xo.map a.eval ++ cv) g1.mem.gwAA (by simp [l1]; omega) (fun j y hj => (hvs j y hj).any)
    have hop : o.op = .call { callee := .value fo, args := xo.toArray, argTypes := (match o.op with | .call cl => cl.argTypes | _ => #[]) } := by
      unfold callOf at ho
      split at ho
      · rename_i cl hcl'
        split at ho
        · rename_i f' hc'
          cases ho
          rw [hcl']
          obtain ⟨callee, args, ats⟩ := cl
          simp only at hc'
          subst hc'
          simp
        · cases ho
      · cases ho
    refine ⟨fun _ _ => trivial, ?_⟩
    have hrun : (o.semAt ro a.eval).run P w = .ok (.enter g (xo.map a.eval ++ cv).toArray) w := by
      rw [Oper.semAt_eq _ _ _ (by rw [hop]; intro _ h; cases h)]
      obtain ⟨dst, op, ty, pos, after, guard⟩ := o
      simp only at hop
      rw [hop]
      simp [execOp, resolve, hfv, Deferred.ofValue, invoke]
      have := hent ((xo.map a.eval).toArray ++ cv.toArray) w
      simpa using this
    show o.uponIn (FF ro) 0 P a next Q ((o.semAt ro a.eval).run P w)
    rw [hrun, Oper.uponIn_enter]
    refine ⟨fun h => by simp [FF] at h, callsIn_FF (hcall.mono fun e w' he => ?_)⟩
    obtain ⟨v, rfl, hb, hrv⟩ := he
    have g2 := g1.mem.grown hb
    refine hn r s1 w' v hK (g1.trans g2) (hrv.keep (fun b q u hA hu => ?_) (fun i hi => by omega) (Nat.zero_le _))
    rcases hA with hA | hA
    · exact ⟨hA, hu⟩
    · refine ⟨⟨⟨.inr (Nat.le_trans g1.mem.below.size hA), g1.mem.nhid_new hA _⟩, fun i x hi hb' => ?_⟩, hu⟩
      have := (g1.mem.obj i x hi).2.2.lt
      omega
  unfold calleeK at h
  split at h
  · rename_i g caps
    generalize hv : a.eval fo = fv at hf
    cases hf with
    | dat _ _ hd =>
      cases hd with
      | fn _ _ vs hl hcv =>
        exact key g (caps.map .dat) vs hv (by simp [hl]) (fun j x hj => by
          rw [List.getElem?_map] at hj
          cases hq : caps[j]? with
          | none => rw [hq] at hj; simp at hj
          | some d => rw [hq] at hj; simp at hj; subst hj; exact .dat _ _ (hcv j d hq)) h
  · rename_i g caps
    generalize hv : a.eval fo = fv at hf
    cases hf with
    | clo _ _ vs hl hcv => exact key g caps vs hv hl hcv h
  · exact h.elim

theorem stepK_ok (hT : TabOk P T) {ro : Option Nat} {o : Oper} {σ : St} {a : Act} {K : St → Prop} (hR : Rel c φ σ a w) (hd : dstOk c.N o = true) (h : stepK P T o σ K)
    {next : Act → World → Prop} {Q : Exit → Act → World → Prop} (hn : ∀ φ' σ' a' w', K σ' → Rel c φ' σ' a' w' → next a' w') : o.wpIn (FF ro) 0 P a w next Q := by
  have hd' : ∀ d, o.dst = some d → d < c.N := fun d hd'' => by
    unfold dstOk at hd; rw [hd''] at hd; exact Nat.blt_eq.mp hd
  unfold stepK at h
  split at h
  · rename_i fo xo ho
    refine calleeK_ok hR.mem ho (hR.ev fo) (by simp) (fun j x hj => ?_) h fun r s1 w1 v hK g hrv => hn _ _ _ _ hK (hR.put g hrv hd')
    rw [List.getElem?_map] at hj
    cases hq : xo[j]? with
    | none => rw [hq] at hj; simp at hj
    | some q =>
      rw [hq] at hj; simp at hj; subst hj
      have : (xo.map a.eval).getD j undef = a.eval q := by simp only [List.getD, List.getElem?_map, hq, Option.map_some, Option.getD_some]
      rw [this]; exact hR.ev q
  · rename_i ho
    obtain ⟨r, z, nx, φ', s', n', w', hr, hnx, g, rv, hK⟩ := opK_ok hT (fun _ => rfl) hR.mem (fun x => hR.ev x) h
    have hsem : (o.semAt ro a.eval).run P w = .ok nx w' := by
      rw [Oper.semAt_eq]
      · exact hr
      · intro cl hcl
        rw [hcl] at h
        exact h.elim
    refine ⟨fun _ _ => trivial, ?_⟩
    show o.uponIn (FF ro) 0 P a next Q ((o.semAt ro a.eval).run P w)
    rw [hsem]
    have := hn _ _ _ _ hK (hR.put g rv hd')
    rcases hnx with rfl | ⟨rfl, rfl⟩
    · exact this
    · exact this

theorem skp_rv {φ : Nat → Lay} {n : Nat} {A : Nat → Nat → Prop} {w : World} : RV φ n A w (.tup []) undef := .tup [] [] rfl (by simp)

theorem yielded_bool {φ : Nat → Lay} {σ : St} {a : Act} {w : World} (hR : Rel c φ σ a w) {ops : Array Oper} {j d : Nat} {b : Bool} (hjd : (ops[j]?).bind (·.dst) = some d) (hb : lk d σ.t = .dat (.bool b)) : yielded ops a.tmps j = some b := by
  have hv := hR.tm d
  rw [hb] at hv
  have hv := hv.bool
  unfold yielded
  rw [hjd]
  have hds : d < a.tmps.size := by
    rcases Nat.lt_or_ge d a.tmps.size with h | h
    · exact h
    · simp [Array.getD, Nat.not_lt.2 h, undef] at hv
  simp only [Option.bind_some, Array.getElem?_eq_getElem hds]
  have : a.tmps[d] = .bool b := by simpa [Array.getD, hds] using hv
  rw [this]

theorem yielded_skp {φ : Nat → Lay} {σ : St} {a : Act} {w : World} (hR : Rel c φ σ a w) {ops : Array Oper} {j d : Nat} (hjd : (ops[j]?).bind (·.dst) = some d) (hb : lk d σ.t = .tup []) : yielded ops a.tmps j = none := by
  have hv := hR.tm d
  rw [hb] at hv
  unfold yielded
  rw [hjd]
  simp only [Option.bind_some]
  cases hg : a.tmps[d]? with
  | none => rfl
  | some v =>
    have : a.tmps.getD d undef = v := by simp [Array.getD_eq_getD_getElem?, hg]
    rw [this] at hv
    cases hv
    rfl

theorem runO_ok (hT : TabOk P T) {ro : Option Nat} (ops : List Oper) : ∀ (rest : List Oper) (σ : St) (φ : Nat → Lay) (a : Act) (w : World) (K : St → Prop) (Q : Exit → Act → World → Prop), rest.all (dstOk c.N) = true → Rel c φ σ a w → runO P T ops rest σ K →
    (∀ φ' σ' a' w', K σ' → Rel c φ' σ' a' w' → Q .normal a' w') → wpListIn (FF ro) 0 P ops.toArray Q rest a w
  | [], σ, φ, a, w, K, Q, _, hR, h, hn => hn _ _ _ _ h hR
  | o :: rest, σ, φ, a, w, K, Q, hd, hR, h, hn => by
    simp only [List.all_cons, Bool.and_eq_true] at hd
    have hskip : runO P T ops rest { σ with t := putA o.dst (.tup []) σ.t } K → wpListIn (FF ro) 0 P ops.toArray Q rest (a.put o.dst undef) w := fun hk =>
      runO_ok hT ops rest _ φ _ w K Q hd.2 (hR.put (Goes.refl hR.mem) skp_rv (fun d hd'' => by have := hd.1; unfold dstOk at this; rw [hd''] at this; exact Nat.blt_eq.mp this)) hk hn
    have hrun : (stepK P T o σ fun σ' => runO P T ops rest σ' K) → o.wpIn (FF ro) 0 P a w (wpListIn (FF ro) 0 P ops.toArray Q rest) Q := fun hk =>
      stepK_ok hT hR hd.1 hk fun φ' σ' a' w' hK hR' => runO_ok hT ops rest σ' φ' a' w' K Q hd.2 hR' hK hn
    unfold runO guardK at h
    unfold wpListIn
    split at h
    · rename_i hg
      have : Region.wanted o (yielded ops.toArray a.tmps) = true := by simp [Region.wanted, hg]
      rw [if_pos this]; exact hrun h
    · rename_i j want hg
      split at h
      case h_2 => exact h.elim
      rename_i d hjd
      have hjd' : (ops.toArray[j]?).bind (·.dst) = some d := by simpa using hjd
      split at h
      · rename_i b hb
        have hy := yielded_bool hR hjd' hb
        cases hbw : (b == want)
        · have : ¬ Region.wanted o (yielded ops.toArray a.tmps) = true := by simp [Region.wanted, hg, hy, hbw]
          rw [if_neg this]
          exact ⟨fun _ _ => trivial, hskip (h.2 hbw)⟩
        · have : Region.wanted o (yielded ops.toArray a.tmps) = true := by simp [Region.wanted, hg, hy]; simpa using hbw
          rw [if_pos this]; exact hrun (h.1 hbw)
      · rename_i hb
        have hy := yielded_skp hR hjd' hb
        have : ¬ Region.wanted o (yielded ops.toArray a.tmps) = true := by simp [Region.wanted, hg, hy]
        rw [if_neg this]
        exact ⟨fun _ _ => trivial, hskip h⟩
      · exact h.elim

end
end Go.Abs
end

section
/- Code and functions: the rules over abstract values. -/
set_option linter.unusedVariables false
set_option linter.unusedSimpArgs false
namespace Go.Abs
open Go.RowKit

def AWp (P : Program) (T : Tab) (c : Ctx) (ro : Option Nat) (code : Code) (σ : St) (Q : Exit → St → Prop) : Prop :=
  TabOk P T → ∀ φ a w, Rel c φ σ a w → code.wpIn (FF ro) 0 P (Conc c Q) a w

section
variable {P : Program} {T : Tab} {c : Ctx} {ro : Option Nat} {σ : St} {Q : Exit → St → Prop}

theorem AWp.mono {code : Code} {Q' : Exit → St → Prop} (h : AWp P T c ro code σ Q) (hq : ∀ e σ', Q e σ' → Q' e σ') : AWp P T c ro code σ Q' :=
  fun hT φ a w hR => wpIn_mono (h hT φ a w hR) fun e a' w' ⟨φ', σ', hR', hQ⟩ => ⟨φ', σ', hR', hq e σ' hQ⟩

def thenK (K : St → Prop) (Q : Exit → St → Prop) : Exit → St → Prop
  | .normal, σ => K σ
  | e, σ => Q e σ

theorem AWp.seq {x y : Code} (h : ∀ K : St → Prop, (∀ σ', AWp P T c ro y σ' Q → K σ') → AWp P T c ro x σ (thenK K Q)) : AWp P T c ro (.seq x y) σ Q := by
  intro hT φ a w hR
  refine wpIn_seq (wpIn_mono (h _ (fun _ h => h) hT φ a w hR) fun e a' w' hc => ?_)
  obtain ⟨φ', σ', hR', hQ⟩ := hc
  cases e with
  | normal => exact hQ hT φ' a' w' hR'
  | _ => exact ⟨φ', σ', hR', hQ⟩

theorem AWp.skip (h : Q .normal σ) : AWp P T c ro .skip σ Q := fun hT φ a w hR => wpIn_skip ⟨φ, σ, hR, h⟩
theorem AWp.label {l : Nat} (h : Q .normal σ) : AWp P T c ro (.label l) σ Q := fun hT φ a w hR => wpIn_label ⟨φ, σ, hR, h⟩
theorem AWp.exit {id : Nat} (h : Q (.exit id) σ) : AWp P T c ro (.exit id) σ Q := fun hT φ a w hR => wpIn_exit ⟨φ, σ, hR, h⟩
theorem AWp.ret (h : Q .ret σ) : AWp P T c ro .ret σ Q := fun hT φ a w hR => wpIn_ret ⟨φ, σ, hR, h⟩

def condK (q : AV) (X Y : Prop) : Prop :=
  match q with
  | .dat (.bool b) => (b = true → X) ∧ (b = false → Y)
  | _ => False

theorem AWp.cond {q : Operand} {x y : Code} (h : condK (evA σ.t q) (AWp P T c ro x σ Q) (AWp P T c ro y σ Q)) : AWp P T c ro (.cond q x y) σ Q := by
  intro hT φ a w hR
  unfold condK at h
  split at h
  · rename_i b hb
    have hv := hR.ev q
    rw [hb] at hv
    refine wpIn_cond_split hv.bool (fun ht => h.1 ht hT φ a w hR) (fun hf => h.2 hf hT φ a w hR)
  · exact h.elim

def blockK (id : Nat) (Q : Exit → St → Prop) : Exit → St → Prop
  | .exit j, σ => if j = id then Q .normal σ else Q (.exit j) σ
  | e, σ => Q e σ

theorem AWp.block {id : Nat} {x : Code} (h : AWp P T c ro x σ (blockK id Q)) : AWp P T c ro (.block id x) σ Q := by
  intro hT φ a w hR
  refine wpIn_block (wpIn_mono (h hT φ a w hR) fun e a' w' hc => ?_)
  obtain ⟨φ', σ', hR', hQ⟩ := hc
  cases e with
  | exit j =>
    simp only [Exit.inBlock, blockK] at hQ ⊢
    by_cases hj : j = id
    · rw [if_pos hj] at hQ ⊢; exact ⟨φ', σ', hR', hQ⟩
    · rw [if_neg hj] at hQ ⊢; exact ⟨φ', σ', hR', hQ⟩
  | _ => exact ⟨φ', σ', hR', hQ⟩

/-- The loop, at the head of a round. -/
def LoopAt (P : Program) (T : Tab) (c : Ctx) (ro : Option Nat) (x : Code) (σ : St) (Q : Exit → St → Prop) : Prop :=
  TabOk P T → ∀ φ a w, Rel c φ σ a w → ∀ (b : Frame) (k : List Item) (cs : List Frame), b.roundOf = ro →
    ∃ e a' w', Conc c Q e a' w' ∧ ArrivesIn (Machine.fenced P (FF ro)) P (lone (b.atR a (.code x :: .inLoop x :: k)) cs w) b k cs e a' w'

theorem room_FF (ro : Option Nat) (n : Nat) : (FF ro).room n := fun d h => by simp [FF] at h

theorem AWp.loop {x : Code} (h : LoopAt P T c ro x σ Q) : AWp P T c ro (.loop x) σ Q := by
  intro hT φ a w hR b k cs hro hb hr
  obtain ⟨e, a', w', hq, harr⟩ := h hT φ a w hR b k cs hro
  exact ⟨e, a', w', hq, .of_steps (.one (fenced_calm hb hr rfl) stepR_loop) harr⟩

theorem LoopAt.round {x : Code} (h : AWp P T c ro x σ (thenK (fun σ' => LoopAt P T c ro x σ' Q) Q)) : LoopAt P T c ro x σ Q := by
  intro hT φ a w hR b k cs hro
  have hb : (FF ro).fn b.fn := trivial
  obtain ⟨e, a₁, w₁, ⟨φ₁, σ₁, hR₁, hq⟩, harr⟩ := h hT φ a w hR b (.inLoop x :: k) cs hro trivial (room_FF _ _)
  cases e with
  | normal =>
    obtain ⟨e₂, a₂, w₂, hq₂, harr₂⟩ := hq hT φ₁ a₁ w₁ hR₁ b k cs hro
    exact ⟨e₂, a₂, w₂, hq₂, .of_steps (StepsIn.trans harr (.one (fenced_calm (n := 0) hb (room_FF _ _) rfl) stepR_inLoop)) harr₂⟩
  | exit id => exact ⟨_, a₁, w₁, ⟨φ₁, σ₁, hR₁, hq⟩, .pass (x := .inLoop x) rfl (fun _ _ => .inl (by simp)) harr⟩
  | goto l => exact ⟨_, a₁, w₁, ⟨φ₁, σ₁, hR₁, hq⟩, .pass (x := .inLoop x) rfl (fun _ _ => .inl (by simp)) harr⟩
  | ret => exact ⟨_, a₁, w₁, ⟨φ₁, σ₁, hR₁, hq⟩, .pass (x := .inLoop x) rfl (fun _ _ => .inl (by simp)) harr⟩
  | panic ch => exact ⟨_, a₁, w₁, ⟨φ₁, σ₁, hR₁, hq⟩, .pass (x := .inLoop x) rfl (fun _ _ => .inl (by simp)) harr⟩
  | outgrown => exact ⟨_, a₁, w₁, ⟨φ₁, σ₁, hR₁, hq⟩, .pass (x := .inLoop x) rfl (fun _ _ => .inl (by simp)) harr⟩

/-! What is known may be forgotten, and names are names. -/
def Sub (c : Ctx) (σ σ' : St) : Prop := ∀ φ a w, Rel c φ σ a w → ∃ φ', Rel c φ' σ' a w

theorem AWp.sub {code : Code} {σ' : St} (hs : Sub c σ σ') (h : AWp P T c ro code σ' Q) : AWp P T c ro code σ Q := by
  intro hT φ a w hR
  obtain ⟨φ', hR'⟩ := hs φ a w hR
  exact h hT φ' a w hR'

theorem LoopAt.sub {x : Code} {σ' : St} (hs : Sub c σ σ') (h : LoopAt P T c ro x σ' Q) : LoopAt P T c ro x σ Q := by
  intro hT φ a w hR
  obtain ⟨φ', hR'⟩ := hs φ a w hR
  exact h hT φ' a w hR'

def ren0 (ρ : Nat → Nat) : AV → AV
  | .ptr i o => .ptr (ρ i) o
  | .own i => .own (ρ i)
  | .eptr i k j => .eptr (ρ i) k j
  | x => x

def ren (ρ : Nat → Nat) : AV → AV
  | .agg xs => .agg (xs.map (ren0 ρ))
  | .clo f xs => .clo f (xs.map (ren0 ρ))
  | x => ren0 ρ x

def ok0 (n : Nat) : AV → Bool
  | .ptr i _ => Nat.blt i n
  | .own i => Nat.blt i n
  | .eptr i _ _ => Nat.blt i n
  | .dat _ => true
  | .nil => true
  | .und => true
  | _ => false

def okR (n : Nat) : AV → Bool
  | .agg xs => xs.all (ok0 n)
  | .clo _ xs => xs.all (ok0 n)
  | x => ok0 n x

theorem ren0_rv {φ : Nat → Lay} {n n' : Nat} {A A' : Nat → Nat → Prop} {w : World} {ρ : Nat → Nat} {x : AV} {v : Value} (hk : Keeps A w A' w) (ho : ok0 n' x = true) (h : RV φ n A w (ren0 ρ x) v) : RV (fun i => φ (ρ i)) n' A' w x v := by
  cases x with
  | und => exact .und _
  | nil => cases h; exact .nil
  | dat d => cases h with | dat _ _ h => exact .dat _ _ (h.keep hk)
  | ptr i o => cases h; exact .ptr (φ := fun i => φ (ρ i)) i o (Nat.blt_eq.mp ho)
  | own i => cases h; exact .own (φ := fun i => φ (ρ i)) i (Nat.blt_eq.mp ho)
  | eptr i k j => cases h; exact .eptr (φ := fun i => φ (ρ i)) i k j (Nat.blt_eq.mp ho)
  | clo f xs => cases ho
  | agg xs => cases ho
  | tup xs => cases ho

theorem ren_rv {φ : Nat → Lay} {n n' : Nat} {A A' : Nat → Nat → Prop} {w : World} {ρ : Nat → Nat} {x : AV} {v : Value} (hk : Keeps A w A' w) (ho : okR n' x = true) (h : RV φ n A w (ren ρ x) v) : RV (fun i => φ (ρ i)) n' A' w x v := by
  have cells : ∀ (xs : List AV) (vs : List Value), xs.all (ok0 n') = true → (∀ j x, (xs.map (ren0 ρ))[j]? = some x → RV φ n A w x (vs.getD j undef)) → ∀ j x, xs[j]? = some x → RV (fun i => φ (ρ i)) n' A' w x (vs.getD j undef) := by
    intro xs vs ha hv j x hj
    exact ren0_rv hk (List.all_eq_true.1 ha x (List.mem_of_getElem? hj)) (hv j _ (by rw [List.getElem?_map, hj]; rfl))
  cases x with
  | agg xs =>
    cases h with
    | agg _ vs hl hv h1 => exact .agg xs vs (by simpa using hl) (cells xs vs ho hv) h1
  | clo f xs =>
    cases h with
    | clo _ _ vs hl hv => exact .clo f xs vs (by simpa using hl) (cells xs vs ho hv)
  | _ => exact ren0_rv hk ho h

def renO (ρ : Nat → Nat) : Obj' → Obj'
  | .box xs f ot => .box (xs.map (ren ρ)) f ot
  | .row e sz es f => .row e sz es f

def okO (n : Nat) : Obj' → Bool
  | .box xs _ _ => xs.all (okR n)
  | .row .. => true

def subT (ρ : Nat → Nat) (n : Nat) (t : Tm) : Tm → Prop
  | [] => True
  | (k, v) :: l => okR n v = true ∧ lk k t = ren ρ v ∧ subT ρ n t l

def subS (ρ : Nat → Nat) (n : Nat) (s : Sto) : Sto → Prop
  | [] => True
  | (i, o) :: l => okO n o = true ∧ Nat.blt i n = true ∧ get (ρ i) s = some (renO ρ o) ∧ subS ρ n s l

theorem subT_spec {ρ : Nat → Nat} {n : Nat} {t : Tm} : ∀ {t' : Tm}, subT ρ n t t' → ∀ k, lk k t' = .und ∨ (okR n (lk k t') = true ∧ lk k t = ren ρ (lk k t'))
  | [], _, k => .inl rfl
  | (j, v) :: l, h, k => by
    rw [lk_cons]
    by_cases hj : j = k
    · subst hj; rw [if_pos rfl]; exact .inr ⟨h.1, h.2.1⟩
    · rw [if_neg hj]; exact subT_spec h.2.2 k

theorem subS_spec {ρ : Nat → Nat} {n : Nat} {s : Sto} : ∀ {s' : Sto}, subS ρ n s s' → ∀ i o, get i s' = some o → okO n o = true ∧ i < n ∧ get (ρ i) s = some (renO ρ o)
  | [], _, i, o, h => by simp [get] at h
  | (j, v) :: l, h, i, o, hg => by
    rw [get_cons] at hg
    by_cases hj : j = i
    · subst hj; rw [if_pos rfl] at hg; cases hg; exact ⟨h.1, Nat.blt_eq.mp h.2.1, h.2.2.1⟩
    · rw [if_neg hj] at hg; exact subS_spec h.2.2.2 i o hg

theorem Sub.of (ρ : Nat → Nat) {σ' : St} (hm : c.m ≤ σ'.n ∧ ∀ i, i < c.m → ρ i = i) (hd : σ'.d = σ.d) (ht : subT ρ σ'.n σ.t σ'.t) (hs : subS ρ σ'.n σ.s σ'.s) (hi : ∀ i j, i < σ'.n → j < σ'.n → ρ i = ρ j → i = j) : Sub c σ σ' := by
  intro φ a w hR
  refine ⟨fun i => φ (ρ i), ?_⟩
  have hk : Keeps (c.AA φ σ.s) w (c.AA (fun i => φ (ρ i)) σ'.s) w := fun b o v ha hv => ⟨⟨ha.1, fun i x hx hb => by
    obtain ⟨_, _, h3⟩ := subS_spec hs i x hx
    have := ha.2 _ _ h3 hb
    cases x <;> exact this⟩, hv⟩
  refine ⟨hR.size, by rw [hd]; exact hR.defers, fun k => ?_, ⟨hR.mem.below, fun i o ho => ?_, fun i j oi oj hoi hoj he => ?_, hR.mem.oth, fun b o v hp => hk b o v (hR.mem.pin b o v hp).1 (hR.mem.pin b o v hp).2, ⟨hm.1, fun i hi => by rw [hm.2 i hi]; exact hR.mem.fv.2.1 i hi, fun p hp => (hR.mem.fv.2.2 p hp).keep hk (fun i hi => by rw [hm.2 i hi]) (Nat.le_refl _)⟩, hR.mem.hld.keep (fun _ _ _ _ => rfl) fun i o ho => .inl ⟨ρ i, _, (subS_spec hs i o ho).2.2, rfl⟩, hR.mem.gw⟩⟩
  · rcases subT_spec ht k with h | ⟨h1, h2⟩
    · rw [h]; exact .und _
    · have := hR.tm k
      rw [h2] at this
      exact ren_rv hk h1 this
  · obtain ⟨h1, h2, h3⟩ := subS_spec hs i o ho
    obtain ⟨g1, g2, g3⟩ := hR.mem.obj _ _ h3
    refine ⟨g1, h2, ?_⟩
    cases o with
    | box xs f =>
      obtain ⟨vs, ty, hh, hl, hv1, hv⟩ := g3
      refine ⟨vs, ty, hh, by simpa using hl, hv1, fun j x hj => ?_⟩
      exact ren_rv hk (List.all_eq_true.1 h1 x (List.mem_of_getElem? hj)) (hv j _ (by rw [List.getElem?_map, hj]; rfl))
    | row e sz es f =>
      obtain ⟨h0, hz, hes, hlen, cur, hh, hcl, hlc, hml, hc1, hv⟩ := g3
      exact ⟨h0, hz, hes, hlen, cur, hh, hcl, hlc, hml, hc1, fun k el j d a b => (hv k el j d a b).keep hk⟩
  · obtain ⟨_, h2, h3⟩ := subS_spec hs i oi hoi
    obtain ⟨_, h2', h3'⟩ := subS_spec hs j oj hoj
    exact hi i j h2 h2' (hR.mem.inj _ _ _ _ h3 h3' he)

theorem Sub.of0 (hm : c.m = 0 ∧ c.fv = []) (ρ : Nat → Nat) {σ' : St} (hd : σ'.d = σ.d) (ht : subT ρ σ'.n σ.t σ'.t) (hs : subS ρ σ'.n σ.s σ'.s) (hi : ∀ i j, i < σ'.n → j < σ'.n → ρ i = ρ j → i = j) : Sub c σ σ' :=
  Sub.of ρ ⟨by rw [hm.1]; exact Nat.zero_le _, fun i h => by rw [hm.1] at h; exact absurd h (Nat.not_lt_zero _)⟩ hd ht hs hi

/-- Names as they are: what is known is forgotten in part. -/
theorem Sub.id {σ' : St} (hd : σ'.d = σ.d) (hn : σ'.n = σ.n) (ht : ∀ k, lk k σ'.t = .und ∨ lk k σ'.t = lk k σ.t) (hs : σ'.s = σ.s) : Sub c σ σ' := by
  intro φ a w hR
  refine ⟨φ, hR.size, by rw [hd]; exact hR.defers, fun k => ?_, by rw [hs, hn]; exact hR.mem⟩
  rw [hs, hn]
  rcases ht k with h | h
  · rw [h]; exact .und _
  · rw [h]; exact hR.tm k

/-! Regions in their order. -/
theorem AWp.region {id : Nat} {ops : Array Oper} (hok : ops.toList.all (dstOk c.N) = true) (h : runO P T ops.toList ops.toList σ fun σ' => Q .normal σ') : AWp P T c ro (.region id ops false) σ Q := by
  intro hT φ a w hR
  refine wpIn_region_list ?_
  have := runO_ok (ro := ro) (Q := Conc c Q) hT ops.toList ops.toList σ φ a w _ hok hR h (fun φ' σ' a' w' hK hR' => ⟨φ', σ', hR', hK⟩)
  simpa using this

/-! Functions. -/
def codeOk (N : Nat) : Code → Bool
  | .region _ ops _ => ops.toList.all (dstOk N)
  | .seq a b => codeOk N a && codeOk N b
  | .cond _ a b => codeOk N a && codeOk N b
  | .block _ a => codeOk N a
  | .loop a => codeOk N a
  | .scope a => codeOk N a
  | .rangeFunc _ _ a b => codeOk N a && codeOk N b
  | _ => true

def numA : Nat → List AV → Tm
  | _, [] => []
  | i, x :: xs => (i, x) :: numA (i + 1) xs

theorem lk_numA : ∀ (xs : List AV) (i k : Nat), lk k (numA i xs) = if i ≤ k then (xs[k - i]?).getD .und else .und
  | [], i, k => by simp [numA, lk]
  | x :: xs, i, k => by
    rw [numA, lk_cons, lk_numA xs (i + 1) k]
    by_cases h : i = k
    · subst h; simp
    · rw [if_neg h]
      by_cases h' : i ≤ k
      · rw [if_pos h', if_pos (by omega)]
        have : k - i = (k - (i + 1)) + 1 := by omega
        rw [this]; rfl
      · rw [if_neg h', if_neg (by omega)]

def resC (T : Tab) : List ResultVar → St → (List AV → Prop) → Prop
  | [], _, K => K []
  | .tmp t :: vs, σ, K => resC T vs σ fun xs => K (lk t σ.t :: xs)
  | .cell p ty :: vs, σ, K => loadK σ.s T ty (lk p σ.t) fun x => resC T vs σ fun xs => K (x :: xs)

def retV : List AV → AV
  | [x] => x
  | xs => .tup xs

def retK (T : Tab) (rs : List ResultVar) (σ : St) (R : AV → Prop) : Prop :=
  resC T rs σ fun xs => match toAs σ.s xs with
    | some (ys, _) => R (retV ys)
    | none => False

def retQ (T : Tab) (rs : List ResultVar) (R : AV → Prop) : Exit → St → Prop
  | .normal, σ => retK T rs σ R
  | .ret, σ => retK T rs σ R
  | _, _ => False

theorem resC_ok (hT : TabOk P T) {φ : Nat → Lay} {a : Act} {w : World} (hR : Rel c φ σ a w) : ∀ (rs : List ResultVar) (K : List AV → Prop), resC T rs σ K →
    ∃ (xs : List AV) (vs : List Value), (rs.mapM (fun
      | .tmp t => pure (a.tmps.getD t undef)
      | .cell p t => do loadVar t (← asAddr (a.tmps.getD p undef)) : ResultVar → Sem Value)).run P w = .ok vs w ∧ vs.length = xs.length ∧ (∀ j x, xs[j]? = some x → RV φ σ.n (c.AA φ σ.s) w x (vs.getD j undef)) ∧ K xs
  | [], K, h => ⟨[], [], by simp, rfl, by simp, h⟩
  | .tmp t :: rs, K, h => by
    obtain ⟨xs, vs, h1, h2, h3, h4⟩ := resC_ok hT hR rs _ h
    refine ⟨_, a.tmps.getD t undef :: vs, by simp only [List.mapM_cons, pure_bind, Sem.run_bind, h1, Result.andThen_ok, Sem.run_pure], by simp [h2], fun j x hj => ?_, h4⟩
    cases j with
    | zero => simp only [List.getElem?_cons_zero, Option.some.injEq] at hj; subst hj; simp only [List.getD_cons_zero]; exact hR.tm t
    | succ j => simp only [List.getElem?_cons_succ] at hj; simpa using h3 j x hj
  | .cell p ty :: rs, K, h => by
    obtain ⟨r, z, hr, hrv, hK⟩ := loadK_ok (P := P) hT hR.mem (hR.tm p) h
    obtain ⟨xs, vs, h1, h2, h3, h4⟩ := resC_ok hT hR rs _ hK
    have hload : (do loadVar ty (← asAddr (a.tmps.getD p undef)) : Sem Value).run P w = .ok z w := by
      unfold Instr.loadAt at hr
      cases hp : a.tmps.getD p undef with
      | pointer o =>
        cases o with
        | none => rw [hp] at hr; simp [Instr.sureAddr] at hr
        | some ad => rw [hp] at hr; simpa [Instr.sureAddr, asAddr] using hr
      | _ => rw [hp] at hr; simp [Instr.sureAddr] at hr
    refine ⟨_, z :: vs, by simp only [List.mapM_cons]; rw [Sem.run_bind, hload]; simp only [Result.andThen_ok, Sem.run_bind, h1, Sem.run_pure], by simp [h2], fun j x hj => ?_, h4⟩
    cases j with
    | zero => simp at hj; subst hj; simpa using hrv
    | succ j => simp at hj; simpa using h3 j x hj

theorem retK_ok (hT : TabOk P T) {φ : Nat → Lay} {a : Act} {w : World} (hR : Rel c φ σ a w) {fn : Func} {R : AV → Prop} (h : retK T fn.results.toList σ R) :
    ∃ v r, (results fn a.tmps).run P w = .ok v w ∧ R r ∧ RV φ0 0 (fun b o => c.A0 b o ∨ c.w0.heap.size ≤ b) w r v := by
  obtain ⟨xs, vs, h1, h2, h3, h4⟩ := resC_ok hT hR _ _ h
  split at h4
  case h_2 => exact h4.elim
  rename_i ys s' hys
  obtain ⟨g, l, r⟩ := toAs_ok hR.mem hys
  have hrv := r vs h3
  have hall : ∀ j y, ys[j]? = some y → RV φ0 0 (fun b o => c.A0 b o ∨ c.w0.heap.size ≤ b) w y (vs.getD j undef) := fun j y hj =>
    ((hrv j y hj).keep (fun b o v ha hv => ⟨ha.1.1, hv⟩) (fun i hi => by omega) (Nat.le_refl _))
  have hm : (fn.results.mapM (fun
      | .tmp t => pure (a.tmps.getD t undef)
      | .cell p t => do loadVar t (← asAddr (a.tmps.getD p undef)) : ResultVar → Sem Value)).run P w = .ok vs.toArray w := by
    rw [Array.mapM_eq_mapM_toList, Sem.run_map, h1]; rfl
  have hvl : vs.length = ys.length := by omega
  refine ⟨if h : vs.toArray.size = 1 then vs.toArray[0] else .tuple vs.toArray, retV ys, ?_, h4, ?_⟩
  · unfold results
    rw [Sem.run_bind]
    exact congrArg (fun r => Result.andThen r (fun (a : Array Value) w' => Sem.run P (pure (if h : a.size = 1 then a[0] else Value.tuple a)) w')) hm
  · match ys, hvl, hall with
    | [], hvl, hall =>
      have : vs = [] := List.eq_nil_of_length_eq_zero hvl
      subst this
      exact .tup [] [] rfl (by simp)
    | [y], hvl, hall =>
      match vs, hvl with
      | [v], _ => exact hall 0 y rfl
    | y :: y' :: ys, hvl, hall =>
      have : ¬ vs.toArray.size = 1 := by simp at hvl ⊢; omega
      rw [dif_neg this]
      exact .tup _ vs hvl hall

theorem enters_of' {f : FuncId} {fn : Func} {code : Code} (hf : P.funcs[f]? = some fn) (hb : fn.body = some code) (hn : (fn.name == "runtime.NumGoroutine") = false) : Enters P f := fun args w => by
  have hn' : ¬ fn.name = "runtime.NumGoroutine" := by simpa using hn
  simp [callFunc, hf, hb, hn']

/-- Data in, data out, and what is said of the result. -/
def PCr (P : Program) (f : FuncId) (args : List AV) (R : AV → Prop) : Prop :=
  Enters P f ∧ ∀ (w : World) (A : Nat → Nat → Prop) (vs : List Value), GW A w → vs.length = args.length → (∀ j x, args[j]? = some x → RV φ0 0 A w x (vs.getD j undef)) →
    Calls P f vs.toArray w fun e w' => ∃ v r, e = .returned v ∧ R r ∧ Below w.heap.size w w' ∧ RV φ0 0 (fun b o => A b o ∨ w.heap.size ≤ b) w' r v

theorem PCr.pc {f : FuncId} {args : List AV} {r : AV} (h : PCr P f args (· = r)) : PC P f args r :=
  ⟨h.1, fun w A vs hgw hl hv => (h.2 w A vs hgw hl hv).mono fun e w' ⟨v, r', he, hr, hb, hrv⟩ => ⟨v, he, hb, hr ▸ hrv⟩⟩

theorem cells_of_ok {φ : Nat → Lay} {s : Sto} {n : Nat} {w : World} {i : Nat} {o : Obj'} (h : ObjOk c φ s n w i o) : ∃ vs ty, w.heap[(φ i).b]? = some (.cells vs ty (0, 0)) := by
  cases o with
  | box xs f => obtain ⟨vs, ty, h1, _⟩ := h; exact ⟨_, _, h1⟩
  | row e sz es f => obtain ⟨_, _, _, _, cur, h1, _⟩ := h; exact ⟨_, _, h1⟩

/-- A block that holds no cells is turned. -/
theorem Mem.shut {φ : Nat → Lay} {s : Sto} {n : Nat} {w : World} (h : Mem c φ s n w) {r : Nat} {o : Obj} (o' : Obj) (hr : w.heap[r]? = some o) (hnc : o.isCells = false) (hb : c.w0.heap.size ≤ r) :
    Mem { c with w1 := w.putObj r o', pin := fun _ _ _ => False } φ s n (w.putObj r o') ∧ Keeps (c.AA φ s) w (c.AA φ s) (w.putObj r o') := by
  have hk : Keeps (c.AA φ s) w (c.AA φ s) (w.putObj r o') := fun b off v ha hv => ⟨ha, by
    rw [World.cell?_of_block (w := w)]
    · exact hv
    · refine World.putObj_heap_other fun e => ?_
      simp only at e
      subst e
      obtain ⟨ob, h1, h2⟩ := cells_of_cell hv
      simp only at h1
      rw [hr] at h1; cases h1; rw [hnc] at h2; cases h2⟩
  have hbl : Below c.w0.heap.size c.w0 (w.putObj r o') := ⟨h.below.os, h.below.tape, h.below.output, by rw [World.putObj_size]; exact h.below.size, fun i hi => (World.putObj_heap_other (by omega)).trans (h.below.block i hi)⟩
  refine ⟨⟨hbl, fun i x hx => ?_, h.inj, KeepsOthers.refl _, fun _ _ _ h => h.elim, h.fv_keep hk (fun _ _ => rfl) (Nat.le_refl _), Held.keep (c := { c with w1 := w.putObj r o', pin := fun _ _ _ => False }) h.hld (fun b ob hb' hw => World.putObj_heap_other fun e => by
    subst e; rw [hr] at hw; cases hw
    have := (h.hld.1 _ _ hb').1; rw [hnc] at this; cases this) (fun i o ho => .inl ⟨i, o, ho, rfl⟩), h.gw⟩, hk⟩
  obtain ⟨h1, h2, h3⟩ := h.obj i x hx
  refine ⟨h1, h2, h3.keep hk (fun _ _ => rfl) h2 (Nat.le_refl _) (World.putObj_heap_other fun e => ?_)⟩
  obtain ⟨vs, ty, h4⟩ := cells_of_ok h3
  rw [e, hr] at h4; cases h4; cases hnc

theorem resC_d {k : Nat} : ∀ (rs : List ResultVar) (K : List AV → Prop), resC T rs { σ with d := k } K = resC T rs σ K
  | [], K => rfl
  | .tmp t :: vs, K => by simp only [resC]; exact resC_d vs _
  | .cell p ty :: vs, K => by
    simp only [resC]
    congr 1
    funext x
    exact resC_d vs _
theorem retK_d {k : Nat} {rs : List ResultVar} {R : AV → Prop} : retK T rs { σ with d := k } R = retK T rs σ R := resC_d rs _

theorem leave_ok {F : Fence} {m : Nat} (hT : TabOk P T) {fn : Func} {R : AV → Prop} {Rw : Ending → World → Prop} (h : retK T fn.results.toList σ R) (hR' : ∀ w' r v, Below c.w0.heap.size c.w0 w' → R r → RV φ0 0 (fun b o => c.A0 b o ∨ c.w0.heap.size ≤ b) w' r v → Rw (.returned v) w') :
    ∀ (ds : List Deferred) (c' : Ctx) (k : Nat) (φ : Nat → Lay) (a : Act) (w : World), c'.w0 = c.w0 → c'.A0 = c.A0 → Rel c' φ { σ with d := k } { a with defers := ds } w → LeavesInM F m P fn a.tmps Rw ds .returning w
  | [], c', k, φ, a, w, e1, e2, hR => by
    obtain ⟨v, r, hr, hRr, hrv⟩ := retK_ok (fn := fn) (R := R) hT hR (by rw [retK_d]; exact h)
    rw [e1, e2] at hrv
    exact ⟨v, hr, hR' w r v (by have := hR.mem.below; rw [e1] at this; exact this) hRr hrv⟩
  | d :: ds, c', k, φ, a, w, e1, e2, hR => by
    obtain ⟨hl, hnd, hm⟩ := hR.defers
    obtain ⟨r, rfl, hb, hd⟩ := hm d (List.mem_cons_self ..)
    obtain ⟨h1, h2⟩ := hR.mem.shut (.deferred none) hd rfl hb
    refine ⟨by simp, .inl ⟨r, _, rfl, run_takeDeferred hd, ?_⟩⟩
    refine leave_ok hT h hR' ds { c' with w1 := w.putObj r (.deferred none), pin := fun _ _ _ => False } ds.length φ a (w.putObj r (.deferred none)) e1 e2 ⟨hR.size, ⟨rfl, (List.nodup_cons.1 hnd).2, fun d hd' => ?_⟩, fun t => (hR.tm t).keep h2 (fun _ _ => rfl) (Nat.le_refl _), h1⟩
    obtain ⟨r', rfl, hb', hd''⟩ := hm d (List.mem_cons_of_mem _ hd')
    refine ⟨r', rfl, hb', (World.putObj_heap_other fun e => ?_).trans hd''⟩
    subst e
    exact (List.nodup_cons.1 hnd).1 hd'

theorem PCr.of {f : FuncId} {fn : Func} {code : Code} {args : List AV} {R : AV → Prop} (hT : TabOk P T) (hf : P.funcs[f]? = some fn) (hb : fn.body = some code) (hn : (fn.name == "runtime.NumGoroutine") = false)
    (hargs : Nat.ble args.length fn.ntmps = true) (h : ∀ c : Ctx, c.N = fn.ntmps → (c.m = 0 ∧ c.fv = []) → AWp P T c none code { t := numA 0 args, s := [], n := 0 } (retQ T fn.results.toList R)) : PCr P f args R := by
  refine ⟨enters_of' hf hb hn, fun w A vs hgw hl hv => ?_⟩
  have hargs' : args.length ≤ fn.ntmps := Nat.le_of_ble_eq_true hargs
  refine (callsIn_wide (n := 0)).1 ?_
  show CallsIn (FF none) 0 P f vs.toArray w _
  refine callsIn_of_wp_marks hf hb trivial ?_
  have hR : Rel { w0 := w, A0 := A, N := fn.ntmps } φ0 { t := numA 0 args, s := [], n := 0 } { tmps := vs.toArray ++ Array.replicate (fn.ntmps - vs.toArray.size) undef, defers := [] } w := by
    refine ⟨by simp; omega, ⟨rfl, by simp, by simp⟩, fun t => ?_, ⟨Below.refl _ _, fun i o h => by simp [get] at h, fun i j oi oj h => by simp [get] at h, KeepsOthers.refl _, fun _ _ _ h => h.elim, ⟨Nat.le_refl _, fun i hi => absurd hi (Nat.not_lt_zero _), by simp⟩, ⟨fun b ob h => by simp at h, fun b o h => h.elim⟩, hgw⟩⟩
    rw [lk_numA, if_pos (Nat.zero_le _), Nat.sub_zero]
    cases ha : args[t]? with
    | none => exact .und _
    | some x =>
      have hlt : t < vs.length := by have := (List.getElem?_eq_some_iff.1 ha).1; omega
      have e : (vs.toArray ++ Array.replicate (fn.ntmps - vs.toArray.size) undef).getD t undef = vs.getD t undef := by
        simp [List.getD, Array.getElem?_append, hlt]
      simp only [Option.getD_some]
      rw [e]
      exact (hv t x ha).keep (fun b o v hA hv => ⟨⟨⟨.inl hA, fun h => h⟩, fun i x h => by simp [get] at h⟩, hv⟩) (fun i hi => by omega) (Nat.le_refl _)
  refine wpIn_mono (h { w0 := w, A0 := A, N := fn.ntmps } rfl ⟨rfl, rfl⟩ hT φ0 _ w hR) fun e a' w' hc => ?_
  obtain ⟨φ', σ', hR', hQ⟩ := hc
  cases e with
  | normal => exact leave_ok (c := { w0 := w, A0 := A, N := fn.ntmps }) hT hQ (fun w' r v hb hRr hrv => ⟨v, r, rfl, hRr, hb, hrv⟩) a'.defers _ σ'.d φ' a' w' rfl rfl hR'
  | ret => exact leave_ok (c := { w0 := w, A0 := A, N := fn.ntmps }) hT hQ (fun w' r v hb hRr hrv => ⟨v, r, rfl, hRr, hb, hrv⟩) a'.defers _ σ'.d φ' a' w' rfl rfl hR'
  | _ => exact hQ.elim

end
end Go.Abs
end
