/- The rules of the abstract walk, second half: code, loops, drawn orders, open calls; the table of types. -/
import Derived.Test.YthhjcfejgoddlaaGreatDoorKa
import Derived.RangeFuncNested
import Derived.Lib.AppendStr
import Derived.Lib.UnsafeStr
import Derived.Lib.Builder
import Derived.Test.YthhjcfejgoddlaaGreatDoorProg
import Derived.KernelRfl
section
set_option linter.unusedSimpArgs false
/- The rules as rewrite rules: one for each operation. -/
set_option linter.unusedVariables false
namespace Go.Abs
open Go.RowKit

section
variable {P : Program} {T : Tab} {ops : List Oper} {rest : List Oper} {σ : St} {K : St → Prop} {dst : Option Nat} {ty : TypeId} {pos : String} {af : Array Edge} {g : Option (Nat × Bool)} {t : Tm} {s : Sto} {n : Nat} {d : Nat}

theorem runO_nil : runO P T ops [] σ K = K σ := rfl
theorem runO_cons {o : Op} : runO P T ops (⟨dst, o, ty, pos, af, none⟩ :: rest) ⟨t, s, n, d⟩ K = stepK P T ⟨dst, o, ty, pos, af, none⟩ ⟨t, s, n, d⟩ fun σ' => runO P T ops rest σ' K := rfl
/-- A guarded operation, its guard known or not. -/
def gdO (P : Program) (T : Tab) (ops : List Oper) (o : Oper) (rest : List Oper) (want : Bool) (σ : St) (K : St → Prop) (q : AV) : Prop :=
  match q with
  | .dat (.bool b) => ((b == want) = true → stepK P T o σ fun σ' => runO P T ops rest σ' K) ∧ ((b == want) = false → runO P T ops rest { σ with t := putA o.dst (.tup []) σ.t } K)
  | .tup [] => runO P T ops rest { σ with t := putA o.dst (.tup []) σ.t } K
  | _ => False

theorem runO_guard {o : Op} {j : Nat} {want : Bool} : runO P T ops (⟨dst, o, ty, pos, af, some (j, want)⟩ :: rest) ⟨t, s, n, d⟩ K =
    match (ops[j]?).bind (·.dst) with
    | some g => gdO P T ops ⟨dst, o, ty, pos, af, some (j, want)⟩ rest want ⟨t, s, n, d⟩ K (lk g t)
    | none => False := rfl
theorem gdO_tt {o : Oper} {σ : St} : gdO P T ops o rest true σ K (.dat (.bool true)) = stepK P T o σ fun σ' => runO P T ops rest σ' K := by simp [gdO]
theorem gdO_ff {o : Oper} {σ : St} : gdO P T ops o rest false σ K (.dat (.bool false)) = stepK P T o σ fun σ' => runO P T ops rest σ' K := by simp [gdO]
theorem gdO_tf {o : Op} : gdO P T ops ⟨dst, o, ty, pos, af, g⟩ rest false ⟨t, s, n, d⟩ K (.dat (.bool true)) = runO P T ops rest ⟨putA dst (.tup []) t, s, n, d⟩ K := by simp [gdO]
theorem gdO_ft {o : Op} : gdO P T ops ⟨dst, o, ty, pos, af, g⟩ rest true ⟨t, s, n, d⟩ K (.dat (.bool false)) = runO P T ops rest ⟨putA dst (.tup []) t, s, n, d⟩ K := by simp [gdO]
theorem gdO_skp {o : Op} {want : Bool} : gdO P T ops ⟨dst, o, ty, pos, af, g⟩ rest want ⟨t, s, n, d⟩ K (.tup []) = runO P T ops rest ⟨putA dst (.tup []) t, s, n, d⟩ K := rfl
theorem gdO_split {o : Oper} {want b : Bool} {σ : St} (h1 : b = true → gdO P T ops o rest want σ K (.dat (.bool true))) (h2 : b = false → gdO P T ops o rest want σ K (.dat (.bool false))) :
    gdO P T ops o rest want σ K (.dat (.bool b)) := by
  cases b
  · exact h2 rfl
  · exact h1 rfl

theorem step_move {x : Operand} : stepK P T ⟨dst, .move x, ty, pos, af, g⟩ ⟨t, s, n, d⟩ K = K ⟨putA dst (evA t x) t, s, n, d⟩ := rfl
theorem step_assign {x : Operand} : stepK P T ⟨dst, .assign x, ty, pos, af, g⟩ ⟨t, s, n, d⟩ K = K ⟨putA dst (evA t x) t, s, n, d⟩ := rfl
theorem step_pick {q x y : Operand} : stepK P T ⟨dst, .pick q x y, ty, pos, af, g⟩ ⟨t, s, n, d⟩ K = match evA t q with
    | .dat (.bool b) => K ⟨putA dst (pickA b (evA t x) (evA t y)) t, s, n, d⟩
    | _ => False := rfl
theorem step_alloc {u : TypeId} : stepK P T ⟨dst, .alloc u, ty, pos, af, g⟩ ⟨t, s, n, d⟩ K = allocK T u s n fun r s1 n1 => K ⟨putA dst r t, s1, n1, d⟩ := rfl
theorem step_box {u : TypeId} {x : Operand} : stepK P T ⟨dst, .box u x, ty, pos, af, g⟩ ⟨t, s, n, d⟩ K = boxK (evA t x) s n fun r s1 n1 => K ⟨putA dst r t, s1, n1, d⟩ := rfl
theorem step_build {u : TypeId} {ps : Array (Nat × Operand)} : stepK P T ⟨dst, .build u ps, ty, pos, af, g⟩ ⟨t, s, n, d⟩ K = structK T u (ps.toList.map fun p => (p.1, evA t p.2)) fun r => K ⟨putA dst r t, s, n, d⟩ := rfl
theorem step_buildSlice {u : TypeId} {l : Nat} {ps : Array (Nat × Operand)} : stepK P T ⟨dst, .buildSlice u l ps, ty, pos, af, g⟩ ⟨t, s, n, d⟩ K = sliceK T u l (ps.toList.map fun p => (p.1, evA t p.2)) s n fun r s1 n1 => K ⟨putA dst r t, s1, n1, d⟩ := rfl
theorem step_load {u : TypeId} {x : Operand} : stepK P T ⟨dst, .load u x, ty, pos, af, g⟩ ⟨t, s, n, d⟩ K = loadK s T u (evA t x) fun r => K ⟨putA dst r t, s, n, d⟩ := rfl
theorem step_store {u : TypeId} {x y : Operand} : stepK P T ⟨dst, .store u x y, ty, pos, af, g⟩ ⟨t, s, n, d⟩ K = storeK T u (evA t x) (evA t y) s fun s1 => K ⟨putA dst .und t, s1, n, d⟩ := rfl
theorem step_nilCheck {x : Operand} : stepK P T ⟨dst, .nilCheck x, ty, pos, af, g⟩ ⟨t, s, n, d⟩ K = match evA t x with
    | .ptr k o => K ⟨putA dst (.ptr k o) t, s, n, d⟩
    | .dat (.cptr cs) => K ⟨putA dst (.dat (.cptr cs)) t, s, n, d⟩
    | _ => False := rfl
theorem step_binOp {op : BinOp} {u u' : TypeId} {x y : Operand} : stepK P T ⟨dst, .binOp op u x y u', ty, pos, af, g⟩ ⟨t, s, n, d⟩ K = binC T op u y (evA t x) (evA t y) fun r => K ⟨putA dst r t, s, n, d⟩ := rfl
theorem step_unOp {op : UnOp} {u : TypeId} {x : Operand} : stepK P T ⟨dst, .unOp op u x, ty, pos, af, g⟩ ⟨t, s, n, d⟩ K = unK op (evA t x) fun r => K ⟨putA dst r t, s, n, d⟩ := rfl
theorem step_convert {u u' : TypeId} {x : Operand} : stepK P T ⟨dst, .convert u u' x, ty, pos, af, g⟩ ⟨t, s, n, d⟩ K = convK T u u' (evA t x) fun r => K ⟨putA dst r t, s, n, d⟩ := rfl
theorem step_mkIf {u : TypeId} {x : Operand} : stepK P T ⟨dst, .makeInterface u x, ty, pos, af, g⟩ ⟨t, s, n, d⟩ K = mkIfK T u (evA t x) fun r => K ⟨putA dst r t, s, n, d⟩ := rfl
theorem step_makeFunc {fn : Fn} {first caps : Array Operand} : stepK P T ⟨dst, .makeFunc fn first caps, ty, pos, af, g⟩ ⟨t, s, n, d⟩ K = lamK fn first (caps.toList.map (evA t)) fun r => K ⟨putA dst r t, s, n, d⟩ := rfl
theorem step_makeSlice {u : TypeId} {x y : Operand} : stepK P T ⟨dst, .makeSlice u x y, ty, pos, af, g⟩ ⟨t, s, n, d⟩ K = makeK T u (evA t x) (evA t y) s n fun r s1 n1 => K ⟨putA dst r t, s1, n1, d⟩ := rfl
def cutA (T : Tab) (u : TypeId) (x : AV) (lo hi : Option AV) (s : Sto) (K : AV → Sto → Prop) : Prop :=
  match x with
  | .own k => match toC0 s (.own k) with
    | some (d, s1) => cutK T u (.dat d) lo hi fun r => K r s1
    | none => False
  | y => cutK T u y lo hi fun r => K r s
theorem step_slice {u : TypeId} {x : Operand} {lo hi : Option Operand} : stepK P T ⟨dst, .slice u x lo hi none, ty, pos, af, g⟩ ⟨t, s, n, d⟩ K = cutA T u (evA t x) (lo.map (evA t)) (hi.map (evA t)) s fun r s1 => K ⟨putA dst r t, s1, n, d⟩ := by
  simp only [stepK, callOf, opK, cutA]
  generalize evA t x = y
  cases y <;> rfl
theorem step_fieldAddr {u : TypeId} {x : Operand} {f : Nat} : stepK P T ⟨dst, .fieldAddr u x f, ty, pos, af, g⟩ ⟨t, s, n, d⟩ K = faddrK T u f (evA t x) fun r => K ⟨putA dst r t, s, n, d⟩ := rfl
theorem step_field {u : TypeId} {x : Operand} {f : Nat} : stepK P T ⟨dst, .field u x f, ty, pos, af, g⟩ ⟨t, s, n, d⟩ K = fieldK T u f (evA t x) fun r => K ⟨putA dst r t, s, n, d⟩ := rfl
theorem step_indexAddr {u : TypeId} {x y : Operand} : stepK P T ⟨dst, .indexAddr u x y, ty, pos, af, g⟩ ⟨t, s, n, d⟩ K = iaddrK s T u (evA t x) (evA t y) fun r => K ⟨putA dst r t, s, n, d⟩ := rfl
theorem step_index {u : TypeId} {x y : Operand} : stepK P T ⟨dst, .index u x y, ty, pos, af, g⟩ ⟨t, s, n, d⟩ K = strIxK T u (evA t x) (evA t y) fun r => K ⟨putA dst r t, s, n, d⟩ := rfl
theorem step_extract {x : Operand} {i : Nat} : stepK P T ⟨dst, .extract x i, ty, pos, af, g⟩ ⟨t, s, n, d⟩ K = extK (evA t x) i fun r => K ⟨putA dst r t, s, n, d⟩ := rfl
theorem step_len {x : Operand} {u : TypeId} : stepK P T ⟨dst, .call { callee := .builtin .len, args := #[x], argTypes := #[u] }, ty, pos, af, g⟩ ⟨t, s, n, d⟩ K = lenK s T u (evA t x) fun r => K ⟨putA dst r t, s, n, d⟩ := rfl
theorem step_append {x y : Operand} {u u' : TypeId} : stepK P T ⟨dst, .call { callee := .builtin .append, args := #[x, y], argTypes := #[u, u'] }, ty, pos, af, g⟩ ⟨t, s, n, d⟩ K = (u' = u ∧ appK T u (evA t x) (evA t y) s n fun r s1 n1 => K ⟨putA dst r t, s1, n1, d⟩) := rfl
theorem step_max {x y : Operand} {us : Array TypeId} : stepK P T ⟨dst, .call { callee := .builtin .max, args := #[x, y], argTypes := us }, ty, pos, af, g⟩ ⟨t, s, n, d⟩ K = maxK (evA t x) (evA t y) fun r => K ⟨putA dst r t, s, n, d⟩ := rfl
theorem step_min {x y : Operand} {us : Array TypeId} : stepK P T ⟨dst, .call { callee := .builtin .min, args := #[x, y], argTypes := us }, ty, pos, af, g⟩ ⟨t, s, n, d⟩ K = minK (evA t x) (evA t y) fun r => K ⟨putA dst r t, s, n, d⟩ := rfl
theorem step_call {f : Operand} {xs : Array Operand} {us : Array TypeId} : stepK P T ⟨dst, .call { callee := .value f, args := xs, argTypes := us }, ty, pos, af, g⟩ ⟨t, s, n, d⟩ K = calleeK P s (evA t f) (xs.toList.map (evA t)) fun r s1 => K ⟨putA dst r t, s1, n, d⟩ := rfl

theorem ev_tmp {k : Nat} : evA t (.tmp k) = lk k t := rfl
theorem ev_const {v : Value} : evA t (.const v) = constA v := rfl
theorem ev_func {f : FuncId} : evA t (.func f) = .dat (.fn f []) := rfl
theorem c_bool {b : Bool} : constA (.bool b) = .dat (.bool b) := rfl
theorem c_int {k : IntKind} {m : Int} : constA (.int k m) = .dat (.int k m) := rfl
theorem c_string {b : ByteArray} : constA (.string b) = .dat (.str b) := rfl
theorem c_slice : constA (.slice none 0 0) = .nil := rfl
theorem c_nilIface : constA .nilIface = .dat .inil := rfl
theorem c_nilFunc : constA .nilFunc = .dat .fnil := rfl
theorem c_pointer : constA (.pointer none) = .dat .pnil := rfl
theorem put_some {k : Nat} {r : AV} : putA (some k) r t = (k, r) :: t := rfl
theorem put_none {r : AV} : putA none r t = t := rfl

/-! Integers, bools. -/
section
variable {k : IntKind} {a b : Int} {u : TypeId} {C : AV → Prop}
theorem bin_add : binK T .add u (.dat (.int k a)) (.dat (.int k b)) C = (k = k ∧ C (.dat (.int k (k.wrap (a + b))))) := rfl
theorem bin_sub : binK T .sub u (.dat (.int k a)) (.dat (.int k b)) C = (k = k ∧ C (.dat (.int k (k.wrap (a - b))))) := rfl
theorem bin_mul : binK T .mul u (.dat (.int k a)) (.dat (.int k b)) C = (k = k ∧ C (.dat (.int k (k.wrap (a * b))))) := rfl
theorem bin_quo : binK T .quo u (.dat (.int k a)) (.dat (.int k b)) C = (k = k ∧ b ≠ 0 ∧ C (.dat (.int k (k.wrap (a.tdiv b))))) := rfl
theorem bin_rem : binK T .rem u (.dat (.int k a)) (.dat (.int k b)) C = (k = k ∧ b ≠ 0 ∧ C (.dat (.int k (a.tmod b)))) := rfl
theorem bin_eql : binK T .eql u (.dat (.int k a)) (.dat (.int k b)) C = (k = k ∧ C (.dat (.bool (a == b)))) := rfl
theorem bin_neq : binK T .neq u (.dat (.int k a)) (.dat (.int k b)) C = (k = k ∧ C (.dat (.bool (a != b)))) := rfl
theorem bin_lss : binK T .lss u (.dat (.int k a)) (.dat (.int k b)) C = (k = k ∧ C (.dat (.bool (decide (a < b))))) := rfl
theorem bin_leq : binK T .leq u (.dat (.int k a)) (.dat (.int k b)) C = (k = k ∧ C (.dat (.bool (decide (a ≤ b))))) := rfl
theorem bin_gtr : binK T .gtr u (.dat (.int k a)) (.dat (.int k b)) C = (k = k ∧ C (.dat (.bool (decide (b < a))))) := rfl
theorem bin_geq : binK T .geq u (.dat (.int k a)) (.dat (.int k b)) C = (k = k ∧ C (.dat (.bool (decide (b ≤ a))))) := rfl
theorem bin_shl {k' : IntKind} : binK T .shl u (.dat (.int k a)) (.dat (.int k' b)) C = (0 ≤ b ∧ C (.dat (.int k (k.wrap (a * 2 ^ min b.toNat k.bits))))) := rfl
theorem bin_shr {k' : IntKind} : binK T .shr u (.dat (.int k a)) (.dat (.int k' b)) C = (0 ≤ b ∧ C (.dat (.int k (a.fdiv (2 ^ min b.toNat k.bits))))) := rfl
end

theorem bin_and {k : IntKind} {a b : Int} {u : TypeId} {C : AV → Prop} : binK T .and u (.dat (.int k a)) (.dat (.int k b)) C = (k = k ∧ C (.dat (.int k (k.wrap (BitVec.ofInt k.bits a &&& BitVec.ofInt k.bits b).toNat)))) := rfl
theorem bin_or {k : IntKind} {a b : Int} {u : TypeId} {C : AV → Prop} : binK T .or u (.dat (.int k a)) (.dat (.int k b)) C = (k = k ∧ C (.dat (.int k (k.wrap (BitVec.ofInt k.bits a ||| BitVec.ofInt k.bits b).toNat)))) := rfl
section
variable {x y : Bool} {p q : ByteArray} {u : TypeId} {C : AV → Prop}
theorem bin_eqlb : binK T .eql u (.dat (.bool x)) (.dat (.bool y)) C = ((∃ i, tget u T = some i ∧ i.desc = .bool) ∧ C (.dat (.bool (x == y)))) := rfl
theorem bin_neqb : binK T .neq u (.dat (.bool x)) (.dat (.bool y)) C = ((∃ i, tget u T = some i ∧ i.desc = .bool) ∧ C (.dat (.bool (!(x == y))))) := rfl
theorem bin_adds : binK T .add u (.dat (.str p)) (.dat (.str q)) C = (p.size + q.size ≤ 9223372036854775807 ∧ C (.dat (.str (p ++ q)))) := rfl
theorem bin_eqls : binK T .eql u (.dat (.str p)) (.dat (.str q)) C = C (.dat (.bool (p.toList == q.toList))) := rfl
theorem bin_neqs : binK T .neq u (.dat (.str p)) (.dat (.str q)) C = C (.dat (.bool (!(p.toList == q.toList)))) := rfl
theorem bin_lsss : binK T .lss u (.dat (.str p)) (.dat (.str q)) C = C (.dat (.bool (Op.bytesLess p.toList q.toList))) := rfl
theorem bin_geqs : binK T .geq u (.dat (.str p)) (.dat (.str q)) C = C (.dat (.bool (!(Op.bytesLess p.toList q.toList)))) := rfl
theorem nilc_inil {op : BinOp} : nilcK T op u (.dat .inil) C = ((∃ i ms, tget u T = some i ∧ i.desc = .interface ms) ∧ nilK' op true C) := rfl
theorem nilc_ifc {op : BinOp} {t : TypeId} {g : Bool} {cs : List DV} : nilcK T op u (.dat (.ifc t g cs)) C = ((∃ i ms, tget u T = some i ∧ i.desc = .interface ms) ∧ nilK' op false C) := rfl
theorem desc_ex {i : TI} {R : TI → Prop} : (∃ j, some i = some j ∧ R j) = R i := by simp
theorem iface_ex {i : TI} : (∃ j ms', some i = some j ∧ j.desc = .interface ms') = (∃ ms', i.desc = .interface ms') := by simp
end
theorem nilC_tmp {op : BinOp} {k : Nat} : isNilC op (.tmp k) = false := by cases op <;> rfl
theorem nilC_int {op : BinOp} {k : IntKind} {m : Int} : isNilC op (.const (.int k m)) = false := by cases op <;> rfl
theorem nilC_bool {op : BinOp} {b : Bool} : isNilC op (.const (.bool b)) = false := by cases op <;> rfl
theorem nilC_str {op : BinOp} {b : ByteArray} : isNilC op (.const (.string b)) = false := by cases op <;> rfl
theorem nilC_slice {op : BinOp} {a : Option Addr} {m k : Nat} : isNilC op (.const (.slice a m k)) = false := by cases op <;> rfl
theorem nilC_pointer {op : BinOp} {a : Option Addr} : isNilC op (.const (.pointer a)) = false := by cases op <;> rfl
theorem nilC_eql : isNilC .eql (.const .nilIface) = true := rfl
theorem nilC_neq : isNilC .neq (.const .nilIface) = true := rfl
theorem binC_eq {op : BinOp} {u : TypeId} {yo : Operand} {x y : AV} {C : AV → Prop} : binC T op u yo x y C = bif isNilC op yo then nilcK T op u x C else binK T op u x y C := rfl
theorem binK_lst {op : BinOp} {u : TypeId} {es : List (List DV)} {C : AV → Prop} : binK T op u (.dat (.lst es)) .nil C = ((∃ i e, tget u T = some i ∧ i.desc = .slice e) ∧ es ≠ [] ∧ nilK' op false C) := rfl
theorem binK_own {op : BinOp} {u : TypeId} {k : Nat} {C : AV → Prop} : binK T op u (.own k) .nil C = ((∃ i e, tget u T = some i ∧ i.desc = .slice e) ∧ nilK' op false C) := rfl
theorem binK_nil {op : BinOp} {u : TypeId} {C : AV → Prop} : binK T op u .nil .nil C = ((∃ i e, tget u T = some i ∧ i.desc = .slice e) ∧ nilK' op true C) := rfl

theorem retQ_normal {T : Tab} {rs : List ResultVar} {R : AV → Prop} : retQ T rs R .normal σ = retK T rs σ R := rfl
theorem retQ_ret {T : Tab} {rs : List ResultVar} {R : AV → Prop} : retQ T rs R .ret σ = retK T rs σ R := rfl
theorem thenK_normal {Q : Exit → St → Prop} : thenK K Q .normal σ = K σ := rfl
theorem thenK_ret {Q : Exit → St → Prop} : thenK K Q .ret σ = Q .ret σ := rfl
theorem thenK_exit {Q : Exit → St → Prop} {i : Nat} : thenK K Q (.exit i) σ = Q (.exit i) σ := rfl
theorem blockK_normal {Q : Exit → St → Prop} {i : Nat} : blockK i Q .normal σ = Q .normal σ := rfl
theorem blockK_ret {Q : Exit → St → Prop} {i : Nat} : blockK i Q .ret σ = Q .ret σ := rfl
theorem blockK_exit {Q : Exit → St → Prop} {i j : Nat} : blockK i Q (.exit j) σ = if j = i then Q .normal σ else Q (.exit j) σ := rfl

theorem aggD_int {k : IntKind} : aggD (.int k) = false := rfl
theorem aggD_bool : aggD .bool = false := rfl
theorem aggD_string : aggD .string = false := rfl
theorem aggD_slice {e : TypeId} : aggD (.slice e) = false := rfl
theorem aggD_pointer {e : TypeId} : aggD (.pointer e) = false := rfl
theorem aggD_func {a b : Array TypeId} {v : Bool} : aggD (.func a b v) = false := rfl
theorem aggD_iface {m : Array (String × TypeId)} : aggD (.interface m) = false := rfl
theorem aggD_struct {fs : Array Field} : aggD (.struct fs) = true := rfl
theorem aggD_map {a b : TypeId} : aggD (.map a b) = false := rfl
theorem int_eq {k : IntKind} {a b : Int} : (AV.dat (.int k a) = AV.dat (.int k b)) = (a = b) := by simp
theorem bool_eq {a b : Bool} : (AV.dat (.bool a) = AV.dat (.bool b)) = (a = b) := by simp

theorem set_cons {k j : Nat} {o v : Obj'} {l : Sto} : set k o ((j, v) :: l) = if j = k then (j, o) :: l else (j, v) :: set k o l := by
  by_cases h : j = k
  · subst h; simp [set]
  · simp [set, beq_ne h, h]
theorem set_nil {k : Nat} {o : Obj'} : set k o [] = [] := rfl
theorem del_cons {k j : Nat} {v : Obj'} {l : Sto} : del k ((j, v) :: l) = if j = k then del k l else (j, v) :: del k l := by
  by_cases h : j = k
  · subst h; simp [del]
  · simp [del, beq_ne h, h]
theorem del_nil {k : Nat} : del k [] = [] := rfl

theorem appK_nil {t : TypeId} {y : AV} {s : Sto} {n : Nat} {K : AV → Sto → Nat → Prop} : appK T t .nil y s n K =
    (match tget t T, srcE s y with
    | some i, some es2 => match i.desc with
      | .slice e => match tget e T with
        | some j => j.bytes ≤ 128 ∧ j.zv.cells.size = j.size ∧ j.zv.cells.toList.all Value.oneCell' = true ∧ 0 < j.size ∧
          (es2 = [] → K .nil s n) ∧ (es2 ≠ [] → es2.length ≤ 1099511627776 ∧ (∀ el ∈ es2, el.length = j.size) ∧ K (.own n) ((n, .row e j.size es2 false) :: s) (n + 1))
        | none => False
      | _ => False
    | _, _ => False) := rfl
theorem appK_own {t : TypeId} {k : Nat} {y : AV} {s : Sto} {n : Nat} {K : AV → Sto → Nat → Prop} : appK T t (.own k) y s n K =
    (match tget t T, srcE s y with
    | some i, some es2 => match i.desc with
      | .slice e => match tget e T with
        | some j => j.bytes ≤ 128 ∧ j.zv.cells.size = j.size ∧ j.zv.cells.toList.all Value.oneCell' = true ∧ 0 < j.size ∧
          (match get k s with
          | some (.row e' sz es f) => e' = e ∧ sz = j.size ∧ (es2 = [] → K (.own k) s n) ∧
              (es2 ≠ [] → es.length + es2.length ≤ 1099511627776 ∧ (∀ el ∈ es2, el.length = j.size) ∧ K (.own n) ((n, .row e j.size (es ++ es2) f) :: del k s) (n + 1))
          | _ => False)
        | none => False
      | _ => False
    | _, _ => False) := rfl

/-! One equation for each kind of value. -/
section
variable {u : TypeId} {C : AV → Prop} {Y : Sto → Prop} {es : List (List DV)} {dv : DV} {k off m j : Nat} {fr : Bool} {xs : List AV} {f : FuncId}
theorem dat0_dat : dat0 (.dat dv) = some dv := rfl
theorem dat0_nil : dat0 .nil = some (.lst []) := rfl
theorem dat0_own : dat0 (.own k) = none := rfl
theorem dat0_ptr : dat0 (.ptr k off) = none := rfl
theorem dat0_eptr : dat0 (.eptr k m j) = none := rfl
theorem dat0_und : dat0 .und = none := rfl
theorem dat0_clo : dat0 (.clo f xs) = none := rfl
theorem dat0_agg : dat0 (.agg xs) = none := rfl
theorem toC0_dat : toC0 s (.dat dv) = some (dv, s) := rfl
theorem toC0_nil : toC0 s .nil = some (.lst [], s) := rfl
theorem toC0_own : toC0 s (.own k) = (match get k s with | some (.row e sz es _) => some (.lst es, set k (.row e sz es true) s) | _ => none) := rfl
theorem toC0_ptr : toC0 s (.ptr k off) = (match get k s with
    | some (.box xs _ ot) => match dats0 xs with
      | some ds => some (.cptr (ds.drop off), set k (.box xs true ot) s)
      | none => none
    | _ => none) := rfl
theorem toC_clo : toC s (.clo f xs) = (match toCs0 s xs with | some (ds, s1) => some (.fn f ds, s1) | none => none) := rfl
theorem toC_dat : toC s (.dat dv) = toC0 s (.dat dv) := rfl
theorem toC_nil : toC s .nil = toC0 s .nil := rfl
theorem toC_own : toC s (.own k) = toC0 s (.own k) := rfl
theorem toC_ptr : toC s (.ptr k off) = toC0 s (.ptr k off) := rfl
theorem toA_agg : toA s (.agg xs) = (match toCs s xs with | some (ds, s1) => some (.agg (ds.map .dat), s1) | none => none) := rfl
theorem toA_clo : toA s (.clo f xs) = (match toC s (.clo f xs) with | some (d, s1) => some (.dat d, s1) | none => none) := rfl
theorem toA_dat : toA s (.dat dv) = some (.dat dv, s) := rfl
theorem toA_nil : toA s .nil = some (.dat (.lst []), s) := rfl
theorem toA_own : toA s (.own k) = (match toC0 s (.own k) with | some (d, s1) => some (.dat d, s1) | none => none) := rfl
theorem toA_ptr : toA s (.ptr k off) = (match toC0 s (.ptr k off) with | some (d, s1) => some (.dat d, s1) | none => none) := rfl
theorem lenK_lst : lenK s T u (.dat (.lst es)) C = (match tget u T with | some i => (match i.desc with | .slice _ => C (.dat (.int .i64 es.length)) | _ => False) | none => False) := by
  unfold lenK; cases tget u T <;> rfl
theorem lenK_nil : lenK s T u .nil C = (match tget u T with | some i => (match i.desc with | .slice _ => C (.dat (.int .i64 0)) | _ => False) | none => False) := by
  unfold lenK; cases tget u T <;> rfl
theorem lenK_own : lenK s T u (.own k) C = (match tget u T with | some i => (match i.desc, get k s with | .slice _, some (.row _ _ es _) => C (.dat (.int .i64 es.length)) | _, _ => False) | none => False) := by
  unfold lenK; cases tget u T <;> rfl
theorem lenK_str {b : ByteArray} : lenK s T u (.dat (.str b)) C = (match tget u T with | some i => (match i.desc with | .string => C (.dat (.int .i64 b.size)) | _ => False) | none => False) := by
  unfold lenK; cases tget u T <;> rfl
theorem loadK_ptr : loadK s T u (.ptr k off) C = (match tget u T with
    | some i => (match get k s with
      | some (.box xs _ _) => bif aggD i.desc then (off + i.size ≤ xs.length ∧ C (.agg ((xs.drop off).take i.size))) else (match xs[off]? with | some y => C y | none => False)
      | _ => False)
    | none => False) := by
  unfold loadK; cases tget u T <;> rfl
theorem loadK_eptr : loadK s T u (.eptr k m j) C = (match tget u T with
    | some i => (match get k s with
      | some (.row _ _ es _) => m < es.length ∧ bif aggD i.desc then (j + i.size ≤ (es.getD m []).length ∧ C (.agg ((((es.getD m []).drop j).take i.size).map .dat)))
        else (match (es.getD m [])[j]? with | some d => C (.dat d) | none => False)
      | _ => False)
    | none => False) := by
  unfold loadK; cases tget u T <;> rfl
theorem loadK_cptr {cs : List DV} : loadK s T u (.dat (.cptr cs)) C = (match tget u T with
    | some i => bif aggD i.desc then (i.size ≤ cs.length ∧ C (.agg ((cs.take i.size).map .dat))) else (match cs[0]? with | some d => C (.dat d) | none => False)
    | none => False) := by
  unfold loadK; cases tget u T <;> rfl
theorem iaddrK_lst {kk : IntKind} {z : Int} : iaddrK s T u (.dat (.lst es)) (.dat (.int kk z)) C = (match elemOf' T u with
    | some j => 0 ≤ z ∧ z < es.length ∧ (es.getD z.toNat []).length = j.size ∧ C (.dat (.cptr (es.getD z.toNat [])))
    | none => False) := by
  unfold iaddrK; cases elemOf' T u <;> rfl
theorem iaddrK_own {kk : IntKind} {z : Int} : iaddrK s T u (.own k) (.dat (.int kk z)) C = (match elemOf' T u with
    | some j => (match get k s with
      | some (.row _ sz es _) => sz = j.size ∧ 0 ≤ z ∧ z < es.length ∧ C (.eptr k z.toNat 0)
      | _ => False)
    | none => False) := by
  unfold iaddrK; cases elemOf' T u <;> rfl
theorem storeK_ptr {y : AV} : storeK T u (.ptr k off) y s Y = (match tget u T, cellsA y with
    | some i, some ys => (match get k s with
      | some (.box xs false ot) => ys.length = i.size ∧ off + ys.length ≤ xs.length ∧ Y (set k (.box (xs.take off ++ ys ++ xs.drop (off + ys.length)) false ot) s)
      | _ => False)
    | _, _ => False) := by
  unfold storeK; cases tget u T <;> cases cellsA y <;> rfl
theorem storeK_eptr {y : AV} : storeK T u (.eptr k m j) y s Y = (match tget u T, cellsA y with
    | some i, some ys => (match get k s, dats0 ys with
      | some (.row te sz es false), some ds => ys.length = i.size ∧ m < es.length ∧ j + ds.length ≤ sz ∧
        Y (set k (.row te sz (es.set m ((es.getD m []).take j ++ ds ++ (es.getD m []).drop (j + ds.length))) false) s)
      | _, _ => False)
    | _, _ => False) := by
  unfold storeK; cases tget u T <;> cases cellsA y <;> rfl
end

section
variable {ρ : Nat → Nat} {k off m j i : Nat} {xs : List AV} {f : FuncId} {dv : DV}
theorem ren_agg : ren ρ (.agg xs) = .agg (xs.map (ren0 ρ)) := rfl
theorem ren_clo : ren ρ (.clo f xs) = .clo f (xs.map (ren0 ρ)) := rfl
theorem ren_ptr : ren ρ (.ptr k off) = .ptr (ρ k) off := rfl
theorem ren_own : ren ρ (.own k) = .own (ρ k) := rfl
theorem ren_eptr : ren ρ (.eptr k m j) = .eptr (ρ k) m j := rfl
theorem ren_dat : ren ρ (.dat dv) = .dat dv := rfl
theorem ren_nil : ren ρ .nil = .nil := rfl
theorem ren_und : ren ρ .und = .und := rfl
theorem ren0_ptr : ren0 ρ (.ptr k off) = .ptr (ρ k) off := rfl
theorem ren0_own : ren0 ρ (.own k) = .own (ρ k) := rfl
theorem ren0_eptr : ren0 ρ (.eptr k m j) = .eptr (ρ k) m j := rfl
theorem ren0_dat : ren0 ρ (.dat dv) = .dat dv := rfl
theorem ren0_nil : ren0 ρ .nil = .nil := rfl
theorem ren0_und : ren0 ρ .und = .und := rfl
theorem okR_agg : okR i (.agg xs) = xs.all (ok0 i) := rfl
theorem okR_clo : okR i (.clo f xs) = xs.all (ok0 i) := rfl
theorem okR_ptr : okR i (.ptr k off) = Nat.blt k i := rfl
theorem okR_own : okR i (.own k) = Nat.blt k i := rfl
theorem okR_eptr : okR i (.eptr k m j) = Nat.blt k i := rfl
theorem okR_dat : okR i (.dat dv) = true := rfl
theorem okR_nil : okR i .nil = true := rfl
theorem okR_und : okR i .und = true := rfl
theorem ok0_ptr : ok0 i (.ptr k off) = Nat.blt k i := rfl
theorem ok0_own : ok0 i (.own k) = Nat.blt k i := rfl
theorem ok0_eptr : ok0 i (.eptr k m j) = Nat.blt k i := rfl
theorem ok0_dat : ok0 i (.dat dv) = true := rfl
theorem ok0_nil : ok0 i .nil = true := rfl
theorem ok0_und : ok0 i .und = true := rfl
end

/-- A loop, by induction over what its rounds are told by. -/
theorem LoopAt.ind {α : Type} {c : Ctx} {ro : Option Nat} {x : Code} {Q : Exit → St → Prop} (F : α → St) (μ : α → Nat) (J : α → Prop)
    (h : ∀ a, J a → (∀ b, J b → μ b < μ a → LoopAt P T c ro x (F b) Q) → LoopAt P T c ro x (F a) Q) (a : α) (ha : J a) : LoopAt P T c ro x (F a) Q := by
  generalize hm : μ a = m
  induction m using Nat.strongRecOn generalizing a with
  | _ m ih => exact h a ha fun b hb hlt => ih (μ b) (hm ▸ hlt) b hb rfl

end

attribute [go_sem] aggD_int aggD_bool aggD_string aggD_slice aggD_pointer aggD_func aggD_iface aggD_struct aggD_map int_eq bool_eq and_true true_and cond_true cond_false List.length_map List.length_cons List.length_nil List.length_append List.getElem?_cons_zero List.getElem?_cons_succ
  List.map_cons List.map_nil List.cons_append List.nil_append List.append_nil List.getD_cons_zero List.take_zero List.drop_zero List.take_succ_cons List.drop_succ_cons subT subS ren_agg ren_clo ren_ptr ren_own ren_eptr ren_dat ren_nil ren_und ren0_ptr ren0_own ren0_eptr ren0_dat ren0_nil ren0_und okR_agg okR_clo okR_ptr okR_own okR_eptr okR_dat okR_nil okR_und ok0_ptr ok0_own ok0_eptr ok0_dat ok0_nil ok0_und okO renO ne_eq not_false_eq_true
attribute [go_sem] runO_nil runO_cons runO_guard gdO_tt gdO_ff gdO_tf gdO_ft gdO_skp step_move step_assign step_pick step_alloc step_box step_build step_buildSlice step_load step_store step_nilCheck step_binOp step_unOp step_convert step_mkIf step_makeFunc step_makeSlice step_slice step_fieldAddr
  step_field step_indexAddr step_index step_extract step_len step_append step_max step_min step_call ev_tmp ev_const ev_func c_bool c_int c_string c_slice c_nilIface c_nilFunc c_pointer put_some put_none
  bin_add bin_sub bin_mul bin_quo bin_rem bin_eql bin_neq bin_lss bin_leq bin_gtr bin_geq bin_shl bin_shr bin_and bin_or bin_eqlb bin_neqb bin_adds bin_eqls bin_neqs bin_lsss bin_geqs desc_ex iface_ex lk_cons get_cons set_cons set_nil del_cons del_nil retQ_normal retQ_ret thenK_normal thenK_ret thenK_exit blockK_normal blockK_ret blockK_exit
  allocK boxK cellsA structK fillA sliceK rowsC toC0_dat toC0_nil toC0_own toC0_ptr toC_clo toC_dat toC_nil toC_own toC_ptr toA_agg toA_clo toA_dat toA_nil toA_own toA_ptr toCs toAs toCs0 dats0 dat0_dat dat0_nil dat0_own dat0_ptr dat0_eptr dat0_und dat0_clo dat0_agg loadK_ptr loadK_eptr loadK_cptr storeK_ptr storeK_eptr unK convK mkIfK lamK makeK nilC_tmp nilC_int nilC_bool nilC_str nilC_slice nilC_pointer nilC_eql nilC_neq binC_eq binK_lst binK_own binK_nil nilK' nilc_inil nilc_ifc cutA cutK bndK faddrK fieldK iaddrK_lst iaddrK_own strIxK extK lenK_lst lenK_nil lenK_own lenK_str appK_nil appK_own srcE maxK minK calleeK condK pickA retK resC retV numA ifaceD

end Go.Abs
end

section
set_option linter.unusedSimpArgs false
/- Operations that only read: what they come to is one value. -/
set_option linter.unusedVariables false
set_option linter.unusedSimpArgs false
namespace Go.Abs
open Go.RowKit

def Det (X : (AV → Prop) → Prop) : Prop := ∀ K : AV → Prop, X K → ∃ r, K r ∧ ∀ K' : AV → Prop, K' r → X K'

section
variable {P : Program} {T : Tab} {s s' : Sto}

theorem bndK_det {x : Option AV} {d : Int} {K : Int → Prop} (h : bndK x d K) : ∃ m, K m ∧ ∀ K' : Int → Prop, K' m → bndK x d K' := by
  unfold bndK at h ⊢
  split at h
  · exact ⟨_, h, fun K' h' => h'⟩
  · exact ⟨_, h, fun K' h' => h'⟩
  · exact h.elim

theorem intK_det {op : BinOp} {k : IntKind} {a b : Int} : Det (intK op k a b) := by
  intro K h
  unfold intK at h
  repeat' (split at h)
  all_goals first
    | exact h.elim
    | (refine ⟨_, h, fun K' h' => ?_⟩; unfold intK; simp_all; done)
    | (obtain ⟨a1, h⟩ := h; first | exact h.elim | (refine ⟨_, h, fun K' h' => ?_⟩; unfold intK; simp_all; done))
    | (obtain ⟨a1, a2, h⟩ := h; refine ⟨_, h, fun K' h' => ?_⟩; unfold intK; simp_all; done)
    | (obtain ⟨a1, a2, a3, h⟩ := h; refine ⟨_, h, fun K' h' => ?_⟩; unfold intK; simp_all; done)
    | exact h.2.2.elim

theorem strK_det {op : BinOp} {x y : ByteArray} : Det (strK op x y) := by
  intro K h
  unfold strK at h
  repeat' (split at h)
  all_goals first
    | exact h.elim
    | (refine ⟨_, h, fun K' h' => ?_⟩; unfold strK; simp_all; done)
    | (obtain ⟨a1, h⟩ := h; first | exact h.elim | (refine ⟨_, h, fun K' h' => ?_⟩; unfold strK; simp_all; done))
    | (obtain ⟨a1, a2, h⟩ := h; refine ⟨_, h, fun K' h' => ?_⟩; unfold strK; simp_all; done)
    | (obtain ⟨a1, a2, a3, h⟩ := h; refine ⟨_, h, fun K' h' => ?_⟩; unfold strK; simp_all; done)
    | exact h.2.2.elim

theorem boolK_det {op : BinOp} {a b : Bool} : Det (boolK op a b) := by
  intro K h
  unfold boolK at h
  repeat' (split at h)
  all_goals first
    | exact h.elim
    | (refine ⟨_, h, fun K' h' => ?_⟩; unfold boolK; simp_all; done)
    | (obtain ⟨a1, h⟩ := h; first | exact h.elim | (refine ⟨_, h, fun K' h' => ?_⟩; unfold boolK; simp_all; done))
    | (obtain ⟨a1, a2, h⟩ := h; refine ⟨_, h, fun K' h' => ?_⟩; unfold boolK; simp_all; done)
    | (obtain ⟨a1, a2, a3, h⟩ := h; refine ⟨_, h, fun K' h' => ?_⟩; unfold boolK; simp_all; done)
    | exact h.2.2.elim

theorem nilK'_det {op : BinOp} {b : Bool} : Det (nilK' op b) := by
  intro K h
  unfold nilK' at h
  repeat' (split at h)
  all_goals first
    | exact h.elim
    | (refine ⟨_, h, fun K' h' => ?_⟩; unfold nilK'; simp_all; done)
    | (obtain ⟨a1, h⟩ := h; first | exact h.elim | (refine ⟨_, h, fun K' h' => ?_⟩; unfold nilK'; simp_all; done))
    | (obtain ⟨a1, a2, h⟩ := h; refine ⟨_, h, fun K' h' => ?_⟩; unfold nilK'; simp_all; done)
    | (obtain ⟨a1, a2, a3, h⟩ := h; refine ⟨_, h, fun K' h' => ?_⟩; unfold nilK'; simp_all; done)
    | exact h.2.2.elim

theorem unK_det {op : UnOp} {x : AV} : Det (unK op x) := by
  intro K h
  unfold unK at h
  repeat' (split at h)
  all_goals first
    | exact h.elim
    | (refine ⟨_, h, fun K' h' => ?_⟩; unfold unK; simp_all; done)
    | (obtain ⟨a1, h⟩ := h; first | exact h.elim | (refine ⟨_, h, fun K' h' => ?_⟩; unfold unK; simp_all; done))
    | (obtain ⟨a1, a2, h⟩ := h; refine ⟨_, h, fun K' h' => ?_⟩; unfold unK; simp_all; done)
    | (obtain ⟨a1, a2, a3, h⟩ := h; refine ⟨_, h, fun K' h' => ?_⟩; unfold unK; simp_all; done)
    | exact h.2.2.elim

theorem convK_det {t u : TypeId} {x : AV} : Det (convK T t u x) := by
  intro K h
  unfold convK at h
  repeat' (split at h)
  all_goals first
    | exact h.elim
    | (refine ⟨_, h, fun K' h' => ?_⟩; unfold convK; simp_all; done)
    | (obtain ⟨a1, h⟩ := h; first | exact h.elim | (refine ⟨_, h, fun K' h' => ?_⟩; unfold convK; simp_all; done))
    | (obtain ⟨a1, a2, h⟩ := h; refine ⟨_, h, fun K' h' => ?_⟩; unfold convK; simp_all; done)
    | (obtain ⟨a1, a2, a3, h⟩ := h; refine ⟨_, h, fun K' h' => ?_⟩; unfold convK; simp_all; done)
    | exact h.2.2.elim

theorem lenK_det {t : TypeId} {x : AV} : Det (lenK s T t x) := by
  intro K h
  unfold lenK at h
  repeat' (split at h)
  all_goals first
    | exact h.elim
    | (refine ⟨_, h, fun K' h' => ?_⟩; unfold lenK; simp_all; done)
    | (obtain ⟨a1, h⟩ := h; first | exact h.elim | (refine ⟨_, h, fun K' h' => ?_⟩; unfold lenK; simp_all; done))
    | (obtain ⟨a1, a2, h⟩ := h; refine ⟨_, h, fun K' h' => ?_⟩; unfold lenK; simp_all; done)
    | (obtain ⟨a1, a2, a3, h⟩ := h; refine ⟨_, h, fun K' h' => ?_⟩; unfold lenK; simp_all; done)
    | exact h.2.2.elim

theorem maxK_det {x y : AV} : Det (maxK x y) := by
  intro K h
  unfold maxK at h
  repeat' (split at h)
  all_goals first
    | exact h.elim
    | (refine ⟨_, h, fun K' h' => ?_⟩; unfold maxK; simp_all; done)
    | (obtain ⟨a1, h⟩ := h; first | exact h.elim | (refine ⟨_, h, fun K' h' => ?_⟩; unfold maxK; simp_all; done))
    | (obtain ⟨a1, a2, h⟩ := h; refine ⟨_, h, fun K' h' => ?_⟩; unfold maxK; simp_all; done)
    | (obtain ⟨a1, a2, a3, h⟩ := h; refine ⟨_, h, fun K' h' => ?_⟩; unfold maxK; simp_all; done)
    | exact h.2.2.elim

theorem minK_det {x y : AV} : Det (minK x y) := by
  intro K h
  unfold minK at h
  repeat' (split at h)
  all_goals first
    | exact h.elim
    | (refine ⟨_, h, fun K' h' => ?_⟩; unfold minK; simp_all; done)
    | (obtain ⟨a1, h⟩ := h; first | exact h.elim | (refine ⟨_, h, fun K' h' => ?_⟩; unfold minK; simp_all; done))
    | (obtain ⟨a1, a2, h⟩ := h; refine ⟨_, h, fun K' h' => ?_⟩; unfold minK; simp_all; done)
    | (obtain ⟨a1, a2, a3, h⟩ := h; refine ⟨_, h, fun K' h' => ?_⟩; unfold minK; simp_all; done)
    | exact h.2.2.elim

theorem extK_det {x : AV} {i : Nat} : Det (extK x i) := by
  intro K h
  unfold extK at h
  repeat' (split at h)
  all_goals first
    | exact h.elim
    | (refine ⟨_, h, fun K' h' => ?_⟩; unfold extK; simp_all; done)
    | (obtain ⟨a1, h⟩ := h; first | exact h.elim | (refine ⟨_, h, fun K' h' => ?_⟩; unfold extK; simp_all; done))
    | (obtain ⟨a1, a2, h⟩ := h; refine ⟨_, h, fun K' h' => ?_⟩; unfold extK; simp_all; done)
    | (obtain ⟨a1, a2, a3, h⟩ := h; refine ⟨_, h, fun K' h' => ?_⟩; unfold extK; simp_all; done)
    | exact h.2.2.elim

theorem faddrK_det {t : TypeId} {f : Nat} {x : AV} : Det (faddrK T t f x) := by
  intro K h
  unfold faddrK at h
  repeat' (split at h)
  all_goals first
    | exact h.elim
    | (refine ⟨_, h, fun K' h' => ?_⟩; unfold faddrK; simp_all; done)
    | (obtain ⟨a1, h⟩ := h; first | exact h.elim | (refine ⟨_, h, fun K' h' => ?_⟩; unfold faddrK; simp_all; done))
    | (obtain ⟨a1, a2, h⟩ := h; refine ⟨_, h, fun K' h' => ?_⟩; unfold faddrK; simp_all; done)
    | (obtain ⟨a1, a2, a3, h⟩ := h; refine ⟨_, h, fun K' h' => ?_⟩; unfold faddrK; simp_all; done)
    | exact h.2.2.elim

theorem iaddrK_det {t : TypeId} {x y : AV} : Det (iaddrK s T t x y) := by
  intro K h
  unfold iaddrK at h
  repeat' (split at h)
  all_goals first
    | exact h.elim
    | (refine ⟨_, h, fun K' h' => ?_⟩; unfold iaddrK; simp_all; done)
    | (obtain ⟨a1, h⟩ := h; first | exact h.elim | (refine ⟨_, h, fun K' h' => ?_⟩; unfold iaddrK; simp_all; done))
    | (obtain ⟨a1, a2, h⟩ := h; refine ⟨_, h, fun K' h' => ?_⟩; unfold iaddrK; simp_all; done)
    | (obtain ⟨a1, a2, a3, h⟩ := h; refine ⟨_, h, fun K' h' => ?_⟩; unfold iaddrK; simp_all; done)
    | exact h.2.2.elim

theorem strIxK_det {t : TypeId} {x y : AV} : Det (strIxK T t x y) := by
  intro K h
  unfold strIxK at h
  repeat' (split at h)
  all_goals first
    | exact h.elim
    | (refine ⟨_, h, fun K' h' => ?_⟩; unfold strIxK; simp_all; done)
    | (obtain ⟨a1, h⟩ := h; first | exact h.elim | (refine ⟨_, h, fun K' h' => ?_⟩; unfold strIxK; simp_all; done))
    | (obtain ⟨a1, a2, h⟩ := h; refine ⟨_, h, fun K' h' => ?_⟩; unfold strIxK; simp_all; done)
    | (obtain ⟨a1, a2, a3, h⟩ := h; refine ⟨_, h, fun K' h' => ?_⟩; unfold strIxK; simp_all; done)
    | exact h.2.2.elim

theorem lamK_det {fn : Fn} {fi : Array Operand} {cs : List AV} : Det (lamK fn fi cs) := by
  intro K h
  unfold lamK at h
  repeat' (split at h)
  all_goals first
    | exact h.elim
    | (refine ⟨_, h, fun K' h' => ?_⟩; unfold lamK; simp_all; done)
    | (obtain ⟨a1, h⟩ := h; first | exact h.elim | (refine ⟨_, h, fun K' h' => ?_⟩; unfold lamK; simp_all; done))
    | (obtain ⟨a1, a2, h⟩ := h; refine ⟨_, h, fun K' h' => ?_⟩; unfold lamK; simp_all; done)
    | (obtain ⟨a1, a2, a3, h⟩ := h; refine ⟨_, h, fun K' h' => ?_⟩; unfold lamK; simp_all; done)
    | exact h.2.2.elim

theorem mkIfK_det {t : TypeId} {x : AV} : Det (mkIfK T t x) := by
  intro K h
  unfold mkIfK at h
  repeat' (split at h)
  all_goals first
    | exact h.elim
    | (refine ⟨_, h, fun K' h' => ?_⟩; unfold mkIfK; simp_all; done)
    | (obtain ⟨a1, h⟩ := h; first | exact h.elim | (refine ⟨_, h, fun K' h' => ?_⟩; unfold mkIfK; simp_all; done))
    | (obtain ⟨a1, a2, h⟩ := h; refine ⟨_, h, fun K' h' => ?_⟩; unfold mkIfK; simp_all; done)
    | (obtain ⟨a1, a2, a3, h⟩ := h; refine ⟨_, h, fun K' h' => ?_⟩; unfold mkIfK; simp_all; done)
    | exact h.2.2.elim

theorem structK_det {t : TypeId} {ps : List (Nat × AV)} : Det (structK T t ps) := by
  intro K h
  unfold structK at h
  repeat' (split at h)
  all_goals first
    | exact h.elim
    | (refine ⟨_, h, fun K' h' => ?_⟩; unfold structK; simp_all; done)
    | (obtain ⟨a1, h⟩ := h; first | exact h.elim | (refine ⟨_, h, fun K' h' => ?_⟩; unfold structK; simp_all; done))
    | (obtain ⟨a1, a2, h⟩ := h; refine ⟨_, h, fun K' h' => ?_⟩; unfold structK; simp_all; done)
    | (obtain ⟨a1, a2, a3, h⟩ := h; refine ⟨_, h, fun K' h' => ?_⟩; unfold structK; simp_all; done)
    | exact h.2.2.elim

theorem loadK_det {t : TypeId} {x : AV} : Det (loadK s T t x) := by
  intro K h
  unfold loadK at h
  split at h
  · rename_i i k off ht
    split at h
    · rename_i xs f hk
      cases ha : aggD i.desc <;> simp only [ha, cond_true, cond_false] at h
      · split at h
        · rename_i y hy
          exact ⟨_, h, fun K' h' => by simp [loadK, ht, hk, ha, hy]; exact h'⟩
        · exact h.elim
      · exact ⟨_, h.2, fun K' h' => by simp [loadK, ht, hk, ha]; exact ⟨h.1, h'⟩⟩
    · exact h.elim
  · rename_i i k e j ht
    split at h
    · rename_i a b es f hk
      obtain ⟨h0, h⟩ := h
      cases ha : aggD i.desc <;> simp only [ha, cond_true, cond_false] at h
      · split at h
        · rename_i y hy
          exact ⟨_, h, fun K' h' => by simp only [loadK, ht, hk, ha, hy, cond_false]; exact ⟨h0, h'⟩⟩
        · exact h.elim
      · exact ⟨_, h.2, fun K' h' => by simp only [loadK, ht, hk, ha, cond_true]; exact ⟨h0, h.1, h'⟩⟩
    · exact h.elim
  · rename_i i cs ht
    cases ha : aggD i.desc <;> simp only [ha, cond_true, cond_false] at h
    · split at h
      · rename_i y hy
        exact ⟨_, h, fun K' h' => by simp only [loadK, ht, ha, hy, cond_false]; exact h'⟩
      · exact h.elim
    · exact ⟨_, h.2, fun K' h' => by simp only [loadK, ht, ha, cond_true]; exact ⟨h.1, h'⟩⟩
  · exact h.elim

theorem fieldK_det {t : TypeId} {f : Nat} {x : AV} : Det (fieldK T t f x) := by
  intro K h
  unfold fieldK at h
  split at h
  · rename_i off j xs ht
    cases ha : aggD j.desc <;> simp only [ha, cond_true, cond_false] at h
    · split at h
      · rename_i y hy
        exact ⟨_, h, fun K' h' => by simp only [fieldK, ht, ha, hy, cond_false]; exact h'⟩
      · exact h.elim
    · exact ⟨_, h.2, fun K' h' => by simp only [fieldK, ht, ha, cond_true]; exact ⟨h.1, h'⟩⟩
  · exact h.elim

theorem shK_det {op : BinOp} {k : IntKind} {a b : Int} : Det (shK op k a b) := by
  intro K h
  obtain ⟨h0, h⟩ := h
  cases op <;> simp only at h <;> first | exact h.elim | exact ⟨_, h, fun K' h' => ⟨h0, h'⟩⟩

theorem nilcK_det {op : BinOp} {t : TypeId} {x : AV} : Det (nilcK T op t x) := by
  intro K h
  unfold nilcK at h
  split at h
  · obtain ⟨r, h1, h2⟩ := nilK'_det K h.2; exact ⟨r, h1, fun K' h' => ⟨h.1, h2 _ h'⟩⟩
  · obtain ⟨r, h1, h2⟩ := nilK'_det K h.2; exact ⟨r, h1, fun K' h' => ⟨h.1, h2 _ h'⟩⟩
  · exact h.elim

theorem binK_det {op : BinOp} {t : TypeId} {x y : AV} : Det (binK T op t x y) := by
  intro K h
  unfold binK at h
  split at h
  · rename_i k a k' b
    cases hs : isShift op <;> simp only [hs, cond_true, cond_false] at h
    · obtain ⟨e, h⟩ := h
      obtain ⟨r, h1, h2⟩ := intK_det _ h
      exact ⟨r, h1, fun K' h' => by simp only [binK, hs, cond_false]; exact ⟨e, h2 _ h'⟩⟩
    · obtain ⟨r, h1, h2⟩ := shK_det _ h
      exact ⟨r, h1, fun K' h' => by simp only [binK, hs, cond_true]; exact h2 _ h'⟩
  · obtain ⟨r, h1, h2⟩ := strK_det _ h
    exact ⟨r, h1, fun K' h' => h2 _ h'⟩
  · obtain ⟨e, h⟩ := h
    obtain ⟨r, h1, h2⟩ := boolK_det _ h
    exact ⟨r, h1, fun K' h' => ⟨e, h2 _ h'⟩⟩
  · obtain ⟨e, h0, h⟩ := h
    obtain ⟨r, h1, h2⟩ := nilK'_det _ h
    exact ⟨r, h1, fun K' h' => ⟨e, h0, h2 _ h'⟩⟩
  · obtain ⟨e, h⟩ := h
    obtain ⟨r, h1, h2⟩ := nilK'_det _ h
    exact ⟨r, h1, fun K' h' => ⟨e, h2 _ h'⟩⟩
  · obtain ⟨e, h⟩ := h
    obtain ⟨r, h1, h2⟩ := nilK'_det _ h
    exact ⟨r, h1, fun K' h' => ⟨e, h2 _ h'⟩⟩
  · exact h.elim

theorem binC_det {op : BinOp} {t : TypeId} {yo : Operand} {x y : AV} : Det (binC T op t yo x y) := by
  intro K h
  unfold binC at h
  cases hn : isNilC op yo <;> simp only [hn, cond_true, cond_false] at h
  · obtain ⟨r, h1, h2⟩ := binK_det _ h
    exact ⟨r, h1, fun K' h' => by simp only [binC, hn, cond_false]; exact h2 _ h'⟩
  · obtain ⟨r, h1, h2⟩ := nilcK_det _ h
    exact ⟨r, h1, fun K' h' => by simp only [binC, hn, cond_true]; exact h2 _ h'⟩

theorem cutK_det {t : TypeId} {x : AV} {lo hi : Option AV} : Det (cutK T t x lo hi) := by
  intro K h
  unfold cutK at h
  split at h
  · obtain ⟨e, h⟩ := h
    obtain ⟨l, h, g⟩ := bndK_det h
    obtain ⟨u, h, g'⟩ := bndK_det h
    obtain ⟨a1, a2, a3, a4, h⟩ := h
    exact ⟨_, h, fun K' h' => ⟨e, g _ (g' _ ⟨a1, a2, a3, a4, h'⟩)⟩⟩
  · obtain ⟨e, h⟩ := h
    obtain ⟨l, h, g⟩ := bndK_det h
    obtain ⟨u, h, g'⟩ := bndK_det h
    obtain ⟨a1, a2, h⟩ := h
    exact ⟨_, h, fun K' h' => ⟨e, g _ (g' _ ⟨a1, a2, h'⟩)⟩⟩
  · obtain ⟨e, h⟩ := h
    obtain ⟨l, h, g⟩ := bndK_det h
    obtain ⟨u, h, g'⟩ := bndK_det h
    obtain ⟨a1, a2, a3, h⟩ := h
    exact ⟨_, h, fun K' h' => ⟨e, g _ (g' _ ⟨a1, a2, a3, h'⟩)⟩⟩
  · exact h.elim

end
end Go.Abs
end

section
set_option linter.unusedSimpArgs false
/- Regions that draw their order: operations that only read are taken first. -/
set_option linter.unusedVariables false
set_option linter.unusedSimpArgs false
namespace Go.Abs
open Go.RowKit

/-! Data of what is data already. -/
def dC : AV → Option DV
  | .clo f caps => match dats0 caps with
    | some ds => some (.fn f ds)
    | none => none
  | x => dat0 x

def dCs : List AV → Option (List DV)
  | [] => some []
  | x :: xs => match dC x, dCs xs with
    | some d, some ds => some (d :: ds)
    | _, _ => none

def dA : AV → Option AV
  | .agg xs => match dCs xs with
    | some ds => some (.agg (ds.map .dat))
    | none => none
  | x => match dC x with
    | some d => some (.dat d)
    | none => none

def dAs : List AV → Option (List AV)
  | [] => some []
  | x :: xs => match dA x, dAs xs with
    | some d, some ds => some (d :: ds)
    | _, _ => none

def dRows (sz : Nat) : List AV → Option (List (List DV))
  | [] => some []
  | x :: xs => match cellsA x with
    | some ys => match dCs ys, dRows sz xs with
      | some ds, some es => if ds.length = sz then some (ds :: es) else none
      | _, _ => none
    | none => none

theorem toC0_of {s : Sto} {x : AV} {d : DV} (h : dat0 x = some d) : toC0 s x = some (d, s) := by
  cases x <;> simp [dat0] at h <;> subst h <;> rfl
theorem toCs0_of {s : Sto} : ∀ {xs : List AV} {ds : List DV}, dats0 xs = some ds → toCs0 s xs = some (ds, s)
  | [], ds, h => by simp [dats0] at h; subst h; rfl
  | x :: xs, ds, h => by
    unfold dats0 at h
    split at h
    · rename_i d ds' h1 h2
      cases h
      simp [toCs0, toC0_of h1, toCs0_of h2]
    · cases h
theorem toC_of {s : Sto} {x : AV} {d : DV} (h : dC x = some d) : toC s x = some (d, s) := by
  unfold dC at h
  split at h
  · split at h
    · rename_i ds hd
      cases h
      simp [toC, toCs0_of hd]
    · cases h
  · cases x <;> simp [dat0] at h <;> subst h <;> rfl
theorem toCs_of {s : Sto} : ∀ {xs : List AV} {ds : List DV}, dCs xs = some ds → toCs s xs = some (ds, s)
  | [], ds, h => by simp [dCs] at h; subst h; rfl
  | x :: xs, ds, h => by
    unfold dCs at h
    split at h
    · rename_i d ds' h1 h2
      cases h
      simp [toCs, toC_of h1, toCs_of h2]
    · cases h
theorem toA_of {s : Sto} {x y : AV} (h : dA x = some y) : toA s x = some (y, s) := by
  unfold dA at h
  split at h
  · split at h
    · rename_i ds hd
      cases h
      simp [toA, toCs_of hd]
    · cases h
  · split at h
    · rename_i hx q d hd
      cases h
      have := toC_of (s := s) hd
      cases x <;> first | exact (hx _ rfl).elim | simp [toA, this]
    · cases h
theorem toAs_of {s : Sto} : ∀ {xs ys : List AV}, dAs xs = some ys → toAs s xs = some (ys, s)
  | [], ds, h => by simp [dAs] at h; subst h; rfl
  | x :: xs, ds, h => by
    unfold dAs at h
    split at h
    · rename_i d ds' h1 h2
      cases h
      simp [toAs, toA_of h1, toAs_of h2]
    · cases h
theorem rowsC_of {s : Sto} {sz : Nat} : ∀ {xs : List AV} {es : List (List DV)}, dRows sz xs = some es → rowsC s sz xs = some (es, s)
  | [], es, h => by simp [dRows] at h; subst h; rfl
  | x :: xs, es, h => by
    unfold dRows at h
    split at h
    · rename_i ys hy
      split at h
      · rename_i ds es' h1 h2
        split at h
        · rename_i hz
          cases h
          simp [rowsC, hy, toCs_of h1, hz, rowsC_of h2]
        · cases h
      · cases h
    · cases h

/-! Operations that read alone. -/
def rowK (T : Tab) (t : TypeId) (len : Nat) (ps : List (Nat × AV)) (K : AV → Prop) : Prop :=
  match tget t T with
  | some i => match i.desc with
    | .slice e => match tget e T with
      | some j => 0 < j.size ∧ len * j.size ≤ 16777216 ∧ ps.map (·.1) = List.range len ∧ match dRows j.size (ps.map (·.2)) with
        | some es => K (.dat (.lst es))
        | none => False
      | none => False
    | _ => False
  | none => False

def callQ (P : Program) (f : AV) (xs : List AV) (K : AV → Prop) : Prop :=
  match f with
  | .dat (.fn g caps) => match dAs (xs ++ caps.map .dat) with
    | some ys => ∃ r, PC P g ys r ∧ K r
    | none => False
  | .clo g caps => match dAs (xs ++ caps) with
    | some ys => ∃ r, PC P g ys r ∧ K r
    | none => False
  | _ => False

def nilK (x : AV) (K : AV → Prop) : Prop :=
  match x with
  | .ptr k o => K (.ptr k o)
  | .dat (.cptr cs) => K (.dat (.cptr cs))
  | _ => False

def pickK (q x y : AV) (K : AV → Prop) : Prop :=
  match q with
  | .dat (.bool b) => K (pickA b x y)
  | _ => False

def cutQ (T : Tab) (t : TypeId) (x : AV) (lo hi : Option AV) (K : AV → Prop) : Prop :=
  match x with
  | .own _ => False
  | y => cutK T t y lo hi K

def blnK (T : Tab) (b : Builtin) (xs : List Operand) (ts : List TypeId) (ev : Operand → AV) (s : Sto) (K : AV → Prop) : Prop :=
  match b, xs, ts with
  | .len, [x], [t] => lenK s T t (ev x) K
  | .max, [x, y], _ => maxK (ev x) (ev y) K
  | .min, [x, y], _ => minK (ev x) (ev y) K
  | _, _, _ => False

def qK (P : Program) (T : Tab) (op : Op) (ev : Operand → AV) (s : Sto) (K : AV → Prop) : Prop :=
  match op with
  | .move x | .assign x => K (ev x)
  | .pick q x y => pickK (ev q) (ev x) (ev y) K
  | .build t ps => structK T t (ps.toList.map fun p => (p.1, ev p.2)) K
  | .buildSlice t l ps => rowK T t l (ps.toList.map fun p => (p.1, ev p.2)) K
  | .load t x => loadK s T t (ev x) K
  | .nilCheck x => nilK (ev x) K
  | .binOp op t x y _ => binC T op t y (ev x) (ev y) K
  | .unOp op _ x => unK op (ev x) K
  | .convert a b x => convK T a b (ev x) K
  | .makeInterface t x => mkIfK T t (ev x) K
  | .makeFunc fn first caps => lamK fn first (caps.toList.map ev) K
  | .slice t x lo hi none => cutQ T t (ev x) (lo.map ev) (hi.map ev) K
  | .fieldAddr t x f => faddrK T t f (ev x) K
  | .field t x f => fieldK T t f (ev x) K
  | .indexAddr t x y => iaddrK s T t (ev x) (ev y) K
  | .index t x y => strIxK T t (ev x) (ev y) K
  | .extract x i => extK (ev x) i K
  | .call cl => match cl.callee with
    | .builtin b => blnK T b cl.args.toList cl.argTypes.toList ev s K
    | .value f => callQ P (ev f) (cl.args.toList.map ev) K
    | _ => False
  | _ => False

section
variable {P : Program} {T : Tab} {s s' : Sto}

theorem rowK_det {t : TypeId} {l : Nat} {ps : List (Nat × AV)} : Det (rowK T t l ps) := by
  intro K h
  unfold rowK at h
  split at h
  case h_2 => exact h.elim
  rename_i i hi
  split at h
  case h_2 => exact h.elim
  rename_i e he
  split at h
  case h_2 => exact h.elim
  rename_i j hj
  obtain ⟨a1, a3, a4, h⟩ := h
  split at h
  case h_2 => exact h.elim
  rename_i es hes
  exact ⟨_, h, fun K' h' => by simp only [rowK, hi, he, hj, hes]; exact ⟨a1, a3, a4, h'⟩⟩

theorem callQ_det {f : AV} {xs : List AV} : Det (callQ P f xs) := by
  intro K h
  unfold callQ at h
  split at h
  · split at h
    · rename_i ys hy
      obtain ⟨r, hp, h⟩ := h
      exact ⟨r, h, fun K' h' => by simp only [callQ, hy]; exact ⟨r, hp, h'⟩⟩
    · exact h.elim
  · split at h
    · rename_i ys hy
      obtain ⟨r, hp, h⟩ := h
      exact ⟨r, h, fun K' h' => by simp only [callQ, hy]; exact ⟨r, hp, h'⟩⟩
    · exact h.elim
  · exact h.elim

theorem nilK_det {x : AV} : Det (nilK x) := by
  intro K h
  unfold nilK at h
  split at h
  · exact ⟨_, h, fun K' h' => h'⟩
  · exact ⟨_, h, fun K' h' => h'⟩
  · exact h.elim

theorem pickK_det {q x y : AV} : Det (pickK q x y) := by
  intro K h
  unfold pickK at h
  split at h
  · exact ⟨_, h, fun K' h' => h'⟩
  · exact h.elim

theorem cutQ_det {t : TypeId} {x : AV} {lo hi : Option AV} : Det (cutQ T t x lo hi) := by
  intro K h
  have key : (∀ k, x ≠ .own k) → ∃ r, K r ∧ ∀ K' : AV → Prop, K' r → cutQ T t x lo hi K' := fun hx => by
    have e : ∀ K, cutQ T t x lo hi K = cutK T t x lo hi K := fun K => by cases x <;> first | exact absurd rfl (hx _) | rfl
    rw [e] at h
    obtain ⟨r, h1, h2⟩ := cutK_det K h
    exact ⟨r, h1, fun K' h' => by rw [e]; exact h2 _ h'⟩
  cases x <;> first | exact h.elim | exact key (fun k e => by cases e)

theorem blnK_det {b : Builtin} {xs : List Operand} {ts : List TypeId} {ev : Operand → AV} : Det (blnK T b xs ts ev s) := by
  intro K h
  unfold blnK at h
  split at h
  · exact lenK_det K h
  · obtain ⟨r, h1, h2⟩ := maxK_det K h; exact ⟨r, h1, fun K' h' => by simp only [blnK]; exact h2 _ h'⟩
  · obtain ⟨r, h1, h2⟩ := minK_det K h; exact ⟨r, h1, fun K' h' => by simp only [blnK]; exact h2 _ h'⟩
  · exact h.elim

theorem qK_det {op : Op} {ev : Operand → AV} : Det (qK P T op ev s) := by
  intro K h
  unfold qK at h
  split at h
  · exact ⟨_, h, fun K' h' => h'⟩
  · exact ⟨_, h, fun K' h' => h'⟩
  · exact pickK_det K h
  · exact structK_det K h
  · exact rowK_det K h
  · exact loadK_det K h
  · exact nilK_det K h
  · exact binC_det K h
  · exact unK_det K h
  · exact convK_det K h
  · exact mkIfK_det K h
  · exact lamK_det K h
  · exact cutQ_det K h
  · exact faddrK_det K h
  · exact fieldK_det K h
  · exact iaddrK_det K h
  · exact strIxK_det K h
  · exact extK_det K h
  · rename_i cl
    split at h
    · rename_i b hc
      obtain ⟨r, h1, h2⟩ := blnK_det K h
      exact ⟨r, h1, fun K' h' => by simp only [qK, hc]; exact h2 _ h'⟩
    · rename_i f hc
      obtain ⟨r, h1, h2⟩ := callQ_det K h
      exact ⟨r, h1, fun K' h' => by simp only [qK, hc]; exact h2 _ h'⟩
    · exact h.elim
  · exact h.elim

theorem pairs_congr {ps : Array (Nat × Operand)} {ev ev' : Operand → AV} (h : ∀ x ∈ (ps.toList.map (·.2)).toArray, ev' x = ev x) :
    (ps.toList.map fun p => (p.1, ev' p.2)) = ps.toList.map fun p => (p.1, ev p.2) :=
  List.map_congr_left fun p hp => by rw [h p.2 (by simp; exact ⟨p.1, by simpa using hp⟩)]

theorem qK_congr {op : Op} {ev ev' : Operand → AV} {K : AV → Prop} (h : ∀ x ∈ op.operands, ev' x = ev x) : qK P T op ev' s K = qK P T op ev s K := by
  unfold qK
  split <;> simp only [Op.operands] at h
  case h_4 t ps => rw [pairs_congr h]
  case h_5 t l ps => rw [pairs_congr h]
  case h_12 fn first caps =>
    have : caps.toList.map ev' = caps.toList.map ev := List.map_congr_left fun x hx => h x (by simp at hx ⊢; exact .inr hx)
    rw [this]
  case h_13 t x lo hi =>
    rw [h x (by simp)]
    have h1 : lo.map ev' = lo.map ev := by cases lo with | none => rfl | some y => simp [h y (by simp)]
    have h2 : hi.map ev' = hi.map ev := by cases hi with | none => rfl | some y => simp [h y (by simp)]
    rw [h1, h2]
  case h_19 cl =>
    obtain ⟨callee, ⟨xs⟩, ⟨ts⟩⟩ := cl
    simp only [Call.operands] at h
    cases callee with
    | builtin b =>
      show blnK T b xs ts ev' s K = blnK T b xs ts ev s K
      unfold blnK
      split
      · rw [h _ (by simp)]
      · rw [h _ (by simp), h _ (by simp)]
      · rw [h _ (by simp), h _ (by simp)]
      · rfl
    | value f =>
      show callQ P (ev' f) (xs.map ev') K = callQ P (ev f) (xs.map ev) K
      have : xs.map ev' = xs.map ev := List.map_congr_left fun x hx => h x (by simp; exact .inr (by simpa using hx))
      rw [this, h f (by simp)]
    | invoke r m => rfl
  all_goals (first | rfl | (simp_all; done))

/-! What is read stays, where what was there is as it was. -/
theorem lenK_ext {t : TypeId} {x : AV} {K : AV → Prop} (hs : ∀ k o, get k s = some o → get k s' = some o) (h : lenK s T t x K) : lenK s' T t x K := by
  unfold lenK at h ⊢
  split at h
  · exact h
  · exact h
  · rename_i i k ht
    try simp only [ht]
    split at h
    · rename_i a b q q1 q2 q3 hd hk; rw [hd, hs _ _ hk]; exact h
    · exact h.elim
  · exact h
  · exact h.elim

theorem loadK_ext {t : TypeId} {x : AV} {K : AV → Prop} (hs : ∀ k o, get k s = some o → get k s' = some o) (h : loadK s T t x K) : loadK s' T t x K := by
  unfold loadK at h ⊢
  split at h
  · split at h
    · rename_i hk; simp only [hs _ _ hk]; exact h
    · exact h.elim
  · split at h
    · rename_i hk; simp only [hs _ _ hk]; exact h
    · exact h.elim
  · exact h
  · exact h.elim

theorem iaddrK_ext {t : TypeId} {x y : AV} {K : AV → Prop} (hs : ∀ k o, get k s = some o → get k s' = some o) (h : iaddrK s T t x y K) : iaddrK s' T t x y K := by
  unfold iaddrK at h ⊢
  split at h
  · exact h
  · split at h
    · rename_i hk; simp only [hs _ _ hk]; exact h
    · exact h.elim
  · exact h.elim

theorem qK_ext {op : Op} {ev : Operand → AV} {K : AV → Prop} (hs : ∀ k o, get k s = some o → get k s' = some o) (h : qK P T op ev s K) : qK P T op ev s' K := by
  unfold qK at h ⊢
  split at h <;> try exact h
  · exact loadK_ext hs h
  · exact iaddrK_ext hs h
  · split at h
    · rename_i b hb
      try simp only [hb]
      unfold blnK at h ⊢
      split at h
      · exact lenK_ext hs h
      · exact h
      · exact h
      · exact h.elim
    · rename_i f hf; try simp only [hf]
      exact h
    · exact h.elim

/-- It does not read memory. -/
def sfree : Op → Bool
  | .load .. | .indexAddr .. => false
  | .call cl => match cl.callee with
    | .builtin .len => false
    | _ => true
  | _ => true

theorem qK_sfree {op : Op} {ev : Operand → AV} {K : AV → Prop} (hf : sfree op = true) (h : qK P T op ev s K) : qK P T op ev s' K := by
  unfold qK at h ⊢
  split at h <;> try exact h
  · cases hf
  · cases hf
  · rename_i cl
    split at h
    · rename_i b hb
      try simp only [hb]
      unfold blnK at h ⊢
      split at h
      · simp [sfree, hb] at hf
      · exact h
      · exact h
      · exact h.elim
    · rename_i f hf; try simp only [hf]
      exact h
    · exact h.elim

end
end Go.Abs
end

section
set_option linter.unusedSimpArgs false
/- Regions that draw their order: every order comes to what the planned order comes to. -/
set_option linter.unusedVariables false
set_option linter.unusedSimpArgs false
namespace Go.Abs
open Go.RowKit

def quietB : Op → Bool
  | .move _ | .assign _ | .pick .. | .build .. | .buildSlice .. | .load .. | .nilCheck _ | .binOp .. | .unOp .. | .convert .. | .makeInterface .. | .makeFunc ..
  | .slice .. | .fieldAddr .. | .field .. | .indexAddr .. | .index .. | .extract .. => true
  | .call cl => match cl.callee with
    | .builtin .len | .builtin .max | .builtin .min | .value _ => true
    | _ => false
  | _ => false

def newB : Op → Bool
  | .alloc _ | .box .. => true
  | _ => false

def effK (T : Tab) (op : Op) (ev : Operand → AV) (s : Sto) (n : Nat) (K : AV → Sto → Nat → Prop) : Prop :=
  match op with
  | .alloc t => allocK T t s n K
  | .box t x => boxK (ev x) s n K
  | .store t x y => storeK T t (ev x) (ev y) s fun s' => K .und s' n
  | .call cl => match cl.callee, cl.args.toList, cl.argTypes.toList with
    | .builtin .append, [x, y], [t, t'] => t' = t ∧ appK T t (ev x) (ev y) s n K
    | _, _, _ => False
  | _ => False

def Det3 (X : (AV → Sto → Nat → Prop) → Prop) : Prop := ∀ K : AV → Sto → Nat → Prop, X K → ∃ r s1 n1, K r s1 n1 ∧ ∀ K' : AV → Sto → Nat → Prop, K' r s1 n1 → X K'

section
variable {P : Program} {T : Tab} {s s' : Sto} {n : Nat}

theorem allocK_det {t : TypeId} : Det3 (allocK T t s n) := by
  intro K h
  unfold allocK at h
  split at h
  · rename_i i hi
    exact ⟨_, _, _, h.2, fun K' h' => by simp only [allocK, hi]; exact ⟨h.1, h'⟩⟩
  · exact h.elim
theorem boxK_det {x : AV} : Det3 (boxK x s n) := by
  intro K h
  unfold boxK at h
  split at h
  · rename_i i hi
    exact ⟨_, _, _, h, fun K' h' => by simp only [boxK, hi]; exact h'⟩
  · exact h.elim
theorem storeK_det {t : TypeId} {x y : AV} {K : Sto → Prop} (h : storeK T t x y s K) : ∃ s1, K s1 ∧ ∀ K' : Sto → Prop, K' s1 → storeK T t x y s K' := by
  unfold storeK at h
  split at h
  · rename_i i ys k off h1 h2
    split at h
    · rename_i xs hk
      exact ⟨_, h.2.2, fun K' h' => by simp only [storeK, h1, h2, hk]; exact ⟨h.1, h.2.1, h'⟩⟩
    · exact h.elim
  · rename_i i ys k e j h1 h2
    split at h
    · rename_i te sz es ds hk hd
      exact ⟨_, h.2.2.2, fun K' h' => by simp only [storeK, h1, h2, hk, hd]; exact ⟨h.1, h.2.1, h.2.2.1, h'⟩⟩
    · exact h.elim
  · exact h.elim
theorem appK_det {t : TypeId} {x y : AV} : Det3 (appK T t x y s n) := by
  intro K h
  unfold appK at h
  split at h
  case h_2 => exact h.elim
  rename_i i es2 hi hy
  split at h
  case h_2 => exact h.elim
  rename_i e he
  split at h
  case h_2 => exact h.elim
  rename_i j hj
  obtain ⟨a1, a2, a3, a4, h⟩ := h
  split at h
  · by_cases h0 : es2 = []
    · exact ⟨_, _, _, h.1 h0, fun K' h' => by simp only [appK, hi, hy, he, hj]; exact ⟨a1, a2, a3, a4, fun _ => h', fun c => absurd h0 c⟩⟩
    · obtain ⟨b1, b2, b3⟩ := h.2 h0
      exact ⟨_, _, _, b3, fun K' h' => by simp only [appK, hi, hy, he, hj]; exact ⟨a1, a2, a3, a4, fun c => absurd c h0, fun _ => ⟨b1, b2, h'⟩⟩⟩
  · split at h
    · rename_i k e' sz es f hk
      obtain ⟨c1, c2, h⟩ := h
      by_cases h0 : es2 = []
      · exact ⟨_, _, _, h.1 h0, fun K' h' => by simp only [appK, hi, hy, he, hj, hk]; exact ⟨a1, a2, a3, a4, c1, c2, fun _ => h', fun c => absurd h0 c⟩⟩
      · obtain ⟨b1, b2, b3⟩ := h.2 h0
        exact ⟨_, _, _, b3, fun K' h' => by simp only [appK, hi, hy, he, hj, hk]; exact ⟨a1, a2, a3, a4, c1, c2, fun c => absurd c h0, fun _ => ⟨b1, b2, h'⟩⟩⟩
    · exact h.elim
  · exact h.elim

theorem effK_det {op : Op} {ev : Operand → AV} : Det3 (effK T op ev s n) := by
  intro K h
  unfold effK at h
  split at h
  · exact allocK_det K h
  · exact boxK_det K h
  · obtain ⟨s1, h1, h2⟩ := storeK_det h
    exact ⟨_, s1, n, h1, fun K' h' => h2 (fun s' => K' .und s' n) h'⟩
  · rename_i cl
    split at h
    · rename_i x y t t' hc hx ht
      obtain ⟨e, h⟩ := h
      obtain ⟨r, s1, n1, h1, h2⟩ := appK_det K h
      exact ⟨r, s1, n1, h1, fun K' h' => by simp only [effK, hc, hx, ht]; exact ⟨e, h2 _ h'⟩⟩
    · exact h.elim
  · exact h.elim

theorem effK_congr {op : Op} {ev ev' : Operand → AV} {K : AV → Sto → Nat → Prop} (h : ∀ x ∈ op.operands, ev' x = ev x) : effK T op ev' s n K = effK T op ev s n K := by
  unfold effK
  split <;> simp only [Op.operands] at h
  · rfl
  · rw [h _ (by simp)]
  · rw [h _ (by simp), h _ (by simp)]
  · rename_i cl
    obtain ⟨callee, ⟨xs⟩, ⟨ts⟩⟩ := cl
    simp only [Call.operands] at h
    split
    · rename_i x y t t' hc hx ht
      cases hc
      simp only at hx ht
      subst hx ht
      rw [h x (by simp), h y (by simp)]
    · rfl
  · rfl

theorem effK_opK {op : Op} {ev : Operand → AV} {ty : TypeId} {K : AV → Sto → Nat → Prop} (h : effK T op ev s n K) : callOf op = none ∧ opK T op ty ev s n K := by
  unfold effK at h
  split at h
  · exact ⟨rfl, h⟩
  · exact ⟨rfl, h⟩
  · exact ⟨rfl, h⟩
  · rename_i cl
    obtain ⟨callee, ⟨xs⟩, ⟨ts⟩⟩ := cl
    split at h
    · rename_i x y t t' hc hx ht
      cases hc
      simp only at hx ht
      subst hx ht
      exact ⟨rfl, h⟩
    · exact h.elim
  · exact h.elim

def oneK (P : Program) (T : Tab) (o : Oper) (t : Tm) (s : Sto) (n : Nat) (X : AV → Sto → Nat → Prop) : Prop :=
  bif quietB o.op then qK P T o.op (evA t) s (fun r => X r s n) else effK T o.op (evA t) s n X

theorem oneK_det {o : Oper} {t : Tm} : Det3 (oneK P T o t s n) := by
  intro K h
  unfold oneK at h
  cases hq : quietB o.op <;> simp only [hq, cond_true, cond_false] at h
  · obtain ⟨r, s1, n1, h1, h2⟩ := effK_det K h
    exact ⟨r, s1, n1, h1, fun K' h' => by simp only [oneK, hq, cond_false]; exact h2 _ h'⟩
  · obtain ⟨r, h1, h2⟩ := qK_det _ h
    exact ⟨r, s, n, h1, fun K' h' => by simp only [oneK, hq, cond_true]; exact h2 (fun r => K' r s n) h'⟩

/-- The guard of an operation. -/
def Gd (ops : List Oper) (g : Option (Nat × Bool)) (t : Tm) (q : Bool) : Prop :=
  match g with
  | none => q = true
  | some (j, want) => ∃ d, (ops[j]?).bind (·.dst) = some d ∧ ((∃ b, lk d t = .dat (.bool b) ∧ q = (b == want)) ∨ (lk d t = .tup [] ∧ q = false))

theorem guardK_gd {ops : List Oper} {g : Option (Nat × Bool)} {t : Tm} {X Y : Prop} (h : guardK ops g t X Y) : (Gd ops g t true ∧ X) ∨ (Gd ops g t false ∧ Y) := by
  unfold guardK at h
  split at h
  · exact .inl ⟨rfl, h⟩
  · rename_i j want
    split at h
    · rename_i d hd
      split at h
      · rename_i b hb
        cases hq : (b == want)
        · exact .inr ⟨⟨d, hd, .inl ⟨b, hb, hq.symm⟩⟩, h.2 hq⟩
        · exact .inl ⟨⟨d, hd, .inl ⟨b, hb, hq.symm⟩⟩, h.1 hq⟩
      · rename_i hb
        exact .inr ⟨⟨d, hd, .inr ⟨hb, rfl⟩⟩, h⟩
      · exact h.elim
    · exact h.elim

theorem gd_guardK {ops : List Oper} {g : Option (Nat × Bool)} {t : Tm} {X Y : Prop} {q : Bool} (hg : Gd ops g t q) (h : if q then X else Y) : guardK ops g t X Y := by
  unfold Gd at hg
  split at hg
  · subst hg; exact h
  · rename_i j want
    obtain ⟨d, hd, ⟨b, hb, rfl⟩ | ⟨hb, rfl⟩⟩ := hg
    · simp only [guardK, hd, hb]
      exact ⟨fun e => by rw [e] at h; exact h, fun e => by rw [e] at h; simpa using h⟩
    · simp only [guardK, hd, hb]; simpa using h

/-- What an operation comes to, its guard counted. -/
def Out (P : Program) (T : Tab) (ops : Array Oper) (o : Oper) (t : Tm) (s : Sto) (n : Nat) (r : AV) (s1 : Sto) (n1 : Nat) : Prop :=
  (Gd ops.toList o.guard t true ∧ ∀ X : AV → Sto → Nat → Prop, X r s1 n1 → oneK P T o t s n X) ∨ (Gd ops.toList o.guard t false ∧ r = .tup [] ∧ s1 = s ∧ n1 = n)

def opQ (P : Program) (T : Tab) (ops : Array Oper) (i : Nat) (σ : St) (X : St → Prop) : Prop :=
  match ops[i]? with
  | none => X σ
  | some o => guardK ops.toList o.guard σ.t (oneK P T o σ.t σ.s σ.n fun r s1 n1 => X { σ with t := putA o.dst r σ.t, s := s1, n := n1 }) (X { σ with t := putA o.dst (.tup []) σ.t })

theorem opQ_out {ops : Array Oper} {i : Nat} {o : Oper} {σ : St} {X : St → Prop} (hi : ops[i]? = some o) (h : opQ P T ops i σ X) :
    ∃ r s1 n1, Out P T ops o σ.t σ.s σ.n r s1 n1 ∧ X { σ with t := putA o.dst r σ.t, s := s1, n := n1 } := by
  unfold opQ at h
  simp only [hi] at h
  rcases guardK_gd h with ⟨g, h⟩ | ⟨g, h⟩
  · obtain ⟨r, s1, n1, h1, h2⟩ := oneK_det _ h
    exact ⟨r, s1, n1, .inl ⟨g, h2⟩, h1⟩
  · exact ⟨.tup [], σ.s, σ.n, .inr ⟨g, rfl, rfl, rfl⟩, h⟩

theorem opQ_of {ops : Array Oper} {i : Nat} {o : Oper} {σ : St} {X : St → Prop} (hi : ops[i]? = some o) {r : AV} {s1 : Sto} {n1 : Nat} (hO : Out P T ops o σ.t σ.s σ.n r s1 n1)
    (h : X { σ with t := putA o.dst r σ.t, s := s1, n := n1 }) : opQ P T ops i σ X := by
  unfold opQ
  simp only [hi]
  rcases hO with ⟨g, h1⟩ | ⟨g, rfl, rfl, rfl⟩
  · exact gd_guardK g (by simpa using h1 _ h)
  · exact gd_guardK g (by simpa using h)

theorem oneK_congr {o : Oper} {t t' : Tm} {X : AV → Sto → Nat → Prop} (h : ∀ x ∈ o.op.operands, evA t' x = evA t x) : oneK P T o t' s n X = oneK P T o t s n X := by
  unfold oneK
  rw [qK_congr h, effK_congr h]

theorem Gd.congr {ops : Array Oper} {o : Oper} {t t' : Tm} {q : Bool} (h : ∀ k ∈ o.looksAt ops, lk k t' = lk k t) (hg : Gd ops.toList o.guard t q) : Gd ops.toList o.guard t' q := by
  unfold Gd at *
  split at hg
  · exact hg
  · rename_i j want hgd
    obtain ⟨d, hd, hb⟩ := hg
    refine ⟨d, hd, ?_⟩
    rw [h d ?_]
    · exact hb
    · unfold Oper.looksAt
      rw [hgd]
      have : (ops[j]?).bind (·.dst) = some d := by simpa using hd
      simp [this]

theorem evA_congr {ops : Array Oper} {o : Oper} {t t' : Tm} (h : ∀ k ∈ o.looksAt ops, lk k t' = lk k t) : ∀ x ∈ o.op.operands, evA t' x = evA t x := by
  intro x hx
  cases x with
  | tmp k =>
    refine h k ?_
    unfold Oper.looksAt
    refine List.mem_append_left _ (List.mem_filterMap.2 ⟨.tmp k, by simpa using hx, rfl⟩)
  | _ => rfl

theorem Out.congr {ops : Array Oper} {o : Oper} {t t' : Tm} {r : AV} {s1 : Sto} {n1 : Nat} (h : ∀ k ∈ o.looksAt ops, lk k t' = lk k t) (hO : Out P T ops o t s n r s1 n1) : Out P T ops o t' s n r s1 n1 := by
  rcases hO with ⟨g, h1⟩ | ⟨g, h1⟩
  · exact .inl ⟨g.congr h, fun X hX => by rw [oneK_congr (evA_congr h)]; exact h1 X hX⟩
  · exact .inr ⟨g.congr h, h1⟩

theorem Out.quiet {ops : Array Oper} {o : Oper} {t : Tm} {r : AV} {s1 : Sto} {n1 : Nat} (hq : quietB o.op = true) (hO : Out P T ops o t s n r s1 n1) : s1 = s ∧ n1 = n := by
  rcases hO with ⟨g, h1⟩ | ⟨g, h1⟩
  · have := h1 (fun _ s' n' => s' = s1 ∧ n' = n1) ⟨rfl, rfl⟩
    simp only [oneK, hq, cond_true] at this
    obtain ⟨_, h, _⟩ := qK_det _ this
    exact ⟨h.1.symm, h.2.symm⟩
  · exact ⟨h1.2.1, h1.2.2⟩

theorem Out.fresh {ops : Array Oper} {o : Oper} {t : Tm} {r : AV} {s1 : Sto} {n1 : Nat} (hq : newB o.op = true) (hO : Out P T ops o t s n r s1 n1) :
    (s1 = s ∧ n1 = n) ∨ ∃ b, s1 = (n, b) :: s ∧ n1 = n + 1 := by
  rcases hO with ⟨g, h1⟩ | ⟨g, h1⟩
  · have := h1 (fun _ s' n' => s' = s1 ∧ n' = n1) ⟨rfl, rfl⟩
    obtain ⟨dst, op, ty, pos, af, gd⟩ := o
    cases op <;> try (cases hq)
    case inl.alloc.refl u =>
      have this : allocK T u s n (fun _ s' n' => s' = s1 ∧ n' = n1) := this
      unfold allocK at this
      split at this
      · exact .inr ⟨_, this.2.1.symm, this.2.2.symm⟩
      · exact this.elim
    case inl.box.refl u x =>
      have this : boxK (evA t x) s n (fun _ s' n' => s' = s1 ∧ n' = n1) := this
      unfold boxK at this
      split at this
      · exact .inr ⟨_, this.1.symm, this.2.symm⟩
      · exact this.elim
  · exact .inl ⟨h1.2.1, h1.2.2⟩

/-- What was read is read again. -/
theorem Out.stay {ops : Array Oper} {o : Oper} {t : Tm} {r : AV} {n' : Nat} (hq : quietB o.op = true) (hs : sfree o.op = true ∨ ∀ k x, get k s = some x → get k s' = some x)
    (hO : Out P T ops o t s n r s n) : Out P T ops o t s' n' r s' n' := by
  rcases hO with ⟨g, h1⟩ | ⟨g, h1⟩
  · refine .inl ⟨g, fun X hX => ?_⟩
    have := h1 (fun r' _ _ => X r' s' n') hX
    simp only [oneK, hq, cond_true] at this ⊢
    rcases hs with hs | hs
    · exact qK_sfree hs this
    · exact qK_ext hs this
  · exact .inr ⟨g, h1.1, rfl, rfl⟩

def Fr (σ : St) : Prop := ∀ k x, get k σ.s = some x → k < σ.n

def anyK (P : Program) (T : Tab) (ops : Array Oper) (K : St → Prop) : Nat → Array Bool → St → Prop
  | 0, listed, σ => Region.ready .any ops listed = [] ∧ K σ
  | f + 1, listed, σ => Fr σ → (Region.ready .any ops listed = [] → K σ) ∧ ∀ i ∈ Region.ready .any ops listed, opQ P T ops i σ (anyK P T ops K f (listed.setIfInBounds i true))

structure Ext (σ σ' : St) : Prop where
  s : σ.s = σ'.s
  n : σ.n = σ'.n
  d : σ.d = σ'.d
  t : ∀ k, lk k σ.t = lk k σ'.t

theorem Ext.put {σ σ' : St} (h : Ext σ σ') (dst : Option Nat) (r : AV) (s1 : Sto) (n1 : Nat) : Ext { σ with t := putA dst r σ.t, s := s1, n := n1 } { σ' with t := putA dst r σ'.t, s := s1, n := n1 } :=
  ⟨rfl, rfl, h.d, fun k => by simp only [lk_putA, h.t]⟩

theorem anyK_ext {ops : Array Oper} {K : St → Prop} (hK : ∀ σ σ', Ext σ σ' → K σ → K σ') : ∀ (f : Nat) (listed : Array Bool) (σ σ' : St), Ext σ σ' → anyK P T ops K f listed σ → anyK P T ops K f listed σ'
  | 0, listed, σ, σ', e, h => ⟨h.1, hK _ _ e h.2⟩
  | f + 1, listed, σ, σ', e, h => fun fr => by
    have fr' : Fr σ := fun k x hk => by rw [e.n]; exact fr k x (by rw [← e.s]; exact hk)
    obtain ⟨h1, h2⟩ := h fr'
    refine ⟨fun h0 => hK _ _ e (h1 h0), fun i hi => ?_⟩
    have := h2 i hi
    cases ho : ops[i]? with
    | none => simp only [opQ, ho] at this ⊢; exact anyK_ext hK f _ _ _ e this
    | some o =>
      obtain ⟨r, s1, n1, hO, hx⟩ := opQ_out ho this
      refine opQ_of ho (r := r) (s1 := s1) (n1 := n1) ?_ (anyK_ext hK f _ _ _ (e.put _ _ _ _) hx)
      rw [← e.s, ← e.n]
      exact hO.congr fun k _ => (e.t k).symm

/-! Taking an operation first. -/
def Closed (ops : Array Oper) (listed : Array Bool) : Prop :=
  ∀ j oj, ops[j]? = some oj → listed.getD j false = true → ∀ e ∈ oj.after, Region.binds .any e = true → listed.getD e.on false = true

def waits (ops : Array Oper) : Nat → Nat → Nat → Bool
  | 0, _, _ => false
  | f + 1, j, i => match ops[j]? with
    | some oj => oj.after.any fun e => Region.binds .any e && (Nat.beq e.on i || waits ops f e.on i)
    | none => false

theorem waits_listed {ops : Array Oper} {listed : Array Bool} (hc : Closed ops listed) : ∀ (f j i : Nat), waits ops f j i = true → listed.getD j false = true → listed.getD i false = true
  | 0, j, i, h, _ => by simp [waits] at h
  | f + 1, j, i, h, hl => by
    unfold waits at h
    split at h
    · rename_i oj hj
      obtain ⟨e, he, hb⟩ := Array.any_eq_true'.1 h
      simp only [Bool.and_eq_true, Bool.or_eq_true] at hb
      have := hc j oj hj hl e he hb.1
      rcases hb.2 with h1 | h1
      · rw [Nat.eq_of_beq_eq_true h1] at this; exact this
      · exact waits_listed hc f _ _ h1 this
    · cases h

theorem ready_waits {ops : Array Oper} {listed : Array Bool} (hc : Closed ops listed) {f j i : Nat} (h : waits ops f j i = true) (hj : j ∈ Region.ready .any ops listed) : listed.getD i false = true := by
  cases f with
  | zero => simp [waits] at h
  | succ f =>
    obtain ⟨_, oj, hoj, hall⟩ := mem_ready.1 hj
    unfold waits at h
    rw [hoj] at h
    obtain ⟨e, he, hb⟩ := Array.any_eq_true'.1 h
    simp only [Bool.and_eq_true, Bool.or_eq_true] at hb
    have := hall e he hb.1
    rcases hb.2 with h1 | h1
    · rw [Nat.eq_of_beq_eq_true h1] at this; exact this
    · exact waits_listed hc f _ _ h1 this

theorem Closed.set {ops : Array Oper} {listed : Array Bool} (hc : Closed ops listed) {i : Nat} (hi : i ∈ Region.ready .any ops listed) : Closed ops (listed.setIfInBounds i true) := by
  intro j oj hj hl e he hb
  by_cases h : i = j
  · subst h
    obtain ⟨_, o, ho, hall⟩ := mem_ready.1 hi
    rw [ho] at hj; cases hj
    exact getD_set_true (hall e he hb)
  · rw [getD_set_ne false h] at hl
    exact getD_set_true (hc j oj hj hl e he hb)

theorem listed_false {listed : Array Bool} {i : Nat} (h : listed.getD i true = false) : ¬ listed.getD i false = true := by
  intro h'
  rcases Nat.lt_or_ge i listed.size with hl | hl
  · simp [hl] at h h'; rw [h] at h'; cases h'
  · simp [Array.getElem?_eq_none hl] at h

theorem lk_put_other {dst : Option Nat} {r : AV} {t : Tm} {ks : List Nat} (h : ∀ d, dst = some d → d ∉ ks) : ∀ k ∈ ks, lk k (putA dst r t) = lk k t := by
  intro k hk
  rw [lk_putA]
  by_cases e : dst = some k
  · exact absurd hk (h k e)
  · rw [if_neg e]

theorem anyK_take {ops : Array Oper} {K : St → Prop} (hK : ∀ σ σ', Ext σ σ' → K σ → K σ') {i : Nat} {oi : Oper} {r : AV} (hi : ops[i]? = some oi) (hq : quietB oi.op = true) :
    ∀ (f : Nat) (listed : Array Bool) (σ : St), Closed ops listed →
      (∀ j oj, ops[j]? = some oj → j ≠ i → listed.getD j true = false → (∃ m, waits ops m j i = true) ∨ (oi.apart ops oj = true ∧ (sfree oi.op = true ∨ quietB oj.op = true ∨ newB oj.op = true))) →
      i ∈ Region.ready .any ops listed → Out P T ops oi σ.t σ.s σ.n r σ.s σ.n →
      anyK P T ops K f (listed.setIfInBounds i true) { σ with t := putA oi.dst r σ.t } → anyK P T ops K (f + 1) listed σ := by
  intro f
  induction f with
  | zero =>
    intro listed σ _ _ hr hO H fr
    refine ⟨fun h => (by rw [h] at hr; cases hr), fun j hj => ?_⟩
    by_cases hji : j = i
    · subst hji; exact opQ_of hi hO H
    · have := ready_mono hj hji
      rw [H.1] at this
      cases this
  | succ f ih =>
    intro listed σ hc hfree hr hO H fr
    refine ⟨fun h => (by rw [h] at hr; cases hr), fun j hj => ?_⟩
    by_cases hji : j = i
    · subst hji; exact opQ_of hi hO H
    · obtain ⟨hjun, oj, hoj, hall⟩ := mem_ready.1 hj
      rcases hfree j oj hoj hji hjun with ⟨m, hw⟩ | ⟨hap, hcls⟩
      · exact absurd (ready_waits hc hw hj) (listed_false (mem_ready.1 hr).1)
      · obtain ⟨a1, a2, a3⟩ := Oper.apart_spec hap
        obtain ⟨r', s1, n1, hOj, hx⟩ := opQ_out hoj ((H fr).2 j (ready_mono hj hji))
        have hOj' : Out P T ops oj σ.t σ.s σ.n r' s1 n1 := hOj.congr fun k hk => (lk_put_other a1 k hk).symm
        refine opQ_of hoj hOj' ?_
        refine ih (listed.setIfInBounds j true) { σ with t := putA oj.dst r' σ.t, s := s1, n := n1 } (hc.set hj) (fun k ok hk hki hun => ?_) (ready_mono hr (Ne.symm hji)) ?_ ?_
        · have hun' : listed.getD k true = false := by
            by_cases hjk : j = k
            · subst hjk; exact hjun
            · rw [getD_set_ne true hjk] at hun; exact hun
          exact hfree k ok hk hki hun'
        · have h1 : Out P T ops oi (putA oj.dst r' σ.t) σ.s σ.n r σ.s σ.n := hO.congr (lk_put_other a3)
          refine h1.stay hq ?_
          rcases hcls with h | h | h
          · exact .inl h
          · obtain ⟨e1, e2⟩ := hOj.quiet h
            exact .inr fun k x hk => by subst e1; exact hk
          · rcases hOj.fresh h with ⟨e1, e2⟩ | ⟨b, e1, e2⟩
            · exact .inr fun k x hk => by subst e1; exact hk
            · exact .inr fun k x hk => by
                subst e1
                have := fr k x hk
                rw [get_cons, if_neg (Nat.ne_of_gt this)]
                exact hk
        · rw [Array.setIfInBounds_comm _ _ (Ne.symm hji)] at hx
          refine anyK_ext hK _ _ _ _ ?_ hx
          refine ⟨rfl, rfl, rfl, fun k => ?_⟩
          simp only [lk_putA]
          by_cases e1 : oi.dst = some k <;> by_cases e2 : oj.dst = some k
          · exact absurd e2 (a2 k e1)
          · simp [e1, e2]
          · simp [e1, e2]
          · simp [e1, e2]

end
end Go.Abs
end

section
set_option linter.unusedSimpArgs false
/- Regions that draw their order: the rule. -/
set_option linter.unusedVariables false
set_option linter.unusedSimpArgs false
namespace Go.Abs
open Go.RowKit

inductive Pl where
  | take (i : Nat)
  | grp (g : List Nat)

section
variable {P : Program} {T : Tab} {c : Ctx} {ro : Option Nat}

def takeOk (ops : Array Oper) (listed : Array Bool) (i : Nat) : Bool :=
  match ops[i]? with
  | none => false
  | some oi => quietB oi.op && (Region.ready .any ops listed).contains i && (List.range ops.size).all fun j => Nat.beq j i || listed.getD j true || match ops[j]? with
    | some oj => waits ops ops.size j i || (oi.apart ops oj && (sfree oi.op || quietB oj.op || newB oj.op))
    | none => true

def permOk (ops : Array Oper) : Nat → Array Bool → List Nat → Bool
  | 0, _, g => g.isEmpty
  | f + 1, listed, g => (Region.ready .any ops listed == g) && !g.isEmpty && g.all fun i => permOk ops f (listed.setIfInBounds i true) (g.erase i)

def lens : List Pl → Nat
  | [] => 0
  | .take _ :: l => lens l + 1
  | .grp g :: l => lens l + g.length

def planOk (ops : Array Oper) : List Pl → Array Bool → Bool
  | [], listed => (Region.ready .any ops listed).isEmpty
  | .take i :: l, listed => takeOk ops listed i && planOk ops l (listed.setIfInBounds i true)
  | .grp g :: l, listed => permOk ops g.length listed g && planOk ops l (g.foldl (fun a i => a.setIfInBounds i true) listed)

def plansOk (ops : Array Oper) (l : List Pl) : Bool := Nat.beq (lens l) ops.size && planOk ops l (Array.replicate ops.size false)

def permK (P : Program) (T : Tab) (ops : Array Oper) : Nat → List Nat → St → (St → Prop) → Prop
  | 0, _, σ, X => X σ
  | f + 1, g, σ, X => ∀ i ∈ g, opQ P T ops i σ fun σ' => permK P T ops f (g.erase i) σ' X

def takeQ (P : Program) (T : Tab) (ops : Array Oper) (i : Nat) (σ : St) (X : St → Prop) : Prop :=
  match ops[i]? with
  | some o => guardK ops.toList o.guard σ.t (qK P T o.op (evA σ.t) σ.s fun r => X { σ with t := putA o.dst r σ.t }) (X { σ with t := putA o.dst (.tup []) σ.t })
  | none => False

def planK (P : Program) (T : Tab) (ops : Array Oper) : List Pl → St → (St → Prop) → Prop
  | [], σ, X => X σ
  | .take i :: l, σ, X => takeQ P T ops i σ fun σ' => planK P T ops l σ' X
  | .grp g :: l, σ, X => permK P T ops g.length g σ fun σ' => planK P T ops l σ' X

theorem takeQ_out {ops : Array Oper} {i : Nat} {o : Oper} {σ : St} {X : St → Prop} (hi : ops[i]? = some o) (hq : quietB o.op = true) (h : takeQ P T ops i σ X) :
    ∃ r, Out P T ops o σ.t σ.s σ.n r σ.s σ.n ∧ X { σ with t := putA o.dst r σ.t } := by
  unfold takeQ at h
  simp only [hi] at h
  rcases guardK_gd h with ⟨g, h⟩ | ⟨g, h⟩
  · obtain ⟨r, h1, h2⟩ := qK_det _ h
    exact ⟨r, .inl ⟨g, fun X hX => by simp only [oneK, hq, cond_true]; exact h2 (fun r => X r σ.s σ.n) hX⟩, h1⟩
  · exact ⟨.tup [], .inr ⟨g, rfl, rfl, rfl⟩, h⟩

theorem opQ_mono {ops : Array Oper} {i : Nat} {σ : St} {X Y : St → Prop} (hXY : ∀ σ, X σ → Y σ) (h : opQ P T ops i σ X) : opQ P T ops i σ Y := by
  cases ho : ops[i]? with
  | none => simp only [opQ, ho] at h ⊢; exact hXY _ h
  | some o =>
    obtain ⟨r, s1, n1, hO, hx⟩ := opQ_out ho h
    exact opQ_of ho hO (hXY _ hx)

theorem foldl_set_erase {g : List Nat} {i : Nat} (hi : i ∈ g) (listed : Array Bool) :
    (g.erase i).foldl (fun a i => a.setIfInBounds i true) (listed.setIfInBounds i true) = g.foldl (fun a i => a.setIfInBounds i true) listed := by
  have := (List.perm_cons_erase hi).foldl_eq' (f := fun (a : Array Bool) i => a.setIfInBounds i true) (fun x _ y _ z => by
    by_cases h : x = y
    · subst h; rfl
    · exact Array.setIfInBounds_comm _ _ h) listed
  rw [this]; rfl

theorem perm_any {ops : Array Oper} {Y X : St → Prop} {m : Nat} : ∀ (f : Nat) (g : List Nat) (listed : Array Bool) (σ : St), g.length = f → permOk ops f listed g = true → permK P T ops f g σ Y → Closed ops listed →
    (∀ σ', Closed ops (g.foldl (fun a i => a.setIfInBounds i true) listed) → Y σ' → anyK P T ops X m (g.foldl (fun a i => a.setIfInBounds i true) listed) σ') → anyK P T ops X (f + m) listed σ
  | 0, g, listed, σ, hl, hok, h, hc, hn => by
    have : g = [] := List.eq_nil_of_length_eq_zero hl
    subst this
    rw [Nat.zero_add]
    exact hn σ hc h
  | f + 1, g, listed, σ, hl, hok, h, hc, hn => by
    simp only [permOk, Bool.and_eq_true, beq_iff_eq, List.all_eq_true] at hok
    obtain ⟨⟨hr, hne⟩, hall⟩ := hok
    rw [show f + 1 + m = (f + m) + 1 by omega]
    intro fr
    rw [hr]
    refine ⟨fun h0 => by subst h0; simp at hl, fun i hi => ?_⟩
    refine opQ_mono (fun σ' h' => ?_) (h i hi)
    refine perm_any f (g.erase i) _ σ' (by rw [List.length_erase_of_mem hi]; omega) (hall i hi) h' (hc.set (by rw [hr]; exact hi)) ?_
    rw [foldl_set_erase hi]
    exact hn

theorem plan_any {ops : Array Oper} {X : St → Prop} (hX : ∀ σ σ', Ext σ σ' → X σ → X σ') : ∀ (l : List Pl) (listed : Array Bool) (σ : St), planOk ops l listed = true → Closed ops listed → planK P T ops l σ X → anyK P T ops X (lens l) listed σ
  | [], listed, σ, hok, hc, h => ⟨by simpa [planOk] using hok, h⟩
  | .take i :: l, listed, σ, hok, hc, h => by
    simp only [planOk, Bool.and_eq_true] at hok
    obtain ⟨h1, h2⟩ := hok
    unfold takeOk at h1
    split at h1
    · cases h1
    · rename_i oi hi
      simp only [Bool.and_eq_true, List.all_eq_true, List.mem_range, Bool.or_eq_true] at h1
      obtain ⟨⟨hq, hr⟩, hall⟩ := h1
      have hr : i ∈ Region.ready .any ops listed := by simpa using hr
      obtain ⟨r, hO, hx⟩ := takeQ_out hi hq h
      refine anyK_take hX hi hq (lens l) listed σ hc (fun j oj hj hji hun => ?_) hr hO (plan_any hX l _ _ h2 (hc.set hr) hx)
      have := hall j (Array.getElem?_eq_some_iff.1 hj).1
      simp only [hj, Bool.or_eq_true, Bool.and_eq_true] at this
      rcases this with (h0 | h0) | h0
      · exact absurd (Nat.eq_of_beq_eq_true h0) hji
      · rw [hun] at h0; cases h0
      · rcases h0 with h0 | h0
        · exact .inl ⟨_, h0⟩
        · refine .inr ⟨h0.1, ?_⟩
          rcases h0.2 with (h3 | h3) | h3
          · exact .inl h3
          · exact .inr (.inl h3)
          · exact .inr (.inr h3)
  | .grp g :: l, listed, σ, hok, hc, h => by
    simp only [planOk, Bool.and_eq_true] at hok
    rw [show lens (.grp g :: l) = g.length + lens l by simp [lens, Nat.add_comm]]
    exact perm_any g.length g listed σ rfl hok.1 h hc fun σ' hc' hy => plan_any hX l _ σ' hok.2 hc' hy

/-! What the machine does. -/
theorem qK_opK {s : Sto} {n : Nat} {op : Op} {ev : Operand → AV} {ty : TypeId} {K : AV → Sto → Nat → Prop} (hr : ∀ t l ps, op ≠ .buildSlice t l ps) (h : qK P T op ev s fun r => K r s n) :
    match callOf op with
    | some (f, xs) => calleeK P s (ev f) (xs.map ev) fun r s1 => K r s1 n
    | none => opK T op ty ev s n K := by
  unfold qK at h
  split at h <;> try exact h
  · exact absurd rfl (hr _ _ _)
  · rename_i t x lo hi
    simp only [callOf, opK]
    generalize ev x = y at h
    cases y <;> first | exact h.elim | exact h
  · rename_i cl
    obtain ⟨callee, ⟨xs⟩, ⟨ts⟩⟩ := cl
    cases callee with
    | builtin b =>
      simp only [callOf, opK] at h ⊢
      unfold blnK at h
      split at h
      · exact h
      · exact h
      · exact h
      · exact h.elim
    | value f =>
      simp only [callOf] at h ⊢
      unfold callQ at h
      unfold calleeK
      split at h
      · rename_i g caps hf
        simp only [hf]
        split at h
        · rename_i ys hy; rw [toAs_of hy]; exact h
        · exact h.elim
      · rename_i g caps hf
        simp only [hf]
        split at h
        · rename_i ys hy; rw [toAs_of hy]; exact h
        · exact h.elim
      · exact h.elim
    | invoke r m => exact h.elim
  · exact h.elim

variable {φ : Nat → Lay} {s : Sto} {n : Nat} {w : World}

theorem rowK_ok (hT : TabOk P T) {t : TypeId} {len : Nat} {ps : Array (Nat × Operand)} {ρ : Operand → Value} {ev : Operand → AV} {K : AV → Prop} (hm : Mem c φ s n w) (he : ∀ x, RV φ n (c.AA φ s) w (ev x) (ρ x))
    (h : rowK T t len (ps.toList.map fun p => (p.1, ev p.2)) K) :
    ∃ r z w', (Instr.buildSlice t len (ps.map fun (i, x) => (i, ρ x))).run P w = .ok z w' ∧ Goes c φ s n w φ s n w' ∧ RV φ n (c.AA φ s) w' r z ∧ K r := by
  unfold rowK at h
  split at h
  case h_2 => exact h.elim
  rename_i i hi
  split at h
  case h_2 => exact h.elim
  rename_i e hd
  split at h
  case h_2 => exact h.elim
  rename_i j hj
  obtain ⟨a1, a3, a4, h⟩ := h
  split at h
  case h_2 => exact h.elim
  rename_i es hes
  have hsl : sliceK T t len (ps.toList.map fun p => (p.1, ev p.2)) s n (fun r s1 n1 => r = .own n ∧ s1 = (n, .row e j.size es false) :: s ∧ n1 = n + 1) := by
    simp only [sliceK, hi, hd, hj, rowsC_of hes]
    exact ⟨a1, a3, a4, trivial, trivial, trivial⟩
  obtain ⟨r, z, φ', s', n', w', hrun, g, hrv, ⟨rfl, rfl, rfl⟩, hb⟩ := sliceK_ok' hT hm he hsl
  have h1 : toC0 ((n, Obj'.row e j.size es false) :: s) (.own n) = some (.lst es, set n (.row e j.size es true) ((n, .row e j.size es false) :: s)) := by
    simp [toC0, get]
  obtain ⟨g2, r2⟩ := toC0_ok g.mem h1
  refine ⟨.dat (.lst es), z, w', hrun, hm.grown hb, .dat _ _ ((r2 z hrv).keep fun b o v hA hv => ⟨⟨hA.1, fun k x hk hbk => ?_⟩, hv⟩), h⟩
  have hkn := (hm.obj k x hk).2.1
  refine hA.2 k x ?_ (by rw [g.same k hkn]; exact hbk)
  rw [get_set, if_neg (Nat.ne_of_lt hkn), get_cons, if_neg (Nat.ne_of_gt hkn)]
  exact hk

theorem oneK_ok (hT : TabOk P T) {o : Oper} {σ : St} {a : Act} {X : AV → Sto → Nat → Prop} (hR : Rel c φ σ a w) (hd : dstOk c.N o = true) (h : oneK P T o σ.t σ.s σ.n X)
    {next : Act → World → Prop} {Q : Exit → Act → World → Prop} (hn : ∀ φ' r s1 n1 a' w', X r s1 n1 → Rel c φ' { σ with t := putA o.dst r σ.t, s := s1, n := n1 } a' w' → next a' w') : o.wpIn (FF ro) 0 P a w next Q := by
  unfold oneK at h
  cases hq : quietB o.op <;> simp only [hq, cond_true, cond_false] at h
  · obtain ⟨e, h'⟩ := effK_opK (ty := o.type) h
    refine stepK_ok hT hR hd (K := fun σ' => ∃ r s1 n1, σ' = { σ with t := putA o.dst r σ.t, s := s1, n := n1 } ∧ X r s1 n1) ?_ (fun φ' σ' a' w' ⟨r, s1, n1, e, hx⟩ hR' => by subst e; exact hn _ _ _ _ _ _ hx hR')
    unfold stepK
    simp only [e]
    obtain ⟨r, s1, n1, h1, h2⟩ := effK_det _ h
    exact (effK_opK (ty := o.type) (h2 (fun r s1 n1 => ∃ r' s1' n1', ({ σ with t := putA o.dst r σ.t, s := s1, n := n1 } : St) = { σ with t := putA o.dst r' σ.t, s := s1', n := n1' } ∧ X r' s1' n1') ⟨r, s1, n1, rfl, h1⟩)).2
  · by_cases hrow : ∃ t l ps, o.op = .buildSlice t l ps
    · obtain ⟨t, l, ps, ho⟩ := hrow
      rw [ho] at h
      have h : rowK T t l (ps.toList.map fun p => (p.1, evA σ.t p.2)) (fun r => X r σ.s σ.n) := h
      obtain ⟨r, z, w', hrun, g, rv, hK⟩ := rowK_ok hT hR.mem (fun x => hR.ev x) h
      have hd' : ∀ d, o.dst = some d → d < c.N := fun d hd'' => by
        unfold dstOk at hd; rw [hd''] at hd; exact Nat.blt_eq.mp hd
      have hsem : (o.semAt ro a.eval).run P w = .ok (.value z) w' := by
        rw [Oper.semAt_eq]
        · obtain ⟨dst, op, ty, pos, after, guard⟩ := o
          simp only at ho
          subst ho
          simp [execOp, hrun]
        · intro cl hcl; rw [ho] at hcl; cases hcl
      refine ⟨fun _ _ => trivial, ?_⟩
      show o.uponIn (FF ro) 0 P a next Q ((o.semAt ro a.eval).run P w)
      rw [hsem]
      exact hn _ _ _ _ _ _ hK (hR.put g rv hd')
    · obtain ⟨r, h1, h2⟩ := qK_det _ h
      refine stepK_ok hT hR hd (K := fun σ' => ∃ r, σ' = { σ with t := putA o.dst r σ.t } ∧ X r σ.s σ.n) ?_ (fun φ' σ' a' w' ⟨r, e, hx⟩ hR' => by subst e; exact hn _ _ _ _ _ _ hx hR')
      exact qK_opK (ty := o.type) (K := fun r s1 n1 => ∃ r', ({ σ with t := putA o.dst r σ.t, s := s1, n := n1 } : St) = { σ with t := putA o.dst r' σ.t } ∧ X r' σ.s σ.n)
        (fun t l ps e => hrow ⟨t, l, ps, e⟩) (h2 _ ⟨r, rfl, h1⟩)

theorem anyK_ok (hT : TabOk P T) {ops : Array Oper} {K : St → Prop} {Q : Exit → Act → World → Prop} (hd : ops.toList.all (dstOk c.N) = true) (hn : ∀ φ' σ' a' w', K σ' → Rel c φ' σ' a' w' → Q .normal a' w') :
    ∀ (f : Nat) (listed : Array Bool) (σ : St) (φ : Nat → Lay) (a : Act) (w : World), Rel c φ σ a w → anyK P T ops K f listed σ → wpAnyIn (FF ro) 0 P .any ops Q f listed a w
  | 0, listed, σ, φ, a, w, hR, h => ⟨h.1, hn _ _ _ _ h.2 hR⟩
  | f + 1, listed, σ, φ, a, w, hR, h => by
    obtain ⟨h1, h2⟩ := h (fun k x hk => (hR.mem.obj k x hk).2.1)
    refine ⟨fun h0 => hn _ _ _ _ (h1 h0) hR, fun i hi => ?_⟩
    have hi' := h2 i hi
    cases ho : ops[i]? with
    | none =>
      simp only [opQ, ho] at hi'
      simp only [wpOpIn, ho]
      exact anyK_ok hT hd hn f _ σ φ a w hR hi'
    | some o =>
      have hdo : dstOk c.N o = true := (List.all_eq_true.1 hd) o (by simpa using Array.mem_of_getElem? ho)
      have hd' : ∀ d, o.dst = some d → d < c.N := fun d hd'' => by
        unfold dstOk at hdo; rw [hd''] at hdo; exact Nat.blt_eq.mp hdo
      simp only [wpOpIn, ho]
      have hskip : opQ P T ops i σ (anyK P T ops K f (listed.setIfInBounds i true)) → Gd ops.toList o.guard σ.t false → anyK P T ops K f (listed.setIfInBounds i true) { σ with t := putA o.dst (.tup []) σ.t } → wpAnyIn (FF ro) 0 P .any ops Q f (listed.setIfInBounds i true) (a.put o.dst undef) w := fun _ _ hk =>
        anyK_ok hT hd hn f _ _ φ _ w (hR.put (Goes.refl hR.mem) skp_rv hd') hk
      have hwant : ∀ q, Gd ops.toList o.guard σ.t q → Region.wanted o (yielded ops a.tmps) = q := by
        intro q hg
        unfold Gd at hg
        split at hg
        · rename_i hgd; subst hg; simp [Region.wanted, hgd]
        · rename_i j want hgd
          obtain ⟨d, hjd, ⟨b, hb, rfl⟩ | ⟨hb, rfl⟩⟩ := hg
          · have hy := yielded_bool hR (ops := ops) (by simpa using hjd) hb
            simp [Region.wanted, hgd, hy]
          · have hy := yielded_skp hR (ops := ops) (by simpa using hjd) hb
            simp [Region.wanted, hgd, hy]
      unfold opQ at hi'
      simp only [ho] at hi'
      rcases guardK_gd hi' with ⟨g, hx⟩ | ⟨g, hx⟩
      · rw [if_pos (hwant true g)]
        exact oneK_ok hT hR hdo hx fun φ' r s1 n1 a' w' hk hR' => anyK_ok hT hd hn f _ _ φ' a' w' hR' hk
      · rw [if_neg (by rw [hwant false g]; simp)]
        exact ⟨fun _ _ => trivial, hskip (h2 i hi) g hx⟩

theorem Rel.drew {σ : St} {a : Act} (h : Rel c φ σ a w) : Rel c φ σ a w.drew := by
  have g := h.mem.grown (w' := w.drew) ((Below.refl _ w).drew)
  exact ⟨h.size, h.defers, fun t => g.rv (h.tm t), g.mem⟩

theorem AWp.draw {id : Nat} {ops : Array Oper} {σ : St} {Q : Exit → St → Prop} (l : List Pl) (hm : P.follows .mixedOrders = true) (hp : plansOk ops l = true) (hok : ops.toList.all (dstOk c.N) = true)
    (h : planK P T ops l σ fun σ' => Q .normal σ') : AWp P T c ro (.region id ops true) σ Q := by
  intro hT φ a w hR
  simp only [plansOk, Bool.and_eq_true] at hp
  refine wpIn_region_any hm ?_
  have h1 : planK P T ops l σ (fun σ' => ∃ σ'', Ext σ' σ'' ∧ Q .normal σ'') := by
    revert h
    generalize hX : (fun σ' => Q .normal σ') = X
    have hle : ∀ σ', X σ' → ∃ σ'', Ext σ' σ'' ∧ Q .normal σ'' := fun σ' hx => ⟨σ', ⟨rfl, rfl, rfl, fun _ => rfl⟩, by rw [← hX] at hx; exact hx⟩
    clear hX hp hok hR
    have hperm : ∀ (f : Nat) (g : List Nat) (σ : St) (Y Z : St → Prop), (∀ σ, Y σ → Z σ) → permK P T ops f g σ Y → permK P T ops f g σ Z := by
      intro f
      induction f with
      | zero => intro g σ Y Z hYZ h; exact hYZ _ h
      | succ f ih => intro g σ Y Z hYZ h i hi; exact opQ_mono (fun σ' h' => ih _ _ _ _ hYZ h') (h i hi)
    have htake : ∀ (i : Nat) (σ : St) (Y Z : St → Prop), (∀ σ, Y σ → Z σ) → takeQ P T ops i σ Y → takeQ P T ops i σ Z := by
      intro i σ Y Z hYZ h
      unfold takeQ at h ⊢
      split at h
      · rename_i o ho
        rcases guardK_gd h with ⟨g, h⟩ | ⟨g, h⟩
        · obtain ⟨r, h1, h2⟩ := qK_det _ h
          exact gd_guardK g (by simpa using h2 _ (hYZ _ h1))
        · exact gd_guardK g (by simpa using hYZ _ h)
      · exact h.elim
    induction l generalizing σ with
    | nil => intro h; exact hle _ h
    | cons p l ih =>
      cases p with
      | take i => intro h; exact htake i σ _ _ (fun σ' h' => ih h') h
      | grp g => intro h; exact hperm _ g σ _ _ (fun σ' h' => ih h') h
  have h2 := plan_any (P := P) (T := T) (fun σ σ' e ⟨σ'', e', hq⟩ => ⟨σ'', ⟨e.s.symm.trans e'.s, e.n.symm.trans e'.n, e.d.symm.trans e'.d, fun k => (e.t k).symm.trans (e'.t k)⟩, hq⟩) l (Array.replicate ops.size false) σ hp.2
    (fun j oj hj hl => by
      rcases Nat.lt_or_ge j ops.size with h' | h'
      · simp [h'] at hl
      · simp [Array.getElem?_eq_none h'] at hj) h1
  rw [Nat.eq_of_beq_eq_true hp.1] at h2
  refine anyK_ok hT hok (fun φ' σ' a' w' ⟨σ'', e, hq⟩ hR' => ⟨φ', σ'', ?_, hq⟩) ops.size _ σ φ a _ hR.drew h2
  obtain ⟨t1, s1, n1, d1⟩ := σ'
  obtain ⟨t2, s2, n2, d2⟩ := σ''
  obtain ⟨e1, e2, e3, e4⟩ := e
  simp only at e1 e2 e3 e4
  subst e1 e2 e3
  exact ⟨hR'.size, hR'.defers, fun t => by have := hR'.tm t; simp only at this ⊢; rw [← e4]; exact this, hR'.mem⟩

end
end Go.Abs
end

section
set_option linter.unusedSimpArgs false
/- Rules as rewrite rules: drawn regions; loops by what is kept. -/
set_option linter.unusedVariables false
namespace Go.Abs
open Go.RowKit

section
variable {P : Program} {T : Tab} {c : Ctx} {ro : Option Nat} {Q : Exit → St → Prop}

/-- A loop, by what is kept. -/
theorem LoopAt.inv {α : Type} {x : Code} {σ : St} (F : α → St) (μ : α → Nat) (J : α → Prop) (a₀ : α) (h0 : J a₀) (hs : Sub c σ (F a₀))
    (h : ∀ a, J a → (∀ b σ', J b → μ b < μ a → Sub c σ' (F b) → LoopAt P T c ro x σ' Q) → AWp P T c ro x (F a) (thenK (fun σ' => LoopAt P T c ro x σ' Q) Q)) : LoopAt P T c ro x σ Q :=
  LoopAt.sub hs (LoopAt.ind F μ J (fun a ha ih => LoopAt.round (h a ha fun b σ' hb hm hs' => LoopAt.sub hs' (ih b hb hm))) a₀ h0)

theorem AWp.loopInv {α : Type} {x : Code} {σ : St} (F : α → St) (μ : α → Nat) (J : α → Prop) (a₀ : α) (h0 : J a₀) (hs : Sub c σ (F a₀))
    (h : ∀ a, J a → (∀ b σ', J b → μ b < μ a → Sub c σ' (F b) → LoopAt P T c ro x σ' Q) → AWp P T c ro x (F a) (thenK (fun σ' => LoopAt P T c ro x σ' Q) Q)) : AWp P T c ro (.loop x) σ Q :=
  AWp.loop (LoopAt.inv F μ J a₀ h0 hs h)

section
variable {ops : Array Oper} {σ : St} {X : St → Prop} {l : List Pl} {t : Tm} {s : Sto} {n : Nat} {d : Nat} {ev : Operand → AV} {K : AV → Prop}
theorem plan_nil : planK P T ops [] σ X = X σ := rfl
theorem plan_take {i : Nat} : planK P T ops (.take i :: l) σ X = takeQ P T ops i σ fun σ' => planK P T ops l σ' X := rfl
theorem plan_one {i : Nat} : planK P T ops (.grp [i] :: l) σ X = opQ P T ops i σ fun σ' => planK P T ops l σ' X := by
  simp [planK, permK]
theorem plan_two {i j : Nat} (hij : ¬ i = j) : planK P T ops (.grp [i, j] :: l) σ X = ((opQ P T ops i σ fun σ' => opQ P T ops j σ' fun σ' => planK P T ops l σ' X) ∧ (opQ P T ops j σ fun σ' => opQ P T ops i σ' fun σ' => planK P T ops l σ' X)) := by
  have h : (i == j) = false := by simpa using hij
  have h2 : (j == i) = false := by rw [Bool.beq_comm]; exact h
  have h1 : i ≠ j := by simpa using h
  have : List.erase [i, j] j = [i] := by simp [List.erase_cons, h]
  simp [planK, permK, this]
def tkO (P : Program) (T : Tab) (o : Oper) (want : Bool) (σ : St) (X : St → Prop) (q : AV) : Prop :=
  match q with
  | .dat (.bool b) => ((b == want) = true → qK P T o.op (evA σ.t) σ.s fun r => X { σ with t := putA o.dst r σ.t }) ∧ ((b == want) = false → X { σ with t := putA o.dst (.tup []) σ.t })
  | .tup [] => X { σ with t := putA o.dst (.tup []) σ.t }
  | _ => False
def tkG (P : Program) (T : Tab) (ops : Array Oper) (o : Oper) (σ : St) (X : St → Prop) : Prop :=
  guardK ops.toList o.guard σ.t (qK P T o.op (evA σ.t) σ.s fun r => X { σ with t := putA o.dst r σ.t }) (X { σ with t := putA o.dst (.tup []) σ.t })
def opO (P : Program) (T : Tab) (o : Oper) (want : Bool) (σ : St) (X : St → Prop) (q : AV) : Prop :=
  match q with
  | .dat (.bool b) => ((b == want) = true → oneK P T o σ.t σ.s σ.n fun r s1 n1 => X { σ with t := putA o.dst r σ.t, s := s1, n := n1 }) ∧ ((b == want) = false → X { σ with t := putA o.dst (.tup []) σ.t })
  | .tup [] => X { σ with t := putA o.dst (.tup []) σ.t }
  | _ => False
def opG (P : Program) (T : Tab) (ops : Array Oper) (o : Oper) (σ : St) (X : St → Prop) : Prop :=
  guardK ops.toList o.guard σ.t (oneK P T o σ.t σ.s σ.n fun r s1 n1 => X { σ with t := putA o.dst r σ.t, s := s1, n := n1 }) (X { σ with t := putA o.dst (.tup []) σ.t })
section
variable {dst : Option Nat} {ty : TypeId} {pos : String} {af : Array Edge} {g : Option (Nat × Bool)} {o : Op} {want b : Bool}
theorem take_eq {i : Nat} : takeQ P T ops i ⟨t, s, n, d⟩ X = match ops[i]? with
    | some o => tkG P T ops o ⟨t, s, n, d⟩ X
    | none => False := rfl
theorem tkG_none : tkG P T ops ⟨dst, o, ty, pos, af, none⟩ ⟨t, s, n, d⟩ X = qK P T o (evA t) s fun r => X ⟨putA dst r t, s, n, d⟩ := rfl
theorem tkG_some {j : Nat} : tkG P T ops ⟨dst, o, ty, pos, af, some (j, want)⟩ ⟨t, s, n, d⟩ X = match (ops.toList[j]?).bind (·.dst) with
    | some k => tkO P T ⟨dst, o, ty, pos, af, some (j, want)⟩ want ⟨t, s, n, d⟩ X (lk k t)
    | none => False := rfl
theorem tkO_tt : tkO P T ⟨dst, o, ty, pos, af, g⟩ true ⟨t, s, n, d⟩ X (.dat (.bool true)) = qK P T o (evA t) s fun r => X ⟨putA dst r t, s, n, d⟩ := by simp [tkO]
theorem tkO_ff : tkO P T ⟨dst, o, ty, pos, af, g⟩ false ⟨t, s, n, d⟩ X (.dat (.bool false)) = qK P T o (evA t) s fun r => X ⟨putA dst r t, s, n, d⟩ := by simp [tkO]
theorem tkO_tf : tkO P T ⟨dst, o, ty, pos, af, g⟩ false ⟨t, s, n, d⟩ X (.dat (.bool true)) = X ⟨putA dst (.tup []) t, s, n, d⟩ := by simp [tkO]
theorem tkO_ft : tkO P T ⟨dst, o, ty, pos, af, g⟩ true ⟨t, s, n, d⟩ X (.dat (.bool false)) = X ⟨putA dst (.tup []) t, s, n, d⟩ := by simp [tkO]
theorem tkO_skp : tkO P T ⟨dst, o, ty, pos, af, g⟩ want ⟨t, s, n, d⟩ X (.tup []) = X ⟨putA dst (.tup []) t, s, n, d⟩ := rfl
theorem tkO_split {o : Oper} {σ : St} (h1 : b = true → tkO P T o want σ X (.dat (.bool true))) (h2 : b = false → tkO P T o want σ X (.dat (.bool false))) : tkO P T o want σ X (.dat (.bool b)) := by
  cases b
  · exact h2 rfl
  · exact h1 rfl
theorem opQ_eq {i : Nat} : opQ P T ops i ⟨t, s, n, d⟩ X = match ops[i]? with
    | some o => opG P T ops o ⟨t, s, n, d⟩ X
    | none => X ⟨t, s, n, d⟩ := by
  unfold opQ
  cases ops[i]? <;> rfl
theorem opG_none : opG P T ops ⟨dst, o, ty, pos, af, none⟩ ⟨t, s, n, d⟩ X = oneK P T ⟨dst, o, ty, pos, af, none⟩ t s n fun r s1 n1 => X ⟨putA dst r t, s1, n1, d⟩ := rfl
theorem opG_some {j : Nat} : opG P T ops ⟨dst, o, ty, pos, af, some (j, want)⟩ ⟨t, s, n, d⟩ X = match (ops.toList[j]?).bind (·.dst) with
    | some k => opO P T ⟨dst, o, ty, pos, af, some (j, want)⟩ want ⟨t, s, n, d⟩ X (lk k t)
    | none => False := rfl
theorem opO_tt : opO P T ⟨dst, o, ty, pos, af, g⟩ true ⟨t, s, n, d⟩ X (.dat (.bool true)) = oneK P T ⟨dst, o, ty, pos, af, g⟩ t s n fun r s1 n1 => X ⟨putA dst r t, s1, n1, d⟩ := by simp [opO]
theorem opO_ff : opO P T ⟨dst, o, ty, pos, af, g⟩ false ⟨t, s, n, d⟩ X (.dat (.bool false)) = oneK P T ⟨dst, o, ty, pos, af, g⟩ t s n fun r s1 n1 => X ⟨putA dst r t, s1, n1, d⟩ := by simp [opO]
theorem opO_tf : opO P T ⟨dst, o, ty, pos, af, g⟩ false ⟨t, s, n, d⟩ X (.dat (.bool true)) = X ⟨putA dst (.tup []) t, s, n, d⟩ := by simp [opO]
theorem opO_ft : opO P T ⟨dst, o, ty, pos, af, g⟩ true ⟨t, s, n, d⟩ X (.dat (.bool false)) = X ⟨putA dst (.tup []) t, s, n, d⟩ := by simp [opO]
theorem opO_skp : opO P T ⟨dst, o, ty, pos, af, g⟩ want ⟨t, s, n, d⟩ X (.tup []) = X ⟨putA dst (.tup []) t, s, n, d⟩ := rfl
theorem opO_split {o : Oper} {σ : St} (h1 : b = true → opO P T o want σ X (.dat (.bool true))) (h2 : b = false → opO P T o want σ X (.dat (.bool false))) : opO P T o want σ X (.dat (.bool b)) := by
  cases b
  · exact h2 rfl
  · exact h1 rfl
end

theorem q_move {x : Operand} : qK P T (.move x) ev s K = K (ev x) := rfl
theorem q_assign {x : Operand} : qK P T (.assign x) ev s K = K (ev x) := rfl
theorem q_pick {q x y : Operand} : qK P T (.pick q x y) ev s K = pickK (ev q) (ev x) (ev y) K := rfl
theorem q_build {u : TypeId} {ps : Array (Nat × Operand)} : qK P T (.build u ps) ev s K = structK T u (ps.toList.map fun p => (p.1, ev p.2)) K := rfl
theorem q_buildSlice {u : TypeId} {m : Nat} {ps : Array (Nat × Operand)} : qK P T (.buildSlice u m ps) ev s K = rowK T u m (ps.toList.map fun p => (p.1, ev p.2)) K := rfl
theorem q_load {u : TypeId} {x : Operand} : qK P T (.load u x) ev s K = loadK s T u (ev x) K := rfl
theorem q_nilCheck {x : Operand} : qK P T (.nilCheck x) ev s K = nilK (ev x) K := rfl
theorem q_binOp {op : BinOp} {u u' : TypeId} {x y : Operand} : qK P T (.binOp op u x y u') ev s K = binC T op u y (ev x) (ev y) K := rfl
theorem q_unOp {op : UnOp} {u : TypeId} {x : Operand} : qK P T (.unOp op u x) ev s K = unK op (ev x) K := rfl
theorem q_convert {u u' : TypeId} {x : Operand} : qK P T (.convert u u' x) ev s K = convK T u u' (ev x) K := rfl
theorem q_mkIf {u : TypeId} {x : Operand} : qK P T (.makeInterface u x) ev s K = mkIfK T u (ev x) K := rfl
theorem q_makeFunc {fn : Fn} {first caps : Array Operand} : qK P T (.makeFunc fn first caps) ev s K = lamK fn first (caps.toList.map ev) K := rfl
theorem q_slice {u : TypeId} {x : Operand} {lo hi : Option Operand} : qK P T (.slice u x lo hi none) ev s K = cutQ T u (ev x) (lo.map ev) (hi.map ev) K := rfl
theorem q_fieldAddr {u : TypeId} {x : Operand} {f : Nat} : qK P T (.fieldAddr u x f) ev s K = faddrK T u f (ev x) K := rfl
theorem q_field {u : TypeId} {x : Operand} {f : Nat} : qK P T (.field u x f) ev s K = fieldK T u f (ev x) K := rfl
theorem q_indexAddr {u : TypeId} {x y : Operand} : qK P T (.indexAddr u x y) ev s K = iaddrK s T u (ev x) (ev y) K := rfl
theorem q_index {u : TypeId} {x y : Operand} : qK P T (.index u x y) ev s K = strIxK T u (ev x) (ev y) K := rfl
theorem q_extract {x : Operand} {i : Nat} : qK P T (.extract x i) ev s K = extK (ev x) i K := rfl
theorem q_len {x : Operand} {u : TypeId} : qK P T (.call { callee := .builtin .len, args := #[x], argTypes := #[u] }) ev s K = lenK s T u (ev x) K := rfl
theorem q_max {x y : Operand} {us : Array TypeId} : qK P T (.call { callee := .builtin .max, args := #[x, y], argTypes := us }) ev s K = maxK (ev x) (ev y) K := rfl
theorem q_min {x y : Operand} {us : Array TypeId} : qK P T (.call { callee := .builtin .min, args := #[x, y], argTypes := us }) ev s K = minK (ev x) (ev y) K := rfl
theorem q_call {f : Operand} {xs : Array Operand} {us : Array TypeId} : qK P T (.call { callee := .value f, args := xs, argTypes := us }) ev s K = callQ P (ev f) (xs.toList.map ev) K := rfl

theorem one_store {dst : Option Nat} {ty : TypeId} {pos : String} {af : Array Edge} {g : Option (Nat × Bool)} {u : TypeId} {x y : Operand} {X : AV → Sto → Nat → Prop} :
    oneK P T ⟨dst, .store u x y, ty, pos, af, g⟩ t s n X = storeK T u (evA t x) (evA t y) s fun s' => X .und s' n := rfl
theorem one_alloc {dst : Option Nat} {ty : TypeId} {pos : String} {af : Array Edge} {g : Option (Nat × Bool)} {u : TypeId} {X : AV → Sto → Nat → Prop} :
    oneK P T ⟨dst, .alloc u, ty, pos, af, g⟩ t s n X = allocK T u s n X := rfl
theorem one_box {dst : Option Nat} {ty : TypeId} {pos : String} {af : Array Edge} {g : Option (Nat × Bool)} {u : TypeId} {x : Operand} {X : AV → Sto → Nat → Prop} :
    oneK P T ⟨dst, .box u x, ty, pos, af, g⟩ t s n X = boxK (evA t x) s n X := rfl
theorem one_append {dst : Option Nat} {ty : TypeId} {pos : String} {af : Array Edge} {g : Option (Nat × Bool)} {x y : Operand} {u u' : TypeId} {X : AV → Sto → Nat → Prop} :
    oneK P T ⟨dst, .call { callee := .builtin .append, args := #[x, y], argTypes := #[u, u'] }, ty, pos, af, g⟩ t s n X = (u' = u ∧ appK T u (evA t x) (evA t y) s n X) := rfl
theorem one_assign {dst : Option Nat} {ty : TypeId} {pos : String} {af : Array Edge} {g : Option (Nat × Bool)} {x : Operand} {X : AV → Sto → Nat → Prop} :
    oneK P T ⟨dst, .assign x, ty, pos, af, g⟩ t s n X = X (evA t x) s n := rfl
theorem one_fieldAddr {dst : Option Nat} {ty : TypeId} {pos : String} {af : Array Edge} {g : Option (Nat × Bool)} {u : TypeId} {x : Operand} {f : Nat} {X : AV → Sto → Nat → Prop} :
    oneK P T ⟨dst, .fieldAddr u x f, ty, pos, af, g⟩ t s n X = faddrK T u f (evA t x) fun r => X r s n := rfl
theorem one_indexAddr {dst : Option Nat} {ty : TypeId} {pos : String} {af : Array Edge} {g : Option (Nat × Bool)} {u : TypeId} {x y : Operand} {X : AV → Sto → Nat → Prop} :
    oneK P T ⟨dst, .indexAddr u x y, ty, pos, af, g⟩ t s n X = iaddrK s T u (evA t x) (evA t y) fun r => X r s n := rfl
theorem one_load {dst : Option Nat} {ty : TypeId} {pos : String} {af : Array Edge} {g : Option (Nat × Bool)} {u : TypeId} {x : Operand} {X : AV → Sto → Nat → Prop} :
    oneK P T ⟨dst, .load u x, ty, pos, af, g⟩ t s n X = loadK s T u (evA t x) fun r => X r s n := rfl
theorem one_build {dst : Option Nat} {ty : TypeId} {pos : String} {af : Array Edge} {g : Option (Nat × Bool)} {u : TypeId} {ps : Array (Nat × Operand)} {X : AV → Sto → Nat → Prop} :
    oneK P T ⟨dst, .build u ps, ty, pos, af, g⟩ t s n X = structK T u (ps.toList.map fun p => (p.1, evA t p.2)) fun r => X r s n := rfl
end
end

attribute [go_sem] plan_nil plan_take plan_one plan_two take_eq tkG_none tkG_some tkO_tt tkO_ff tkO_tf tkO_ft tkO_skp opQ_eq opG_none opG_some opO_tt opO_ff opO_tf opO_ft opO_skp q_move q_assign q_pick q_build q_buildSlice q_load q_nilCheck q_binOp q_unOp q_convert q_mkIf q_makeFunc q_slice q_fieldAddr q_field q_indexAddr q_index q_extract q_len q_max q_min q_call
  one_store one_alloc one_box one_append one_assign one_fieldAddr one_indexAddr one_load one_build pickK rowK callQ nilK cutQ dC dCs dA dAs dRows List.getElem?_toArray
end Go.Abs
end

section
set_option linter.unusedSimpArgs false
/- Ranges over functions. -/
set_option linter.unusedVariables false
set_option linter.unusedSimpArgs false
namespace Go.Abs
open Go.RowKit

section
variable {P : Program} {T : Tab} {c : Ctx} {ro : Option Nat}

theorem wpIn_FF {x : Code} {n m : Nat} {Q : Exit → Act → World → Prop} {a : Act} {w : World} (h : x.wpIn (FF ro) n P Q a w) : x.wpIn (FF ro) m P Q a w :=
  fun b k cs hro hb _ => h b k cs hro hb (room_FF _ _)

/-- What is no cells, from a block on, may turn. -/
theorem Mem.own {φ : Nat → Lay} {s : Sto} {n : Nat} {W W' : World} {row : Option Nat} {B : Nat} (h : Mem c φ s n W) (hg : W.grownBy W' row)
    (hr : ∀ r, row = some r → B ≤ r ∧ ∃ o : Obj, W.heap[r]? = some o ∧ o.isCells = false) (hB : c.w0.heap.size ≤ B) (hB1 : c.w1.heap.size ≤ B) : Mem c φ s n W' ∧ Keeps (c.AA φ s) W (c.AA φ s) W' := by
  have hrow : ∀ r, row = some r → ∃ o : Obj, W.heap[r]? = some o ∧ o.isCells = false := fun r e => (hr r e).2
  have hk : Keeps (c.AA φ s) W (c.AA φ s) W' := fun b o v ha hv => ⟨ha, cell_kept hv hg hrow⟩
  have hlt : ∀ k, k < B → k < W.heap.size → W'.heap[k]? = W.heap[k]? := fun k h1 h2 => hg.block k h2 (fun e => by have := (hr k e.symm).1; omega)
  refine ⟨⟨⟨hg.os.trans h.below.os, hg.tape.trans h.below.tape, hg.output.trans h.below.output, Nat.le_trans h.below.size hg.size, fun k hk' => (hlt k (by omega) (Nat.lt_of_lt_of_le hk' h.below.size)).trans (h.below.block k hk')⟩,
    fun i o ho => ?_, h.inj, ⟨Nat.le_trans h.oth.size hg.size, fun k o hk' ho => ?_⟩, fun b o v hp => hk b o v (h.pin b o v hp).1 (h.pin b o v hp).2, h.fv_keep hk (fun _ _ => rfl) (Nat.le_refl _), h.hld.keep (fun b ob hb hw => by
      obtain ⟨vs, ty, rng, e⟩ : ∃ vs ty rng, ob = .cells vs ty rng := by
        have := (h.hld.1 b ob hb).1
        cases ob <;> simp [Obj.isCells] at this
        exact ⟨_, _, _, rfl⟩
      subst e
      exact grownBy_keeps_cells hg hrow hw rfl) (fun i o ho => .inl ⟨i, o, ho, rfl⟩), h.gw⟩, hk⟩
  · obtain ⟨h1, h2, h3⟩ := h.obj i o ho
    refine ⟨h1, h2, h3.keep hk (fun _ _ => rfl) h2 (Nat.le_refl _) ?_⟩
    obtain ⟨vs, ty, h4⟩ := cells_of_ok h3
    exact grownBy_keeps_cells hg hrow h4 rfl
  · have hk1 := (Array.getElem?_eq_some_iff.1 hk').1
    exact (hlt k (by omega) (Nat.lt_of_lt_of_le hk1 h.oth.size)).trans (h.oth.same k o hk' ho)

/-- Assignments to the left sides of a range over a function. -/
inductive Asg : Code → List (Nat × Nat) → Prop
  | one (id d s ty : Nat) (pos : String) (af : Array Edge) : Asg (.region id #[⟨some d, .assign (.tmp s), ty, pos, af, none⟩] false) [(d, s)]
  | seq {x y : Code} {p q : List (Nat × Nat)} (h : Asg x p) (k : Asg y q) : Asg (.seq x y) (p ++ q)
  | skip : Asg .skip []

def asgV : List (Nat × Nat) → Array Value → Array Value
  | [], v => v
  | (d, s) :: p, v => asgV p (v.setIfInBounds d (v[s]?.getD undef))
def asgT : List (Nat × Nat) → Tm → Tm
  | [], t => t
  | (d, s) :: p, t => asgT p ((d, lk s t) :: t)

theorem asgV_append (p q : List (Nat × Nat)) : ∀ v, asgV (p ++ q) v = asgV q (asgV p v) := by
  induction p with
  | nil => intro v; rfl
  | cons x p ih => intro v; exact ih _

theorem Asg.wpIn {x : Code} {p : List (Nat × Nat)} (h : Asg x p) : ∀ (v : Array Value) (ds : List Deferred) (W : World) (K : Act → World → Prop) (l : Nat), K { tmps := asgV p v, defers := ds } W →
    x.wpIn (FF (some l)) 0 P (Exit.then K (fun _ _ _ => False)) { tmps := v, defers := ds } W := by
  induction h with
  | one id d s ty pos af =>
    intro v ds W K l hK
    refine wpIn_region_list ?_
    show wpListIn (FF (some l)) 0 P _ _ [_] _ W
    unfold wpListIn
    rw [if_pos (by rfl)]
    refine ⟨fun _ _ => trivial, ?_⟩
    show Oper.uponIn (FF (some l)) 0 P _ _ _ _ ((Oper.semAt _ _ _).run P W)
    rw [Oper.semAt_eq _ _ _ (by intro cl h; cases h)]
    rw [show Sem.run P (execOp (Act.eval { tmps := v, defers := ds }) { dst := some d, op := Op.assign (Operand.tmp s), type := ty, pos := pos, after := af, guard := none }) W = .ok (.value (v[s]?.getD undef)) W by simp [execOp, Act.eval]]
    exact hK
  | seq h k ih1 ih2 =>
    intro v ds W K l hK
    rw [asgV_append] at hK
    refine wpIn_seq (wpIn_mono (ih1 v ds W _ l (ih2 _ ds W K l hK)) fun e a' w' he => ?_)
    cases e <;> exact he
  | skip => intro v ds W K l hK; exact wpIn_skip hK

def setsV : List (Nat × Value) → Array Value → Array Value
  | [], v => v
  | (d, u) :: p, v => setsV p (v.setIfInBounds d u)
def setsT : List (Nat × AV) → Tm → Tm
  | [], t => t
  | (d, x) :: p, t => setsT p ((d, x) :: t)

theorem zip_setsV (ps : Array Tmp) (us : Array Value) (v : Array Value) : (ps.zip us).foldl (fun t (p, u) => t.setIfInBounds p u) v = setsV (ps.toList.zip us.toList) v := by
  have h : ∀ (l : List (Nat × Value)) (v : Array Value), l.foldl (fun t (p, u) => t.setIfInBounds p u) v = setsV l v := by
    intro l
    induction l with
    | nil => intro v; rfl
    | cons x l ih => intro v; exact ih _
  rw [← Array.foldl_toList, Array.toList_zip, h]

theorem setsV_size : ∀ (l : List (Nat × Value)) (v : Array Value), (setsV l v).size = v.size
  | [], v => rfl
  | (d, u) :: l, v => by simp [setsV, setsV_size l]
theorem asgV_size : ∀ (l : List (Nat × Nat)) (v : Array Value), (asgV l v).size = v.size
  | [], v => rfl
  | (d, u) :: l, v => by simp [asgV, asgV_size l]

theorem put_rv {φ : Nat → Lay} {n : Nat} {A : Nat → Nat → Prop} {w : World} {t : Tm} {v : Array Value} {x : AV} {u : Value} {d : Nat} (h : ∀ k, RV φ n A w (lk k t) (v.getD k undef)) (hx : RV φ n A w x u) (hd : d < v.size) :
    ∀ k, RV φ n A w (lk k ((d, x) :: t)) ((v.setIfInBounds d u).getD k undef) := by
  intro k
  rw [lk_cons]
  by_cases hk : d = k
  · subst hk; rw [if_pos rfl]; simp [hd]; exact hx
  · rw [if_neg hk]
    have : (v.setIfInBounds d u).getD k undef = v.getD k undef := by simp [Array.getD_eq_getD_getElem?, Array.getElem?_setIfInBounds_ne hk]
    rw [this]; exact h k

theorem sets_rv {φ : Nat → Lay} {n : Nat} {A : Nat → Nat → Prop} {w : World} : ∀ (ps : List Nat) (xs : List AV) (us : List Value) (t : Tm) (v : Array Value), xs.length = us.length → (∀ j x, xs[j]? = some x → RV φ n A w x (us.getD j undef)) → (∀ d ∈ ps, d < v.size) →
    (∀ k, RV φ n A w (lk k t) (v.getD k undef)) → ∀ k, RV φ n A w (lk k (setsT (ps.zip xs) t)) ((setsV (ps.zip us) v).getD k undef)
  | [], _, _, t, v, _, _, _, h => by simpa [setsT, setsV] using h
  | p :: ps, [], us, t, v, hl, _, _, h => by
    have : us = [] := List.eq_nil_of_length_eq_zero hl.symm
    subst this; simpa [setsT, setsV] using h
  | p :: ps, x :: xs, [], t, v, hl, _, _, h => by simp at hl
  | p :: ps, x :: xs, u :: us, t, v, hl, hx, hd, h => by
    simp only [List.zip_cons_cons, setsT, setsV]
    exact sets_rv ps xs us _ _ (by simpa using hl) (fun j y hj => by have := hx (j + 1) y (by simpa using hj); simpa using this) (fun d h' => by rw [Array.size_setIfInBounds]; exact hd d (List.mem_cons_of_mem _ h'))
      (put_rv h (by have := hx 0 x rfl; simpa using this) (hd p (List.mem_cons_self ..)))

theorem asg_rv {φ : Nat → Lay} {n : Nat} {A : Nat → Nat → Prop} {w : World} : ∀ (p : List (Nat × Nat)) (t : Tm) (v : Array Value), (∀ x ∈ p, x.1 < v.size) → (∀ k, RV φ n A w (lk k t) (v.getD k undef)) →
    ∀ k, RV φ n A w (lk k (asgT p t)) ((asgV p v).getD k undef)
  | [], t, v, _, h => h
  | (d, s) :: p, t, v, hd, h => asg_rv p _ _ (fun x hx => by rw [Array.size_setIfInBounds]; exact hd x (List.mem_cons_of_mem _ hx)) (put_rv h (by have := h s; simpa [Array.getD_eq_getD_getElem?] using this) (hd (d, s) (List.mem_cons_self ..)))

theorem RV.undef {φ φ' : Nat → Lay} {n n' : Nat} {A A' : Nat → Nat → Prop} {w w' : World} {x : AV} (h : RV φ n A w x undef) : RV φ' n' A' w' x undef := by
  have key : ∀ u, RV φ n A w x u → u = Value.tuple #[] → RV φ' n' A' w' x u := by
    intro u h hu
    cases h with
    | und v => exact .und _
    | tup xs vs hl hv =>
      have hu : vs.toArray = #[] := by simpa using hu
      have h0 : vs = [] := by simpa using hu
      subst h0
      have h1 : xs = [] := List.eq_nil_of_length_eq_zero hl.symm
      subst h1
      exact .tup [] [] rfl (by simp)
    | dat d v h => cases h <;> cases hu
    | nil => cases hu
    | ptr i off h => cases hu
    | own i h => cases hu
    | eptr i k j h => cases hu
    | clo f caps vs hl h => cases hu
    | agg xs vs hl h h1 => cases hu
  exact key _ h rfl

/-- An iterator's contract: its elements, by content, in order. -/
def It (P : Program) (gf : FuncId) (caps : List DV) (els : List (List DV)) : Prop :=
  Enters P gf ∧ ∀ (A : Nat → Nat → Prop) (w : World) (vs : List Value), GW A w → vs.length = caps.length → (∀ j d, caps[j]? = some d → RD A w d (vs.getD j undef)) →
    ∃ encs : Fin els.length → Array Value, (∀ k, (encs k).size = (els[k]).length ∧ ∀ j d, (els[k])[j]? = some d → RD A w d ((encs k).toList.getD j undef)) ∧
      SeqStopsK (FF none) 0 P gf vs.toArray encs (fun W W' => ∀ b o v, A b o → w.cell? ⟨b, o, none⟩ = some v → W.cell? ⟨b, o, none⟩ = some v → W'.cell? ⟨b, o, none⟩ = some v)
        (fun xs => xs = List.finRange els.length) (fun pre => pre <+: List.finRange els.length) els.length w

def rndQ {N : Nat} (I : List (Fin N) → Sto → Nat → Prop) (Ix : Code → List (Fin N) → Sto → Nat → Prop) (xs : List (Fin N)) : Exit → St → Prop
  | .normal, σ => I xs σ.s σ.n
  | .ret, σ => Ix .ret xs σ.s σ.n
  | .exit i, σ => Ix (.exit i) xs σ.s σ.n
  | _, _ => False

theorem AWp.rangeF {g : Operand} {ps : Array Tmp} {assign body : Code} {σ : St} {Q : Exit → St → Prop} (gf : FuncId) (caps : List DV) (els : List (List DV)) (pairs : List (Nat × Nat))
    (hg : evA σ.t g = .dat (.fn gf caps)) (hit : It P gf caps els) (hps : ∀ el ∈ els, el.length = ps.size) (hpd : ps.toList.all (fun p => Nat.blt p c.N) = true)
    (hasg : Asg assign pairs) (had : pairs.all (fun p => Nat.blt p.1 c.N) = true) (hfv : c.fv = [])
    (I : List (Fin els.length) → Sto → Nat → Prop) (Ix : Code → List (Fin els.length) → Sto → Nat → Prop) (h0 : I [] σ.s σ.n)
    (hbody : ∀ (c' : Ctx) (l : Nat) (pre : List (Fin els.length)) (k : Fin els.length) (s : Sto) (n : Nat), c'.N = c.N → c'.m = σ.n → pre.length < els.length → σ.n ≤ n → I pre s n →
      AWp P T c' (some l) body ⟨asgT pairs (setsT (ps.toList.zip ((els[k]).map .dat)) σ.t), s, n, 0⟩ (rndQ I Ix (pre ++ [k])))
    (hdone : ∀ s n, I (List.finRange els.length) s n → Q .normal ⟨σ.t, s, n, σ.d + 1⟩)
    (hstop : ∀ code pre s n, pre <+: List.finRange els.length → Ix code pre s n → AWp P T c none code ⟨σ.t, s, n, σ.d + 1⟩ Q) : AWp P T c none (.rangeFunc g ps assign body) σ Q := by
  intro hT φ a w hR
  have hgv := hR.ev g
  rw [hg] at hgv
  obtain ⟨vs, hgeq, hvl, hvs⟩ : ∃ vs : List Value, a.eval g = .func (.func gf) #[] vs.toArray ∧ vs.length = caps.length ∧ ∀ j d, caps[j]? = some d → RD (c.AA φ σ.s) w d (vs.getD j undef) := by
    generalize hv : a.eval g = v at hgv
    cases hgv with
    | dat _ _ h =>
      cases h with
      | fn _ _ vs hl h => exact ⟨vs, rfl, hl, h⟩
  obtain ⟨hent, hit⟩ := hit
  obtain ⟨encs, henc, hseq⟩ := hit (c.AA φ σ.s) w vs hR.mem.gwAA hvl hvs
  let cl : Ctx := { c with pin := fun b o v => c.pin b o v ∨ (c.AA φ σ.s b o ∧ w.cell? ⟨b, o, none⟩ = some v), m := σ.n, fl := φ, fv := (List.range c.N).map fun t => (lk t σ.t, a.tmps.getD t undef) }
  have hMl : Mem cl φ σ.s σ.n w := ⟨hR.mem.below, hR.mem.obj, hR.mem.inj, hR.mem.oth, fun b o v hp => by
    rcases hp with hp | hp
    · exact hR.mem.pin b o v hp
    · exact hp, ⟨Nat.le_refl _, fun _ _ => rfl, fun p hp => by
    obtain ⟨t, _, rfl⟩ := List.mem_map.1 hp
    exact hR.tm t⟩, hR.mem.hld, hR.mem.gw⟩
  have hmk : ∀ d ∈ a.defers, ∃ r, d = { target := .collected r, args := #[] } ∧ r < w.heap.size := fun d hd => by
    obtain ⟨r, e, _, h⟩ := hR.defers.2.2 d hd
    exact ⟨r, e, (Array.getElem?_eq_some_iff.1 h).1⟩
  have back : ∀ {φ' s n W}, Mem cl φ' s n W → Mem c φ' s n W := fun h => ⟨h.below, h.obj, h.inj, h.oth, fun b o v hp => h.pin b o v (.inl hp), by rw [hfv]; exact ⟨Nat.le_trans hR.mem.fv.1 h.fv.1, fun i hi => (h.fv.2.1 i (Nat.lt_of_lt_of_le hi hR.mem.fv.1)).trans (hR.mem.fv.2.1 i hi), by simp⟩, h.hld, h.gw⟩
  have tms : ∀ {c' : Ctx} {φ' s n W}, c'.AA = c.AA → c'.m = σ.n → c'.fv = cl.fv → Mem c' φ' s n W → ∀ t, RV φ' n (c.AA φ' s) W (lk t σ.t) (a.tmps.getD t undef) := fun {c' φ' s n W} e1 e2 e3 h t => by
    by_cases ht : t < c.N
    · have := h.fv.2.2 (lk t σ.t, a.tmps.getD t undef) (by rw [e3]; exact List.mem_map.2 ⟨t, List.mem_range.2 ht, rfl⟩)
      rw [e1] at this
      exact this.keep (Keeps.refl _ _) (fun _ _ => rfl) h.fv.1
    · have h1 := hR.tm t
      have : a.tmps.getD t undef = undef := by simp [Array.getD, hR.size, ht]
      rw [this] at h1 ⊢
      exact h1.undef
  let IC : List (Fin els.length) → World → Prop := fun pre W => Marks c W a.defers σ.d ∧ ∃ φ' s n, Mem cl φ' s n W ∧ I pre s n
  let IX : Code → List (Fin els.length) → World → Prop := fun code pre W => Marks c W a.defers σ.d ∧ ∃ φ' s n, Mem cl φ' s n W ∧ Ix code pre s n
  have hsz0 : c.w0.heap.size ≤ w.heap.size := hR.mem.below.size
  have hsz1 : c.w1.heap.size ≤ w.heap.size := hR.mem.oth.size
  have hmo : ∀ {W W' : World} {row : Option Nat}, Marks c W a.defers σ.d → W.grownBy W' row → (∀ r, row = some r → w.heap.size ≤ r ∧ ∃ o : Obj, W.heap[r]? = some o ∧ o.isCells = false) → Marks c W' a.defers σ.d := fun {W W' row} h hg hr =>
    ⟨h.1, h.2.1, fun d hd => by
      obtain ⟨r, e, hb, hh⟩ := h.2.2 d hd
      obtain ⟨r', e', hlt⟩ := hmk d hd
      rw [e] at e'
      simp only [Deferred.mk.injEq, Target.collected.injEq, and_true] at e'
      subst e'
      refine ⟨r, e, hb, ?_⟩
      rw [hg.block r (Array.getElem?_eq_some_iff.1 hh).1 (fun er => by have := (hr r er.symm).1; omega)]
      exact hh⟩
  have hIC : OwnFrom w.heap.size IC := fun pre W W' row hs hg hr => by
    obtain ⟨hm, φ', s, n, hM, hI⟩ := hs
    exact ⟨hmo hm hg hr, φ', s, n, (hM.own hg hr hsz0 hsz1).1, hI⟩
  have hIX : ∀ code, OwnFrom w.heap.size (IX code) := fun code pre W W' row hs hg hr => by
    obtain ⟨hm, φ', s, n, hM, hI⟩ := hs
    exact ⟨hmo hm hg hr, φ', s, n, (hM.own hg hr hsz0 hsz1).1, hI⟩
  have fin : ∀ {D : Nat} {φ' : Nat → Lay} {s : Sto} {n : Nat} {W : World}, w.heap.size ≤ D → W.heap[D]? = some (.deferred (some [])) → Marks c W a.defers σ.d → Mem cl φ' s n W →
      Rel c φ' ⟨σ.t, s, n, σ.d + 1⟩ { a with defers := { target := .collected D, args := #[] } :: a.defers } W := fun {D φ' s n W} hD hW hm hM =>
    ⟨hR.size, ⟨by simp [hm.1], List.nodup_cons.2 ⟨fun hin => by
        obtain ⟨r, e, hlt⟩ := hmk _ hin
        simp only [Deferred.mk.injEq, Target.collected.injEq, and_true] at e
        omega, hm.2.1⟩, fun d hd => by
        rcases List.mem_cons.1 hd with rfl | hd
        · exact ⟨D, rfl, by omega, hW⟩
        · exact hm.2.2 d hd⟩, tms (c' := cl) rfl rfl rfl hM, back hM⟩
  refine wpIn_FF (n := 1) ?_
  refine wpIn_rangeFunc_ownF (F := FF none) (n := 1) rfl (Nat.le_refl _) hgeq trivial hent hseq (fun h k b o v hA h1 h2 => k b o v hA h1 (h b o v hA h1 h2)) (fun W l o o' hl ho hc _ b off v hA hw hW => ?_)
    (Below.refl _ w) (fun k => by rw [(henc k).1]; exact hps _ (List.getElem_mem _)) IC IX hIC hIX ⟨hR.defers, φ, σ.s, σ.n, hMl, h0⟩
    (fun k => { tmps := asgV pairs ((ps.zip (encs k)).foldl (fun t (p, v) => t.setIfInBounds p v) a.tmps), defers := [] })
    (fun l x W K hK => hasg.wpIn _ _ _ _ l hK) (fun l pre k W hI hlen => ?_) (fun D xs W hD hS hI hW => ?_) (fun D code pre W hD hSp hI hW => ?_)
  · rw [World.cell?_of_block (w := W)]
    · exact hW
    · refine World.putObj_heap_other fun e => ?_
      simp only at e
      subst e
      obtain ⟨ob, g1, g2⟩ := cells_of_cell hW
      simp only at g1
      rw [ho] at g1; cases g1; rw [hc] at g2; cases g2
  · obtain ⟨hm, φ', s, n, hM, hI⟩ := hI
    have hkeep : Keeps (c.AA φ σ.s) w (c.AA φ' s) W := fun b o v hA hv => hM.pin b o v (.inr ⟨hA, hv⟩)
    let cb : Ctx := { cl with w1 := W }
    have hMb : Mem cb φ' s n W := ⟨hM.below, hM.obj, hM.inj, KeepsOthers.refl _, hM.pin, hM.fv, hM.hld, hM.gw⟩
    have hsize : a.tmps.size = c.N := hR.size
    have hRb : Rel cb φ' ⟨asgT pairs (setsT (ps.toList.zip ((els[k]).map .dat)) σ.t), s, n, 0⟩ { tmps := asgV pairs ((ps.zip (encs k)).foldl (fun t (p, v) => t.setIfInBounds p v) a.tmps), defers := [] } W := by
      refine ⟨?_, ⟨rfl, by simp, by simp⟩, ?_, hMb⟩
      · simp only [asgV_size, zip_setsV, setsV_size]; exact hR.size
      · have h1 := tms (c' := cl) rfl rfl rfl hM
        have h2 := sets_rv (φ := φ') (n := n) (A := c.AA φ' s) (w := W) ps.toList ((els[k]).map .dat) (encs k).toList σ.t a.tmps (by simp [(henc k).1]) (fun j x hj => by
          rw [List.getElem?_map] at hj
          cases hq : (els[k])[j]? with
          | none => rw [hq] at hj; simp at hj
          | some d =>
            rw [hq] at hj; simp at hj; subst hj
            exact .dat _ _ (((henc k).2 j d hq).keep hkeep)) (fun d hd => by
          rw [hsize]; exact Nat.blt_eq.mp ((List.all_eq_true.1 hpd) d hd)) h1
        intro t
        simp only [zip_setsV]
        exact asg_rv pairs _ _ (fun x hx => by rw [setsV_size, hsize]; exact Nat.blt_eq.mp ((List.all_eq_true.1 had) x hx)) h2 t
    refine wpIn_mono (hbody cb l pre k s n rfl rfl hlen hM.fv.1 hI hT φ' _ W hRb) fun e a' W' hc => ?_
    obtain ⟨φ2, σ2, hR2, hq⟩ := hc
    have hoth : KeepsOthers W W' := hR2.mem.oth
    have hM2 : Mem cl φ2 σ2.s σ2.n W' := ⟨hR2.mem.below, hR2.mem.obj, hR2.mem.inj, hM.oth.trans hoth, hR2.mem.pin, hR2.mem.fv, hR2.mem.hld, hR2.mem.gw⟩
    have hm2 : Marks c W' a.defers σ.d := hm.keep hoth
    cases e with
    | normal => exact ⟨hoth, fun b o v hA hv _ => (hM2.pin b o v (.inr ⟨hA, hv⟩)).2, hm2, φ2, σ2.s, σ2.n, hM2, hq⟩
    | ret => exact ⟨hoth, hm2, φ2, σ2.s, σ2.n, hM2, hq⟩
    | exit i => exact ⟨hoth, hm2, φ2, σ2.s, σ2.n, hM2, hq⟩
    | goto _ => exact hq.elim
    | panic _ => exact hq.elim
    | outgrown => exact hq.elim
  · obtain ⟨hm, φ', s, n, hM, hI⟩ := hI
    rw [hS] at hI
    exact ⟨φ', _, fin hD hW hm hM, hdone s n hI⟩
  · obtain ⟨hm, φ', s, n, hM, hI⟩ := hI
    exact wpIn_FF (hstop code pre s n hSp hI hT φ' _ W (fin hD hW hm hM))

end
end Go.Abs
end

section
set_option linter.unusedSimpArgs false
/- Calls that are handed objects of the caller's own: the callee is run over the caller's store. -/
set_option linter.unusedVariables false
set_option linter.unusedSimpArgs false
namespace Go.Abs
open Go.RowKit

section
variable {P : Program} {T : Tab}

def PO (P : Program) (f : FuncId) (args : List AV) (s : Sto) (n : Nat) (R : AV → Sto → Nat → Prop) : Prop :=
  Enters P f ∧ ∀ (c : Ctx) (φ : Nat → Lay) (w : World) (vs : List Value), Mem c φ s n w → vs.length = args.length → (∀ j x, args[j]? = some x → RV φ n (c.AA φ s) w x (vs.getD j undef)) →
    Calls P f vs.toArray w fun e w' => ∃ v r φ' s' n', e = .returned v ∧ Goes c φ s n w φ' s' n' w' ∧ RV φ' n' (c.AA φ' s') w' r v ∧ R r s' n'

/-- What is handed back over the caller's store. -/
def retO (T : Tab) (rs : List ResultVar) (R : AV → Sto → Nat → Prop) : Exit → St → Prop
  | .normal, σ => σ.d = 0 ∧ resC T rs σ fun xs => R (retV xs) σ.s σ.n
  | .ret, σ => σ.d = 0 ∧ resC T rs σ fun xs => R (retV xs) σ.s σ.n
  | _, _ => False

theorem retO_ok (hT : TabOk P T) {c : Ctx} {σ : St} {φ : Nat → Lay} {a : Act} {w : World} (hR : Rel c φ σ a w) {fn : Func} {R : AV → Sto → Nat → Prop} (h : σ.d = 0 ∧ resC T fn.results.toList σ fun xs => R (retV xs) σ.s σ.n) :
    a.defers = [] ∧ ∃ v r, (results fn a.tmps).run P w = .ok v w ∧ R r σ.s σ.n ∧ RV φ σ.n (c.AA φ σ.s) w r v := by
  obtain ⟨hd, h⟩ := h
  refine ⟨List.eq_nil_of_length_eq_zero (by rw [hR.defers.1, hd]), ?_⟩
  obtain ⟨xs, vs, h1, h2, h3, h4⟩ := resC_ok hT hR _ _ h
  have hm : (fn.results.mapM (fun
      | .tmp t => pure (a.tmps.getD t undef)
      | .cell p t => do loadVar t (← asAddr (a.tmps.getD p undef)) : ResultVar → Sem Value)).run P w = .ok vs.toArray w := by
    rw [Array.mapM_eq_mapM_toList, Sem.run_map]
    exact congrArg (fun r => Result.andThen r fun (a : List Value) w' => Result.ok a.toArray w') h1
  refine ⟨if h : vs.toArray.size = 1 then vs.toArray[0] else .tuple vs.toArray, retV xs, ?_, h4, ?_⟩
  · unfold results
    rw [Sem.run_bind]
    exact congrArg (fun r => Result.andThen r (fun (a : Array Value) w' => Sem.run P (pure (if h : a.size = 1 then a[0] else Value.tuple a)) w')) hm
  · match xs, h2, h3 with
    | [], h2, h3 =>
      have : vs = [] := List.eq_nil_of_length_eq_zero h2
      subst this
      exact .tup [] [] rfl (by simp)
    | [y], h2, h3 =>
      match vs, h2 with
      | [v], _ => exact h3 0 y rfl
    | y :: y' :: ys, h2, h3 =>
      have : ¬ vs.toArray.size = 1 := by simp at h2 ⊢; omega
      rw [dif_neg this]
      exact .tup _ vs h2 h3

theorem PO.of {f : FuncId} {fn : Func} {code : Code} {args : List AV} {s : Sto} {n : Nat} {R : AV → Sto → Nat → Prop} (hT : TabOk P T) (hf : P.funcs[f]? = some fn) (hb : fn.body = some code) (hn : (fn.name == "runtime.NumGoroutine") = false)
    (hargs : Nat.ble args.length fn.ntmps = true) (h : ∀ c : Ctx, c.N = fn.ntmps → (c.m = n ∧ c.fv = []) → AWp P T c none code { t := numA 0 args, s := s, n := n } (retO T fn.results.toList R)) : PO P f args s n R := by
  refine ⟨enters_of' hf hb hn, fun c φ w vs hM hl hv => ?_⟩
  have hargs' : args.length ≤ fn.ntmps := Nat.le_of_ble_eq_true hargs
  refine (callsIn_wide (n := 0)).1 ?_
  show CallsIn (FF none) 0 P f vs.toArray w _
  refine callsIn_of_wp hf hb trivial ?_
  let cb : Ctx := { c with N := fn.ntmps, w1 := w, pin := fun b o v => c.AA φ s b o ∧ w.cell? ⟨b, o, none⟩ = some v, m := n, fl := φ, fv := [] }
  have hMb : Mem cb φ s n w := ⟨hM.below, hM.obj, hM.inj, KeepsOthers.refl _, fun b o v h => h, ⟨Nat.le_refl _, fun _ _ => rfl, by simp [cb]⟩, hM.hld, hM.gw⟩
  have hR : Rel cb φ { t := numA 0 args, s := s, n := n } { tmps := vs.toArray ++ Array.replicate (fn.ntmps - vs.toArray.size) undef, defers := [] } w := by
    refine ⟨by simp [cb]; omega, ⟨rfl, by simp, by simp⟩, fun t => ?_, hMb⟩
    rw [lk_numA, if_pos (Nat.zero_le _), Nat.sub_zero]
    cases ha : args[t]? with
    | none => exact .und _
    | some x =>
      have hlt : t < vs.length := by have := (List.getElem?_eq_some_iff.1 ha).1; omega
      have e : (vs.toArray ++ Array.replicate (fn.ntmps - vs.toArray.size) undef).getD t undef = vs.getD t undef := by
        simp [List.getD, Array.getElem?_append, hlt]
      simp only [Option.getD_some]
      rw [e]
      exact hv t x ha
  have fin : ∀ {φ' σ' a' w'}, Rel cb φ' σ' a' w' → Goes c φ s n w φ' σ'.s σ'.n w' := fun {φ' σ' a' w'} hR' => by
    have hk : Keeps (c.AA φ s) w (c.AA φ' σ'.s) w' := fun b o v hA hv => hR'.mem.pin b o v ⟨hA, hv⟩
    have hsame : ∀ i, i < n → φ' i = φ i := fun i hi => hR'.mem.fv.2.1 i hi
    exact ⟨hsame, hR'.mem.fv.1, hk, ⟨hR'.mem.below, hR'.mem.obj, hR'.mem.inj, hM.oth.trans hR'.mem.oth, fun b o v hp => hk b o v (hM.pin b o v hp).1 (hM.pin b o v hp).2, hM.fv_keep hk hsame hR'.mem.fv.1, hR'.mem.hld, hR'.mem.gw⟩, hR'.mem.oth⟩
  refine wpIn_mono (h cb rfl ⟨rfl, rfl⟩ hT φ _ w hR) fun e a' w' hc => ?_
  obtain ⟨φ', σ', hR', hQ⟩ := hc
  cases e with
  | normal =>
    obtain ⟨hd, v, r, hr, hRr, hrv⟩ := retO_ok hT hR' hQ
    exact ⟨hd, v, hr, v, r, φ', σ'.s, σ'.n, rfl, fin hR', hrv, hRr⟩
  | ret =>
    obtain ⟨hd, v, r, hr, hRr, hrv⟩ := retO_ok hT hR' hQ
    exact ⟨hd, v, hr, v, r, φ', σ'.s, σ'.n, rfl, fin hR', hrv, hRr⟩
  | _ => exact hQ.elim

section
variable {c : Ctx} {s : Sto} {n : Nat} {φ : Nat → Lay} {w : World}
theorem runO_then (hT : TabOk P T) {ro : Option Nat} (ops tl : List Oper) : ∀ (rest : List Oper) (σ : St) (φ : Nat → Lay) (a : Act) (w : World) (K : St → Prop) (Q : Exit → Act → World → Prop), rest.all (dstOk c.N) = true → Rel c φ σ a w → runO P T ops rest σ K →
    (∀ φ' σ' a' w', K σ' → Rel c φ' σ' a' w' → wpListIn (FF ro) 0 P ops.toArray Q tl a' w') → wpListIn (FF ro) 0 P ops.toArray Q (rest ++ tl) a w
  | [], σ, φ, a, w, K, Q, _, hR, h, hn => hn _ _ _ _ h hR
  | o :: rest, σ, φ, a, w, K, Q, hd, hR, h, hn => by
    simp only [List.all_cons, Bool.and_eq_true] at hd
    have hskip : runO P T ops rest { σ with t := putA o.dst (.tup []) σ.t } K → wpListIn (FF ro) 0 P ops.toArray Q (rest ++ tl) (a.put o.dst undef) w := fun hk =>
      runO_then hT ops tl rest _ φ _ w K Q hd.2 (hR.put (Goes.refl hR.mem) skp_rv (fun d hd'' => by have := hd.1; unfold dstOk at this; rw [hd''] at this; exact Nat.blt_eq.mp this)) hk hn
    have hrun : (stepK P T o σ fun σ' => runO P T ops rest σ' K) → o.wpIn (FF ro) 0 P a w (wpListIn (FF ro) 0 P ops.toArray Q (rest ++ tl)) Q := fun hk =>
      stepK_ok hT hR hd.1 hk fun φ' σ' a' w' hK hR' => runO_then hT ops tl rest σ' φ' a' w' K Q hd.2 hR' hK hn
    unfold runO guardK at h
    rw [List.cons_append]
    unfold wpListIn
    split at h
    · rename_i hg
      have : Region.wanted o (yielded ops.toArray a.tmps) = true := by simp [Region.wanted, hg]
      rw [if_pos this]; exact hrun h
    · rename_i j want hg
      split at h
      case h_2 => exact h.elim
      rename_i d hjd
      have hjd' : (ops.toArray[j]?).bind (·.dst) = some d := by simpa using hjd
      split at h
      · rename_i b hb
        have hy := yielded_bool hR hjd' hb
        cases hbw : (b == want)
        · have : ¬ Region.wanted o (yielded ops.toArray a.tmps) = true := by simp [Region.wanted, hg, hy, hbw]
          rw [if_neg this]
          exact ⟨fun _ _ => trivial, hskip (h.2 hbw)⟩
        · have : Region.wanted o (yielded ops.toArray a.tmps) = true := by simp [Region.wanted, hg, hy]; simpa using hbw
          rw [if_pos this]; exact hrun (h.1 hbw)
      · rename_i hb
        have hy := yielded_skp hR hjd' hb
        have : ¬ Region.wanted o (yielded ops.toArray a.tmps) = true := by simp [Region.wanted, hg, hy]
        rw [if_neg this]
        exact ⟨fun _ _ => trivial, hskip h⟩
      · exact h.elim

def openK (P : Program) (s : Sto) (n : Nat) (f : AV) (xs : List AV) (K : AV → Sto → Nat → Prop) : Prop :=
  match f with
  | .dat (.fn g caps) => ∃ R, PO P g (xs ++ caps.map .dat) s n R ∧ ∀ r s1 n1, R r s1 n1 → K r s1 n1
  | .clo g caps => ∃ R, PO P g (xs ++ caps) s n R ∧ ∀ r s1 n1, R r s1 n1 → K r s1 n1
  | _ => False

theorem openK_ok {ro : Option Nat} {f : AV} {xs : List AV} {K : AV → Sto → Nat → Prop} (hm : Mem c φ s n w) {o : Oper} {a : Act} {fo : Operand} {xo : List Operand} (ho : callOf o.op = some (fo, xo))
    (hf : RV φ n (c.AA φ s) w f (a.eval fo)) (hx : xs.length = xo.length) (hxs : ∀ j x, xs[j]? = some x → RV φ n (c.AA φ s) w x ((xo.map a.eval).getD j undef)) (h : openK P s n f xs K)
    {next : Act → World → Prop} {Q : Exit → Act → World → Prop}
    (hn : ∀ r φ1 s1 n1 w1 v, K r s1 n1 → Goes c φ s n w φ1 s1 n1 w1 → RV φ1 n1 (c.AA φ1 s1) w1 r v → next (a.put o.dst v) w1) : o.wpIn (FF ro) 0 P a w next Q := by
  have key : ∀ (g : FuncId) (caps : List AV) (cv : List Value), a.eval fo = .func (.func g) #[] cv.toArray → cv.length = caps.length → (∀ j x, caps[j]? = some x → RV φ n (c.AA φ s) w x (cv.getD j undef)) →
      (∃ R, PO P g (xs ++ caps) s n R ∧ ∀ r s1 n1, R r s1 n1 → K r s1 n1) → o.wpIn (FF ro) 0 P a w next Q := by
    intro g caps cv hfv hcl hcv ⟨R, ⟨hent, hpo⟩, hRK⟩
    have hlen : (xo.map a.eval).length = xs.length := by simp [hx]
    have hall : ∀ j x, (xs ++ caps)[j]? = some x → RV φ n (c.AA φ s) w x ((xo.map a.eval ++ cv).getD j undef) := fun j x hj => by
      by_cases hjl : j < xs.length
      · rw [List.getElem?_append_left hjl] at hj
        have := hxs j x hj
        simp only [List.getD] at this ⊢
        rw [List.getElem?_append_left (by omega)]; exact this
      · rw [List.getElem?_append_right (by omega)] at hj
        have := hcv _ _ hj
        simp only [List.getD] at this ⊢
        rw [List.getElem?_append_right (by omega), hlen]; exact this
    have hcall := hpo c φ w (xo.map a.eval ++ cv) hm (by simp; omega) hall
    have hop : o.op = .call { callee := .value fo, args := xo.toArray, argTypes := (match o.op with | .call cl => cl.argTypes | _ => #[]) } := by
      unfold callOf at ho
      split at ho
      · rename_i cl hcl'
        split at ho
        · rename_i f' hc'
          cases ho
          rw [hcl']
          obtain ⟨callee, args, ats⟩ := cl
          simp only at hc'
          subst hc'
          simp
        · cases ho
      · cases ho
    refine ⟨fun _ _ => trivial, ?_⟩
    have hrun : (o.semAt ro a.eval).run P w = .ok (.enter g (xo.map a.eval ++ cv).toArray) w := by
      rw [Oper.semAt_eq _ _ _ (by rw [hop]; intro _ h; cases h)]
      obtain ⟨dst, op, ty, pos, after, guard⟩ := o
      simp only at hop
      rw [hop]
      simp [execOp, resolve, hfv, Deferred.ofValue, invoke]
      have := hent ((xo.map a.eval).toArray ++ cv.toArray) w
      simpa using this
    show o.uponIn (FF ro) 0 P a next Q ((o.semAt ro a.eval).run P w)
    rw [hrun, Oper.uponIn_enter]
    refine ⟨fun h => by simp [FF] at h, callsIn_FF (hcall.mono fun e w' he => ?_)⟩
    obtain ⟨v, r, φ', s', n', rfl, g', hrv, hRr⟩ := he
    exact hn r φ' s' n' w' v (hRK _ _ _ hRr) g' hrv
  unfold openK at h
  split at h
  · rename_i g caps
    generalize hv : a.eval fo = fv at hf
    cases hf with
    | dat _ _ hd =>
      cases hd with
      | fn _ _ vs hl hcv =>
        exact key g (caps.map .dat) vs hv (by simp [hl]) (fun j x hj => by
          rw [List.getElem?_map] at hj
          cases hq : caps[j]? with
          | none => rw [hq] at hj; simp at hj
          | some d => rw [hq] at hj; simp at hj; subst hj; exact .dat _ _ (hcv j d hq)) h
  · rename_i g caps
    generalize hv : a.eval fo = fv at hf
    cases hf with
    | clo _ _ vs hl hcv => exact key g caps vs hv hl hcv h
  · exact h.elim

/-- A region with one open call in it. -/
theorem AWp.regionX {ro : Option Nat} {id : Nat} {ops : Array Oper} {σ : St} {Q : Exit → St → Prop} (pre post : List Oper) (o : Oper) (fo : Operand) (xo : List Operand) (hops : ops.toList = pre ++ o :: post) (ho : callOf o.op = some (fo, xo)) (hg : o.guard = none)
    (hok : ops.toList.all (dstOk c.N) = true)
    (h : runO P T ops.toList pre σ fun σ1 => openK P σ1.s σ1.n (evA σ1.t fo) (xo.map (evA σ1.t)) fun r s1 n1 => runO P T ops.toList post { σ1 with t := putA o.dst r σ1.t, s := s1, n := n1 } fun σ' => Q .normal σ') :
    AWp P T c ro (.region id ops false) σ Q := by
  intro hT φ a w hR
  refine wpIn_region_list ?_
  rw [hops] at hok
  simp only [List.all_append, List.all_cons, Bool.and_eq_true] at hok
  obtain ⟨hok1, hok2, hok3⟩ := hok
  have key := runO_then (c := c) (ro := ro) (Q := Conc c Q) hT ops.toList (o :: post) pre σ φ a w _ hok1 hR h (fun φ1 σ1 a1 w1 hK hR1 => by
    unfold wpListIn
    have : Region.wanted o (yielded ops.toList.toArray a1.tmps) = true := by simp [Region.wanted, hg]
    rw [if_pos this]
    refine openK_ok hR1.mem ho (hR1.ev fo) (by simp) (fun j x hj => ?_) hK fun r φ2 s2 n2 w2 v hK2 g2 hrv => ?_
    · rw [List.getElem?_map] at hj
      cases hq : xo[j]? with
      | none => rw [hq] at hj; simp at hj
      | some q =>
        rw [hq] at hj; simp at hj; subst hj
        have : (xo.map a1.eval).getD j undef = a1.eval q := by simp only [List.getD, List.getElem?_map, hq, Option.map_some, Option.getD_some]
        rw [this]; exact hR1.ev q
    · exact runO_ok (ro := ro) hT ops.toList post _ φ2 _ w2 _ (Conc c Q) hok3 (hR1.put g2 hrv (fun d hd'' => by have := hok2; unfold dstOk at this; rw [hd''] at this; exact Nat.blt_eq.mp this)) hK2 (fun φ' σ' a' w' hK hR' => ⟨φ', σ', hR', hK⟩))
  rw [← hops] at key
  simpa using key

end

end
end Go.Abs
end

section
set_option linter.unusedSimpArgs false
/- Calls over a part of the caller's store: what the callee is not handed stays as it is. -/
set_option linter.unusedVariables false
set_option linter.unusedSimpArgs false
namespace Go.Abs
open Go.RowKit

mutual
def renF (ρ : Nat → Nat) : AV → AV
  | .und => .und
  | .nil => .nil
  | .dat d => .dat d
  | .ptr i o => .ptr (ρ i) o
  | .own i => .own (ρ i)
  | .eptr i k j => .eptr (ρ i) k j
  | .clo f xs => .clo f (renFs ρ xs)
  | .agg xs => .agg (renFs ρ xs)
  | .tup xs => .tup (renFs ρ xs)
def renFs (ρ : Nat → Nat) : List AV → List AV
  | [] => []
  | x :: xs => renF ρ x :: renFs ρ xs
end

theorem renFs_get (ρ : Nat → Nat) : ∀ (xs : List AV) (j : Nat), (renFs ρ xs)[j]? = (xs[j]?).map (renF ρ)
  | [], j => by simp [renFs]
  | x :: xs, 0 => by simp [renFs]
  | x :: xs, j + 1 => by simp [renFs, renFs_get ρ xs j]
theorem renFs_length (ρ : Nat → Nat) : ∀ (xs : List AV), (renFs ρ xs).length = xs.length
  | [] => rfl
  | x :: xs => by simp [renFs, renFs_length ρ xs]

theorem renF_rv {φ φ' : Nat → Lay} {n n' : Nat} {A A' : Nat → Nat → Prop} {w : World} {ρ : Nat → Nat} {x : AV} {v : Value} (hk : Keeps A w A' w) (hρ : ∀ i, i < n → φ' (ρ i) = φ i ∧ ρ i < n') (h : RV φ n A w x v) :
    RV φ' n' A' w (renF ρ x) v := by
  induction h with
  | und v => exact .und v
  | nil => exact .nil
  | dat d v h => exact .dat d v (h.keep hk)
  | ptr i off h => rw [← (hρ i h).1]; exact .ptr (ρ i) off (hρ i h).2
  | own i h => rw [← (hρ i h).1]; exact .own (ρ i) (hρ i h).2
  | eptr i k j h => rw [← (hρ i h).1]; exact .eptr (ρ i) k j (hρ i h).2
  | clo f caps vs hl _ ih =>
    refine .clo f _ vs (by rw [renFs_length]; exact hl) fun j x hj => ?_
    rw [renFs_get] at hj
    cases hc : caps[j]? with
    | none => rw [hc] at hj; simp at hj
    | some y => rw [hc] at hj; simp at hj; subst hj; exact ih j y hc
  | agg xs vs hl _ h1 ih =>
    refine .agg _ vs (by rw [renFs_length]; exact hl) (fun j x hj => ?_) h1
    rw [renFs_get] at hj
    cases hc : xs[j]? with
    | none => rw [hc] at hj; simp at hj
    | some y => rw [hc] at hj; simp at hj; subst hj; exact ih j y hc
  | tup xs vs hl _ ih =>
    refine .tup _ vs (by rw [renFs_length]; exact hl) fun j x hj => ?_
    rw [renFs_get] at hj
    cases hc : xs[j]? with
    | none => rw [hc] at hj; simp at hj
    | some y => rw [hc] at hj; simp at hj; subst hj; exact ih j y hc

def renOF (ρ : Nat → Nat) : Obj' → Obj'
  | .box xs f ot => .box (renFs ρ xs) f ot
  | .row e sz es f => .row e sz es f

def renS (ρ : Nat → Nat) : Sto → Sto
  | [] => []
  | (i, o) :: l => (ρ i, renOF ρ o) :: renS ρ l

theorem renS_get {ρ : Nat → Nat} : ∀ {s : Sto} {i : Nat} {x : Obj'}, (∀ a b, ρ a = ρ b → a = b) → get i (renS ρ s) = some x → ∃ j x', get j s = some x' ∧ ρ j = i ∧ x = renOF ρ x'
  | [], i, x, _, h => by simp [renS, get] at h
  | (j, o) :: l, i, x, hi, h => by
    rw [renS, get_cons] at h
    by_cases hj : ρ j = i
    · rw [if_pos hj] at h; cases h
      exact ⟨j, o, by rw [get_cons, if_pos rfl], hj, rfl⟩
    · rw [if_neg hj] at h
      obtain ⟨k, x', h1, h2, h3⟩ := renS_get hi h
      refine ⟨k, x', ?_, h2, h3⟩
      rw [get_cons, if_neg (fun e => hj (by rw [e]; exact h2)), h1]

theorem get_app : ∀ (a b : Sto) (i : Nat), get i (a ++ b) = (get i a).orElse fun _ => get i b
  | [], b, i => by simp [get]
  | (j, o) :: a, b, i => by
    rw [List.cons_append, get_cons, get_cons, get_app a b i]
    by_cases h : j = i <;> simp [h]

section
variable {P : Program} {T : Tab}

structure GoesL (c : Ctx) (m : Nat) (φ : Nat → Lay) (s : Sto) (w : World) (φ' : Nat → Lay) (s' : Sto) (n' : Nat) (w' : World) : Prop where
  same : ∀ i, i < m → φ' i = φ i
  le : m ≤ n'
  keeps : Keeps (c.AA φ s) w (c.AA φ' s') w'
  mem : Mem c φ' s' n' w'
  oth : KeepsOthers w w'

/-- A call over a store of its own: names below m stay, the others may be let go. -/
def POL (P : Program) (f : FuncId) (args : List AV) (s : Sto) (n m : Nat) (R : AV → Sto → Nat → Prop) : Prop :=
  Enters P f ∧ m ≤ n ∧ ∀ (c : Ctx) (φ : Nat → Lay) (w : World) (vs : List Value), c.m = 0 → c.fv = [] → Mem c φ s n w → vs.length = args.length → (∀ j x, args[j]? = some x → RV φ n (c.AA φ s) w x (vs.getD j undef)) →
    Calls P f vs.toArray w fun e w' => ∃ v r φ' s' n', e = .returned v ∧ GoesL c m φ s w φ' s' n' w' ∧ RV φ' n' (c.AA φ' s') w' r v ∧ R r s' n'

theorem POL.of {f : FuncId} {fn : Func} {code : Code} {args : List AV} {s : Sto} {n m : Nat} {R : AV → Sto → Nat → Prop} (hT : TabOk P T) (hf : P.funcs[f]? = some fn) (hb : fn.body = some code) (hn : (fn.name == "runtime.NumGoroutine") = false)
    (hargs : Nat.ble args.length fn.ntmps = true) (hmn : m ≤ n) (h : ∀ c : Ctx, c.N = fn.ntmps → (c.m = m ∧ c.fv = []) → AWp P T c none code { t := numA 0 args, s := s, n := n } (retO T fn.results.toList R)) : POL P f args s n m R := by
  refine ⟨enters_of' hf hb hn, hmn, fun c φ w vs hcm hcf hM hl hv => ?_⟩
  have hargs' : args.length ≤ fn.ntmps := Nat.le_of_ble_eq_true hargs
  refine (callsIn_wide (n := 0)).1 ?_
  show CallsIn (FF none) 0 P f vs.toArray w _
  refine callsIn_of_wp hf hb trivial ?_
  let cb : Ctx := { c with N := fn.ntmps, w1 := w, pin := fun b o v => c.AA φ s b o ∧ w.cell? ⟨b, o, none⟩ = some v, m := m, fl := φ, fv := [] }
  have hMb : Mem cb φ s n w := ⟨hM.below, hM.obj, hM.inj, KeepsOthers.refl _, fun b o v h => h, ⟨hmn, fun _ _ => rfl, by simp [cb]⟩, hM.hld, hM.gw⟩
  have hR : Rel cb φ { t := numA 0 args, s := s, n := n } { tmps := vs.toArray ++ Array.replicate (fn.ntmps - vs.toArray.size) undef, defers := [] } w := by
    refine ⟨by simp [cb]; omega, ⟨rfl, by simp, by simp⟩, fun t => ?_, hMb⟩
    rw [lk_numA, if_pos (Nat.zero_le _), Nat.sub_zero]
    cases ha : args[t]? with
    | none => exact .und _
    | some x =>
      have hlt : t < vs.length := by have := (List.getElem?_eq_some_iff.1 ha).1; omega
      have e : (vs.toArray ++ Array.replicate (fn.ntmps - vs.toArray.size) undef).getD t undef = vs.getD t undef := by
        simp [List.getD, Array.getElem?_append, hlt]
      simp only [Option.getD_some]
      rw [e]
      exact hv t x ha
  have fin : ∀ {φ' σ' a' w'}, Rel cb φ' σ' a' w' → GoesL c m φ s w φ' σ'.s σ'.n w' := fun {φ' σ' a' w'} hR' => by
    have hk : Keeps (c.AA φ s) w (c.AA φ' σ'.s) w' := fun b o v hA hv => hR'.mem.pin b o v ⟨hA, hv⟩
    have hsame : ∀ i, i < m → φ' i = φ i := fun i hi => hR'.mem.fv.2.1 i hi
    exact ⟨hsame, hR'.mem.fv.1, hk, ⟨hR'.mem.below, hR'.mem.obj, hR'.mem.inj, hM.oth.trans hR'.mem.oth, fun b o v hp => hk b o v (hM.pin b o v hp).1 (hM.pin b o v hp).2,
      ⟨by rw [hcm]; exact Nat.zero_le _, fun i hi => by rw [hcm] at hi; exact absurd hi (Nat.not_lt_zero _), by rw [hcf]; simp⟩, hR'.mem.hld, hR'.mem.gw⟩, hR'.mem.oth⟩
  refine wpIn_mono (h cb rfl ⟨rfl, rfl⟩ hT φ _ w hR) fun e a' w' hc => ?_
  obtain ⟨φ', σ', hR', hQ⟩ := hc
  cases e with
  | normal =>
    obtain ⟨hd, v, r, hr, hRr, hrv⟩ := retO_ok hT hR' hQ
    exact ⟨hd, v, hr, v, r, φ', σ'.s, σ'.n, rfl, fin hR', hrv, hRr⟩
  | ret =>
    obtain ⟨hd, v, r, hr, hRr, hrv⟩ := retO_ok hT hR' hQ
    exact ⟨hd, v, hr, v, r, φ', σ'.s, σ'.n, rfl, fin hR', hrv, hRr⟩
  | _ => exact hQ.elim

theorem Sub.ofm {c : Ctx} {σ : St} {m : Nat} (hm : c.m = m ∧ c.fv = []) (ρ : Nat → Nat) {σ' : St} (h1 : m ≤ σ'.n) (h2 : ∀ i, i < m → ρ i = i) (hd : σ'.d = σ.d) (ht : subT ρ σ'.n σ.t σ'.t) (hs : subS ρ σ'.n σ.s σ'.s)
    (hi : ∀ i j, i < σ'.n → j < σ'.n → ρ i = ρ j → i = j) : Sub c σ σ' :=
  Sub.of ρ ⟨by rw [hm.1]; exact h1, fun i h => h2 i (by rw [hm.1] at h; exact h)⟩ hd ht hs hi

def rhoL (m n0 : Nat) (ρ : Nat → Nat) (i : Nat) : Nat := if i < m then ρ i else n0 + (i - m)

open Classical in
theorem POL.po {f : FuncId} {args : List AV} {s : Sto} {n m : Nat} {R : AV → Sto → Nat → Prop} (h : POL P f args s n m R) (ρ : Nat → Nat) (s0 out : Sto) (n0 : Nat) (xs : List AV)
    (hs : subS ρ n s0 s) (hinj : ∀ i j, i < n → j < n → ρ i = ρ j → i = j) (hρ : ∀ i, i < n → ρ i < n0)
    (ho' : ∀ i o, get i out = some o → get i s0 = some o ∧ ∀ j o', get j s = some o' → ρ j ≠ i)
    (hx : xs = args.map (ren ρ)) (hxa : args.all (okR n) = true) :
    PO P f xs s0 n0 fun r s1 n1 => ∃ r' s' n', R r' s' n' ∧ r = renF (rhoL m n0 ρ) r' ∧ s1 = renS (rhoL m n0 ρ) s' ++ out ∧ n1 = n0 + (n' - m) := by
  obtain ⟨hent, hmn, h⟩ := h
  refine ⟨hent, fun c φ w vs hM hl hv => ?_⟩
  have hinjR : ∀ i j, rhoL m n0 ρ i = rhoL m n0 ρ j → i = j := fun i j he => by
    unfold rhoL at he
    by_cases hi : i < m <;> by_cases hj : j < m <;> simp only [hi, hj, if_true, if_false] at he
    · exact hinj i j (by omega) (by omega) he
    · have := hρ i (by omega); omega
    · have := hρ j (by omega); omega
    · omega
  let OB : Nat → Prop := fun b => ∃ i o, get i out = some o ∧ (φ i).b = b
  let cb : Ctx := { w0 := c.w0, A0 := c.A0, N := c.N, w1 := w, pin := (fun b o v => c.AA φ s0 b o ∧ w.cell? ⟨b, o, none⟩ = some v), held := (fun b => if OB b then w.heap[b]? else c.held b), hid := (fun b o => c.hid b o ∨ ∃ i x, get i out = some x ∧ (φ i).b = b ∧ ¬ x.permits o) }
  have hk : Keeps (c.AA φ s0) w (cb.AA (fun i => φ (ρ i)) s) w := fun b o v ha hv => ⟨⟨⟨ha.1.1, fun hh => by
    rcases hh with hh | ⟨i, x, h1, h2, h3⟩
    · exact ha.1.2 hh
    · exact h3 (ha.2 i x (ho' i x h1).1 h2)⟩, fun i x hx hb => by
    obtain ⟨_, _, h3⟩ := subS_spec hs i x hx
    have := ha.2 _ _ h3 hb
    cases x <;> exact this⟩, hv⟩
  have hcells : ∀ i o, get i s0 = some o → ∃ vs ty, w.heap[(φ i).b]? = some (.cells vs ty (0, 0)) := fun i o hi => cells_of_ok (hM.obj i o hi).2.2
  have hMb : Mem cb (fun i => φ (ρ i)) s n w := by
    refine ⟨hM.below, fun i o hi => ?_, fun i j oi oj hoi hoj he => ?_, KeepsOthers.refl _, fun b o v hp => hk b o v hp.1 hp.2, ⟨Nat.zero_le _, fun i hi => absurd hi (Nat.not_lt_zero _), by simp [cb]⟩, ⟨fun b ob hb => ?_, fun b o hh => ?_⟩, hM.gw⟩
    · obtain ⟨h1, h2, h3⟩ := subS_spec hs i o hi
      obtain ⟨g1, g2, g3⟩ := hM.obj _ _ h3
      refine ⟨g1, h2, ?_⟩
      cases o with
      | box xs f =>
        obtain ⟨vs, ty, hh, hl, hv1, hv⟩ := g3
        refine ⟨vs, ty, hh, by simpa using hl, hv1, fun j x hj => ?_⟩
        exact ren_rv hk (List.all_eq_true.1 h1 x (List.mem_of_getElem? hj)) (hv j _ (by rw [List.getElem?_map, hj]; rfl))
      | row e sz es f =>
        obtain ⟨h0, hz, hes, hlen, cur, hh, hcl, hlc, hml, hc1, hv⟩ := g3
        exact ⟨h0, hz, hes, hlen, cur, hh, hcl, hlc, hml, hc1, fun k el j d a b => (hv k el j d a b).keep hk⟩
    · obtain ⟨_, h2, h3⟩ := subS_spec hs i oi hoi
      obtain ⟨_, h2', h3'⟩ := subS_spec hs j oj hoj
      exact hinj i j h2 h2' (hM.inj _ _ _ _ h3 h3' he)
    · by_cases hob : OB b
      · have hb' : w.heap[b]? = some ob := by simpa [cb, hob] using hb
        obtain ⟨k, o, hk1, hk2⟩ := hob
        obtain ⟨vs, ty, hc⟩ := hcells k o (ho' k o hk1).1
        refine ⟨by rw [hk2, hb'] at hc; cases hc; rfl, hb', fun i oi hi he => ?_⟩
        obtain ⟨_, _, h3⟩ := subS_spec hs i oi hi
        have := hM.inj _ _ _ _ h3 (ho' k o hk1).1 (he.trans hk2.symm)
        exact (ho' k o hk1).2 i oi hi this
      · have hb' : c.held b = some ob := by simpa [cb, hob] using hb
        obtain ⟨g1, g2, g3⟩ := hM.hld.1 b ob hb'
        exact ⟨g1, g2, fun i oi hi => g3 _ _ (subS_spec hs i oi hi).2.2⟩
    · by_cases hob : OB b
      · obtain ⟨k, o', hk1, hk2⟩ := hob
        obtain ⟨vs, ty, hc⟩ := hcells k o' (ho' k o' hk1).1
        exact ⟨by rw [← hk2]; exact (hM.obj k o' (ho' k o' hk1).1).1, _, by simp only [cb]; rw [if_pos ⟨k, o', hk1, hk2⟩, ← hk2]; exact hc⟩
      · rcases hh with hh | ⟨i, x, h1, h2, h3⟩
        · obtain ⟨g0, ob, g⟩ := hM.hld.2 b o hh
          exact ⟨g0, ob, by simp only [cb]; rw [if_neg hob]; exact g⟩
        · exact absurd ⟨i, x, h1, h2⟩ hob
  refine (h cb (fun i => φ (ρ i)) w vs rfl rfl hMb (by rw [hl, hx]; simp) (fun j x hj => ?_)).mono fun e w' he => ?_
  · exact ren_rv hk (List.all_eq_true.1 hxa x (List.mem_of_getElem? hj)) (hv j (ren ρ x) (by rw [hx, List.getElem?_map, hj]; rfl))
  obtain ⟨v, r', φ2, s', n', rfl, g, hrv, hR⟩ := he
  let φ'' : Nat → Lay := fun i => if i < n0 then φ i else φ2 (i - n0 + m)
  have hφ : ∀ i, φ'' (rhoL m n0 ρ i) = φ2 i := fun i => by
    simp only [φ'', rhoL]
    by_cases hi : i < m
    · rw [if_pos hi, if_pos (hρ i (by omega)), g.same i hi]
    · rw [if_neg hi, if_neg (by omega)]
      congr 1; omega
  have hlt : ∀ i, i < n' → rhoL m n0 ρ i < n0 + (n' - m) := fun i hi => by
    unfold rhoL
    by_cases hi' : i < m
    · rw [if_pos hi']; have := hρ i (by omega); omega
    · rw [if_neg hi']; omega
  have hget : ∀ i x, get i (renS (rhoL m n0 ρ) s' ++ out) = some x → (∃ j x', get j s' = some x' ∧ rhoL m n0 ρ j = i ∧ x = renOF (rhoL m n0 ρ) x') ∨ get i out = some x := fun i x hi => by
    rw [get_app] at hi
    cases hg : get i (renS (rhoL m n0 ρ) s') with
    | none => rw [hg] at hi; exact .inr hi
    | some y => rw [hg] at hi; simp at hi; subst hi; exact .inl (renS_get hinjR hg)
  have hout : ∀ i o, get i out = some o → i < n0 ∧ φ'' i = φ i := fun i o hi => by
    have h1 := (hM.obj i o (ho' i o hi).1).2.1
    exact ⟨h1, by simp only [φ'']; rw [if_pos h1]⟩
  have hk2 : Keeps (cb.AA φ2 s') w' (c.AA φ'' (renS (rhoL m n0 ρ) s' ++ out)) w' := fun b o u ha hu => ⟨⟨⟨ha.1.1, fun hh => ha.1.2 (.inl hh)⟩, fun i x hi he => by
    rcases hget i x hi with ⟨j, x', h1, h2, h3⟩ | h1
    · subst h2; rw [hφ] at he
      have := ha.2 j x' h1 he
      subst h3; cases x' <;> exact this
    · refine Classical.byContradiction fun hn => ha.1.2 (.inr ⟨i, x, h1, by rw [← (hout i x h1).2]; exact he, hn⟩)⟩, hu⟩
  have hkk : Keeps (c.AA φ s0) w (c.AA φ'' (renS (rhoL m n0 ρ) s' ++ out)) w' := (hk.trans g.keeps).trans hk2
  have hsame : ∀ i, i < n0 → φ'' i = φ i := fun i hi => by simp only [φ'']; rw [if_pos hi]
  have hheld : ∀ b ob, c.held b = some ob → cb.held b = some ob := fun b ob hb => by
    simp only [cb]
    by_cases hob : OB b
    · rw [if_pos hob]; exact (hM.hld.1 b ob hb).2.1
    · rw [if_neg hob]; exact hb
  have hmem : Mem c φ'' (renS (rhoL m n0 ρ) s' ++ out) (n0 + (n' - m)) w' := by
    refine ⟨g.mem.below, fun i o hi => ?_, fun i j oi oj hoi hoj he => ?_, hM.oth.trans g.oth, fun b o v hp => hkk b o v (hM.pin b o v hp).1 (hM.pin b o v hp).2, hM.fv_keep hkk hsame (by omega), ⟨fun b ob hb => ?_, hM.hld.2⟩, hM.gw⟩
    · rcases hget i o hi with ⟨j, x', h1, h2, h3⟩ | h1
      · obtain ⟨g1, g2, g3⟩ := g.mem.obj j x' h1
        subst h2; subst h3
        refine ⟨by rw [hφ]; exact g1, hlt j g2, ?_⟩
        cases x' with
        | box xs f =>
          obtain ⟨vs, ty, hh, hl, hv1, hv⟩ := g3
          refine ⟨vs, ty, by rw [hφ]; exact hh, by rw [renFs_length]; exact hl, hv1, fun k x hk' => ?_⟩
          rw [renFs_get] at hk'
          cases hc : xs[k]? with
          | none => rw [hc] at hk'; simp at hk'
          | some y => rw [hc] at hk'; simp at hk'; subst hk'; exact renF_rv hk2 (fun i hi => ⟨hφ i, hlt i hi⟩) (hv k y hc)
        | row e sz es f =>
          obtain ⟨h0, hz, hes, hlen, cur, hh, hcl, hlc, hml, hc1, hv⟩ := g3
          refine ⟨h0, by rw [hφ]; exact hz, hes, by rw [hφ]; exact hlen, cur, by rw [hφ]; exact hh, by rw [hφ]; exact hcl, by rw [hφ]; exact hlc, by rw [hφ]; exact hml, hc1, fun k el j d a b => (hv k el j d a b).keep hk2⟩
      · obtain ⟨g1, g2, g3⟩ := hM.obj i o (ho' i o h1).1
        refine ⟨by rw [hsame i g2]; exact g1, by omega, g3.keep hkk hsame g2 (by omega) ?_⟩
        obtain ⟨vs, ty, hc⟩ := hcells i o (ho' i o h1).1
        have : cb.held (φ i).b = some (.cells vs ty (0, 0)) := by simp only [cb]; rw [if_pos ⟨i, o, h1, rfl⟩]; exact hc
        exact (g.mem.hld.1 _ _ this).2.1.trans hc.symm
    · rcases hget i oi hoi with ⟨j1, x1, a1, a2, a3⟩ | a1 <;> rcases hget j oj hoj with ⟨j2, x2, b1, b2, b3⟩ | b1
      · subst a2; subst b2
        rw [hφ, hφ] at he
        rw [g.mem.inj j1 j2 x1 x2 a1 b1 he]
      · subst a2
        rw [hφ, (hout j oj b1).2] at he
        obtain ⟨vs, ty, hc⟩ := hcells j oj (ho' j oj b1).1
        have : cb.held (φ j).b = some (.cells vs ty (0, 0)) := by simp only [cb]; rw [if_pos ⟨j, oj, b1, rfl⟩]; exact hc
        exact absurd he ((g.mem.hld.1 _ _ this).2.2 j1 x1 a1)
      · subst b2
        rw [hφ, (hout i oi a1).2] at he
        obtain ⟨vs, ty, hc⟩ := hcells i oi (ho' i oi a1).1
        have : cb.held (φ i).b = some (.cells vs ty (0, 0)) := by simp only [cb]; rw [if_pos ⟨i, oi, a1, rfl⟩]; exact hc
        exact absurd he.symm ((g.mem.hld.1 _ _ this).2.2 j2 x2 b1)
      · rw [(hout i oi a1).2, (hout j oj b1).2] at he
        exact hM.inj i j oi oj (ho' i oi a1).1 (ho' j oj b1).1 he
    · obtain ⟨g1, g2, g3⟩ := g.mem.hld.1 b ob (hheld b ob hb)
      refine ⟨g1, g2, fun i o hi he => ?_⟩
      rcases hget i o hi with ⟨j, x', h1, h2, h3⟩ | h1
      · subst h2; rw [hφ] at he; exact g3 j x' h1 he
      · rw [(hout i o h1).2] at he
        exact (hM.hld.1 b ob hb).2.2 i o (ho' i o h1).1 he
  exact ⟨v, _, φ'', _, _, rfl, ⟨hsame, by omega, hkk, hmem, g.oth⟩, renF_rv hk2 (fun i hi => ⟨hφ i, hlt i hi⟩) hrv, r', s', n', hR, rfl, rfl, rfl⟩

theorem POL.po0 {f : FuncId} {args : List AV} {s : Sto} {n m : Nat} {R : AV → Sto → Nat → Prop} (h : POL P f args s n m R) (ρ : Nat → Nat) (s0 : Sto) (n0 : Nat) (xs : List AV)
    (hs : subS ρ n s0 s) (hinj : ∀ i j, i < n → j < n → ρ i = ρ j → i = j) (hρ : ∀ i, i < n → ρ i < n0) (hx : xs = args.map (ren ρ)) (hxa : args.all (okR n) = true) :
    PO P f xs s0 n0 fun r s1 n1 => ∃ r' s' n', R r' s' n' ∧ r = renF (rhoL m n0 ρ) r' ∧ s1 = renS (rhoL m n0 ρ) s' ++ [] ∧ n1 = n0 + (n' - m) :=
  POL.po h ρ s0 [] n0 xs hs hinj hρ (fun i o hi => by simp [Abs.get] at hi) hx hxa

end
end Go.Abs
end

section
set_option linter.unusedSimpArgs false
/- Slices that grow: nil as long as nothing is in them, then a row of the call's own. -/
set_option linter.unusedVariables false
set_option linter.unusedSimpArgs false
namespace Go.Abs
open Go.RowKit

def gL (k : Nat) (es : List (List DV)) : AV := if es = [] then .nil else .own k
def gS (e sz k : Nat) (es : List (List DV)) (f : Bool) (s : Sto) : Sto := if es = [] then del k s else (k, .row e sz es f) :: s

theorem set_del {j k : Nat} {o : Obj'} (h : ¬ k = j) : ∀ s : Sto, set j o (del k s) = del k (set j o s)
  | [] => rfl
  | (i, x) :: s => by
    by_cases hk : i = k
    · subst hk; simp [del, set, beq_ne h, set_del h s]
    · by_cases hj : i = j
      · subst hj; simp [del, set, beq_ne hk]
      · simp [del, set, beq_ne hk, beq_ne hj, set_del h s]
theorem del_del {j k : Nat} : ∀ s : Sto, del j (del k s) = del k (del j s)
  | [] => rfl
  | (i, x) :: s => by
    have ih := del_del (j := j) (k := k) s
    by_cases hk : i = k
    · subst hk
      by_cases hj : i = j
      · subst hj; rfl
      · simp [del, beq_ne hj, ih]
    · by_cases hj : i = j
      · subst hj; simp [del, beq_ne hk, ih]
      · simp [del, beq_ne hk, beq_ne hj, ih]
theorem del_same {k : Nat} : ∀ s : Sto, del k (del k s) = del k s
  | [] => rfl
  | (i, x) :: s => by
    by_cases hk : i = k
    · subst hk; simp [del, del_same s]
    · simp [del, beq_ne hk, del_same s]

section
variable {T : Tab} {e sz k j n : Nat} {es : List (List DV)} {f : Bool} {s : Sto} {o : Obj'} {ρ : Nat → Nat}

theorem gL_nil : gL k [] = .nil := rfl
theorem gL_cons {x : List DV} : gL k (x :: es) = .own k := rfl
theorem gL_app {x : List DV} : gL k (es ++ [x]) = .own k := by simp [gL]
theorem gL_ne (h : es ≠ []) : gL k es = .own k := by simp [gL, h]
theorem gS_nil : gS e sz k [] f s = del k s := rfl
theorem gS_cons {x : List DV} : gS e sz k (x :: es) f s = (k, .row e sz (x :: es) f) :: s := rfl
theorem gS_app {x : List DV} : gS e sz k (es ++ [x]) f s = (k, .row e sz (es ++ [x]) f) :: s := by simp [gS]
theorem gS_ne (h : es ≠ []) : gS e sz k es f s = (k, .row e sz es f) :: s := by simp [gS, h]
theorem get_gS_ne (h : ¬ k = j) : get j (gS e sz k es f s) = get j s := by
  unfold gS; split
  · rw [get_del, if_neg (Ne.symm h)]
  · rw [get_cons, if_neg h]
theorem set_gS_ne (h : ¬ k = j) : set j o (gS e sz k es f s) = gS e sz k es f (set j o s) := by
  unfold gS; split
  · exact set_del h s
  · simp [set, beq_ne h]
theorem del_gS_ne (h : ¬ k = j) : del j (gS e sz k es f s) = gS e sz k es f (del j s) := by
  unfold gS; split
  · exact del_del s
  · simp [del, beq_ne h]
theorem del_gS_same : del k (gS e sz k es f s) = del k s := by
  unfold gS; split
  · exact del_same s
  · simp [del]
theorem lenK_gL {t : TypeId} {K : AV → Prop} : lenK (gS e sz k es f s) T t (gL k es) K = lenK (gS e sz k es f s) T t (.dat (.lst es)) K := by
  by_cases h : es = []
  · subst h; unfold gS gL lenK
    cases tget t T with
    | none => rfl
    | some i => simp
  · simp only [gS, gL, h, if_false]
    unfold lenK
    cases tget t T with
    | none => rfl
    | some i => simp [get]; cases i.desc <;> rfl
theorem toC0_gL : toC0 (gS e sz k es f s) (gL k es) = some (.lst es, gS e sz k es true s) := by
  by_cases h : es = []
  · subst h; rfl
  · simp [gS, gL, h, toC0, get, set]
theorem iaddrK_gL {t : TypeId} {kk : IntKind} {m : Int} {K : AV → Prop} : iaddrK (gS e sz k es f s) T t (gL k es) (.dat (.int kk m)) K =
    (match elemOf' T t with | some j => sz = j.size ∧ 0 ≤ m ∧ m < es.length ∧ K (.eptr k m.toNat 0) | none => False) := by
  by_cases h : es = []
  · subst h; unfold gS gL iaddrK
    cases elemOf' T t with
    | none => rfl
    | some j => simp; intro _ h1 h2; omega
  · simp only [gS, gL, h, if_false]
    unfold iaddrK
    cases elemOf' T t with
    | none => rfl
    | some j => simp [get]
theorem toC_gL : toC s (gL k es) = toC0 s (gL k es) := by unfold gL; split <;> rfl
theorem toA_gL : toA s (gL k es) = (match toC0 s (gL k es) with | some (d, s1) => some (.dat d, s1) | none => none) := by unfold gL; split <;> rfl
theorem toC0_gL_cons {i : Nat} (h : ¬ i = k) : toC0 ((i, o) :: s) (gL k es) = (toC0 s (gL k es)).map fun p => (p.1, (i, o) :: p.2) := by
  unfold gL; split
  · rfl
  · simp only [toC0, get, set, beq_ne h, cond_false]
    cases get k s with
    | none => rfl
    | some x => cases x <;> rfl
theorem lenK_gL_cons {i : Nat} {t : TypeId} {K : AV → Prop} (h : ¬ i = k) : lenK ((i, o) :: s) T t (gL k es) K = lenK s T t (gL k es) K := by
  unfold gL; split
  · simp only [lenK_nil]
  · simp only [lenK_own, get, beq_ne h, cond_false]
theorem iaddrK_gL_cons {i : Nat} {t : TypeId} {kk : IntKind} {z : Int} {K : AV → Prop} (h : ¬ i = k) : iaddrK ((i, o) :: s) T t (gL k es) (.dat (.int kk z)) K = iaddrK s T t (gL k es) (.dat (.int kk z)) K := by
  unfold gL; split
  · unfold iaddrK; cases elemOf' T t <;> rfl
  · simp only [iaddrK_own, get, beq_ne h, cond_false]
theorem loadK_gL_cons {i : Nat} {t : TypeId} {m j : Nat} {K : AV → Prop} (h : ¬ i = k) : loadK ((i, o) :: gS e sz k es f s) T t (.eptr k m j) K = loadK (gS e sz k es f s) T t (.eptr k m j) K := by
  simp only [loadK_eptr, get, beq_ne h, cond_false]
theorem storeK_gL_cons {i : Nat} {t : TypeId} {m j : Nat} {y : AV} {K : Sto → Prop} (h : ¬ i = k) : storeK T t (.eptr k m j) y ((i, o) :: gS e sz k es f s) K = storeK T t (.eptr k m j) y (gS e sz k es f s) fun s' => K ((i, o) :: s') := by
  simp only [storeK_eptr, get, set, beq_ne h, cond_false]
theorem toC0_gL_ne {k' e' sz' : Nat} {es' : List (List DV)} {f' : Bool} (h : ¬ k' = k) : toC0 (gS e' sz' k' es' f' s) (gL k es) = (toC0 s (gL k es)).map fun p => (p.1, gS e' sz' k' es' f' p.2) := by
  unfold gL; split
  · rfl
  · simp only [toC0, get_gS_ne h, set_gS_ne h]
    cases get k s with
    | none => rfl
    | some x => cases x <;> rfl
theorem lenK_gL_ne {k' e' sz' : Nat} {es' : List (List DV)} {f' : Bool} {t : TypeId} {K : AV → Prop} (h : ¬ k' = k) : lenK (gS e' sz' k' es' f' s) T t (gL k es) K = lenK s T t (gL k es) K := by
  unfold gL; split
  · simp only [lenK_nil]
  · simp only [lenK_own, get_gS_ne h]
theorem iaddrK_gL_ne {k' e' sz' : Nat} {es' : List (List DV)} {f' : Bool} {t : TypeId} {kk : IntKind} {z : Int} {K : AV → Prop} (h : ¬ k' = k) : iaddrK (gS e' sz' k' es' f' s) T t (gL k es) (.dat (.int kk z)) K = iaddrK s T t (gL k es) (.dat (.int kk z)) K := by
  unfold gL; split
  · unfold iaddrK; cases elemOf' T t <;> rfl
  · simp only [iaddrK_own, get_gS_ne h]
theorem get_del_same : get k (del k s) = none := by rw [get_del, if_pos rfl]
theorem loadK_gL {t : TypeId} {m j : Nat} {K : AV → Prop} : loadK (gS e sz k es f s) T t (.eptr k m j) K =
    (match tget t T with
    | some i => m < es.length ∧ bif aggD i.desc then (j + i.size ≤ (es.getD m []).length ∧ K (.agg ((((es.getD m []).drop j).take i.size).map .dat))) else (match (es.getD m [])[j]? with | some d => K (.dat d) | none => False)
    | none => False) := by
  by_cases h : es = []
  · subst h; unfold gS loadK
    cases tget t T with
    | none => rfl
    | some i => simp [get_del_same]
  · have hg : get k ((k, Obj'.row e sz es f) :: s) = some (.row e sz es f) := by simp [get]
    simp only [gS, h, if_false]
    unfold loadK
    cases tget t T with
    | none => rfl
    | some i => simp only [hg]; rfl
theorem storeK_gL {t : TypeId} {m j : Nat} {y : AV} {K : Sto → Prop} : storeK T t (.eptr k m j) y (gS e sz k es false s) K =
    (match tget t T, cellsA y with
    | some i, some ys => match dats0 ys with
      | some ds => ys.length = i.size ∧ m < es.length ∧ j + ds.length ≤ sz ∧ K (gS e sz k (es.set m ((es.getD m []).take j ++ ds ++ (es.getD m []).drop (j + ds.length))) false s)
      | none => False
    | _, _ => False) := by
  by_cases h : es = []
  · subst h
    rw [gS_nil]; unfold storeK
    cases tget t T with
    | none => rfl
    | some i =>
      cases cellsA y with
      | none => rfl
      | some ys =>
        simp only [get_del_same]
        generalize dats0 ys = d
        cases d <;> simp
  · have h2 : ∀ z, es.set m z ≠ [] := fun z => by
      intro hz; apply h; have := congrArg List.length hz; simp at this; exact List.eq_nil_of_length_eq_zero (by simpa using this)
    simp only [gS, h, h2, if_false]
    unfold storeK
    cases tget t T with
    | none => rfl
    | some i =>
      cases cellsA y with
      | none => rfl
      | some ys =>
        have hg : get k ((k, Obj'.row e sz es false) :: s) = some (.row e sz es false) := by simp [get]
        simp only [hg]
        cases dats0 ys with
        | none => rfl
        | some ds => simp only [set, Nat.beq_refl, cond_true]
theorem ren_gL : ren ρ (gL k es) = gL (ρ k) es := by
  unfold gL; split <;> rfl
theorem ren0_gL : ren0 ρ (gL k es) = gL (ρ k) es := by
  unfold gL; split <;> rfl
theorem okR_gL (h : k < n) : okR n (gL k es) = true := by
  unfold gL; split
  · rfl
  · exact Nat.blt_eq.mpr h
theorem ok0_gL (h : k < n) : ok0 n (gL k es) = true := by
  unfold gL; split
  · rfl
  · exact Nat.blt_eq.mpr h
theorem subS_gS {s' : Sto} (h : del k s' = s') : subS ρ n s (gS e sz k es f s') = ((es = [] ∨ (k < n ∧ get (ρ k) s = some (.row e sz es f))) ∧ subS ρ n s s') := by
  unfold gS
  by_cases he : es = []
  · simp [he, h]
  · simp [he, subS, okO, renO, and_assoc, Nat.blt_eq]
theorem subS_gS_nil : subS ρ n s (gS e sz k es f []) = (es = [] ∨ (k < n ∧ get (ρ k) s = some (.row e sz es f))) := by
  rw [subS_gS rfl]; simp [subS]
theorem subS_gS_1 {i : Nat} {x : Obj'} (h : ¬ i = k) : subS ρ n s (gS e sz k es f [(i, x)]) = ((es = [] ∨ (k < n ∧ get (ρ k) s = some (.row e sz es f))) ∧ subS ρ n s [(i, x)]) :=
  subS_gS (by simp [del, beq_ne h])
theorem subS_gS_2 {i i' : Nat} {x x' : Obj'} (h : ¬ i = k) (h' : ¬ i' = k) : subS ρ n s (gS e sz k es f [(i, x), (i', x')]) = ((es = [] ∨ (k < n ∧ get (ρ k) s = some (.row e sz es f))) ∧ subS ρ n s [(i, x), (i', x')]) :=
  subS_gS (by simp [del, beq_ne h, beq_ne h'])
theorem subS_gS_3 {i i' i'' : Nat} {x x' x'' : Obj'} (h : ¬ i = k) (h' : ¬ i' = k) (h'' : ¬ i'' = k) : subS ρ n s (gS e sz k es f [(i, x), (i', x'), (i'', x'')]) = ((es = [] ∨ (k < n ∧ get (ρ k) s = some (.row e sz es f))) ∧ subS ρ n s [(i, x), (i', x'), (i'', x'')]) :=
  subS_gS (by simp [del, beq_ne h, beq_ne h', beq_ne h''])
theorem get_gS_same : get k (gS e sz k es f s) = if es = [] then none else some (.row e sz es f) := by
  unfold gS; split
  · exact get_del_same
  · simp [get]
theorem gS_same {P : Prop} : (es = [] ∨ (P ∧ get k (gS e sz k es f s) = some (.row e sz es f))) = (es = [] ∨ P) := by
  rw [get_gS_same]
  by_cases he : es = [] <;> simp [he]

theorem gS_same' : (es = [] ∨ get k (gS e sz k es f s) = some (.row e sz es f)) = True := by
  rw [get_gS_same]
  by_cases he : es = [] <;> simp [he]
theorem renF_gL : renF ρ (gL k es) = gL (ρ k) es := by unfold gL; split <;> simp [renF]
theorem renS_del (h : ∀ a b, ρ a = ρ b → a = b) (s : Sto) : renS ρ (del k s) = del (ρ k) (renS ρ s) := by
  induction s with
  | nil => rfl
  | cons p s ih =>
    obtain ⟨i, x⟩ := p
    by_cases hi : i = k
    · subst hi; simp [del, renS, ih]
    · simp [del, renS, beq_ne hi, beq_ne (fun e => hi (h _ _ e)), ih]
theorem renS_gS_nil : renS ρ (gS e sz k es f []) = gS e sz (ρ k) es f [] := by
  unfold gS; split <;> simp [renS, renOF, del]
theorem retO_normal {rs : List ResultVar} {R : AV → Sto → Nat → Prop} {σ : St} : retO T rs R .normal σ = (σ.d = 0 ∧ resC T rs σ fun xs => R (retV xs) σ.s σ.n) := rfl
theorem retO_ret {rs : List ResultVar} {R : AV → Sto → Nat → Prop} {σ : St} : retO T rs R .ret σ = (σ.d = 0 ∧ resC T rs σ fun xs => R (retV xs) σ.s σ.n) := rfl
/-- What is known of a slice that grows. -/
def gC (e sz k : Nat) (es : List (List DV)) (f : Bool) (s : Sto) : Prop := (es = [] → del k s = s) ∧ (es ≠ [] → get k s = some (.row e sz es f))
theorem gC_cons (h : ¬ j = k) : gC e sz k es f ((j, o) :: s) = gC e sz k es f s := by
  unfold gC; simp [del, get, beq_ne h]
theorem gC_same : gC e sz k es f (gS e sz k es f s) = True := by
  unfold gC gS
  by_cases he : es = [] <;> simp [he, del_same, get]
/-- An append onto a slice that grows. -/
def gAppK (T : Tab) (t : TypeId) (k : Nat) (es : List (List DV)) (y : AV) (s : Sto) (n : Nat) (K : AV → Sto → Nat → Prop) : Prop :=
  match tget t T, srcE s y with
  | some i, some es2 => match i.desc with
    | .slice e => match tget e T with
      | some j => j.bytes ≤ 128 ∧ j.zv.cells.size = j.size ∧ j.zv.cells.toList.all Value.oneCell' = true ∧ 0 < j.size ∧ gC e j.size k es false s ∧
          (es2 = [] → K (gL k es) s n) ∧
          (es2 ≠ [] → es.length + es2.length ≤ 1099511627776 ∧ (∀ el ∈ es2, el.length = j.size) ∧ K (.own n) ((n, .row e j.size (es ++ es2) false) :: del k s) (n + 1))
      | none => False
    | _ => False
  | _, _ => False

theorem appK_g {t : TypeId} {y : AV} {K : AV → Sto → Nat → Prop} (h : gAppK T t k es y s n K) : appK T t (gL k es) y s n K := by
  unfold gAppK at h
  split at h
  case h_2 => exact h.elim
  rename_i i es2 hi hes
  split at h
  case h_2 => exact h.elim
  rename_i e' hd
  split at h
  case h_2 => exact h.elim
  rename_i jj hj
  obtain ⟨h1, h2, h3, h4, h5, h6, h7⟩ := h
  unfold appK
  rw [hi, hes]
  simp only [hd, hj]
  refine ⟨h1, h2, h3, h4, ?_⟩
  by_cases he : es = []
  · subst he
    have h5 := h5.1 rfl
    rw [h5] at h7
    simp only [gL, if_true] at h6 ⊢
    refine ⟨h6, fun hne => ?_⟩
    have := h7 hne
    simp only [List.nil_append, List.length_nil, Nat.zero_add] at this
    exact this
  · have h5 := h5.2 he
    simp only [gL, he, if_false] at h6 ⊢
    rw [h5]
    exact ⟨rfl, rfl, h6, h7⟩
end
/-- nil in a variable may be read as an empty slice. -/
theorem Sub.nilBox {c : Ctx} {σ : St} (k j : Nat) {xs : List AV} {f : Bool} (hk : get k σ.s = some (.box xs f)) (hj : xs[j]? = some .nil) : Sub c σ { σ with s := set k (.box (xs.set j (.dat (.lst []))) f) σ.s } := by
  intro φ a w hR
  have g : Goes c φ σ.s σ.n w φ (set k (.box (xs.set j (.dat (.lst []))) f) σ.s) σ.n w := by
    refine hR.mem.turn hk (fun off hp => hp) hR.mem.below (fun _ _ => rfl) (fun _ _ _ hv => hv) (fun hkp => ?_)
    obtain ⟨_, h2, vs, ty, h3, h4, h5, h6⟩ := hR.mem.obj k _ hk
    refine ⟨vs, ty, h3, by simpa using h4, h5, fun i x hx => ?_⟩
    rw [List.getElem?_set] at hx
    split at hx
    · rename_i hji
      subst hji
      split at hx
      · cases hx
        have := h6 _ _ hj
        generalize vs.getD j undef = v at this
        cases this
        exact .dat _ _ (.emp _ _)
      · cases hx
    · exact (h6 i x hx).keep hkp (fun _ _ => rfl) (Nat.le_refl _)
  exact ⟨φ, hR.size, hR.defers, fun t => g.rv (hR.tm t), g.mem⟩

theorem Sub.trans {c : Ctx} {a b d : St} (h : Sub c a b) (k : Sub c b d) : Sub c a d := fun φ x w hR => let ⟨φ', h'⟩ := h φ x w hR; k φ' x w h'
/-- A row of the call's own is written no more. -/
theorem Sub.frz {c : Ctx} {σ : St} (i : Nat) {e sz : Nat} {es : List (List DV)} {f : Bool} (hi : get i σ.s = some (.row e sz es f)) : Sub c σ { σ with s := set i (.row e sz es true) σ.s } := by
  intro φ a w hR
  have g := hR.mem.freeze hi (.inr ⟨e, sz, es, f, rfl, rfl⟩)
  exact ⟨φ, hR.size, hR.defers, fun t => g.rv (hR.tm t), g.mem⟩
/-- What is written no more is data. -/
theorem Sub.datBox {c : Ctx} {σ : St} (k j i : Nat) {xs : List AV} {f : Bool} {e sz : Nat} {es : List (List DV)} (hk : get k σ.s = some (.box xs f)) (hj : xs[j]? = some (.own i)) (hi : get i σ.s = some (.row e sz es true)) :
    Sub c σ { σ with s := set k (.box (xs.set j (.dat (.lst es))) f) σ.s } := by
  intro φ a w hR
  have hrd := row_rd hR.mem hi
  have g : Goes c φ σ.s σ.n w φ (set k (.box (xs.set j (.dat (.lst es))) f) σ.s) σ.n w := by
    refine hR.mem.turn hk (fun off hp => hp) hR.mem.below (fun _ _ => rfl) (fun _ _ _ hv => hv) (fun hkp => ?_)
    obtain ⟨_, h2, vs, ty, h3, h4, h5, h6⟩ := hR.mem.obj k _ hk
    refine ⟨vs, ty, h3, by simpa using h4, h5, fun i' x hx => ?_⟩
    rw [List.getElem?_set] at hx
    split at hx
    · rename_i hji
      subst hji
      split at hx
      · cases hx
        have := h6 _ _ hj
        generalize vs.getD j undef = v at this
        cases this
        exact .dat _ _ (hrd.keep hkp)
      · cases hx
    · exact (h6 i' x hx).keep hkp (fun _ _ => rfl) (Nat.le_refl _)
  exact ⟨φ, hR.size, hR.defers, fun t => g.rv (hR.tm t), g.mem⟩
theorem Sub.datTmp {c : Ctx} {σ : St} (k i : Nat) {e sz : Nat} {es : List (List DV)} (hk : lk k σ.t = .own i) (hi : get i σ.s = some (.row e sz es true)) : Sub c σ { σ with t := (k, .dat (.lst es)) :: σ.t } := by
  intro φ a w hR
  have hrd := row_rd hR.mem hi
  refine ⟨φ, hR.size, hR.defers, fun t => ?_, hR.mem⟩
  show RV φ σ.n _ w (lk t ((k, .dat (.lst es)) :: σ.t)) _
  rw [lk_cons]
  split
  · rename_i h; subst h
    have := hR.tm k
    rw [hk] at this
    generalize a.tmps.getD k undef = v at this
    cases this
    exact .dat _ _ hrd
  · exact hR.tm t

theorem toAs_dat (s : Sto) : ∀ (ds : List DV), toAs s (ds.map .dat) = some (ds.map .dat, s)
  | [] => rfl
  | d :: ds => by simp only [List.map_cons, toAs, toA, toC, toC0, toAs_dat s ds]
theorem dAs_dat : ∀ (ds : List DV), dAs (ds.map .dat) = some (ds.map .dat)
  | [] => rfl
  | d :: ds => by simp only [List.map_cons, dAs, dA, dC, dat0, dAs_dat ds]
theorem AWp.regionXi {P : Program} {T : Tab} {c : Ctx} {ro : Option Nat} {id : Nat} {ops : Array Oper} {σ : St} {Q : Exit → St → Prop} (i : Nat) {o : Oper} {fo : Operand} {xo : List Operand} (hi : ops.toList[i]? = some o) (ho : callOf o.op = some (fo, xo)) (hg : o.guard = none)
    (hok : ops.toList.all (dstOk c.N) = true)
    (h : runO P T ops.toList (ops.toList.take i) σ fun σ1 => openK P σ1.s σ1.n (evA σ1.t fo) (xo.map (evA σ1.t)) fun r s1 n1 => runO P T ops.toList (ops.toList.drop (i + 1)) { σ1 with t := putA o.dst r σ1.t, s := s1, n := n1 } fun σ' => Q .normal σ') :
    AWp P T c ro (.region id ops false) σ Q := by
  refine AWp.regionX (ops.toList.take i) (ops.toList.drop (i + 1)) o fo xo ?_ ho hg hok h
  obtain ⟨h1, h2⟩ := List.getElem?_eq_some_iff.1 hi
  rw [← h2, List.getElem_cons_drop, List.take_append_drop]
attribute [go_sem high] loadK_gL storeK_gL loadK_gL_cons storeK_gL_cons
attribute [go_sem] toAs_dat dAs_dat toC_gL toA_gL toC0_gL_cons lenK_gL_cons iaddrK_gL_cons toC0_gL_ne lenK_gL_ne iaddrK_gL_ne gL_nil gL_cons gL_app gS_nil gS_cons gS_app get_gS_ne set_gS_ne del_gS_ne del_gS_same lenK_gL toC0_gL iaddrK_gL ren_gL ren0_gL okR_gL ok0_gL subS_gS_nil subS_gS_1 subS_gS_2 subS_gS_3 gS_same gS_same' renF_gL retO_normal retO_ret renS_gS_nil gC_cons gC_same gAppK renF renFs renS renOF rhoL
end Go.Abs
end

section
set_option linter.unusedSimpArgs false
/- Calls that may panic. -/
set_option linter.unusedVariables false
set_option linter.unusedSimpArgs false
namespace Go.Abs
open Go.RowKit

section
variable {P : Program} {T : Tab} {c : Ctx} {ro : Option Nat}

/-- Data in, data out, or a panic of the program's own. -/
def PX (P : Program) (f : FuncId) (args : List AV) (R : AV → Prop) (X : Value → Prop) : Prop :=
  Enters P f ∧ ∀ (w : World) (A : Nat → Nat → Prop) (vs : List Value), GW A w → vs.length = args.length → (∀ j x, args[j]? = some x → RV φ0 0 A w x (vs.getD j undef)) →
    Calls P f vs.toArray w fun e w' => Below w.heap.size w w' ∧ ((∃ v r, e = .returned v ∧ R r ∧ RV φ0 0 (fun b o => A b o ∨ w.heap.size ≤ b) w' r v) ∨ ∃ v, e = .panicked [{ v := v, recovered := false }] ∧ X v)

theorem PCr.px {f : FuncId} {args : List AV} {R : AV → Prop} (h : PCr P f args R) : PX P f args R (fun _ => False) :=
  ⟨h.1, fun w A vs hg hl hv => (h.2 w A vs hg hl hv).mono fun e w' ⟨v, r, he, hr, hb, hrv⟩ => ⟨hb, .inl ⟨v, r, he, hr, hrv⟩⟩⟩
theorem PC.pcr {f : FuncId} {args : List AV} {r : AV} (h : PC P f args r) : PCr P f args (· = r) :=
  ⟨h.1, fun w A vs hg hl hv => (h.2 w A vs hg hl hv).mono fun e w' ⟨v, he, hb, hrv⟩ => ⟨v, r, he, rfl, hb, hrv⟩⟩
theorem PX.mono {f : FuncId} {args : List AV} {R R' : AV → Prop} {X X' : Value → Prop} (h : PX P f args R X) (hR : ∀ r, R r → R' r) (hX : ∀ v, X v → X' v) : PX P f args R' X' :=
  ⟨h.1, fun w A vs hg hl hv => (h.2 w A vs hg hl hv).mono fun e w' ⟨hb, he⟩ => ⟨hb, he.elim (fun ⟨v, r, h1, h2, h3⟩ => .inl ⟨v, r, h1, hR r h2, h3⟩) (fun ⟨v, h1, h2⟩ => .inr ⟨v, h1, hX v h2⟩)⟩⟩

def retX (T : Tab) (rs : List ResultVar) (R : AV → Prop) (X : Value → Prop) : Exit → St → Prop
  | .normal, σ => retK T rs σ R
  | .ret, σ => retK T rs σ R
  | .panic ch, σ => σ.d = 0 ∧ ∃ v, ch = [{ v := v, recovered := false }] ∧ X v
  | _, _ => False

theorem retX_normal {rs : List ResultVar} {R : AV → Prop} {X : Value → Prop} {σ : St} : retX T rs R X .normal σ = retK T rs σ R := rfl
theorem retX_ret {rs : List ResultVar} {R : AV → Prop} {X : Value → Prop} {σ : St} : retX T rs R X .ret σ = retK T rs σ R := rfl
theorem retX_panic {rs : List ResultVar} {R : AV → Prop} {X : Value → Prop} {σ : St} {v : Value} : retX T rs R X (.panic [{ v := v, recovered := false }]) σ = (σ.d = 0 ∧ X v) := by
  simp only [retX]
  refine propext ⟨fun ⟨h, u, h1, h2⟩ => ⟨h, ?_⟩, fun ⟨h, h2⟩ => ⟨h, v, rfl, h2⟩⟩
  cases h1; exact h2
theorem thenK_panic {K : St → Prop} {Q : Exit → St → Prop} {ch : List PanicEntry} {σ : St} : thenK K Q (.panic ch) σ = Q (.panic ch) σ := rfl
theorem blockK_panic {Q : Exit → St → Prop} {i : Nat} {ch : List PanicEntry} {σ : St} : blockK i Q (.panic ch) σ = Q (.panic ch) σ := rfl
theorem PX.of {f : FuncId} {fn : Func} {code : Code} {args : List AV} {R : AV → Prop} {X : Value → Prop} (hT : TabOk P T) (hf : P.funcs[f]? = some fn) (hb : fn.body = some code) (hn : (fn.name == "runtime.NumGoroutine") = false)
    (hargs : Nat.ble args.length fn.ntmps = true) (h : ∀ c : Ctx, c.N = fn.ntmps → (c.m = 0 ∧ c.fv = []) → AWp P T c none code { t := numA 0 args, s := [], n := 0 } (retX T fn.results.toList R X)) : PX P f args R X := by
  refine ⟨enters_of' hf hb hn, fun w A vs hgw hl hv => ?_⟩
  have hargs' : args.length ≤ fn.ntmps := Nat.le_of_ble_eq_true hargs
  refine (callsIn_wide (n := 0)).1 ?_
  show CallsIn (FF none) 0 P f vs.toArray w _
  refine callsIn_of_wp_marks hf hb trivial ?_
  let c0 : Ctx := { w0 := w, A0 := A, N := fn.ntmps }
  have hR : Rel c0 φ0 { t := numA 0 args, s := [], n := 0 } { tmps := vs.toArray ++ Array.replicate (fn.ntmps - vs.toArray.size) undef, defers := [] } w := by
    refine ⟨by simp [c0]; omega, ⟨rfl, by simp, by simp⟩, fun t => ?_, ⟨Below.refl _ _, fun i o h => by simp [get] at h, fun i j oi oj h => by simp [get] at h, KeepsOthers.refl _, fun _ _ _ h => h.elim, ⟨Nat.le_refl _, fun i hi => absurd hi (Nat.not_lt_zero _), by simp [c0]⟩, ⟨fun b ob h => by simp [c0] at h, fun b o h => h.elim⟩, hgw⟩⟩
    rw [lk_numA, if_pos (Nat.zero_le _), Nat.sub_zero]
    cases ha : args[t]? with
    | none => exact .und _
    | some x =>
      have hlt : t < vs.length := by have := (List.getElem?_eq_some_iff.1 ha).1; omega
      have e : (vs.toArray ++ Array.replicate (fn.ntmps - vs.toArray.size) undef).getD t undef = vs.getD t undef := by
        simp [List.getD, Array.getElem?_append, hlt]
      simp only [Option.getD_some]
      rw [e]
      exact (hv t x ha).keep (fun b o v hA hv => ⟨⟨⟨.inl hA, fun h => h⟩, fun i x h => by simp [get] at h⟩, hv⟩) (fun i hi => by omega) (Nat.le_refl _)
  refine wpIn_mono (h c0 rfl ⟨rfl, rfl⟩ hT φ0 _ w hR) fun e a' w' hc => ?_
  obtain ⟨φ', σ', hR', hQ⟩ := hc
  cases e with
  | normal => exact leave_ok (c := c0) hT hQ (fun w' r v hb hRr hrv => ⟨hb, .inl ⟨v, r, rfl, hRr, hrv⟩⟩) a'.defers _ σ'.d φ' a' w' rfl rfl hR'
  | ret => exact leave_ok (c := c0) hT hQ (fun w' r v hb hRr hrv => ⟨hb, .inl ⟨v, r, rfl, hRr, hrv⟩⟩) a'.defers _ σ'.d φ' a' w' rfl rfl hR'
  | panic ch =>
    obtain ⟨hd, v, rfl, hX⟩ := hQ
    have hds : a'.defers = [] := List.eq_nil_of_length_eq_zero (by rw [hR'.defers.1, hd])
    show LeavesInM (FF none) 0 P fn a'.tmps _ a'.defers (.panicking _) w'
    rw [hds]
    exact ⟨hR'.mem.below, .inr ⟨v, rfl, hX⟩⟩
  | _ => exact hQ.elim

def calleeX (P : Program) (s : Sto) (f : AV) (xs : List AV) (K : AV → Sto → Prop) (Y : Value → Sto → Prop) : Prop :=
  match f with
  | .dat (.fn g caps) => match toAs s (xs ++ caps.map .dat) with
    | some (ys, s1) => ∃ R X, PX P g ys R X ∧ (∀ r, R r → K r s1) ∧ ∀ v, X v → Y v s1
    | none => False
  | .clo g caps => match toAs s (xs ++ caps) with
    | some (ys, s1) => ∃ R X, PX P g ys R X ∧ (∀ r, R r → K r s1) ∧ ∀ v, X v → Y v s1
    | none => False
  | _ => False

theorem calleeX_ok {φ : Nat → Lay} {s : Sto} {n : Nat} {w : World} {f : AV} {xs : List AV} {K : AV → Sto → Prop} {Y : Value → Sto → Prop} (hm : Mem c φ s n w) {o : Oper} {a : Act} {fo : Operand} {xo : List Operand} (ho : callOf o.op = some (fo, xo))
    (hf : RV φ n (c.AA φ s) w f (a.eval fo)) (hx : xs.length = xo.length) (hxs : ∀ j x, xs[j]? = some x → RV φ n (c.AA φ s) w x ((xo.map a.eval).getD j undef)) (h : calleeX P s f xs K Y)
    {next : Act → World → Prop} {Q : Exit → Act → World → Prop}
    (hn : ∀ r s1 w1 v, K r s1 → Goes c φ s n w φ s1 n w1 → RV φ n (c.AA φ s1) w1 r v → next (a.put o.dst v) w1)
    (hp : ∀ v s1 w1, Y v s1 → Goes c φ s n w φ s1 n w1 → Q (.panic [{ v := v, recovered := false }]) a w1) : o.wpIn (FF ro) 0 P a w next Q := by
  have key : ∀ (g : FuncId) (caps : List AV) (cv : List Value), a.eval fo = .func (.func g) #[] cv.toArray → cv.length = caps.length → (∀ j x, caps[j]? = some x → RV φ n (c.AA φ s) w x (cv.getD j undef)) →
      (match toAs s (xs ++ caps) with | some (ys, s1) => ∃ R X, PX P g ys R X ∧ (∀ r, R r → K r s1) ∧ ∀ v, X v → Y v s1 | none => False) → o.wpIn (FF ro) 0 P a w next Q := by
    intro g caps cv hfv hcl hcv h
    split at h
    case h_2 => exact h.elim
    rename_i ys s1 hys
    obtain ⟨R, X, ⟨hent, hpc⟩, hK, hY⟩ := h
    obtain ⟨g1, l1, r1⟩ := toAs_ok hm hys
    have hlen : (xo.map a.eval).length = xs.length := by simp [hx]
    have hall : ∀ j x, (xs ++ caps)[j]? = some x → RV φ n (c.AA φ s) w x ((xo.map a.eval ++ cv).getD j undef) := fun j x hj => by
      by_cases hjl : j < xs.length
      · rw [List.getElem?_append_left hjl] at hj
        have := hxs j x hj
        simp only [List.getD] at this ⊢
        rw [List.getElem?_append_left (by omega)]; exact this
      · rw [List.getElem?_append_right (by omega)] at hj
        have := hcv _ _ hj
        simp only [List.getD] at this ⊢
        rw [List.getElem?_append_right (by omega), hlen]; exact this
    have hvs := r1 (xo.map a.eval ++ cv) hall
    have hcall := hpc w (c.AA φ s1) (xo.map a.eval ++ cv) g1.mem.gwAA (by simp [l1]; omega) (fun j y hj => (hvs j y hj).any)
    have hop : o.op = .call { callee := .value fo, args := xo.toArray, argTypes := (match o.op with | .call cl => cl.argTypes | _ => #[]) } := by
      unfold callOf at ho
      split at ho
      · rename_i cl hcl'
        split at ho
        · rename_i f' hc'
          cases ho
          rw [hcl']
          obtain ⟨callee, args, ats⟩ := cl
          simp only at hc'
          subst hc'
          simp
        · cases ho
      · cases ho
    refine ⟨fun _ _ => trivial, ?_⟩
    have hrun : (o.semAt ro a.eval).run P w = .ok (.enter g (xo.map a.eval ++ cv).toArray) w := by
      rw [Oper.semAt_eq _ _ _ (by rw [hop]; intro _ h; cases h)]
      obtain ⟨dst, op, ty, pos, after, guard⟩ := o
      simp only at hop
      rw [hop]
      simp [execOp, resolve, hfv, Deferred.ofValue, invoke]
      have := hent ((xo.map a.eval).toArray ++ cv.toArray) w
      simpa using this
    show o.uponIn (FF ro) 0 P a next Q ((o.semAt ro a.eval).run P w)
    rw [hrun, Oper.uponIn_enter]
    refine ⟨fun h => by simp [FF] at h, callsIn_FF (hcall.mono fun e w' he => ?_)⟩
    obtain ⟨hb, ⟨v, r, rfl, hRr, hrv⟩ | ⟨v, rfl, hXv⟩⟩ := he
    · have g2 := g1.mem.grown hb
      refine hn r s1 w' v (hK r hRr) (g1.trans g2) (hrv.keep (fun b q u hA hu => ?_) (fun i hi => by omega) (Nat.zero_le _))
      rcases hA with hA | hA
      · exact ⟨hA, hu⟩
      · refine ⟨⟨⟨.inr (Nat.le_trans g1.mem.below.size hA), g1.mem.nhid_new hA _⟩, fun i x hi hb' => ?_⟩, hu⟩
        have := (g1.mem.obj i x hi).2.2.lt
        omega
    · exact hp v s1 w' (hY v hXv) (g1.trans (g1.mem.grown hb))
  unfold calleeX at h
  split at h
  · rename_i g caps
    generalize hv : a.eval fo = fv at hf
    cases hf with
    | dat _ _ hd =>
      cases hd with
      | fn _ _ vs hl hcv =>
        exact key g (caps.map .dat) vs hv (by simp [hl]) (fun j x hj => by
          rw [List.getElem?_map] at hj
          cases hq : caps[j]? with
          | none => rw [hq] at hj; simp at hj
          | some d => rw [hq] at hj; simp at hj; subst hj; exact .dat _ _ (hcv j d hq)) h
  · rename_i g caps
    generalize hv : a.eval fo = fv at hf
    cases hf with
    | clo _ _ vs hl hcv => exact key g caps vs hv hl hcv h
  · exact h.elim

/-- A region with a call that may panic. -/
theorem AWp.regionP {id : Nat} {ops : Array Oper} {σ : St} {Q : Exit → St → Prop} (i : Nat) {o : Oper} {fo : Operand} {xo : List Operand} (hi : ops.toList[i]? = some o) (ho : callOf o.op = some (fo, xo)) (hg : o.guard = none)
    (hok : ops.toList.all (dstOk c.N) = true)
    (h : runO P T ops.toList (ops.toList.take i) σ fun σ1 => calleeX P σ1.s (evA σ1.t fo) (xo.map (evA σ1.t)) (fun r s1 => runO P T ops.toList (ops.toList.drop (i + 1)) { σ1 with t := putA o.dst r σ1.t, s := s1 } fun σ' => Q .normal σ')
      fun v s1 => Q (.panic [{ v := v, recovered := false }]) { σ1 with s := s1 }) :
    AWp P T c ro (.region id ops false) σ Q := by
  intro hT φ a w hR
  refine wpIn_region_list ?_
  have hops : ops.toList = ops.toList.take i ++ o :: ops.toList.drop (i + 1) := by
    obtain ⟨h1, h2⟩ := List.getElem?_eq_some_iff.1 hi
    rw [← h2, List.getElem_cons_drop, List.take_append_drop]
  generalize hpre : ops.toList.take i = pre at *
  generalize hpost : ops.toList.drop (i + 1) = post at *
  rw [hops] at hok
  simp only [List.all_append, List.all_cons, Bool.and_eq_true] at hok
  obtain ⟨hok1, hok2, hok3⟩ := hok
  have key := runO_then (c := c) (ro := ro) (Q := Conc c Q) hT ops.toList (o :: post) pre σ φ a w _ hok1 hR h (fun φ1 σ1 a1 w1 hK hR1 => by
    unfold wpListIn
    have : Region.wanted o (yielded ops.toList.toArray a1.tmps) = true := by simp [Region.wanted, hg]
    rw [if_pos this]
    refine calleeX_ok hR1.mem ho (hR1.ev fo) (by simp) (fun j x hj => ?_) hK (fun r s2 w2 v hK2 g2 hrv => ?_) (fun v s2 w2 hY g2 => ?_)
    · rw [List.getElem?_map] at hj
      cases hq : xo[j]? with
      | none => rw [hq] at hj; simp at hj
      | some q =>
        rw [hq] at hj; simp at hj; subst hj
        have : (xo.map a1.eval).getD j undef = a1.eval q := by simp only [List.getD, List.getElem?_map, hq, Option.map_some, Option.getD_some]
        rw [this]; exact hR1.ev q
    · exact runO_ok (ro := ro) hT ops.toList post _ φ1 _ w2 _ (Conc c Q) hok3 (hR1.put g2 hrv (fun d hd'' => by have := hok2; unfold dstOk at this; rw [hd''] at this; exact Nat.blt_eq.mp this)) hK2 (fun φ' σ' a' w' hK hR' => ⟨φ', σ', hR', hK⟩)
    · exact ⟨φ1, { σ1 with s := s2 }, ⟨hR1.size, hR1.defers.keep g2.oth, fun t => g2.rv (hR1.tm t), g2.mem⟩, hY⟩)
  rw [← hops] at key
  simpa using key

/-- A region that ends in a panic. -/
theorem AWp.regionPanic {id : Nat} {ops : Array Oper} {σ : St} {Q : Exit → St → Prop} (i : Nat) {o : Oper} {x : Operand} (hi : ops.toList[i]? = some o) (ho : o.op = .panic x) (hg : o.guard = none) (hok : (ops.toList.take i).all (dstOk c.N) = true)
    (h : runO P T ops.toList (ops.toList.take i) σ fun σ1 => ∃ t g cs, evA σ1.t x = .dat (.ifc t g cs) ∧ ∀ v, (∃ φ n A w, RV φ n A w (.dat (.ifc t g cs)) v) → Q (.panic [{ v := v, recovered := false }]) σ1) : AWp P T c ro (.region id ops false) σ Q := by
  intro hT φ a w hR
  refine wpIn_region_list ?_
  have hops : ops.toList = ops.toList.take i ++ o :: ops.toList.drop (i + 1) := by
    obtain ⟨h1, h2⟩ := List.getElem?_eq_some_iff.1 hi
    rw [← h2, List.getElem_cons_drop, List.take_append_drop]
  generalize hpre : ops.toList.take i = pre at *
  generalize hpost : ops.toList.drop (i + 1) = post at *
  have key := runO_then (c := c) (ro := ro) (Q := Conc c Q) hT ops.toList (o :: post) pre σ φ a w _ hok hR h (fun φ1 σ1 a1 w1 hK hR1 => by
    unfold wpListIn
    have : Region.wanted o (yielded ops.toList.toArray a1.tmps) = true := by simp [Region.wanted, hg]
    rw [if_pos this]
    refine ⟨fun _ _ => trivial, ?_⟩
    have hv := hR1.ev x
    obtain ⟨t, g, cs, hx, hK⟩ := hK
    rw [hx] at hv
    have hQ := hK _ ⟨_, _, _, _, hv⟩
    obtain ⟨u, hu⟩ : ∃ u, a1.eval x = .iface t u := by
      generalize a1.eval x = v at hv
      cases hv with | dat _ _ h => cases h with | ifc _ _ _ vs => exact ⟨_, rfl⟩
    have hrun : (o.semAt ro a1.eval).run P w1 = .halt (.panic (a1.eval x)) w1 := by
      rw [Oper.semAt_eq _ _ _ (by rw [ho]; intro _ h; cases h)]
      obtain ⟨dst, op, ty, pos, after, guard⟩ := o
      simp only at ho
      rw [ho]
      simp [execOp, Instr.panic, hu]
    show o.uponIn (FF ro) 0 P a1 _ _ ((o.semAt ro a1.eval).run P w1)
    rw [hrun, Oper.uponIn_panic]
    exact ⟨φ1, σ1, hR1, hQ⟩)
  rw [← hops] at key
  simpa using key

end
attribute [go_sem] retX_normal retX_ret retX_panic thenK_panic blockK_panic calleeX
end Go.Abs
end

section
set_option linter.unusedSimpArgs false
/- Operations on one builder of a string: a region with one operation of another kind, an append of a string's bytes, an object that knows its type. -/
set_option linter.unusedVariables false
set_option linter.unusedSimpArgs false
namespace Go.Abs
open Go.RowKit Go.Lib

section
variable {P : Program} {T : Tab} {c : Ctx} {φ : Nat → Lay} {s : Sto} {n : Nat} {w : World}

/-- A region with one operation that is proved by itself. -/
theorem AWp.regionStp {ro : Option Nat} {id : Nat} {ops : Array Oper} {σ : St} {Q : Exit → St → Prop} (i : Nat) {o : Oper} (Kop : St → (AV → Sto → Nat → Prop) → Prop) (hi : ops.toList[i]? = some o) (hg : o.guard = none) (hcl : ∀ cl, o.op ≠ .defer cl)
    (hstp : ∀ (φ : Nat → Lay) (a : Act) (w : World) (σ1 : St) (K : AV → Sto → Nat → Prop), TabOk P T → Rel c φ σ1 a w → Kop σ1 K → Stp P c φ σ1.s σ1.n w (execOp a.eval o) K)
    (hok : ops.toList.all (dstOk c.N) = true)
    (h : runO P T ops.toList (ops.toList.take i) σ fun σ1 => Kop σ1 fun r s1 n1 => runO P T ops.toList (ops.toList.drop (i + 1)) { σ1 with t := putA o.dst r σ1.t, s := s1, n := n1 } fun σ' => Q .normal σ') :
    AWp P T c ro (.region id ops false) σ Q := by
  intro hT φ a w hR
  refine wpIn_region_list ?_
  have hops : ops.toList = ops.toList.take i ++ o :: ops.toList.drop (i + 1) := by
    obtain ⟨h1, h2⟩ := List.getElem?_eq_some_iff.1 hi
    rw [← h2, List.getElem_cons_drop, List.take_append_drop]
  rw [hops] at hok
  simp only [List.all_append, List.all_cons, Bool.and_eq_true] at hok
  obtain ⟨hok1, hok2, hok3⟩ := hok
  have key := runO_then (c := c) (ro := ro) (Q := Conc c Q) hT ops.toList (o :: ops.toList.drop (i + 1)) (ops.toList.take i) σ φ a w _ hok1 hR h (fun φ1 σ1 a1 w1 hK hR1 => by
    unfold wpListIn
    have : Region.wanted o (yielded ops.toList.toArray a1.tmps) = true := by simp [Region.wanted, hg]
    rw [if_pos this]
    obtain ⟨r, z, nx, φ', s', n', w', hr, hnx, g, rv, hK2⟩ := hstp φ1 a1 w1 σ1 _ hT hR1 hK
    have hsem : (o.semAt ro a1.eval).run P w1 = .ok nx w' := by
      rw [Oper.semAt_eq]
      · exact hr
      · exact fun cl h => hcl cl h
    have hput := hR1.put g rv (dst := o.dst) (fun d hd'' => by have := hok2; unfold dstOk at this; rw [hd''] at this; exact Nat.blt_eq.mp this)
    have hgo := runO_ok (ro := ro) hT ops.toList (ops.toList.drop (i + 1)) _ φ' _ w' _ (Conc c Q) hok3 hput hK2 (fun φ' σ' a' w' hK hR' => ⟨φ', σ', hR', hK⟩)
    refine ⟨fun _ _ => trivial, ?_⟩
    show o.uponIn (FF ro) 0 P a1 _ _ ((o.semAt ro a1.eval).run P w1)
    rw [hsem]
    rcases hnx with rfl | ⟨rfl, rfl⟩
    · exact hgo
    · exact hgo)
  rw [← hops] at key
  simpa using key

/-- A string's bytes as a row's elements. -/
def strEs (b : ByteArray) : List (List DV) := b.data.toList.map fun x => [DV.int .u8 x.toNat]
theorem strEs_len (b : ByteArray) : (strEs b).length = b.size := by
  rw [strEs, List.length_map, Array.length_toList]; rfl
theorem strEs_one (b : ByteArray) : ∀ el ∈ strEs b, el.length = 1 := fun el h => by
  simp only [strEs, List.mem_map] at h
  obtain ⟨x, _, rfl⟩ := h
  rfl
theorem strEs_rd {A : Nat → Nat → Prop} {w : World} (b : ByteArray) {k q : Nat} {el : List DV} {d : DV} (hk : (strEs b)[k]? = some el) (hq : el[q]? = some d) : q = 0 ∧ k < b.size ∧ RD A w d ((strCells b).getD k undef) := by
  simp only [strEs, List.getElem?_map, Option.map_eq_some_iff] at hk
  obtain ⟨x, hx, rfl⟩ := hk
  have hq0 : q = 0 := by
    rcases q with _ | q
    · rfl
    · simp at hq
  subst hq0
  simp at hq; subst hq
  refine ⟨rfl, ?_, ?_⟩
  · have := (List.getElem?_eq_some_iff.1 hx).1
    rw [Array.length_toList] at this; exact this
  · have : (strCells b).getD k undef = .int .u8 x.toNat := by
      simp only [List.getD, strCells, List.getElem?_map, hx, Option.map_some, Option.getD_some]
    rw [this]; exact .int _ _

theorem run_append_nil_string (t u ty e : TypeId) (i : TypeInfo) (z : Value) (ht : P.underlying t = some (.slice e)) (hu : P.underlying u = some .string) (hi : P.info? e = some i) (hz : i.zero = some z)
    (b : ByteArray) (hg : 0 < b.size) (h63 : (b.size : Int) ≤ 9223372036854775807) (hfit : Builtin.nextslicecap b.size 0 * i.bytes ≤ 281474976710656) :
    (Builtin.append_ #[t, u] ty #[.slice none 0 0, .string b]).run P w =
      .ok (.slice (some ⟨w.heap.size, 0, none⟩) b.size (grownCap w b.size 0 e)) (w.drew.alloc (.cells ((strCells b).toArray ++ Builtin.zeroCells z.cells (grownCap w b.size 0 e - b.size)) e)) := by
  have hn : ¬ (b.size = 0) := by omega
  have h63' : ¬ (9223372036854775807 < (b.size : Int)) := by omega
  have h48' : ¬ (281474976710656 < Builtin.nextslicecap b.size 0 * i.bytes) := by omega
  have hf := run_firstCells_string (P := P) w.drew i.size b
  have hf0 : (Builtin.firstCells i.size 0 (.slice none 0 0)).run P w.drew = .ok #[] w.drew := by simp [Builtin.firstCells, loadCells, loadCellsFrom]
  simp [Builtin.append_, run_underlying ht, run_underlying hu, sizeOf, typeInfo, zeroValue, hi, hz, Builtin.lenOf, hn, h63', h48', Question.forced, hf, hf0, newRow, grownCap]

/-- An append of a string's bytes onto a slice that grows. -/
def gAppS (T : Tab) (t u : TypeId) (k : Nat) (es : List (List DV)) (y : AV) (s : Sto) (n : Nat) (K : AV → Sto → Nat → Prop) : Prop :=
  match tget t T, tget u T, y with
  | some i, some iu, .dat (.str b) => match i.desc, iu.desc with
    | .slice e, .string => match tget e T with
      | some j => j.bytes ≤ 128 ∧ j.zv.cells.size = 1 ∧ j.zv.cells.toList.all Value.oneCell' = true ∧ j.size = 1 ∧ gC e 1 k es false s ∧ 0 < b.size ∧
          es.length + b.size ≤ 1099511627776 ∧ K (.own n) ((n, .row e 1 (es ++ strEs b) false) :: del k s) (n + 1)
      | none => False
    | _, _ => False
  | _, _, _ => False

theorem appS_g (hT : TabOk P T) {t u ty : TypeId} {k : Nat} {es : List (List DV)} {y : AV} {uv v : Value} {K : AV → Sto → Nat → Prop} (hm : Mem c φ s n w) (hx : RV φ n (c.AA φ s) w (gL k es) uv) (hy : RV φ n (c.AA φ s) w y v) (h : gAppS T t u k es y s n K) :
    Ope P c φ s n w (Builtin.append_ #[t, u] ty #[uv, v]) K := by
  unfold gAppS at h
  split at h
  case h_2 => exact h.elim
  rename_i i iu b hti htu
  split at h
  case h_2 => exact h.elim
  rename_i e hd hdu
  split at h
  case h_2 => exact h.elim
  rename_i j hj
  obtain ⟨hby, hzs, hz1, hsz1, hgC, hpos, hlc, h⟩ := h
  have ht := (hT _ _ hti).2; rw [hd] at ht
  have hu := (hT _ _ htu).2; rw [hdu] at hu
  obtain ⟨inf, hi, hiz, his, hib⟩ := (hT _ _ hj).info
  have hz1' : ∀ u ∈ j.zv.cells.toList, u.oneCell' = true := fun u hu => (List.all_eq_true.1 hz1) u hu
  have hbytes : ∀ m, m ≤ 1099511627776 → m * inf.bytes ≤ 140737488355328 := fun m hm => by
    rw [hib]
    calc m * j.bytes ≤ 1099511627776 * 128 := Nat.mul_le_mul hm hby
      _ = 140737488355328 := by decide
  cases hy.str
  by_cases he : es = []
  · subst he
    simp only [gL, if_true] at hx
    cases hx
    rw [hgC.1 rfl] at h
    simp only [List.nil_append, List.length_nil, Nat.zero_add] at h hlc
    have hrun := run_append_nil_string (P := P) (w := w) t u ty e inf j.zv ht hu hi hiz b hpos (by omega) (growslice_fits (by omega) (hbytes _ (by omega)))
    have g1 := hm.grown (w' := w.drew) ((Below.refl _ w).drew)
    have hge := grownCap_ge w b.size 0 e
    have g2 := new_row g1.mem ((strCells b).toArray ++ Builtin.zeroCells j.zv.cells (grownCap w b.size 0 e - b.size)) e 1 b.size (grownCap w b.size 0 e) (strEs b) false (by omega) (strEs_one b) (strEs_len b)
      (by simp only [Array.size_append, List.size_toArray, strCells_length, size_zeroCells, hzs, Nat.mul_one]; omega) hge (grownCap_le_maxLen w _ _ e (by simp only [maxLen]; omega))
      (fun u hu => by
        simp only [Array.toList_append, List.mem_append] at hu
        rcases hu with hu | hu
        · exact strCells_oneCell b u (by simpa using hu)
        · exact zeroCells_one _ _ hz1' (by omega) u hu)
      (fun k el q d hk hq => by
        obtain ⟨rfl, h2, h3⟩ := strEs_rd (A := c.AA φ s) (w := w) b hk hq
        have : ((strCells b).toArray ++ Builtin.zeroCells j.zv.cells (grownCap w b.size 0 e - b.size)).toList.getD (k * 1 + 0) undef = (strCells b).getD k undef := by
          simp [List.getD, List.getElem?_append, strCells_length, h2]
        rw [this]
        exact h3.keep g1.keeps)
    refine ⟨.own n, _, _, _, _, _, hrun, g1.trans g2, ?_, h⟩
    have := RV.own (φ := upd φ n { b := w.drew.heap.size, len := b.size, cap := grownCap w b.size 0 e, sz := 1 }) (n := n + 1) (A := c.AA (upd φ n { b := w.drew.heap.size, len := b.size, cap := grownCap w b.size 0 e, sz := 1 }) ((n, .row e 1 (strEs b) false) :: s)) (w := w.drew.alloc (.cells ((strCells b).toArray ++ Builtin.zeroCells j.zv.cells (grownCap w b.size 0 e - b.size)) e)) n (by omega)
    rw [upd_new] at this
    exact this
  · simp only [gL, he, if_false] at hx
    have hk := hgC.2 he
    obtain ⟨hb, hn, hz, hsz, hes, hlen, cur, hh, hcl, hlc2, hml, h1, hv⟩ := hm.obj k _ hk
    cases hx with
    | own _ _ =>
    rw [Nat.mul_one] at hcl
    have hallsz : ∀ e ∈ es ++ strEs b, e.length = 1 := fun e he' => by
      rcases List.mem_append.1 he' with h | h
      · exact hes e h
      · exact strEs_one b e h
    have hsl := strEs_len b
    have hscl := strCells_length b
    by_cases hroom : (φ k).len + b.size ≤ (φ k).cap
    · have hrun := run_append_room_string (P := P) (w := w) t u ty e inf ht hu hi (by rw [his, hsz1]) (φ k).b (φ k).len (φ k).cap cur.toArray hh b hroom (by simp; omega)
      rw [← hlen] at hrun
      have g := hm.renew (w' := w.setRow (φ k).b (cur.take es.length ++ strCells b ++ cur.drop (es.length + b.size)).toArray) (o' := .row e 1 (es ++ strEs b) false) hk
        { b := (φ k).b, len := es.length + b.size, cap := (φ k).cap, sz := 1 } rfl (fun off hp => by cases hp.1) (below_setRow' hm.below hb _) (fun b' hb' => setRow_other _ _ _ _ hb')
        (fun off v' hp hv' => by cases hp.1)
        (fun hkp => by
          simp only [ObjOk, upd_new]
          refine ⟨hz, trivial, hallsz, by simp [hsl], _, setRow_heap _ _ _ _ _ _ hh, ?_, by omega, hml, fun u hu => ?_, fun k' el q d hk' hq => ?_⟩
          · simp only [List.length_append, List.length_take, List.length_drop, hscl]; omega
          · rw [← hscl] at hu
            rcases splice_mem hu with h' | h'
            · exact h1 u h'
            · exact strCells_oneCell b u h'
          · have hsp := splice_getD cur (strCells b) es.length (k' * 1 + q) undef (by omega)
            rw [hscl] at hsp
            rw [hsp]
            rcases news_get hes (strEs_one b) hk' hq with ⟨a1, a2, a3⟩ | ⟨a1, a2, a3, a4, a5⟩
            · rw [if_neg (by omega)]; exact (hv _ _ _ _ a2 hq).keep hkp
            · obtain ⟨rfl, h2, h3⟩ := strEs_rd (A := c.AA φ s) (w := w) b a2 hq
              rw [if_pos (by omega)]
              have : k' * 1 + 0 - es.length = k' - es.length := by omega
              rw [this]
              exact h3.keep hkp)
      refine ⟨.own n, _, _, _, _, _, by rw [← hlen]; exact hrun, g, ?_, h⟩
      have := RV.own (φ := upd φ n { b := (φ k).b, len := es.length + b.size, cap := (φ k).cap, sz := 1 }) (n := n + 1) (A := c.AA (upd φ n { b := (φ k).b, len := es.length + b.size, cap := (φ k).cap, sz := 1 }) ((n, .row e 1 (es ++ strEs b) false) :: del k s))
        (w := w.setRow (φ k).b (cur.take es.length ++ strCells b ++ cur.drop (es.length + b.size)).toArray) n (by omega)
      rw [upd_new] at this
      exact this
    · have holds : ∀ q v, (cur.take es.length)[q]? = some v → w.cell? ((⟨(φ k).b, 0, none⟩ : Addr).add q) = some v := fun q v hq => by
        rw [Addr.add_lit, Nat.zero_add, cell_of_row w _ _ _ _ _ hh]
        rw [List.getElem?_take] at hq
        split at hq
        · simpa using hq
        · cases hq
      have hrun := run_append_grow_string (P := P) (w := w) t u ty e inf j.zv ht hu hi hiz ⟨(φ k).b, 0, none⟩ (φ k).len (φ k).cap (cur.take es.length) (by rw [his, ← hlen, hsz1]; simp; omega) holds b (by omega) (by omega) (growslice_fits (by omega) (hbytes _ (by omega)))
      rw [← hlen] at hrun
      have g0 := hm.drop k
      have g1 := g0.mem.grown (w' := w.drew) ((Below.refl _ w).drew)
      have g01 := g0.trans g1
      have hge := grownCap_ge w (es.length + b.size) (φ k).cap e
      have g2 := new_row g1.mem ((cur.take es.length).toArray ++ (strCells b).toArray ++ Builtin.zeroCells j.zv.cells (grownCap w (es.length + b.size) (φ k).cap e - (es.length + b.size))) e 1
        (es.length + b.size) (grownCap w (es.length + b.size) (φ k).cap e) (es ++ strEs b) false (by omega) hallsz (by simp [hsl])
        (by simp only [Array.size_append, List.size_toArray, hscl, size_zeroCells, hzs, List.length_take]; omega) hge (grownCap_le_maxLen w _ _ e (by simp only [maxLen]; omega))
        (fun u hu => by
          simp only [Array.toList_append, List.mem_append] at hu
          rcases hu with (hu | hu) | hu
          · exact h1 u (List.mem_of_mem_take (by simpa using hu))
          · exact strCells_oneCell b u (by simpa using hu)
          · exact zeroCells_one _ _ hz1' (by omega) u hu)
        (fun k' el q d hk' hq => by
          have hmin : min es.length cur.length = es.length := by omega
          simp only [Array.toList_append, List.append_assoc]
          rcases news_get hes (strEs_one b) hk' hq with ⟨a1, a2, a3⟩ | ⟨a1, a2, a3, a4, a5⟩
          · have : ((cur.take es.length) ++ (strCells b ++ (Builtin.zeroCells j.zv.cells (grownCap w (es.length + b.size) (φ k).cap e - (es.length + b.size))).toList)).getD (k' * 1 + q) undef = cur.getD (k' * 1 + q) undef := by
              simp only [List.getD]
              rw [List.getElem?_append_left (by simp; omega), List.getElem?_take, if_pos (by omega)]
            rw [this]
            exact (hv _ _ _ _ a2 hq).keep g01.keeps
          · obtain ⟨rfl, h2, h3⟩ := strEs_rd (A := c.AA φ s) (w := w) b a2 hq
            have : ((cur.take es.length) ++ (strCells b ++ (Builtin.zeroCells j.zv.cells (grownCap w (es.length + b.size) (φ k).cap e - (es.length + b.size))).toList)).getD (k' * 1 + 0) undef = (strCells b).getD (k' - es.length) undef := by
              simp only [List.getD]
              rw [List.getElem?_append_right (by simp; omega), List.length_take, hmin, List.getElem?_append_left (by rw [hscl]; omega)]
              congr 2; omega
            rw [this]
            exact h3.keep g01.keeps)
      refine ⟨.own n, _, _, _, _, _, by rw [← hlen]; exact hrun, g01.trans g2, ?_, h⟩
      have := RV.own (φ := upd φ n { b := w.drew.heap.size, len := es.length + b.size, cap := grownCap w (es.length + b.size) (φ k).cap e, sz := 1 }) (n := n + 1)
        (A := c.AA (upd φ n { b := w.drew.heap.size, len := es.length + b.size, cap := grownCap w (es.length + b.size) (φ k).cap e, sz := 1 }) ((n, .row e 1 (es ++ strEs b) false) :: del k s))
        (w := w.drew.alloc (.cells ((cur.take es.length).toArray ++ (strCells b).toArray ++ Builtin.zeroCells j.zv.cells (grownCap w (es.length + b.size) (φ k).cap e - (es.length + b.size))) e)) n (by omega)
      rw [upd_new] at this
      exact this

/-- An own row that is dropped, and whose block is turned. -/
theorem Mem.spoil (h : Mem c φ s n w) {w' : World} {k : Nat} {o : Obj'} (hk : get k s = some o) (hp : ∀ off, ¬ o.permits off) (hb : Below c.w0.heap.size c.w0 w') (hoth : ∀ b, b ≠ (φ k).b → w'.heap[b]? = w.heap[b]?) (hlt : (φ k).b < w'.heap.size) :
    Goes c φ s n w φ (del k s) n w' := by
  have hget : ∀ i x, get i (del k s) = some x → i ≠ k ∧ get i s = some x := by
    intro i x hx
    rw [get_del] at hx
    by_cases hi' : i = k
    · simp [hi'] at hx
    · rw [if_neg hi'] at hx; exact ⟨hi', hx⟩
  have hkp : Keeps (c.AA φ s) w (c.AA φ (del k s)) w' := by
    intro b off v ha hv
    refine ⟨⟨ha.1, fun i x hx he => ha.2 i x (hget i x hx).2 he⟩, ?_⟩
    by_cases hbb : b = (φ k).b
    · subst hbb; exact absurd (ha.2 k o hk rfl) (hp _)
    · rw [World.cell?_of_block (w := w) (hoth b hbb)]; exact hv
  have hoth' : KeepsOthers w w' := othersOf (h.obj k o hk).2.2 hlt hoth
  refine ⟨fun _ _ => rfl, Nat.le_refl _, hkp, ⟨hb, fun i x hx => ?_, fun i j oi oj hoi hoj he => ?_, h.oth.trans hoth', fun b o v hp => hkp b o v (h.pin b o v hp).1 (h.pin b o v hp).2, h.fv_keep hkp (fun _ _ => rfl) (Nat.le_refl _), h.hld.keep (fun b ob hb _ => hoth b fun e => (h.hld.1 b ob hb).2.2 k o hk e.symm) fun i x hx => .inl ⟨i, x, (hget i x hx).2, rfl⟩, h.gw⟩, hoth'⟩
  · obtain ⟨h2, h3⟩ := hget i x hx
    obtain ⟨a1, a2, a3⟩ := h.obj i x h3
    exact ⟨a1, a2, a3.keep hkp (fun _ _ => rfl) a2 (Nat.le_refl _) (hoth _ (fun e => h2 (h.inj i k x o h3 hk e)))⟩
  · exact h.inj i j oi oj (hget i oi hoi).2 (hget j oj hoj).2 he

/-- A new variable that knows its type. -/
theorem allocT_ok (hT : TabOk P T) {t : TypeId} {i : TI} {K : AV → Sto → Nat → Prop} (hm : Mem c φ s n w) (ht : tget t T = some i) (h1 : i.zv.cells.toList.all Value.oneCell' = true)
    (h : K (.ptr n 0) ((n, .box (i.zv.cells.toList.map constA) false (some t)) :: s) (n + 1)) : Ope P c φ s n w (Instr.alloc t true (.tuple #[])) K := by
  refine ⟨_, _, _, _, _, _, ?_, hm.alloc (.box (i.zv.cells.toList.map constA) false (some t)) (.cells i.zv.cells t) { b := w.heap.size } rfl fun hk => ⟨i.zv.cells.toList, t, ?_, by simp, fun u hu => (List.all_eq_true.1 h1) u hu, fun j x hj => ?_⟩, .ptr n 0 (by omega), h⟩
  · rw [upd_new]
    simp [Instr.alloc, run_zero' (hT _ _ ht), newVar, newRow]
  · rw [upd_new]
    simpa using heap_alloc_new w (.cells i.zv.cells t)
  · rw [List.getElem?_map] at hj
    cases hc : i.zv.cells.toList[j]? with
    | none => rw [hc] at hj; simp at hj
    | some o =>
      rw [hc] at hj; simp at hj; subst hj
      have : i.zv.cells.toList.getD j undef = o := by simp only [List.getD, hc, Option.getD_some]
      rw [this]; exact constA_rv o
end
end Go.Abs
end

section
set_option linter.unusedSimpArgs false
/- Regions that draw their order: a plan whose end is a tree of orders. A cut between two parts of code. -/
set_option linter.unusedVariables false
set_option linter.unusedSimpArgs false
namespace Go.Abs
open Go.RowKit

inductive Tr where
  | fin | no
  | br (i : Nat) (t rest : Tr)

def Tr.find : Tr → Nat → Option Tr
  | .br i t rest, j => bif Nat.beq i j then some t else rest.find j
  | _, _ => none
def Tr.isFin : Tr → Bool
  | .fin => true
  | _ => false

section
variable {P : Program} {T : Tab} {c : Ctx} {ro : Option Nat}

def treeOk (ops : Array Oper) : Nat → Array Bool → Tr → Bool
  | 0, listed, t => (Region.ready .any ops listed).isEmpty && t.isFin
  | f + 1, listed, t => !(Region.ready .any ops listed).isEmpty && (Region.ready .any ops listed).all fun i => match t.find i with
    | some t' => treeOk ops f (listed.setIfInBounds i true) t'
    | none => false

def treeK (P : Program) (T : Tab) (ops : Array Oper) : Tr → St → (St → Prop) → Prop
  | .fin, σ, X => X σ
  | .no, _, _ => True
  | .br i t rest, σ, X => opQ P T ops i σ (fun σ' => treeK P T ops t σ' X) ∧ treeK P T ops rest σ X

theorem treeK_find {ops : Array Oper} {X : St → Prop} {σ : St} : ∀ {t : Tr} {i : Nat} {t' : Tr}, t.find i = some t' → treeK P T ops t σ X → opQ P T ops i σ (fun σ' => treeK P T ops t' σ' X)
  | .br j t rest, i, t', hf, h => by
    unfold Tr.find at hf
    cases hb : Nat.beq j i with
    | true =>
      rw [hb, cond_true] at hf
      cases hf
      rw [← Nat.eq_of_beq_eq_true hb]; exact h.1
    | false =>
      rw [hb, cond_false] at hf
      exact treeK_find hf h.2
  | .fin, _, _, hf, _ => by cases hf
  | .no, _, _, hf, _ => by cases hf

theorem tree_any {ops : Array Oper} {X : St → Prop} : ∀ (f : Nat) (listed : Array Bool) (t : Tr) (σ : St), treeOk ops f listed t = true → treeK P T ops t σ X → anyK P T ops X f listed σ
  | 0, listed, t, σ, hok, h => by
    unfold treeOk at hok
    simp only [Bool.and_eq_true] at hok
    cases t with
    | fin => exact ⟨by simpa using hok.1, h⟩
    | no => cases hok.2
    | br _ _ _ => cases hok.2
  | f + 1, listed, t, σ, hok, h => by
    unfold treeOk at hok
    simp only [Bool.and_eq_true, List.all_eq_true] at hok
    intro fr
    refine ⟨fun h0 => by rw [h0] at hok; simp at hok, fun i hi => ?_⟩
    have := hok.2 i hi
    split at this
    · rename_i t' ht
      exact opQ_mono (fun σ' h' => tree_any f _ t' σ' this h') (treeK_find ht h)
    · cases this

def takesOk (ops : Array Oper) (t : Tr) (f : Nat) : List Nat → Array Bool → Bool
  | [], listed => treeOk ops f listed t
  | i :: l, listed => takeOk ops listed i && takesOk ops t f l (listed.setIfInBounds i true)
def takesK (P : Program) (T : Tab) (ops : Array Oper) (t : Tr) : List Nat → St → (St → Prop) → Prop
  | [], σ, X => treeK P T ops t σ X
  | i :: l, σ, X => takeQ P T ops i σ fun σ' => takesK P T ops t l σ' X

theorem takes_any {ops : Array Oper} {X : St → Prop} (hX : ∀ σ σ', Ext σ σ' → X σ → X σ') (t : Tr) (f : Nat) : ∀ (l : List Nat) (listed : Array Bool) (σ : St), takesOk ops t f l listed = true → Closed ops listed → takesK P T ops t l σ X → anyK P T ops X (l.length + f) listed σ
  | [], listed, σ, hok, hc, h => by
    rw [show ([] : List Nat).length + f = f by simp]
    exact tree_any f listed t σ hok h
  | i :: l, listed, σ, hok, hc, h => by
    simp only [takesOk, Bool.and_eq_true] at hok
    obtain ⟨h1, h2⟩ := hok
    unfold takeOk at h1
    rw [show (i :: l).length + f = (l.length + f) + 1 by simp; omega]
    split at h1
    · cases h1
    · rename_i oi hi
      simp only [Bool.and_eq_true, List.all_eq_true, List.mem_range, Bool.or_eq_true] at h1
      obtain ⟨⟨hq, hr⟩, hall⟩ := h1
      have hr : i ∈ Region.ready .any ops listed := by simpa using hr
      obtain ⟨r, hO, hx⟩ := takeQ_out hi hq h
      refine anyK_take hX hi hq (l.length + f) listed σ hc (fun j oj hj hji hun => ?_) hr hO (takes_any hX t f l _ _ h2 (hc.set hr) hx)
      have := hall j (Array.getElem?_eq_some_iff.1 hj).1
      simp only [hj, Bool.or_eq_true, Bool.and_eq_true] at this
      rcases this with (h0 | h0) | h0
      · exact absurd (Nat.eq_of_beq_eq_true h0) hji
      · rw [hun] at h0; cases h0
      · rcases h0 with h0 | h0
        · exact .inl ⟨_, h0⟩
        · refine .inr ⟨h0.1, ?_⟩
          rcases h0.2 with (h3 | h3) | h3
          · exact .inl h3
          · exact .inr (.inl h3)
          · exact .inr (.inr h3)

theorem treeK_mono {ops : Array Oper} {X Y : St → Prop} (h : ∀ σ, X σ → Y σ) : ∀ (t : Tr) (σ : St), treeK P T ops t σ X → treeK P T ops t σ Y
  | .fin, σ, hx => h _ hx
  | .no, _, _ => trivial
  | .br i t rest, σ, hx => ⟨opQ_mono (fun σ' h' => treeK_mono h t σ' h') hx.1, treeK_mono h rest σ hx.2⟩

theorem AWp.drawT {id : Nat} {ops : Array Oper} {σ : St} {Q : Exit → St → Prop} (l : List Nat) (t : Tr) (f : Nat) (hm : P.follows .mixedOrders = true) (hp : (Nat.beq (l.length + f) ops.size && takesOk ops t f l (Array.replicate ops.size false)) = true) (hok : ops.toList.all (dstOk c.N) = true)
    (h : takesK P T ops t l σ fun σ' => Q .normal σ') : AWp P T c ro (.region id ops true) σ Q := by
  intro hT φ a w hR
  simp only [Bool.and_eq_true] at hp
  refine wpIn_region_any hm ?_
  have h1 : takesK P T ops t l σ (fun σ' => ∃ σ'', Ext σ' σ'' ∧ Q .normal σ'') := by
    revert h
    generalize hX : (fun σ' => Q .normal σ') = X
    have hle : ∀ σ', X σ' → ∃ σ'', Ext σ' σ'' ∧ Q .normal σ'' := fun σ' hx => ⟨σ', ⟨rfl, rfl, rfl, fun _ => rfl⟩, by rw [← hX] at hx; exact hx⟩
    clear hX hp hok hR
    have htake : ∀ (i : Nat) (σ : St) (Y Z : St → Prop), (∀ σ, Y σ → Z σ) → takeQ P T ops i σ Y → takeQ P T ops i σ Z := by
      intro i σ Y Z hYZ h
      unfold takeQ at h ⊢
      split at h
      · rename_i o ho
        rcases guardK_gd h with ⟨g, h⟩ | ⟨g, h⟩
        · obtain ⟨r, h1, h2⟩ := qK_det _ h
          exact gd_guardK g (by simpa using h2 _ (hYZ _ h1))
        · exact gd_guardK g (by simpa using hYZ _ h)
      · exact h.elim
    induction l generalizing σ with
    | nil => intro h; exact treeK_mono hle t σ h
    | cons i l ih => intro h; exact htake i σ _ _ (fun σ' h' => ih h') h
  have h2 := takes_any (P := P) (T := T) (fun σ σ' e ⟨σ'', e', hq⟩ => ⟨σ'', ⟨e.s.symm.trans e'.s, e.n.symm.trans e'.n, e.d.symm.trans e'.d, fun k => (e.t k).symm.trans (e'.t k)⟩, hq⟩) t f l (Array.replicate ops.size false) σ hp.2
    (fun j oj hj hl => by
      rcases Nat.lt_or_ge j ops.size with h' | h'
      · simp [h'] at hl
      · simp [Array.getElem?_eq_none h'] at hj) h1
  rw [Nat.eq_of_beq_eq_true hp.1] at h2
  refine anyK_ok hT hok (fun φ' σ' a' w' ⟨σ'', e, hq⟩ hR' => ⟨φ', σ'', ?_, hq⟩) ops.size _ σ φ a _ hR.drew h2
  obtain ⟨t1, s1, n1, d1⟩ := σ'
  obtain ⟨t2, s2, n2, d2⟩ := σ''
  obtain ⟨e1, e2, e3, e4⟩ := e
  simp only at e1 e2 e3 e4
  subst e1 e2 e3
  exact ⟨hR'.size, hR'.defers, fun t => by have := hR'.tm t; simp only at this ⊢; rw [← e4]; exact this, hR'.mem⟩

def cutE (c : Ctx) (σ1 : St) : Exit → St → Prop
  | .normal, σ' => Sub c σ' σ1
  | _, _ => False
/-- What is behind a part of code is walked once. -/
theorem AWp.cut {x y : Code} {σ : St} {Q : Exit → St → Prop} (σ1 : St) (h1 : AWp P T c ro x σ (cutE c σ1)) (h2 : AWp P T c ro y σ1 Q) : AWp P T c ro (.seq x y) σ Q :=
  AWp.seq fun K hK => h1.mono fun e σ' h => by
    cases e with
    | normal => exact hK _ (h2.sub h)
    | _ => exact h.elim

/-- What is left behind may be forgotten in part. -/
theorem AWp.postSub {code : Code} {σ : St} {Q : Exit → St → Prop} (h : AWp P T c ro code σ (fun e σ' => ∃ σ'', Sub c σ' σ'' ∧ Q e σ'')) : AWp P T c ro code σ Q := by
  intro hT φ a w hR
  refine wpIn_mono (h hT φ a w hR) fun e a' w' hc => ?_
  obtain ⟨φ', σ', hR', σ'', hs, hq⟩ := hc
  obtain ⟨φ'', hR''⟩ := hs φ' a' w' hR'
  exact ⟨φ'', σ'', hR'', hq⟩

/-- What a temporary holds is data from here on. -/
theorem Sub.toDat {σ : St} (k : Nat) {d : DV} {s1 : Sto} (h : toC σ.s (lk k σ.t) = some (d, s1)) : Sub c σ { σ with t := (k, .dat d) :: σ.t, s := s1 } := by
  intro φ a w hR
  obtain ⟨g, r⟩ := toC_ok hR.mem h
  refine ⟨φ, hR.size, hR.defers, fun t => ?_, g.mem⟩
  show RV φ σ.n _ w (lk t ((k, .dat d) :: σ.t)) _
  rw [lk_cons]
  split
  · rename_i e; subst e; exact .dat _ _ (r _ (hR.tm k))
  · exact g.rv (hR.tm t)

variable {ops : Array Oper} {σ : St} {X : St → Prop} {t t' rest : Tr} {i j : Nat} {l : List Nat} {s : Sto} {n d : Nat} {tm : Tm}
theorem treeK_fin : treeK P T ops .fin σ X = X σ := rfl
theorem treeK_one : treeK P T ops (.br i t .no) σ X = opQ P T ops i σ (fun σ' => treeK P T ops t σ' X) := by simp [treeK]
theorem treeK_br : treeK P T ops (.br i t (.br j t' rest)) σ X = (opQ P T ops i σ (fun σ' => treeK P T ops t σ' X) ∧ treeK P T ops (.br j t' rest) σ X) := rfl
theorem takesK_nil : takesK P T ops t [] σ X = treeK P T ops t σ X := rfl
theorem takesK_cons : takesK P T ops t (i :: l) ⟨tm, s, n, d⟩ X = takeQ P T ops i ⟨tm, s, n, d⟩ fun σ' => takesK P T ops t l σ' X := rfl
end
attribute [go_sem] treeK_fin treeK_one treeK_br takesK_nil takesK_cons
end Go.Abs
end

section
set_option linter.unusedSimpArgs false
/- The table of this program's types, by program (tab.py). -/
namespace Go.Proofs.YthhjcfejgoddlaaGreatDoor
open Go.Abs
set_option maxRecDepth 100000

def ti1 : TI := { desc := TypeDesc.func #[] #[] false, zv := .nilFunc, size := 1, bytes := 8 }
def ti2 : TI := { desc := TypeDesc.int IntKind.i64, zv := (.int .i64 0), size := 1, bytes := 8 }
def ti3 : TI := { desc := TypeDesc.int IntKind.i64, zv := (.int .i64 0), size := 1, bytes := 8 }
def ti4 : TI := { desc := TypeDesc.bool, zv := (.bool false), size := 1, bytes := 1 }
def ti5 : TI := { desc := TypeDesc.int IntKind.u8, zv := (.int .u8 0), size := 1, bytes := 1 }
def ti9 : TI := { desc := TypeDesc.string, zv := (.string ⟨#[]⟩), size := 1, bytes := 16 }
def ti20 : TI := { desc := TypeDesc.interface #[], zv := .nilIface, size := 1, bytes := 16 }
def ti21 : TI := { desc := TypeDesc.int IntKind.i32, zv := (.int .i32 0), size := 1, bytes := 4 }
def ti22 : TI := { desc := TypeDesc.slice 3, zv := (.slice none 0 0), size := 1, bytes := 24 }
def ti24 : TI := { desc := TypeDesc.struct #[{ name := "Neg", type := 4, offset := 0, embedded := false, tag := "", pkgPath := "", byteOffset := 0 }, { name := "D", type := 22, offset := 1, embedded := false, tag := "", pkgPath := "", byteOffset := 8 }], zv := (.agg #[(.bool false), (.slice none 0 0)]), size := 2, bytes := 32 }
def ti28 : TI := { desc := TypeDesc.int IntKind.i64, zv := (.int .i64 0), size := 1, bytes := 8 }
def ti32 : TI := { desc := TypeDesc.struct #[{ name := "a", type := 24, offset := 0, embedded := false, tag := "", pkgPath := "foregone/foregonelaw01", byteOffset := 0 }, { name := "e", type := 28, offset := 2, embedded := false, tag := "", pkgPath := "foregone/foregonelaw01", byteOffset := 32 }], zv := (.agg #[(.bool false), (.slice none 0 0), (.int .i64 0)]), size := 3, bytes := 40 }
def ti33 : TI := { desc := TypeDesc.func #[32, 32] #[32] false, zv := .nilFunc, size := 1, bytes := 8 }
def ti43 : TI := { desc := TypeDesc.func #[3, 3] #[4] false, zv := .nilFunc, size := 1, bytes := 8 }
def ti47 : TI := { desc := TypeDesc.func #[24, 24] #[4] false, zv := .nilFunc, size := 1, bytes := 8 }
def ti50 : TI := { desc := TypeDesc.func #[32, 3] #[4] false, zv := .nilFunc, size := 1, bytes := 8 }
def ti53 : TI := { desc := TypeDesc.func #[24] #[4] false, zv := .nilFunc, size := 1, bytes := 8 }
def ti54 : TI := { desc := TypeDesc.slice 5, zv := (.slice none 0 0), size := 1, bytes := 24 }
def ti66 : TI := { desc := TypeDesc.slice 24, zv := (.slice none 0 0), size := 1, bytes := 24 }
def ti69 : TI := { desc := TypeDesc.func #[24, 24] #[24] false, zv := .nilFunc, size := 1, bytes := 8 }
def ti71 : TI := { desc := TypeDesc.slice 3, zv := (.slice none 0 0), size := 1, bytes := 24 }
def ti75 : TI := { desc := TypeDesc.func #[] #[24] false, zv := .nilFunc, size := 1, bytes := 8 }
def ti79 : TI := { desc := TypeDesc.struct #[], zv := (.agg #[]), size := 0, bytes := 0 }
def ti83 : TI := { desc := TypeDesc.struct #[{ name := "g", type := 24, offset := 0, embedded := false, tag := "", pkgPath := "foregone/num", byteOffset := 0 }, { name := "x", type := 24, offset := 2, embedded := false, tag := "", pkgPath := "foregone/num", byteOffset := 32 }, { name := "y", type := 24, offset := 4, embedded := false, tag := "", pkgPath := "foregone/num", byteOffset := 64 }], zv := (.agg #[(.bool false), (.slice none 0 0), (.bool false), (.slice none 0 0), (.bool false), (.slice none 0 0)]), size := 6, bytes := 96 }
def ti86 : TI := { desc := TypeDesc.interface #[("Error", 135)], zv := .nilIface, size := 1, bytes := 16 }
def ti99 : TI := { desc := TypeDesc.struct #[{ name := "G", type := 24, offset := 0, embedded := false, tag := "", pkgPath := "", byteOffset := 0 }, { name := "X", type := 24, offset := 2, embedded := false, tag := "", pkgPath := "", byteOffset := 32 }, { name := "Y", type := 24, offset := 4, embedded := false, tag := "", pkgPath := "", byteOffset := 64 }], zv := (.agg #[(.bool false), (.slice none 0 0), (.bool false), (.slice none 0 0), (.bool false), (.slice none 0 0)]), size := 6, bytes := 96 }
def ti101 : TI := { desc := TypeDesc.func #[43] #[] false, zv := .nilFunc, size := 1, bytes := 8 }
def ti102 : TI := { desc := TypeDesc.func #[43] #[] false, zv := .nilFunc, size := 1, bytes := 8 }
def ti107 : TI := { desc := TypeDesc.func #[3] #[4] false, zv := .nilFunc, size := 1, bytes := 8 }
def ti108 : TI := { desc := TypeDesc.int IntKind.u64, zv := (.int .u64 0), size := 1, bytes := 8 }
def ti115 : TI := { desc := TypeDesc.int IntKind.u64, zv := (.int .u64 0), size := 1, bytes := 8 }
def ti116 : TI := { desc := TypeDesc.func #[143] #[] false, zv := .nilFunc, size := 1, bytes := 8 }
def ti117 : TI := { desc := TypeDesc.func #[143] #[] false, zv := .nilFunc, size := 1, bytes := 8 }
def ti122 : TI := { desc := TypeDesc.struct #[{ name := "zero", type := 4, offset := 0, embedded := false, tag := "", pkgPath := "foregone/num", byteOffset := 0 }, { name := "do", type := 69, offset := 1, embedded := false, tag := "", pkgPath := "foregone/num", byteOffset := 8 }], zv := (.agg #[(.bool false), .nilFunc]), size := 2, bytes := 16 }
def ti123 : TI := { desc := TypeDesc.map 5 122, zv := (.map none), size := 1, bytes := 8 }
def ti129 : TI := { desc := TypeDesc.pointer 131, zv := (.pointer none), size := 1, bytes := 8 }
def ti131 : TI := { desc := TypeDesc.struct #[{ name := "addr", type := 129, offset := 0, embedded := false, tag := "", pkgPath := "strings", byteOffset := 0 }, { name := "buf", type := 54, offset := 1, embedded := false, tag := "", pkgPath := "strings", byteOffset := 8 }], zv := (.agg #[(.pointer none), (.slice none 0 0)]), size := 2, bytes := 32 }
def ti136 : TI := { desc := TypeDesc.pointer 138, zv := (.pointer none), size := 1, bytes := 8 }
def ti138 : TI := { desc := TypeDesc.struct #[{ name := "d", type := 71, offset := 0, embedded := false, tag := "", pkgPath := "foregone/num", byteOffset := 0 }], zv := (.agg #[(.slice none 0 0)]), size := 1, bytes := 24 }
def ti142 : TI := { desc := TypeDesc.func #[21] #[4] false, zv := .nilFunc, size := 1, bytes := 8 }
def ti143 : TI := { desc := TypeDesc.func #[54] #[4] false, zv := .nilFunc, size := 1, bytes := 8 }
def ti145 : TI := { desc := TypeDesc.int IntKind.i64, zv := (.int .i64 0), size := 1, bytes := 8 }
def ti148 : TI := { desc := TypeDesc.pointer 162, zv := (.pointer none), size := 1, bytes := 8 }
def ti156 : TI := { desc := TypeDesc.pointer 5, zv := (.pointer none), size := 1, bytes := 8 }
def ti162 : TI := { desc := TypeDesc.struct #[{ name := "Func", type := 9, offset := 0, embedded := false, tag := "", pkgPath := "", byteOffset := 0 }, { name := "Num", type := 9, offset := 1, embedded := false, tag := "", pkgPath := "", byteOffset := 16 }, { name := "Err", type := 86, offset := 2, embedded := false, tag := "", pkgPath := "", byteOffset := 32 }], zv := (.agg #[(.string ⟨#[]⟩), (.string ⟨#[]⟩), .nilIface]), size := 3, bytes := 48 }
def tab : Tab := [(1, ti1), (2, ti2), (3, ti3), (4, ti4), (5, ti5), (9, ti9), (20, ti20), (21, ti21), (22, ti22), (24, ti24), (28, ti28), (32, ti32), (33, ti33), (43, ti43), (47, ti47), (50, ti50), (53, ti53), (54, ti54), (66, ti66), (69, ti69), (71, ti71), (75, ti75), (79, ti79), (83, ti83), (86, ti86), (99, ti99), (101, ti101), (102, ti102), (107, ti107), (108, ti108), (115, ti115), (116, ti116), (117, ti117), (122, ti122), (123, ti123), (129, ti129), (131, ti131), (136, ti136), (138, ti138), (142, ti142), (143, ti143), (145, ti145), (148, ti148), (156, ti156), (162, ti162)]
theorem tok1 : TOk Tryz.prog 1 ti1 := ⟨by kernel_rfl, Tryz.underlying1⟩
theorem tok2 : TOk Tryz.prog 2 ti2 := ⟨by kernel_rfl, Tryz.underlying2⟩
theorem tok3 : TOk Tryz.prog 3 ti3 := ⟨by kernel_rfl, Tryz.underlying3⟩
theorem tok4 : TOk Tryz.prog 4 ti4 := ⟨by kernel_rfl, Tryz.underlying4⟩
theorem tok5 : TOk Tryz.prog 5 ti5 := ⟨by kernel_rfl, Tryz.underlying5⟩
theorem tok9 : TOk Tryz.prog 9 ti9 := ⟨by kernel_rfl, Tryz.underlying9⟩
theorem tok20 : TOk Tryz.prog 20 ti20 := ⟨by kernel_rfl, Tryz.underlying20⟩
theorem tok21 : TOk Tryz.prog 21 ti21 := ⟨by kernel_rfl, Tryz.underlying21⟩
theorem tok22 : TOk Tryz.prog 22 ti22 := ⟨by kernel_rfl, Tryz.underlying22⟩
theorem tok24 : TOk Tryz.prog 24 ti24 := ⟨by kernel_rfl, Tryz.underlying24⟩
theorem tok28 : TOk Tryz.prog 28 ti28 := ⟨by kernel_rfl, Tryz.underlying28⟩
theorem tok32 : TOk Tryz.prog 32 ti32 := ⟨by kernel_rfl, Tryz.underlying32⟩
theorem tok33 : TOk Tryz.prog 33 ti33 := ⟨by kernel_rfl, Tryz.underlying33⟩
theorem tok43 : TOk Tryz.prog 43 ti43 := ⟨by kernel_rfl, Tryz.underlying43⟩
theorem tok47 : TOk Tryz.prog 47 ti47 := ⟨by kernel_rfl, Tryz.underlying47⟩
theorem tok50 : TOk Tryz.prog 50 ti50 := ⟨by kernel_rfl, Tryz.underlying50⟩
theorem tok53 : TOk Tryz.prog 53 ti53 := ⟨by kernel_rfl, Tryz.underlying53⟩
theorem tok54 : TOk Tryz.prog 54 ti54 := ⟨by kernel_rfl, Tryz.underlying54⟩
theorem tok66 : TOk Tryz.prog 66 ti66 := ⟨by kernel_rfl, Tryz.underlying66⟩
theorem tok69 : TOk Tryz.prog 69 ti69 := ⟨by kernel_rfl, Tryz.underlying69⟩
theorem tok71 : TOk Tryz.prog 71 ti71 := ⟨by kernel_rfl, Tryz.underlying71⟩
theorem tok75 : TOk Tryz.prog 75 ti75 := ⟨by kernel_rfl, Tryz.underlying75⟩
theorem tok79 : TOk Tryz.prog 79 ti79 := ⟨by kernel_rfl, Tryz.underlying79⟩
theorem tok83 : TOk Tryz.prog 83 ti83 := ⟨by kernel_rfl, Tryz.underlying83⟩
theorem tok86 : TOk Tryz.prog 86 ti86 := ⟨by kernel_rfl, Tryz.underlying86⟩
theorem tok99 : TOk Tryz.prog 99 ti99 := ⟨by kernel_rfl, Tryz.underlying99⟩
theorem tok101 : TOk Tryz.prog 101 ti101 := ⟨by kernel_rfl, Tryz.underlying101⟩
theorem tok102 : TOk Tryz.prog 102 ti102 := ⟨by kernel_rfl, Tryz.underlying102⟩
theorem tok107 : TOk Tryz.prog 107 ti107 := ⟨by kernel_rfl, Tryz.underlying107⟩
theorem tok108 : TOk Tryz.prog 108 ti108 := ⟨by kernel_rfl, Tryz.underlying108⟩
theorem tok115 : TOk Tryz.prog 115 ti115 := ⟨by kernel_rfl, Tryz.underlying115⟩
theorem tok116 : TOk Tryz.prog 116 ti116 := ⟨by kernel_rfl, Tryz.underlying116⟩
theorem tok117 : TOk Tryz.prog 117 ti117 := ⟨by kernel_rfl, Tryz.underlying117⟩
theorem tok122 : TOk Tryz.prog 122 ti122 := ⟨by kernel_rfl, Tryz.underlying122⟩
theorem tok123 : TOk Tryz.prog 123 ti123 := ⟨by kernel_rfl, Tryz.underlying123⟩
theorem tok129 : TOk Tryz.prog 129 ti129 := ⟨by kernel_rfl, Tryz.underlying129⟩
theorem tok131 : TOk Tryz.prog 131 ti131 := ⟨by kernel_rfl, Tryz.underlying131⟩
theorem tok136 : TOk Tryz.prog 136 ti136 := ⟨by kernel_rfl, Tryz.underlying136⟩
theorem tok138 : TOk Tryz.prog 138 ti138 := ⟨by kernel_rfl, Tryz.underlying138⟩
theorem tok142 : TOk Tryz.prog 142 ti142 := ⟨by kernel_rfl, Tryz.underlying142⟩
theorem tok143 : TOk Tryz.prog 143 ti143 := ⟨by kernel_rfl, Tryz.underlying143⟩
theorem tok145 : TOk Tryz.prog 145 ti145 := ⟨by kernel_rfl, Tryz.underlying145⟩
theorem tok148 : TOk Tryz.prog 148 ti148 := ⟨by kernel_rfl, Tryz.underlying148⟩
theorem tok156 : TOk Tryz.prog 156 ti156 := ⟨by kernel_rfl, Tryz.underlying156⟩
theorem tok162 : TOk Tryz.prog 162 ti162 := ⟨by kernel_rfl, Tryz.underlying162⟩
theorem tab_ok : TabOk Tryz.prog tab := .cons tok1 <| .cons tok2 <| .cons tok3 <| .cons tok4 <| .cons tok5 <| .cons tok9 <| .cons tok20 <| .cons tok21 <| .cons tok22 <| .cons tok24 <| .cons tok28 <| .cons tok32 <| .cons tok33 <| .cons tok43 <| .cons tok47 <| .cons tok50 <| .cons tok53 <| .cons tok54 <| .cons tok66 <| .cons tok69 <| .cons tok71 <| .cons tok75 <| .cons tok79 <| .cons tok83 <| .cons tok86 <| .cons tok99 <| .cons tok101 <| .cons tok102 <| .cons tok107 <| .cons tok108 <| .cons tok115 <| .cons tok116 <| .cons tok117 <| .cons tok122 <| .cons tok123 <| .cons tok129 <| .cons tok131 <| .cons tok136 <| .cons tok138 <| .cons tok142 <| .cons tok143 <| .cons tok145 <| .cons tok148 <| .cons tok156 <| .cons tok162 <| TabOk.nil _
theorem tg1 : tget 1 tab = some ti1 := rfl
theorem td1 : ti1.desc = (TypeDesc.func #[] #[] false) := rfl
theorem tz1 : ti1.zv = .nilFunc := rfl
theorem ts1 : ti1.size = 1 := rfl
theorem tb1 : ti1.bytes = 8 := rfl
theorem ta1 : aggD ti1.desc = false := rfl
theorem tg2 : tget 2 tab = some ti2 := rfl
theorem td2 : ti2.desc = (TypeDesc.int IntKind.i64) := rfl
theorem tz2 : ti2.zv = (.int .i64 0) := rfl
theorem ts2 : ti2.size = 1 := rfl
theorem tb2 : ti2.bytes = 8 := rfl
theorem ta2 : aggD ti2.desc = false := rfl
theorem tg3 : tget 3 tab = some ti3 := rfl
theorem td3 : ti3.desc = (TypeDesc.int IntKind.i64) := rfl
theorem tz3 : ti3.zv = (.int .i64 0) := rfl
theorem ts3 : ti3.size = 1 := rfl
theorem tb3 : ti3.bytes = 8 := rfl
theorem ta3 : aggD ti3.desc = false := rfl
theorem tg4 : tget 4 tab = some ti4 := rfl
theorem td4 : ti4.desc = TypeDesc.bool := rfl
theorem tz4 : ti4.zv = (.bool false) := rfl
theorem ts4 : ti4.size = 1 := rfl
theorem tb4 : ti4.bytes = 1 := rfl
theorem ta4 : aggD ti4.desc = false := rfl
theorem tg5 : tget 5 tab = some ti5 := rfl
theorem td5 : ti5.desc = (TypeDesc.int IntKind.u8) := rfl
theorem tz5 : ti5.zv = (.int .u8 0) := rfl
theorem ts5 : ti5.size = 1 := rfl
theorem tb5 : ti5.bytes = 1 := rfl
theorem ta5 : aggD ti5.desc = false := rfl
theorem tg9 : tget 9 tab = some ti9 := rfl
theorem td9 : ti9.desc = TypeDesc.string := rfl
theorem tz9 : ti9.zv = (.string ⟨#[]⟩) := rfl
theorem ts9 : ti9.size = 1 := rfl
theorem tb9 : ti9.bytes = 16 := rfl
theorem ta9 : aggD ti9.desc = false := rfl
theorem tg20 : tget 20 tab = some ti20 := rfl
theorem td20 : ti20.desc = (TypeDesc.interface #[]) := rfl
theorem tz20 : ti20.zv = .nilIface := rfl
theorem ts20 : ti20.size = 1 := rfl
theorem tb20 : ti20.bytes = 16 := rfl
theorem ta20 : aggD ti20.desc = false := rfl
theorem tg21 : tget 21 tab = some ti21 := rfl
theorem td21 : ti21.desc = (TypeDesc.int IntKind.i32) := rfl
theorem tz21 : ti21.zv = (.int .i32 0) := rfl
theorem ts21 : ti21.size = 1 := rfl
theorem tb21 : ti21.bytes = 4 := rfl
theorem ta21 : aggD ti21.desc = false := rfl
theorem tg22 : tget 22 tab = some ti22 := rfl
theorem td22 : ti22.desc = (TypeDesc.slice 3) := rfl
theorem tz22 : ti22.zv = (.slice none 0 0) := rfl
theorem ts22 : ti22.size = 1 := rfl
theorem tb22 : ti22.bytes = 24 := rfl
theorem ta22 : aggD ti22.desc = false := rfl
theorem te22 : elemOf' tab 22 = some ti3 := rfl
theorem tg24 : tget 24 tab = some ti24 := rfl
theorem td24 : ti24.desc = (TypeDesc.struct #[{ name := "Neg", type := 4, offset := 0, embedded := false, tag := "", pkgPath := "", byteOffset := 0 }, { name := "D", type := 22, offset := 1, embedded := false, tag := "", pkgPath := "", byteOffset := 8 }]) := rfl
theorem tz24 : ti24.zv = (.agg #[(.bool false), (.slice none 0 0)]) := rfl
theorem ts24 : ti24.size = 2 := rfl
theorem tb24 : ti24.bytes = 32 := rfl
theorem ta24 : aggD ti24.desc = true := rfl
theorem tf24_0 : fieldOf tab 24 0 = some (0, ti4) := rfl
theorem tf24_1 : fieldOf tab 24 1 = some (1, ti22) := rfl
theorem tg28 : tget 28 tab = some ti28 := rfl
theorem td28 : ti28.desc = (TypeDesc.int IntKind.i64) := rfl
theorem tz28 : ti28.zv = (.int .i64 0) := rfl
theorem ts28 : ti28.size = 1 := rfl
theorem tb28 : ti28.bytes = 8 := rfl
theorem ta28 : aggD ti28.desc = false := rfl
theorem tg32 : tget 32 tab = some ti32 := rfl
theorem td32 : ti32.desc = (TypeDesc.struct #[{ name := "a", type := 24, offset := 0, embedded := false, tag := "", pkgPath := "foregone/foregonelaw01", byteOffset := 0 }, { name := "e", type := 28, offset := 2, embedded := false, tag := "", pkgPath := "foregone/foregonelaw01", byteOffset := 32 }]) := rfl
theorem tz32 : ti32.zv = (.agg #[(.bool false), (.slice none 0 0), (.int .i64 0)]) := rfl
theorem ts32 : ti32.size = 3 := rfl
theorem tb32 : ti32.bytes = 40 := rfl
theorem ta32 : aggD ti32.desc = true := rfl
theorem tf32_0 : fieldOf tab 32 0 = some (0, ti24) := rfl
theorem tf32_1 : fieldOf tab 32 1 = some (2, ti28) := rfl
theorem tg33 : tget 33 tab = some ti33 := rfl
theorem td33 : ti33.desc = (TypeDesc.func #[32, 32] #[32] false) := rfl
theorem tz33 : ti33.zv = .nilFunc := rfl
theorem ts33 : ti33.size = 1 := rfl
theorem tb33 : ti33.bytes = 8 := rfl
theorem ta33 : aggD ti33.desc = false := rfl
theorem tg43 : tget 43 tab = some ti43 := rfl
theorem td43 : ti43.desc = (TypeDesc.func #[3, 3] #[4] false) := rfl
theorem tz43 : ti43.zv = .nilFunc := rfl
theorem ts43 : ti43.size = 1 := rfl
theorem tb43 : ti43.bytes = 8 := rfl
theorem ta43 : aggD ti43.desc = false := rfl
theorem tg47 : tget 47 tab = some ti47 := rfl
theorem td47 : ti47.desc = (TypeDesc.func #[24, 24] #[4] false) := rfl
theorem tz47 : ti47.zv = .nilFunc := rfl
theorem ts47 : ti47.size = 1 := rfl
theorem tb47 : ti47.bytes = 8 := rfl
theorem ta47 : aggD ti47.desc = false := rfl
theorem tg50 : tget 50 tab = some ti50 := rfl
theorem td50 : ti50.desc = (TypeDesc.func #[32, 3] #[4] false) := rfl
theorem tz50 : ti50.zv = .nilFunc := rfl
theorem ts50 : ti50.size = 1 := rfl
theorem tb50 : ti50.bytes = 8 := rfl
theorem ta50 : aggD ti50.desc = false := rfl
theorem tg53 : tget 53 tab = some ti53 := rfl
theorem td53 : ti53.desc = (TypeDesc.func #[24] #[4] false) := rfl
theorem tz53 : ti53.zv = .nilFunc := rfl
theorem ts53 : ti53.size = 1 := rfl
theorem tb53 : ti53.bytes = 8 := rfl
theorem ta53 : aggD ti53.desc = false := rfl
theorem tg54 : tget 54 tab = some ti54 := rfl
theorem td54 : ti54.desc = (TypeDesc.slice 5) := rfl
theorem tz54 : ti54.zv = (.slice none 0 0) := rfl
theorem ts54 : ti54.size = 1 := rfl
theorem tb54 : ti54.bytes = 24 := rfl
theorem ta54 : aggD ti54.desc = false := rfl
theorem te54 : elemOf' tab 54 = some ti5 := rfl
theorem tg66 : tget 66 tab = some ti66 := rfl
theorem td66 : ti66.desc = (TypeDesc.slice 24) := rfl
theorem tz66 : ti66.zv = (.slice none 0 0) := rfl
theorem ts66 : ti66.size = 1 := rfl
theorem tb66 : ti66.bytes = 24 := rfl
theorem ta66 : aggD ti66.desc = false := rfl
theorem te66 : elemOf' tab 66 = some ti24 := rfl
theorem tg69 : tget 69 tab = some ti69 := rfl
theorem td69 : ti69.desc = (TypeDesc.func #[24, 24] #[24] false) := rfl
theorem tz69 : ti69.zv = .nilFunc := rfl
theorem ts69 : ti69.size = 1 := rfl
theorem tb69 : ti69.bytes = 8 := rfl
theorem ta69 : aggD ti69.desc = false := rfl
theorem tg71 : tget 71 tab = some ti71 := rfl
theorem td71 : ti71.desc = (TypeDesc.slice 3) := rfl
theorem tz71 : ti71.zv = (.slice none 0 0) := rfl
theorem ts71 : ti71.size = 1 := rfl
theorem tb71 : ti71.bytes = 24 := rfl
theorem ta71 : aggD ti71.desc = false := rfl
theorem te71 : elemOf' tab 71 = some ti3 := rfl
theorem tg75 : tget 75 tab = some ti75 := rfl
theorem td75 : ti75.desc = (TypeDesc.func #[] #[24] false) := rfl
theorem tz75 : ti75.zv = .nilFunc := rfl
theorem ts75 : ti75.size = 1 := rfl
theorem tb75 : ti75.bytes = 8 := rfl
theorem ta75 : aggD ti75.desc = false := rfl
theorem tg79 : tget 79 tab = some ti79 := rfl
theorem td79 : ti79.desc = (TypeDesc.struct #[]) := rfl
theorem tz79 : ti79.zv = (.agg #[]) := rfl
theorem ts79 : ti79.size = 0 := rfl
theorem tb79 : ti79.bytes = 0 := rfl
theorem ta79 : aggD ti79.desc = true := rfl
theorem tg83 : tget 83 tab = some ti83 := rfl
theorem td83 : ti83.desc = (TypeDesc.struct #[{ name := "g", type := 24, offset := 0, embedded := false, tag := "", pkgPath := "foregone/num", byteOffset := 0 }, { name := "x", type := 24, offset := 2, embedded := false, tag := "", pkgPath := "foregone/num", byteOffset := 32 }, { name := "y", type := 24, offset := 4, embedded := false, tag := "", pkgPath := "foregone/num", byteOffset := 64 }]) := rfl
theorem tz83 : ti83.zv = (.agg #[(.bool false), (.slice none 0 0), (.bool false), (.slice none 0 0), (.bool false), (.slice none 0 0)]) := rfl
theorem ts83 : ti83.size = 6 := rfl
theorem tb83 : ti83.bytes = 96 := rfl
theorem ta83 : aggD ti83.desc = true := rfl
theorem tf83_0 : fieldOf tab 83 0 = some (0, ti24) := rfl
theorem tf83_1 : fieldOf tab 83 1 = some (2, ti24) := rfl
theorem tf83_2 : fieldOf tab 83 2 = some (4, ti24) := rfl
theorem tg86 : tget 86 tab = some ti86 := rfl
theorem td86 : ti86.desc = (TypeDesc.interface #[("Error", 135)]) := rfl
theorem tz86 : ti86.zv = .nilIface := rfl
theorem ts86 : ti86.size = 1 := rfl
theorem tb86 : ti86.bytes = 16 := rfl
theorem ta86 : aggD ti86.desc = false := rfl
theorem tg99 : tget 99 tab = some ti99 := rfl
theorem td99 : ti99.desc = (TypeDesc.struct #[{ name := "G", type := 24, offset := 0, embedded := false, tag := "", pkgPath := "", byteOffset := 0 }, { name := "X", type := 24, offset := 2, embedded := false, tag := "", pkgPath := "", byteOffset := 32 }, { name := "Y", type := 24, offset := 4, embedded := false, tag := "", pkgPath := "", byteOffset := 64 }]) := rfl
theorem tz99 : ti99.zv = (.agg #[(.bool false), (.slice none 0 0), (.bool false), (.slice none 0 0), (.bool false), (.slice none 0 0)]) := rfl
theorem ts99 : ti99.size = 6 := rfl
theorem tb99 : ti99.bytes = 96 := rfl
theorem ta99 : aggD ti99.desc = true := rfl
theorem tf99_0 : fieldOf tab 99 0 = some (0, ti24) := rfl
theorem tf99_1 : fieldOf tab 99 1 = some (2, ti24) := rfl
theorem tf99_2 : fieldOf tab 99 2 = some (4, ti24) := rfl
theorem tg101 : tget 101 tab = some ti101 := rfl
theorem td101 : ti101.desc = (TypeDesc.func #[43] #[] false) := rfl
theorem tz101 : ti101.zv = .nilFunc := rfl
theorem ts101 : ti101.size = 1 := rfl
theorem tb101 : ti101.bytes = 8 := rfl
theorem ta101 : aggD ti101.desc = false := rfl
theorem tg102 : tget 102 tab = some ti102 := rfl
theorem td102 : ti102.desc = (TypeDesc.func #[43] #[] false) := rfl
theorem tz102 : ti102.zv = .nilFunc := rfl
theorem ts102 : ti102.size = 1 := rfl
theorem tb102 : ti102.bytes = 8 := rfl
theorem ta102 : aggD ti102.desc = false := rfl
theorem tg107 : tget 107 tab = some ti107 := rfl
theorem td107 : ti107.desc = (TypeDesc.func #[3] #[4] false) := rfl
theorem tz107 : ti107.zv = .nilFunc := rfl
theorem ts107 : ti107.size = 1 := rfl
theorem tb107 : ti107.bytes = 8 := rfl
theorem ta107 : aggD ti107.desc = false := rfl
theorem tg108 : tget 108 tab = some ti108 := rfl
theorem td108 : ti108.desc = (TypeDesc.int IntKind.u64) := rfl
theorem tz108 : ti108.zv = (.int .u64 0) := rfl
theorem ts108 : ti108.size = 1 := rfl
theorem tb108 : ti108.bytes = 8 := rfl
theorem ta108 : aggD ti108.desc = false := rfl
theorem tg115 : tget 115 tab = some ti115 := rfl
theorem td115 : ti115.desc = (TypeDesc.int IntKind.u64) := rfl
theorem tz115 : ti115.zv = (.int .u64 0) := rfl
theorem ts115 : ti115.size = 1 := rfl
theorem tb115 : ti115.bytes = 8 := rfl
theorem ta115 : aggD ti115.desc = false := rfl
theorem tg116 : tget 116 tab = some ti116 := rfl
theorem td116 : ti116.desc = (TypeDesc.func #[143] #[] false) := rfl
theorem tz116 : ti116.zv = .nilFunc := rfl
theorem ts116 : ti116.size = 1 := rfl
theorem tb116 : ti116.bytes = 8 := rfl
theorem ta116 : aggD ti116.desc = false := rfl
theorem tg117 : tget 117 tab = some ti117 := rfl
theorem td117 : ti117.desc = (TypeDesc.func #[143] #[] false) := rfl
theorem tz117 : ti117.zv = .nilFunc := rfl
theorem ts117 : ti117.size = 1 := rfl
theorem tb117 : ti117.bytes = 8 := rfl
theorem ta117 : aggD ti117.desc = false := rfl
theorem tg122 : tget 122 tab = some ti122 := rfl
theorem td122 : ti122.desc = (TypeDesc.struct #[{ name := "zero", type := 4, offset := 0, embedded := false, tag := "", pkgPath := "foregone/num", byteOffset := 0 }, { name := "do", type := 69, offset := 1, embedded := false, tag := "", pkgPath := "foregone/num", byteOffset := 8 }]) := rfl
theorem tz122 : ti122.zv = (.agg #[(.bool false), .nilFunc]) := rfl
theorem ts122 : ti122.size = 2 := rfl
theorem tb122 : ti122.bytes = 16 := rfl
theorem ta122 : aggD ti122.desc = true := rfl
theorem tf122_0 : fieldOf tab 122 0 = some (0, ti4) := rfl
theorem tf122_1 : fieldOf tab 122 1 = some (1, ti69) := rfl
theorem tg123 : tget 123 tab = some ti123 := rfl
theorem td123 : ti123.desc = (TypeDesc.map 5 122) := rfl
theorem tz123 : ti123.zv = (.map none) := rfl
theorem ts123 : ti123.size = 1 := rfl
theorem tb123 : ti123.bytes = 8 := rfl
theorem ta123 : aggD ti123.desc = false := rfl
theorem tg129 : tget 129 tab = some ti129 := rfl
theorem td129 : ti129.desc = (TypeDesc.pointer 131) := rfl
theorem tz129 : ti129.zv = (.pointer none) := rfl
theorem ts129 : ti129.size = 1 := rfl
theorem tb129 : ti129.bytes = 8 := rfl
theorem ta129 : aggD ti129.desc = false := rfl
theorem tg131 : tget 131 tab = some ti131 := rfl
theorem td131 : ti131.desc = (TypeDesc.struct #[{ name := "addr", type := 129, offset := 0, embedded := false, tag := "", pkgPath := "strings", byteOffset := 0 }, { name := "buf", type := 54, offset := 1, embedded := false, tag := "", pkgPath := "strings", byteOffset := 8 }]) := rfl
theorem tz131 : ti131.zv = (.agg #[(.pointer none), (.slice none 0 0)]) := rfl
theorem ts131 : ti131.size = 2 := rfl
theorem tb131 : ti131.bytes = 32 := rfl
theorem ta131 : aggD ti131.desc = true := rfl
theorem tf131_0 : fieldOf tab 131 0 = some (0, ti129) := rfl
theorem tf131_1 : fieldOf tab 131 1 = some (1, ti54) := rfl
theorem tg136 : tget 136 tab = some ti136 := rfl
theorem td136 : ti136.desc = (TypeDesc.pointer 138) := rfl
theorem tz136 : ti136.zv = (.pointer none) := rfl
theorem ts136 : ti136.size = 1 := rfl
theorem tb136 : ti136.bytes = 8 := rfl
theorem ta136 : aggD ti136.desc = false := rfl
theorem tg138 : tget 138 tab = some ti138 := rfl
theorem td138 : ti138.desc = (TypeDesc.struct #[{ name := "d", type := 71, offset := 0, embedded := false, tag := "", pkgPath := "foregone/num", byteOffset := 0 }]) := rfl
theorem tz138 : ti138.zv = (.agg #[(.slice none 0 0)]) := rfl
theorem ts138 : ti138.size = 1 := rfl
theorem tb138 : ti138.bytes = 24 := rfl
theorem ta138 : aggD ti138.desc = true := rfl
theorem tf138_0 : fieldOf tab 138 0 = some (0, ti71) := rfl
theorem tg142 : tget 142 tab = some ti142 := rfl
theorem td142 : ti142.desc = (TypeDesc.func #[21] #[4] false) := rfl
theorem tz142 : ti142.zv = .nilFunc := rfl
theorem ts142 : ti142.size = 1 := rfl
theorem tb142 : ti142.bytes = 8 := rfl
theorem ta142 : aggD ti142.desc = false := rfl
theorem tg143 : tget 143 tab = some ti143 := rfl
theorem td143 : ti143.desc = (TypeDesc.func #[54] #[4] false) := rfl
theorem tz143 : ti143.zv = .nilFunc := rfl
theorem ts143 : ti143.size = 1 := rfl
theorem tb143 : ti143.bytes = 8 := rfl
theorem ta143 : aggD ti143.desc = false := rfl
theorem tg145 : tget 145 tab = some ti145 := rfl
theorem td145 : ti145.desc = (TypeDesc.int IntKind.i64) := rfl
theorem tz145 : ti145.zv = (.int .i64 0) := rfl
theorem ts145 : ti145.size = 1 := rfl
theorem tb145 : ti145.bytes = 8 := rfl
theorem ta145 : aggD ti145.desc = false := rfl
theorem tg148 : tget 148 tab = some ti148 := rfl
theorem td148 : ti148.desc = (TypeDesc.pointer 162) := rfl
theorem tz148 : ti148.zv = (.pointer none) := rfl
theorem ts148 : ti148.size = 1 := rfl
theorem tb148 : ti148.bytes = 8 := rfl
theorem ta148 : aggD ti148.desc = false := rfl
theorem tg156 : tget 156 tab = some ti156 := rfl
theorem td156 : ti156.desc = (TypeDesc.pointer 5) := rfl
theorem tz156 : ti156.zv = (.pointer none) := rfl
theorem ts156 : ti156.size = 1 := rfl
theorem tb156 : ti156.bytes = 8 := rfl
theorem ta156 : aggD ti156.desc = false := rfl
theorem tg162 : tget 162 tab = some ti162 := rfl
theorem td162 : ti162.desc = (TypeDesc.struct #[{ name := "Func", type := 9, offset := 0, embedded := false, tag := "", pkgPath := "", byteOffset := 0 }, { name := "Num", type := 9, offset := 1, embedded := false, tag := "", pkgPath := "", byteOffset := 16 }, { name := "Err", type := 86, offset := 2, embedded := false, tag := "", pkgPath := "", byteOffset := 32 }]) := rfl
theorem tz162 : ti162.zv = (.agg #[(.string ⟨#[]⟩), (.string ⟨#[]⟩), .nilIface]) := rfl
theorem ts162 : ti162.size = 3 := rfl
theorem tb162 : ti162.bytes = 48 := rfl
theorem ta162 : aggD ti162.desc = true := rfl
theorem tf162_0 : fieldOf tab 162 0 = some (0, ti9) := rfl
theorem tf162_1 : fieldOf tab 162 1 = some (1, ti9) := rfl
theorem tf162_2 : fieldOf tab 162 2 = some (2, ti86) := rfl
attribute [go_sem] tg1 td1 tz1 ts1 tb1 ta1 tg2 td2 tz2 ts2 tb2 ta2 tg3 td3 tz3 ts3 tb3 ta3 tg4 td4 tz4 ts4 tb4 ta4 tg5 td5 tz5 ts5 tb5 ta5 tg9 td9 tz9 ts9 tb9 ta9 tg20 td20 tz20 ts20 tb20 ta20 tg21 td21 tz21 ts21 tb21 ta21 tg22 td22 tz22 ts22 tb22 ta22 te22 tg24 td24 tz24 ts24 tb24 ta24 tf24_0 tf24_1 tg28 td28 tz28 ts28 tb28 ta28 tg32 td32 tz32 ts32 tb32 ta32 tf32_0 tf32_1 tg33 td33 tz33 ts33 tb33 ta33 tg43 td43 tz43 ts43 tb43 ta43 tg47 td47 tz47 ts47 tb47 ta47 tg50 td50 tz50 ts50 tb50 ta50 tg53 td53 tz53 ts53 tb53 ta53 tg54 td54 tz54 ts54 tb54 ta54 te54 tg66 td66 tz66 ts66 tb66 ta66 te66 tg69 td69 tz69 ts69 tb69 ta69 tg71 td71 tz71 ts71 tb71 ta71 te71 tg75 td75 tz75 ts75 tb75 ta75 tg79 td79 tz79 ts79 tb79 ta79 tg83 td83 tz83 ts83 tb83 ta83 tf83_0 tf83_1 tf83_2 tg86 td86 tz86 ts86 tb86 ta86 tg99 td99 tz99 ts99 tb99 ta99 tf99_0 tf99_1 tf99_2 tg101 td101 tz101 ts101 tb101 ta101 tg102 td102 tz102 ts102 tb102 ta102 tg107 td107 tz107 ts107 tb107 ta107 tg108 td108 tz108 ts108 tb108 ta108 tg115 td115 tz115 ts115 tb115 ta115 tg116 td116 tz116 ts116 tb116 ta116 tg117 td117 tz117 ts117 tb117 ta117 tg122 td122 tz122 ts122 tb122 ta122 tf122_0 tf122_1 tg123 td123 tz123 ts123 tb123 ta123 tg129 td129 tz129 ts129 tb129 ta129 tg131 td131 tz131 ts131 tb131 ta131 tf131_0 tf131_1 tg136 td136 tz136 ts136 tb136 ta136 tg138 td138 tz138 ts138 tb138 ta138 tf138_0 tg142 td142 tz142 ts142 tb142 ta142 tg143 td143 tz143 ts143 tb143 ta143 tg145 td145 tz145 ts145 tb145 ta145 tg148 td148 tz148 ts148 tb148 ta148 tg156 td156 tz156 ts156 tb156 ta156 tg162 td162 tz162 ts162 tb162 ta162 tf162_0 tf162_1 tf162_2
end Go.Proofs.YthhjcfejgoddlaaGreatDoor
end

section
set_option linter.unusedSimpArgs false
set_option maxRecDepth 100000
namespace Go.Abs
open Go
/-! Short names for lists of simp lemmas (what a branch's hypothesis says). -/
theorem cla : (∀ (p : Prop) [Decidable p], (decide p = true) = p) ∧ (∀ (p : Prop) [Decidable p], (decide p = false) = ¬p) ∧ (∀ (x y : Int), (¬ x < y) = (y ≤ x)) ∧ (∀ (x y : Int), (¬ x ≤ y) = (y < x)) ∧ (∀ p : Prop, (¬¬p) = p) ∧ (∀ (x y : Int), (x > y) = (y < x)) ∧ (∀ (x y : Int), (x ≥ y) = (y ≤ x)) ∧ (∀ (x y : Nat), (x > y) = (y < x)) ∧ (∀ (x y : Nat), (x ≥ y) = (y ≤ x)) := by
  refine ⟨?_, ?_, ?_, ?_, ?_, ?_, ?_, ?_, ?_⟩ <;> intros <;> simp
theorem clb.{u} : (∀ (α : Type u) [BEq α] [LawfulBEq α] (a b : α), ((a == b) = true) = (a = b)) ∧ (∀ (α : Type u) [BEq α] [LawfulBEq α] (a b : α), ((a == b) = false) = ¬(a = b)) ∧ (∀ (α : Type u) [BEq α] [LawfulBEq α] (a b : α), ((a != b) = true) = ¬(a = b)) ∧ (∀ (α : Type u) [BEq α] [LawfulBEq α] (a b : α), ((a != b) = false) = (a = b)) := by
  refine ⟨?_, ?_, ?_, ?_⟩ <;> intros <;> simp
theorem cld : (∀ (a b : Bool), ((!a) = b) = (a = !b)) ∧ (∀ (b : Bool), (¬ b = true) = (b = false)) ∧ (∀ (b : Bool), (¬ b = false) = (b = true)) := by
  refine ⟨?_, ?_, ?_⟩ <;> intros <;> simp
end Go.Abs
end
