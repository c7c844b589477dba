/-
  errors.Is and errors.As, of an error of this program: whether a number is in it, and which. No conditions.
-/
import Derived.Test.YtpnnmpdjgnbkhaaDoorVT
import Derived.WalkKit
import Derived.LaidEql
import Derived.Stop.Asserts
import Derived.RowKitTokens
import Derived.Elder7
set_option linter.unusedVariables false
namespace Go.Proofs.YtpnnmpdjgnbkhaaDoor.W
open Go Go.Proofs V Go.RowKit Go.Extern.Stop Go.Stop Go.Extern
/-! ### errors.Is: closed facts -/
theorem is_typeOf (v : Value) (w : World) : (Extern.ReflectliteType.typeOf #[.iface 33 v]).run Tryd.prog w = .ok (.iface 170 (.agg #[.pointer (some ⟨1, 33, none⟩)])) w := by kernel_rfl
/-- what the model does at (rtype).Comparable -/
def compExt : Array Value → Sem Value := Extern.ReflectliteType.method fun t => do Extern.Rtype.noPackHeld "Comparable" t; pure (.bool (← typeInfo t).comparable)
theorem is_comparable (w : World) : (compExt #[.agg #[.pointer (some ⟨1, 33, none⟩)]]).run Tryd.prog w = .ok (.bool true) w := by kernel_rfl
theorem is_methodComparable (v : Value) (w : World) : (Go.method 315 170 v "Comparable").run Tryd.prog w = .ok (129, v) w := by kernel_rfl
theorem is_comp : (Tryd.prog.info? 33).map (·.comparable) = some true := by kernel_rfl
theorem is_noIsE (v : Value) (xT : TypeId) (w : World) : (Instr.typeAssert (.iface 33 v) xT 182 true).run Tryd.prog w = .ok (.tuple #[.nilIface, .bool false]) w := Go.run_typeAssert_lacksB Tryd.underlying182 (by kernel_rfl) (by kernel_rfl) v xT w
theorem is_noUnwrapE (v : Value) (xT : TypeId) (w : World) : (Instr.typeAssert (.iface 33 v) xT 177 true).run Tryd.prog w = .ok (.tuple #[.nilIface, .bool false]) w := Go.run_typeAssert_lacksB Tryd.underlying177 (by kernel_rfl) (by kernel_rfl) v xT w
theorem is_noUnwrapsE (v : Value) (xT : TypeId) (w : World) : (Instr.typeAssert (.iface 33 v) xT 179 true).run Tryd.prog w = .ok (.tuple #[.nilIface, .bool false]) w := Go.run_typeAssert_lacksB Tryd.underlying179 (by kernel_rfl) (by kernel_rfl) v xT w
theorem is_noIsF (v : Value) (xT : TypeId) (w : World) : (Instr.typeAssert (.iface 124 v) xT 182 true).run Tryd.prog w = .ok (.tuple #[.nilIface, .bool false]) w := Go.run_typeAssert_lacksB Tryd.underlying182 (by kernel_rfl) (by kernel_rfl) v xT w
theorem is_hasUnwrapF (v : Value) (xT : TypeId) (w : World) : (Instr.typeAssert (.iface 124 v) xT 177 true).run Tryd.prog w = .ok (.tuple #[.iface 124 v, .bool true]) w := Go.run_typeAssert_hasB Tryd.underlying177 (by kernel_rfl) v xT w
theorem is_methodUnwrap (v : Value) (w : World) : (Go.method 315 124 v "Unwrap").run Tryd.prog w = .ok (123, v) w := by kernel_rfl
theorem is_eql (m n : Int) (w : World) : (binOp .eql 48 (.iface 33 (.int .i64 m)) (.iface 33 (.int .i64 n))).run Tryd.prog w = .ok (.bool (m == n)) w := by
  obtain ⟨i, hi, hc⟩ := Option.map_eq_some_iff.1 is_comp
  have h : ∀ d : Nat, (Op.equalIn (d + 2) 48 (.iface 33 (.int .i64 m)) (.iface 33 (.int .i64 n))).run Tryd.prog w = .ok (m == n) w := fun d => by
    simp [Op.equalIn, run_underlying Tryd.underlying48, run_underlying Tryd.underlying33, typeInfo, hi, hc]
  simp only [binOp]
  simp [Op.equal, Op.maxDepth, h 9998]

/-! ### errors.Is, by its contract -/
def errDepth : GErr → Nat
  | .nil => 0
  | .num _ => 1
  | .flt _ e _ => errDepth e + 1
theorem errRep_unique {w : World} {D : Nat → Prop} {e e' : GErr} {x : Value} (h : ErrRep tab w D e x) (h' : ErrRep tab w D e' x) : e = e' := by
  induction h generalizing e' with
  | nil => cases h'; rfl
  | num n => cases h'; rfl
  | flt d a _ ih =>
    cases h' with
    | flt d' a' h2 =>
      have e0 := (a 0 _ rfl).symm.trans (a' 0 _ rfl)
      have e1 := (a 1 _ rfl).symm.trans (a' 1 _ rfl)
      have e2 := (a 2 _ rfl).symm.trans (a' 2 _ rfl)
      cases e0
      cases e1
      cases e2
      rw [ih h2]
open Classical in
/-- how deep a value is: the loop's measure -/
noncomputable def valDepth (w : World) (D : Nat → Prop) (x : Value) : Nat := if h : ∃ e, ErrRep tab w D e x then errDepth h.choose else 0
theorem valDepth_eq {w : World} {D : Nat → Prop} {e : GErr} {x : Value} (h : ErrRep tab w D e x) : valDepth w D x = errDepth e := by
  unfold valDepth
  rw [dif_pos ⟨e, h⟩]
  rw [errRep_unique (Exists.choose_spec (⟨e, h⟩ : ∃ e, ErrRep tab w D e x)) h]

/-- what an error's value may be -/
theorem errRep_cases {w : World} {D : Nat → Prop} {e : GErr} {x : Value} (h : ErrRep tab w D e x) : (e = .nil ∧ x = .nilIface) ∨ (∃ n, e = .num n ∧ x = .iface 33 (.int .i64 n)) ∨
    (∃ what about wraps b off y, e = .flt what about wraps ∧ x = .iface 124 (.pointer (some ⟨b, off, none⟩)) ∧ w.cell? ⟨b, off + 1, none⟩ = some y ∧ ErrRep tab w D about y) := by
  cases h with
  | nil => exact .inl ⟨rfl, rfl⟩
  | num n => exact .inr (.inl ⟨n, rfl, rfl⟩)
  | flt d a h2 => exact .inr (.inr ⟨_, _, _, _, _, _, rfl, rfl, a 1 _ rfl, h2⟩)

set_option maxRecDepth 1000000 in
theorem is_walk {W : World} {D : Nat → Prop} (n : Int) (e : GErr) (x : Value) (hch : ErrRep tab W D e x) (hne : e.isNil = false) :
    Calls Tryd.prog 93 #[x, .iface 33 (.int .i64 n), .bool true] W fun r w' => r = .returned (.bool (e.has n)) ∧ w' = W := by
  have nE := is_noIsE
  have uE := is_noUnwrapE
  have vE := is_noUnwrapsE
  have nW := is_noIsF
  have uW := is_hasUnwrapF
  have mU := is_methodUnwrap
  go_enter Tryd.func93, Tryd.ntmps93
  go_wp2
  go_loopw [0] (fun x' wl => wl = W ∧ ∃ e', ErrRep tab W D e' x' ∧ e'.isNil = false ∧ e'.has n = e.has n) (fun x' _ => valDepth W D x')
  case atStart => exact ⟨rfl, e, hch, hne, rfl⟩
  case round =>
    obtain ⟨rfl, e', hc', hn', hiff⟩ := hrel
    have hlen0 := valDepth_eq hc'
    rcases errRep_cases hc' with ⟨rfl, rfl⟩ | ⟨m, rfl, rfl⟩ | ⟨what, about, wraps, b, off, y, rfl, rfl, hcell, hin⟩
    · cases hn'
    · have heq := is_eql m n wr
      clear hc' hlen0
      cases hb : (m == n) with
      | true =>
        rw [hb] at heq
        have hh : e.has n = true := by rw [← hiff]; exact hb
        clear hiff hb hch
        go_wp2
        go_ret
        exact ⟨by rw [hh]; rfl, rfl⟩
      | false =>
        rw [hb] at heq
        have hh : e.has n = false := by rw [← hiff]; exact hb
        clear hiff hb hch
        go_wp2
        go_ret
        exact ⟨by rw [hh]; rfl, rfl⟩
    · have hty := run_eql_iface_types (P := Tryd.prog) 124 33 (.pointer (some ⟨b, off, none⟩)) (.int .i64 n) Tryd.underlying48 (by decide) wr
      have hlen := valDepth_eq hin
      have HC : Hid (ErrRep tab wr D about y) := hin
      have HI : Hid (e.has n = about.has n) := hiff.symm
      rcases errRep_cases hin with ⟨rfl, rfl⟩ | ⟨m, rfl, rfl⟩ | ⟨what', about', wraps', b', off', y', rfl, rfl, hcell', hin'⟩
      · have hh : e.has n = false := HI.out
        clear hc' hch hin hiff hlen hlen0
        go_wp2
        go_ret
        exact ⟨by rw [hh]; rfl, rfl⟩
      · clear hc' hch hin hiff
        go_wp2
        go_roundw
        case rel => exact ⟨trivial, .num m, HC.out, rfl, HI.out.symm⟩
        case measure =>
          show valDepth wr D (.iface 33 (.int .i64 m)) < _
          rw [hlen, hlen0]
          simp [errDepth]
      · clear hc' hch hin hiff hcell' hin'
        go_wp2
        go_roundw
        case rel => exact ⟨trivial, _, HC.out, rfl, HI.out.symm⟩
        case measure =>
          show valDepth wr D (.iface 124 (.pointer (some ⟨b', off', none⟩))) < _
          rw [hlen, hlen0]
          simp [errDepth]

set_option maxRecDepth 1000000 in
theorem is_calls {W : World} {D : Nat → Prop} (n : Int) (e : GErr) (x : Value) (hch : ErrRep tab W D e x) :
    Calls Tryd.prog 61 #[x, .iface 33 (.int .i64 n)] W fun r w' => r = .returned (.bool (e.has n)) ∧ w' = W := by
  have hF := @run_callFunc_extern Tryd.prog 92 _ Extern.ReflectliteType.typeOf Tryd.func92 (by kernel_rfl) (by kernel_rfl) (by kernel_rfl) (by kernel_rfl)
  have hC := @run_callFunc_extern Tryd.prog 129 _ compExt Tryd.func129 (by kernel_rfl) (by kernel_rfl) (by kernel_rfl) (by kernel_rfl)
  have tT := is_typeOf
  have cT := is_comparable
  have mR := is_methodComparable
  rcases errRep_cases hch with ⟨rfl, rfl⟩ | ⟨m, rfl, rfl⟩ | ⟨what, about, wraps, b, off, y, rfl, rfl, hcell, hin⟩
  · have hn := run_eql_iface_nil_left (P := Tryd.prog) W 33 (.int .i64 n) Tryd.underlying48
    clear hch
    go_enter Tryd.func61, Tryd.ntmps61
    go_wp2
    go_ret
    exact ⟨rfl, rfl⟩
  · have hw := is_walk n (.num m) _ hch rfl
    clear hch
    go_enter Tryd.func61, Tryd.ntmps61
    go_wp2_with (go_at_call 93; refine hw.mono ?_; rintro e w' ⟨rfl, rfl⟩)
    go_ret
    exact ⟨rfl, rfl⟩
  · have hw := is_walk n _ _ hch rfl
    clear hch hin
    go_enter Tryd.func61, Tryd.ntmps61
    go_wp2_with (go_at_call 93; refine hw.mono ?_; rintro e w' ⟨rfl, rfl⟩)
    go_ret
    exact ⟨rfl, rfl⟩
/-! ### errors.As: closed facts on the model's entries -/
theorem as_valueOfT (t : Addr) (w : World) : (ReflectliteValue.unpack (.iface 123 (.pointer (some t)))).run Tryd.prog w
    = .ok (.agg #[.pointer (some ⟨1, 123, none⟩), .pointer (some ⟨w.heap.size, 0, none⟩), .int .u64 150]) (w.alloc (.cells #[.pointer (some t)] 123)) := by kernel_rfl
theorem as_typeT (a : Addr) (w : World) : (ReflectliteValue.methodAny (ReflectliteValue.valueError "reflectlite.Value.Type" 0) (fun t _ _ _ => ReflectliteType.toType t) #[.agg #[.pointer (some ⟨1, 123, none⟩), .pointer (some a), .int .u64 150]]).run Tryd.prog w
    = .ok (.iface 170 (.agg #[.pointer (some ⟨1, 123, none⟩)])) w := by kernel_rfl
theorem as_methodKind (h : Value) (w : World) : (Go.method 315 170 (.agg #[h]) "Kind").run Tryd.prog w = .ok (118, h) w := by kernel_rfl
theorem as_kindT (w : World) : ((ReflectliteType.abiMethod fun t => (fun a : Nat => Value.int IntKind.u8 (a : Int)) <$> Rtype.kind t) #[.pointer (some ⟨1, 123, none⟩)]).run Tryd.prog w = .ok (.int .u8 22) w := by kernel_rfl
theorem as_kindE (w : World) : ((ReflectliteType.abiMethod fun t => (fun a : Nat => Value.int IntKind.u8 (a : Int)) <$> Rtype.kind t) #[.pointer (some ⟨1, 33, none⟩)]).run Tryd.prog w = .ok (.int .u8 2) w := by kernel_rfl
theorem as_rlm (z : Sem Value) (f : TypeId → Addr → Nat → Nat → Sem Value) (v : Value) :
    ReflectliteValue.method z f #[v] = (do match ← ReflectliteValue.parts v with | none => z | some (t, a, fl) => f t a fl (fl % 32)) := rfl
theorem as_partsT (a : Addr) (w : World) : (ReflectliteValue.parts (.agg #[.pointer (some ⟨1, 123, none⟩), .pointer (some a), .int .u64 150])).run Tryd.prog w = .ok (some (123, a, 150)) w := by kernel_rfl
theorem as_isNilT (a p : Addr) (W : World) (ha : W.cell? a = some (.pointer (some p))) :
    (ReflectliteValue.method (ReflectliteValue.valueError "reflectlite.Value.IsNil" 0) ReflectliteValue.isNil #[.agg #[.pointer (some ⟨1, 123, none⟩), .pointer (some a), .int .u64 150]]).run Tryd.prog W = .ok (.bool false) W := by
  rw [as_rlm]
  simp only [Sem.run_bind, as_partsT, Result.andThen]
  simp [ReflectliteValue.isNil, loadVar, isAgg, underlying, Tryd.underlying123, ha, Result.andThen]
theorem as_methodElem (h : Value) (w : World) : (Go.method 315 170 (.agg #[h]) "Elem").run Tryd.prog w = .ok (130, .agg #[h]) w := by kernel_rfl
theorem as_methodImplements (h : Value) (w : World) : (Go.method 315 170 (.agg #[h]) "Implements").run Tryd.prog w = .ok (131, .agg #[h]) w := by kernel_rfl
theorem as_methodAssignableTo (h : Value) (w : World) : (Go.method 315 170 (.agg #[h]) "AssignableTo").run Tryd.prog w = .ok (128, .agg #[h]) w := by kernel_rfl
theorem as_elemT (w : World) : (ReflectliteType.method ReflectliteType.elem #[.agg #[.pointer (some ⟨1, 123, none⟩)]]).run Tryd.prog w = .ok (.iface 170 (.agg #[.pointer (some ⟨1, 33, none⟩)])) w := by kernel_rfl
theorem as_implementsE (w : World) : (ReflectliteType.relation "Implements" ReflectliteType.implements_ #[.agg #[.pointer (some ⟨1, 33, none⟩)], .iface 170 (.agg #[.pointer (some ⟨1, 48, none⟩)])]).run Tryd.prog w = .ok (.bool true) w := by kernel_rfl
theorem as_typeOfE (v : Value) (w : World) : (ReflectliteType.typeOf #[.iface 33 v]).run Tryd.prog w = .ok (.iface 170 (.agg #[.pointer (some ⟨1, 33, none⟩)])) w := by kernel_rfl
theorem as_typeOfF (v : Value) (w : World) : (ReflectliteType.typeOf #[.iface 124 v]).run Tryd.prog w = .ok (.iface 170 (.agg #[.pointer (some ⟨1, 124, none⟩)])) w := by kernel_rfl
theorem as_assignableE (w : World) : (ReflectliteType.relation "AssignableTo" ReflectliteType.assignableTo #[.agg #[.pointer (some ⟨1, 33, none⟩)], .iface 170 (.agg #[.pointer (some ⟨1, 33, none⟩)])]).run Tryd.prog w = .ok (.bool true) w := by kernel_rfl
theorem as_assignableF (w : World) : (ReflectliteType.relation "AssignableTo" ReflectliteType.assignableTo #[.agg #[.pointer (some ⟨1, 124, none⟩)], .iface 170 (.agg #[.pointer (some ⟨1, 33, none⟩)])]).run Tryd.prog w = .ok (.bool false) w := by kernel_rfl
theorem as_valueOfE (n : Int) (w : World) : (ReflectliteValue.unpack (.iface 33 (.int .i64 n))).run Tryd.prog w
    = .ok (.agg #[.pointer (some ⟨1, 33, none⟩), .pointer (some ⟨w.heap.size, 0, none⟩), .int .u64 130]) (w.alloc (.cells #[.int .i64 n] 33)) := by kernel_rfl
theorem as_elemOfT (w : World) : (Rtype.elem? 123).run Tryd.prog w = .ok (some 33) w := by kernel_rfl
theorem as_mkE (p : Addr) (w : World) : (ReflectliteValue.mk 33 p ReflectliteValue.flagAddr).run Tryd.prog w = .ok (.agg #[.pointer (some ⟨1, 33, none⟩), .pointer (some p), .int .u64 386]) w := by kernel_rfl
theorem as_elemVT (a p : Addr) (W : World) (ha : W.cell? a = some (.pointer (some p))) :
    (ReflectliteValue.method (ReflectliteValue.valueError "reflectlite.Value.Elem" 0) ReflectliteValue.elem #[.agg #[.pointer (some ⟨1, 123, none⟩), .pointer (some a), .int .u64 150]]).run Tryd.prog W
      = .ok (.agg #[.pointer (some ⟨1, 33, none⟩), .pointer (some p), .int .u64 386]) W := by
  rw [as_rlm]
  simp only [Sem.run_bind, as_partsT, Result.andThen]
  simp [ReflectliteValue.elem, loadVar, isAgg, underlying, Tryd.underlying123, ha, Result.andThen, as_elemOfT, as_mkE]
theorem as_rls (v x : Value) : ReflectliteValue.set #[v, x] = (do
    let (some (dst, a, fl), some (src, b, _)) := (← ReflectliteValue.parts v, ← ReflectliteValue.parts x)
      | unsupported (.noEntry "extern/(internal/reflectlite.Value).Set.zeroValue")
    if fl / ReflectliteValue.flagAddr % 2 == 0 then unsupported (.noEntry "extern/(internal/reflectlite.Value).Set.unaddressable")
    let val ← loadVar src b
    if ← Rtype.directlyAssignable dst src then storeVar dst a val
    else if ← Rtype.implements dst src then
      if (← Rtype.kind src) == 20 then
        match val with
        | .nilIface => unsupported (.noEntry "extern/reflectlite: a nil value of one interface type handed on as a value of another")
        | _ => storeVar dst a val
      else storeVar dst a (.iface src val)
    else panicString ("reflectlite.Set: value of type " ++ (← Rtype.spelt src) ++ " is not assignable to type " ++ (← Rtype.spelt dst))
    pure (.tuple #[])) := rfl
theorem as_partsA (a : Addr) (w : World) : (ReflectliteValue.parts (.agg #[.pointer (some ⟨1, 33, none⟩), .pointer (some a), .int .u64 386])).run Tryd.prog w = .ok (some (33, a, 386)) w := by kernel_rfl
theorem as_partsE (a : Addr) (w : World) : (ReflectliteValue.parts (.agg #[.pointer (some ⟨1, 33, none⟩), .pointer (some a), .int .u64 130])).run Tryd.prog w = .ok (some (33, a, 130)) w := by kernel_rfl
theorem as_directE (w : World) : (Rtype.directlyAssignable 33 33).run Tryd.prog w = .ok true w := by kernel_rfl
theorem as_setE (ta b : Addr) (n : Int) (old : Value) (W : World) (hb : W.cell? b = some (.int .i64 n)) (ht : W.cell? ta = some old) (hf : W.frozen? ta = false) :
    (ReflectliteValue.set #[.agg #[.pointer (some ⟨1, 33, none⟩), .pointer (some ta), .int .u64 386], .agg #[.pointer (some ⟨1, 33, none⟩), .pointer (some b), .int .u64 130]]).run Tryd.prog W
      = .ok (.tuple #[]) (W.setCell ta (.int .i64 n)) := by
  rw [as_rls]
  simp only [Sem.run_bind, as_partsA, as_partsE, Result.andThen]
  simp [ReflectliteValue.flagAddr, loadVar, isAgg, underlying, Tryd.underlying33, hb, Result.andThen, as_directE, storeVar, Value.cells, storeCells, Addr.add]
  rw [run_store Tryd.prog W ta _ _ (by rfl)]
  simp [ht, hf]
theorem as_noAsF (v : Value) (xT : TypeId) (w : World) : (Instr.typeAssert (.iface 124 v) xT 174 true).run Tryd.prog w = .ok (.tuple #[.nilIface, .bool false]) w := Go.run_typeAssert_lacksB Tryd.underlying174 (by kernel_rfl) (by kernel_rfl) v xT w
/-! ### errors.As, by its contract -/
set_option maxRecDepth 1000000 in
set_option maxHeartbeats 4000000 in
theorem as_walk {W : World} {D : Nat → Prop} (hD : ∀ b, D b → b < W.heap.size) (e : GErr) (x : Value) (hch : ErrRep tab W D e x) (hne : e.isNil = false) (t a : Addr) (old : Value) (ha : W.cell? a = some (.pointer (some t))) (ht : W.cell? t = some old) (hf : W.frozen? t = false) (ho : a.block < W.heap.size) (hto : t.block < W.heap.size) :
    Calls Tryd.prog 91 #[x, .iface 123 (.pointer (some t)), .agg #[.pointer (some ⟨1, 123, none⟩), .pointer (some a), .int .u64 150], .iface 170 (.agg #[.pointer (some ⟨1, 33, none⟩)])] W fun r w' =>
      r = .returned (.bool e.first.isSome) ∧ (∀ n, e.first = some n → w' = ((W.alloc (.cells #[.pointer (some ⟨1, 123, none⟩), .pointer (some a), .int .u64 150] 155)).alloc (.cells #[.int .i64 n] 33)).setCell t (.int .i64 n)) ∧
        (e.first = none → w' = W.alloc (.cells #[.pointer (some ⟨1, 123, none⟩), .pointer (some a), .int .u64 150] 155)) := by
  have h88 := @run_callFunc_extern Tryd.prog 88 _ (fun args => ReflectliteValue.unpack (args.getD 0 (.tuple #[]))) Tryd.func88 (by kernel_rfl) (by kernel_rfl) (by kernel_rfl) (by kernel_rfl)
  have h92 := @run_callFunc_extern Tryd.prog 92 _ ReflectliteType.typeOf Tryd.func92 (by kernel_rfl) (by kernel_rfl) (by kernel_rfl) (by kernel_rfl)
  have h128 := @run_callFunc_extern Tryd.prog 128 _ (ReflectliteType.relation "AssignableTo" ReflectliteType.assignableTo) Tryd.func128 (by kernel_rfl) (by kernel_rfl) (by kernel_rfl) (by kernel_rfl)
  have h99 := @run_callFunc_extern Tryd.prog 99 _ (ReflectliteValue.method (ReflectliteValue.valueError "reflectlite.Value.Elem" 0) ReflectliteValue.elem) Tryd.func99 (by kernel_rfl) (by kernel_rfl) (by kernel_rfl) (by kernel_rfl)
  have h100 := @run_callFunc_extern Tryd.prog 100 _ ReflectliteValue.set Tryd.func100 (by kernel_rfl) (by kernel_rfl) (by kernel_rfl) (by kernel_rfl)
  have tE := as_typeOfE
  have tF := as_typeOfF
  have mA := as_methodAssignableTo
  have aE := as_assignableE
  have aF := as_assignableF
  have vE := as_valueOfE
  have nF := as_noAsF
  have uF := is_hasUnwrapF
  have mU := is_methodUnwrap
  generalize hWb : W.alloc (.cells #[.pointer (some ⟨1, 123, none⟩), .pointer (some a), .int .u64 150] 155) = Wb
  have hchb : ErrRep tab Wb D e x := hch.mono (fun _ h => h) (fun b hb => by rw [← hWb]; exact (World.grownBy_alloc W _ none).block b (hD b hb) (by simp))
  clear hch
  go_enter Tryd.func91, Tryd.ntmps91
  go_wp2
  go_loopw [0] (fun x' wl => wl = Wb ∧ ∃ e', ErrRep tab Wb D e' x' ∧ e'.isNil = false ∧ e'.first = e.first) (fun x' _ => valDepth Wb D x')
  case atStart => exact ⟨rfl, e, hchb, hne, rfl⟩
  case round =>
    obtain ⟨hwr, e', hc', hn', hiff⟩ := hrel
    have hlen0 := valDepth_eq hc'
    rcases errRep_cases hc' with ⟨rfl, rfl⟩ | ⟨m, rfl, rfl⟩ | ⟨what, about, wraps, b, off, y, rfl, rfl, hcell, hin⟩
    · cases hn'
    · have hfi : e.first = some m := hiff.symm
      clear hc' hlen0 hiff hchb
      subst hwr
      subst hWb
      have el := as_elemVT a t (W.alloc (.cells #[.pointer (some ⟨1, 123, none⟩), .pointer (some a), .int .u64 150] 155)) (by rw [World.cell?_alloc_lt _ _ a ho]; exact ha)
      have st := as_setE t ⟨W.heap.size + 1, 0, none⟩ m old ((W.alloc (.cells #[.pointer (some ⟨1, 123, none⟩), .pointer (some a), .int .u64 150] 155)).alloc (.cells #[.int .i64 m] 33))
        (by rw [World.cell?_alloc_at _ _ _ _ (by simp)]; rfl) (by rw [World.cell?_alloc_lt _ _ t (by simp; omega), World.cell?_alloc_lt _ _ t hto]; exact ht)
        (by rw [World.frozen?_alloc_old _ _ t (by simp; omega), World.frozen?_alloc_old _ _ t (Nat.ne_of_lt hto)]; exact hf)
      go_wp2
      go_ret
      exact ⟨by rw [hfi]; rfl, fun n hn => (by rw [hfi] at hn; cases hn; rfl), fun hn => (by rw [hfi] at hn; cases hn)⟩
    · have hlen := valDepth_eq hin
      have HC : Hid (ErrRep tab Wb D about y) := hin
      have HI : Hid (e.first = about.first) := hiff.symm
      subst hwr
      rcases errRep_cases hin with ⟨rfl, rfl⟩ | ⟨m, rfl, rfl⟩ | ⟨what', about', wraps', b', off', y', rfl, rfl, hcell', hin'⟩
      · have hfi : e.first = none := HI.out
        clear hc' hchb hin hiff hlen hlen0
        go_wp2
        go_ret
        exact ⟨by rw [hfi]; rfl, fun n hn => (by rw [hfi] at hn; cases hn), fun _ => rfl⟩
      · clear hc' hchb hin hiff
        go_wp2
        go_roundw
        case rel => exact ⟨trivial, .num m, HC.out, rfl, HI.out.symm⟩
        case measure =>
          show valDepth _ D (.iface 33 (.int .i64 m)) < _
          rw [hlen, hlen0]
          simp [errDepth]
      · clear hc' hchb hin hiff hcell' hin'
        go_wp2
        go_roundw
        case rel => exact ⟨trivial, _, HC.out, rfl, HI.out.symm⟩
        case measure =>
          show valDepth _ D (.iface 124 (.pointer (some ⟨b', off', none⟩))) < _
          rw [hlen, hlen0]
          simp [errDepth]

/-- the number at its place, if there is one -/
def laidDown (w : World) (t : Addr) : Option Int → World
  | some n => w.setCell t (.int .i64 n)
  | none => w
set_option maxRecDepth 1000000 in
set_option maxHeartbeats 4000000 in
theorem as_calls {W : World} {D : Nat → Prop} (hD : ∀ b, D b → b < W.heap.size) (e : GErr) (x : Value) (hch : ErrRep tab W D e x) (t : Addr) (old : Value) (hg : W.cell? ⟨0, 0, none⟩ = some (.iface 170 (.agg #[.pointer (some ⟨1, 48, none⟩)])))
    (ht : W.cell? t = some old) (hf : W.frozen? t = false) (hto : t.block < W.heap.size) :
    Calls Tryd.prog 59 #[x, .iface 123 (.pointer (some t))] W fun r w' => r = .returned (.bool e.first.isSome) ∧
      ∃ w1, W.grownBy w1 none ∧ w' = laidDown w1 t e.first := by
  have h88 := @run_callFunc_extern Tryd.prog 88 _ (fun args => ReflectliteValue.unpack (args.getD 0 (.tuple #[]))) Tryd.func88 (by kernel_rfl) (by kernel_rfl) (by kernel_rfl) (by kernel_rfl)
  have h89 := @run_callFunc_extern Tryd.prog 89 _ (ReflectliteValue.methodAny (ReflectliteValue.valueError "reflectlite.Value.Type" 0) (fun t _ _ _ => ReflectliteType.toType t)) Tryd.func89 (by kernel_rfl) (by kernel_rfl) (by kernel_rfl) (by kernel_rfl)
  have h90 := @run_callFunc_extern Tryd.prog 90 _ (ReflectliteValue.method (ReflectliteValue.valueError "reflectlite.Value.IsNil" 0) ReflectliteValue.isNil) Tryd.func90 (by kernel_rfl) (by kernel_rfl) (by kernel_rfl) (by kernel_rfl)
  have h118 := @run_callFunc_extern Tryd.prog 118 _ (ReflectliteType.abiMethod fun t => do pure (.int .u8 (← Rtype.kind t))) Tryd.func118 (by kernel_rfl) (by kernel_rfl) (by kernel_rfl) (by kernel_rfl)
  have h130 := @run_callFunc_extern Tryd.prog 130 _ (ReflectliteType.method ReflectliteType.elem) Tryd.func130 (by kernel_rfl) (by kernel_rfl) (by kernel_rfl) (by kernel_rfl)
  have h131 := @run_callFunc_extern Tryd.prog 131 _ (ReflectliteType.relation "Implements" ReflectliteType.implements_) Tryd.func131 (by kernel_rfl) (by kernel_rfl) (by kernel_rfl) (by kernel_rfl)
  have f6 := as_valueOfT
  have f7 := as_typeT
  have mK := as_methodKind
  have mE := as_methodElem
  have mI := as_methodImplements
  have kT := as_kindT
  have kE := as_kindE
  have eT := as_elemT
  have iE := as_implementsE
  have g0 : W.grownBy W none := ⟨rfl, rfl, rfl, Nat.le_refl _, fun _ _ _ => rfl⟩
  have hlt : 0 < W.heap.size := by omega
  cases hnil : e.isNil with
  | true =>
    have he : e = .nil := by cases e <;> first | rfl | cases hnil
    subst he
    cases hch
    go_enter Tryd.func59, Tryd.ntmps59
    go_wp2
    go_ret
    exact ⟨rfl, W, g0, rfl⟩
  | false =>
    have n8 := as_isNilT ⟨W.heap.size, 0, none⟩ t ((W.alloc (.cells #[.pointer (some t)] 123)).alloc (.cells #[.pointer (some ⟨1, 123, none⟩), .pointer (some ⟨W.heap.size, 0, none⟩), .int .u64 150] 155)) (by simp)
    have hg2 : ((W.alloc (.cells #[.pointer (some t)] 123)).alloc (.cells #[.pointer (some ⟨1, 123, none⟩), .pointer (some ⟨W.heap.size, 0, none⟩), .int .u64 150] 155)).cell? ⟨0, 0, none⟩ = some (.iface 170 (.agg #[.pointer (some ⟨1, 48, none⟩)])) := by
      rw [World.cell?_alloc_lt _ _ ⟨0, 0, none⟩ (by simp), World.cell?_alloc_lt _ _ ⟨0, 0, none⟩ hlt]; exact hg
    have gA := (World.grownBy_alloc W (.cells #[.pointer (some t)] 123) none)
    have gB := (World.grownBy_alloc (W.alloc (.cells #[.pointer (some t)] 123)) (.cells #[.pointer (some ⟨1, 123, none⟩), .pointer (some ⟨W.heap.size, 0, none⟩), .int .u64 150] 155) none)
    have gAB : W.grownBy ((W.alloc (.cells #[.pointer (some t)] 123)).alloc (.cells #[.pointer (some ⟨1, 123, none⟩), .pointer (some ⟨W.heap.size, 0, none⟩), .int .u64 150] 155)) none :=
      ⟨gB.os.trans gA.os, gB.tape.trans gA.tape, gB.output.trans gA.output, Nat.le_trans gA.size gB.size, fun k hk hne => (gB.block k (Nat.lt_of_lt_of_le hk gA.size) hne).trans (gA.block k hk hne)⟩
    have hsz : ((W.alloc (.cells #[.pointer (some t)] 123)).alloc (.cells #[.pointer (some ⟨1, 123, none⟩), .pointer (some ⟨W.heap.size, 0, none⟩), .int .u64 150] 155)).heap.size = W.heap.size + 2 := by simp
    have hw := as_walk (W := (W.alloc (.cells #[.pointer (some t)] 123)).alloc (.cells #[.pointer (some ⟨1, 123, none⟩), .pointer (some ⟨W.heap.size, 0, none⟩), .int .u64 150] 155)) (D := D)
      (fun b hb => by have := hD b hb; rw [hsz]; omega) e x (hch.mono (fun _ h => h) (fun b hb => gAB.block b (hD b hb) (by simp))) hnil t ⟨W.heap.size, 0, none⟩ old (by simp)
      (by rw [World.cell?_alloc_lt _ _ t (by simp; omega), World.cell?_alloc_lt _ _ t hto]; exact ht)
      (by rw [World.frozen?_alloc_old _ _ t (by simp; omega), World.frozen?_alloc_old _ _ t (Nat.ne_of_lt hto)]; exact hf) (by rw [hsz]; simp) (by rw [hsz]; omega)
    have hxn : ∃ tx vx, x = .iface tx vx := by
      rcases errRep_cases hch with ⟨rfl, rfl⟩ | ⟨m, rfl, rfl⟩ | ⟨what, about, wraps, b, off, y, rfl, rfl, hcell, hin⟩
      · cases hnil
      · exact ⟨_, _, rfl⟩
      · exact ⟨_, _, rfl⟩
    obtain ⟨tx, vx, rfl⟩ := hxn
    clear hch
    have fin : ∀ w', ((∀ n, e.first = some n → w' = ((((W.alloc (.cells #[.pointer (some t)] 123)).alloc (.cells #[.pointer (some ⟨1, 123, none⟩), .pointer (some ⟨W.heap.size, 0, none⟩), .int .u64 150] 155)).alloc (.cells #[.pointer (some ⟨1, 123, none⟩), .pointer (some ⟨W.heap.size, 0, none⟩), .int .u64 150] 155)).alloc (.cells #[.int .i64 n] 33)).setCell t (.int .i64 n)) ∧
        (e.first = none → w' = ((W.alloc (.cells #[.pointer (some t)] 123)).alloc (.cells #[.pointer (some ⟨1, 123, none⟩), .pointer (some ⟨W.heap.size, 0, none⟩), .int .u64 150] 155)).alloc (.cells #[.pointer (some ⟨1, 123, none⟩), .pointer (some ⟨W.heap.size, 0, none⟩), .int .u64 150] 155))) →
        ∃ w1, W.grownBy w1 none ∧ w' = laidDown w1 t e.first := by
      intro w' h
      have tr : ∀ {w1 w2 : World}, W.grownBy w1 none → w1.grownBy w2 none → W.grownBy w2 none := fun gA gB => ⟨gB.os.trans gA.os, gB.tape.trans gA.tape, gB.output.trans gA.output, Nat.le_trans gA.size gB.size, fun k hk hne => (gB.block k (Nat.lt_of_lt_of_le hk gA.size) hne).trans (gA.block k hk hne)⟩
      cases hfi : e.first with
      | none =>
        rw [hfi] at h
        exact ⟨_, tr gAB (World.grownBy_alloc _ _ none), h.2 rfl⟩
      | some n =>
        rw [hfi] at h
        exact ⟨_, tr (tr gAB (World.grownBy_alloc _ _ none)) (World.grownBy_alloc _ _ none), h.1 n rfl⟩
    go_enter Tryd.func59, Tryd.ntmps59
    go_wp2_with (go_at_call 91; refine hw.mono ?_; rintro r w' ⟨rfl, h1, h2⟩)
    go_ret
    exact ⟨rfl, fin _ ⟨h1, h2⟩⟩
theorem as_callable : Callable Tryd.prog 59 := Tryd.call59
theorem asOK : AsOK Tryd.prog tab := by
  intro _
  refine ⟨as_callable, ?_⟩
  intro W D e x t ty old hG hD hch hheap hnD
  have hg : W.cell? ⟨0, 0, none⟩ = some (.iface 170 (.agg #[.pointer (some ⟨1, 48, none⟩)])) := hG _ (List.mem_singleton.2 rfl)
  have hto : t < W.heap.size := (Array.getElem?_eq_some_iff.1 hheap).1
  refine (as_calls hD e x hch ⟨t, 0, none⟩ (.int .i64 old) hg (by simp [World.cell?, hheap]) (by simp [World.frozen?, hheap]) hto).mono ?_
  rintro r w' ⟨rfl, w1, hg1, rfl⟩
  have hh1 : w1.heap[t]? = some (.cells #[.int .i64 old] ty (0, 0)) := by rw [hg1.block t hto (by simp)]; exact hheap
  refine ⟨rfl, ?_, ?_⟩
  · cases e.first with
    | none => exact ⟨hg1.os, hg1.tape, hg1.output, hg1.size, fun k hk hne => hg1.block k hk (by simp)⟩
    | some n =>
      have gs : w1.grownBy (w1.setCell ⟨t, 0, none⟩ (.int .i64 n)) (some t) := ⟨rfl, rfl, rfl, by simp [World.setCell], fun k _ hk => heap_setCell_other w1 ⟨t, 0, none⟩ k _ (fun e => hk (by rw [e]))⟩
      exact ⟨gs.os.trans hg1.os, gs.tape.trans hg1.tape, gs.output.trans hg1.output, Nat.le_trans hg1.size gs.size, fun k hk hne => (gs.block k (Nat.lt_of_lt_of_le hk hg1.size) hne).trans (hg1.block k hk (by simp))⟩
  · cases e.first with
    | none => exact hh1
    | some n =>
      simp only [Option.getD_some]
      have := heap_setCell_same w1 t 0 _ ty (.int .i64 n) hh1
      exact this
end Go.Proofs.YtpnnmpdjgnbkhaaDoor.W
