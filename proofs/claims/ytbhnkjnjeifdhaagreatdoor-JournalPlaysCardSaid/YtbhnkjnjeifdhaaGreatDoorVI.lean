/-
  errors.Is and errors.As, of an error of this program: whether a number is in it, and which. No conditions.
-/
import Derived.Test.YtbhnkjnjeifdhaaGreatDoorVT
import Derived.WalkKit
import Derived.LaidEql
import Derived.Stop.Asserts
import Derived.RowKitTokens
import Derived.Elder7
set_option linter.unusedVariables false
namespace Go.Proofs.YtbhnkjnjeifdhaaGreatDoor.W
open Go Go.Proofs V Go.RowKit Go.Extern.Stop Go.Stop Go.Extern
/-! ### errors.Is: closed facts -/
theorem is_typeOf (v : Value) (w : World) : (Extern.ReflectliteType.typeOf #[.iface 35 v]).run Tryz.prog w = .ok (.iface 154 (.agg #[.pointer (some ⟨1, 35, none⟩)])) w := by kernel_rfl
/-- what the model does at (rtype).Comparable -/
def compExt : Array Value → Sem Value := Extern.ReflectliteType.method fun t => do Extern.Rtype.noPackHeld "Comparable" t; pure (.bool (← typeInfo t).comparable)
theorem is_comparable (w : World) : (compExt #[.agg #[.pointer (some ⟨1, 35, none⟩)]]).run Tryz.prog w = .ok (.bool true) w := by kernel_rfl
theorem is_methodComparable (v : Value) (w : World) : (Go.method 311 154 v "Comparable").run Tryz.prog w = .ok (117, v) w := by kernel_rfl
theorem is_comp : (Tryz.prog.info? 35).map (·.comparable) = some true := by kernel_rfl
theorem is_noUnwrapE (v : Value) (xT : TypeId) (w : World) : (Instr.typeAssert (.iface 35 v) xT 162 true).run Tryz.prog w = .ok (.tuple #[.nilIface, .bool false]) w := Go.run_typeAssert_lacksB Tryz.underlying162 (by kernel_rfl) (by kernel_rfl) v xT w
theorem is_noUnwrapsE (v : Value) (xT : TypeId) (w : World) : (Instr.typeAssert (.iface 35 v) xT 164 true).run Tryz.prog w = .ok (.tuple #[.nilIface, .bool false]) w := Go.run_typeAssert_lacksB Tryz.underlying164 (by kernel_rfl) (by kernel_rfl) v xT w
theorem is_hasUnwrapF (v : Value) (xT : TypeId) (w : World) : (Instr.typeAssert (.iface 147 v) xT 162 true).run Tryz.prog w = .ok (.tuple #[.iface 147 v, .bool true]) w := Go.run_typeAssert_hasB Tryz.underlying162 (by kernel_rfl) v xT w
theorem is_methodUnwrap (v : Value) (w : World) : (Go.method 311 147 v "Unwrap").run Tryz.prog w = .ok (114, v) w := by kernel_rfl
theorem is_eql (m n : Int) (w : World) : (binOp .eql 101 (.iface 35 (.int .i64 m)) (.iface 35 (.int .i64 n))).run Tryz.prog w = .ok (.bool (m == n)) w := by
  obtain ⟨i, hi, hc⟩ := Option.map_eq_some_iff.1 is_comp
  have h : ∀ d : Nat, (Op.equalIn (d + 2) 101 (.iface 35 (.int .i64 m)) (.iface 35 (.int .i64 n))).run Tryz.prog w = .ok (m == n) w := fun d => by
    simp [Op.equalIn, run_underlying Tryz.underlying101, run_underlying Tryz.underlying35, typeInfo, hi, hc]
  simp only [binOp]
  simp [Op.equal, Op.maxDepth, h 9998]

/-! ### errors.Is, by its contract -/
def errDepth : GErr → Nat
  | .nil => 0
  | .num _ => 1
  | .flt _ e _ => errDepth e + 1
theorem errRep_unique {w : World} {D : Nat → Prop} {e e' : GErr} {x : Value} (h : ErrRep tab w D e x) (h' : ErrRep tab w D e' x) : e = e' := by
  induction h generalizing e' with
  | nil => cases h'; rfl
  | num n => cases h'; rfl
  | flt d a _ ih =>
    cases h' with
    | flt d' a' h2 =>
      have e0 := (a 0 _ rfl).symm.trans (a' 0 _ rfl)
      have e1 := (a 1 _ rfl).symm.trans (a' 1 _ rfl)
      have e2 := (a 2 _ rfl).symm.trans (a' 2 _ rfl)
      cases e0
      cases e1
      cases e2
      rw [ih h2]
open Classical in
/-- how deep a value is: the loop's measure -/
noncomputable def valDepth (w : World) (D : Nat → Prop) (x : Value) : Nat := if h : ∃ e, ErrRep tab w D e x then errDepth h.choose else 0
theorem valDepth_eq {w : World} {D : Nat → Prop} {e : GErr} {x : Value} (h : ErrRep tab w D e x) : valDepth w D x = errDepth e := by
  unfold valDepth
  rw [dif_pos ⟨e, h⟩]
  rw [errRep_unique (Exists.choose_spec (⟨e, h⟩ : ∃ e, ErrRep tab w D e x)) h]

/-- what an error's value may be -/
theorem errRep_cases {w : World} {D : Nat → Prop} {e : GErr} {x : Value} (h : ErrRep tab w D e x) : (e = .nil ∧ x = .nilIface) ∨ (∃ n, e = .num n ∧ x = .iface 35 (.int .i64 n)) ∨
    (∃ what about wraps b off y, e = .flt what about wraps ∧ x = .iface 147 (.pointer (some ⟨b, off, none⟩)) ∧ w.cell? ⟨b, off + 1, none⟩ = some y ∧ ErrRep tab w D about y) := by
  cases h with
  | nil => exact .inl ⟨rfl, rfl⟩
  | num n => exact .inr (.inl ⟨n, rfl, rfl⟩)
  | flt d a h2 => exact .inr (.inr ⟨_, _, _, _, _, _, rfl, rfl, a 1 _ rfl, h2⟩)

set_option maxRecDepth 1000000 in
set_option maxRecDepth 1000000 in
/-! ### errors.As: closed facts on the model's entries -/
theorem as_valueOfT (t : Addr) (w : World) : (ReflectliteValue.unpack (.iface 105 (.pointer (some t)))).run Tryz.prog w
    = .ok (.agg #[.pointer (some ⟨1, 105, none⟩), .pointer (some ⟨w.heap.size, 0, none⟩), .int .u64 150]) (w.alloc (.cells #[.pointer (some t)] 105)) := by kernel_rfl
theorem as_typeT (a : Addr) (w : World) : (ReflectliteValue.methodAny (ReflectliteValue.valueError "reflectlite.Value.Type" 0) (fun t _ _ _ => ReflectliteType.toType t) #[.agg #[.pointer (some ⟨1, 105, none⟩), .pointer (some a), .int .u64 150]]).run Tryz.prog w
    = .ok (.iface 154 (.agg #[.pointer (some ⟨1, 105, none⟩)])) w := by kernel_rfl
theorem as_methodKind (h : Value) (w : World) : (Go.method 311 154 (.agg #[h]) "Kind").run Tryz.prog w = .ok (105, h) w := by kernel_rfl
theorem as_kindT (w : World) : ((ReflectliteType.abiMethod fun t => (fun a : Nat => Value.int IntKind.u8 (a : Int)) <$> Rtype.kind t) #[.pointer (some ⟨1, 105, none⟩)]).run Tryz.prog w = .ok (.int .u8 22) w := by kernel_rfl
theorem as_kindE (w : World) : ((ReflectliteType.abiMethod fun t => (fun a : Nat => Value.int IntKind.u8 (a : Int)) <$> Rtype.kind t) #[.pointer (some ⟨1, 35, none⟩)]).run Tryz.prog w = .ok (.int .u8 2) w := by kernel_rfl
theorem as_rlm (z : Sem Value) (f : TypeId → Addr → Nat → Nat → Sem Value) (v : Value) :
    ReflectliteValue.method z f #[v] = (do match ← ReflectliteValue.parts v with | none => z | some (t, a, fl) => f t a fl (fl % 32)) := rfl
theorem as_partsT (a : Addr) (w : World) : (ReflectliteValue.parts (.agg #[.pointer (some ⟨1, 105, none⟩), .pointer (some a), .int .u64 150])).run Tryz.prog w = .ok (some (105, a, 150)) w := by kernel_rfl
theorem as_isNilT (a p : Addr) (W : World) (ha : W.cell? a = some (.pointer (some p))) :
    (ReflectliteValue.method (ReflectliteValue.valueError "reflectlite.Value.IsNil" 0) ReflectliteValue.isNil #[.agg #[.pointer (some ⟨1, 105, none⟩), .pointer (some a), .int .u64 150]]).run Tryz.prog W = .ok (.bool false) W := by
  rw [as_rlm]
  simp only [Sem.run_bind, as_partsT, Result.andThen]
  simp [ReflectliteValue.isNil, loadVar, isAgg, underlying, Tryz.underlying105, ha, Result.andThen]
theorem as_methodElem (h : Value) (w : World) : (Go.method 311 154 (.agg #[h]) "Elem").run Tryz.prog w = .ok (118, .agg #[h]) w := by kernel_rfl
theorem as_methodImplements (h : Value) (w : World) : (Go.method 311 154 (.agg #[h]) "Implements").run Tryz.prog w = .ok (119, .agg #[h]) w := by kernel_rfl
theorem as_methodAssignableTo (h : Value) (w : World) : (Go.method 311 154 (.agg #[h]) "AssignableTo").run Tryz.prog w = .ok (116, .agg #[h]) w := by kernel_rfl
theorem as_elemT (w : World) : (ReflectliteType.method ReflectliteType.elem #[.agg #[.pointer (some ⟨1, 105, none⟩)]]).run Tryz.prog w = .ok (.iface 154 (.agg #[.pointer (some ⟨1, 35, none⟩)])) w := by kernel_rfl
theorem as_implementsE (w : World) : (ReflectliteType.relation "Implements" ReflectliteType.implements_ #[.agg #[.pointer (some ⟨1, 35, none⟩)], .iface 154 (.agg #[.pointer (some ⟨1, 101, none⟩)])]).run Tryz.prog w = .ok (.bool true) w := by kernel_rfl
theorem as_typeOfE (v : Value) (w : World) : (ReflectliteType.typeOf #[.iface 35 v]).run Tryz.prog w = .ok (.iface 154 (.agg #[.pointer (some ⟨1, 35, none⟩)])) w := by kernel_rfl
theorem as_typeOfF (v : Value) (w : World) : (ReflectliteType.typeOf #[.iface 147 v]).run Tryz.prog w = .ok (.iface 154 (.agg #[.pointer (some ⟨1, 147, none⟩)])) w := by kernel_rfl
theorem as_assignableE (w : World) : (ReflectliteType.relation "AssignableTo" ReflectliteType.assignableTo #[.agg #[.pointer (some ⟨1, 35, none⟩)], .iface 154 (.agg #[.pointer (some ⟨1, 35, none⟩)])]).run Tryz.prog w = .ok (.bool true) w := by kernel_rfl
theorem as_assignableF (w : World) : (ReflectliteType.relation "AssignableTo" ReflectliteType.assignableTo #[.agg #[.pointer (some ⟨1, 147, none⟩)], .iface 154 (.agg #[.pointer (some ⟨1, 35, none⟩)])]).run Tryz.prog w = .ok (.bool false) w := by kernel_rfl
theorem as_valueOfE (n : Int) (w : World) : (ReflectliteValue.unpack (.iface 35 (.int .i64 n))).run Tryz.prog w
    = .ok (.agg #[.pointer (some ⟨1, 35, none⟩), .pointer (some ⟨w.heap.size, 0, none⟩), .int .u64 130]) (w.alloc (.cells #[.int .i64 n] 35)) := by kernel_rfl
theorem as_elemOfT (w : World) : (Rtype.elem? 105).run Tryz.prog w = .ok (some 35) w := by kernel_rfl
theorem as_mkE (p : Addr) (w : World) : (ReflectliteValue.mk 35 p ReflectliteValue.flagAddr).run Tryz.prog w = .ok (.agg #[.pointer (some ⟨1, 35, none⟩), .pointer (some p), .int .u64 386]) w := by kernel_rfl
theorem as_elemVT (a p : Addr) (W : World) (ha : W.cell? a = some (.pointer (some p))) :
    (ReflectliteValue.method (ReflectliteValue.valueError "reflectlite.Value.Elem" 0) ReflectliteValue.elem #[.agg #[.pointer (some ⟨1, 105, none⟩), .pointer (some a), .int .u64 150]]).run Tryz.prog W
      = .ok (.agg #[.pointer (some ⟨1, 35, none⟩), .pointer (some p), .int .u64 386]) W := by
  rw [as_rlm]
  simp only [Sem.run_bind, as_partsT, Result.andThen]
  simp [ReflectliteValue.elem, loadVar, isAgg, underlying, Tryz.underlying105, ha, Result.andThen, as_elemOfT, as_mkE]
theorem as_rls (v x : Value) : ReflectliteValue.set #[v, x] = (do
    let (some (dst, a, fl), some (src, b, _)) := (← ReflectliteValue.parts v, ← ReflectliteValue.parts x)
      | unsupported (.noEntry "extern/(internal/reflectlite.Value).Set.zeroValue")
    if fl / ReflectliteValue.flagAddr % 2 == 0 then unsupported (.noEntry "extern/(internal/reflectlite.Value).Set.unaddressable")
    let val ← loadVar src b
    if ← Rtype.directlyAssignable dst src then storeVar dst a val
    else if ← Rtype.implements dst src then
      if (← Rtype.kind src) == 20 then
        match val with
        | .nilIface => unsupported (.noEntry "extern/reflectlite: a nil value of one interface type handed on as a value of another")
        | _ => storeVar dst a val
      else storeVar dst a (.iface src val)
    else panicString ("reflectlite.Set: value of type " ++ (← Rtype.spelt src) ++ " is not assignable to type " ++ (← Rtype.spelt dst))
    pure (.tuple #[])) := rfl
theorem as_partsA (a : Addr) (w : World) : (ReflectliteValue.parts (.agg #[.pointer (some ⟨1, 35, none⟩), .pointer (some a), .int .u64 386])).run Tryz.prog w = .ok (some (35, a, 386)) w := by kernel_rfl
theorem as_partsE (a : Addr) (w : World) : (ReflectliteValue.parts (.agg #[.pointer (some ⟨1, 35, none⟩), .pointer (some a), .int .u64 130])).run Tryz.prog w = .ok (some (35, a, 130)) w := by kernel_rfl
theorem as_directE (w : World) : (Rtype.directlyAssignable 35 35).run Tryz.prog w = .ok true w := by kernel_rfl
theorem as_setE (ta b : Addr) (n : Int) (old : Value) (W : World) (hb : W.cell? b = some (.int .i64 n)) (ht : W.cell? ta = some old) (hf : W.frozen? ta = false) :
    (ReflectliteValue.set #[.agg #[.pointer (some ⟨1, 35, none⟩), .pointer (some ta), .int .u64 386], .agg #[.pointer (some ⟨1, 35, none⟩), .pointer (some b), .int .u64 130]]).run Tryz.prog W
      = .ok (.tuple #[]) (W.setCell ta (.int .i64 n)) := by
  rw [as_rls]
  simp only [Sem.run_bind, as_partsA, as_partsE, Result.andThen]
  simp [ReflectliteValue.flagAddr, loadVar, isAgg, underlying, Tryz.underlying35, hb, Result.andThen, as_directE, storeVar, Value.cells, storeCells, Addr.add]
  rw [run_store Tryz.prog W ta _ _ (by rfl)]
  simp [ht, hf]
theorem as_noAsF (v : Value) (xT : TypeId) (w : World) : (Instr.typeAssert (.iface 147 v) xT 159 true).run Tryz.prog w = .ok (.tuple #[.nilIface, .bool false]) w := Go.run_typeAssert_lacksB Tryz.underlying159 (by kernel_rfl) (by kernel_rfl) v xT w
/-! ### errors.As, by its contract -/
set_option maxRecDepth 1000000 in
set_option maxHeartbeats 4000000 in
theorem as_walk {W : World} {D : Nat → Prop} (hD : ∀ b, D b → b < W.heap.size) (e : GErr) (x : Value) (hch : ErrRep tab W D e x) (hne : e.isNil = false) (t a : Addr) (old : Value) (ha : W.cell? a = some (.pointer (some t))) (ht : W.cell? t = some old) (hf : W.frozen? t = false) (ho : a.block < W.heap.size) (hto : t.block < W.heap.size) :
    Calls Tryz.prog 58 #[x, .iface 105 (.pointer (some t)), .agg #[.pointer (some ⟨1, 105, none⟩), .pointer (some a), .int .u64 150], .iface 154 (.agg #[.pointer (some ⟨1, 35, none⟩)])] W fun r w' =>
      r = .returned (.bool e.first.isSome) ∧ (∀ n, e.first = some n → w' = ((W.alloc (.cells #[.pointer (some ⟨1, 105, none⟩), .pointer (some a), .int .u64 150] 132)).alloc (.cells #[.int .i64 n] 35)).setCell t (.int .i64 n)) ∧
        (e.first = none → w' = W.alloc (.cells #[.pointer (some ⟨1, 105, none⟩), .pointer (some a), .int .u64 150] 132)) := by
  have h88 := @run_callFunc_extern Tryz.prog 55 _ (fun args => ReflectliteValue.unpack (args.getD 0 (.tuple #[]))) Tryz.func55 (by kernel_rfl) (by kernel_rfl) (by kernel_rfl) (by kernel_rfl)
  have h92 := @run_callFunc_extern Tryz.prog 68 _ ReflectliteType.typeOf Tryz.func68 (by kernel_rfl) (by kernel_rfl) (by kernel_rfl) (by kernel_rfl)
  have h128 := @run_callFunc_extern Tryz.prog 116 _ (ReflectliteType.relation "AssignableTo" ReflectliteType.assignableTo) Tryz.func116 (by kernel_rfl) (by kernel_rfl) (by kernel_rfl) (by kernel_rfl)
  have h99 := @run_callFunc_extern Tryz.prog 69 _ (ReflectliteValue.method (ReflectliteValue.valueError "reflectlite.Value.Elem" 0) ReflectliteValue.elem) Tryz.func69 (by kernel_rfl) (by kernel_rfl) (by kernel_rfl) (by kernel_rfl)
  have h100 := @run_callFunc_extern Tryz.prog 70 _ ReflectliteValue.set Tryz.func70 (by kernel_rfl) (by kernel_rfl) (by kernel_rfl) (by kernel_rfl)
  have tE := as_typeOfE
  have tF := as_typeOfF
  have mA := as_methodAssignableTo
  have aE := as_assignableE
  have aF := as_assignableF
  have vE := as_valueOfE
  have nF := as_noAsF
  have uF := is_hasUnwrapF
  have mU := is_methodUnwrap
  generalize hWb : W.alloc (.cells #[.pointer (some ⟨1, 105, none⟩), .pointer (some a), .int .u64 150] 132) = Wb
  have hchb : ErrRep tab Wb D e x := hch.mono (fun _ h => h) (fun b hb => by rw [← hWb]; exact (World.grownBy_alloc W _ none).block b (hD b hb) (by simp))
  clear hch
  go_enter Tryz.func58, Tryz.ntmps58
  go_wp2
  go_loopw [0] (fun x' wl => wl = Wb ∧ ∃ e', ErrRep tab Wb D e' x' ∧ e'.isNil = false ∧ e'.first = e.first) (fun x' _ => valDepth Wb D x')
  case atStart => exact ⟨rfl, e, hchb, hne, rfl⟩
  case round =>
    obtain ⟨hwr, e', hc', hn', hiff⟩ := hrel
    have hlen0 := valDepth_eq hc'
    rcases errRep_cases hc' with ⟨rfl, rfl⟩ | ⟨m, rfl, rfl⟩ | ⟨what, about, wraps, b, off, y, rfl, rfl, hcell, hin⟩
    · cases hn'
    · have hfi : e.first = some m := hiff.symm
      clear hc' hlen0 hiff hchb
      subst hwr
      subst hWb
      have el := as_elemVT a t (W.alloc (.cells #[.pointer (some ⟨1, 105, none⟩), .pointer (some a), .int .u64 150] 132)) (by rw [World.cell?_alloc_lt _ _ a ho]; exact ha)
      have st := as_setE t ⟨W.heap.size + 1, 0, none⟩ m old ((W.alloc (.cells #[.pointer (some ⟨1, 105, none⟩), .pointer (some a), .int .u64 150] 132)).alloc (.cells #[.int .i64 m] 35))
        (by rw [World.cell?_alloc_at _ _ _ _ (by simp)]; rfl) (by rw [World.cell?_alloc_lt _ _ t (by simp; omega), World.cell?_alloc_lt _ _ t hto]; exact ht)
        (by rw [World.frozen?_alloc_old _ _ t (by simp; omega), World.frozen?_alloc_old _ _ t (Nat.ne_of_lt hto)]; exact hf)
      go_wp2
      go_ret
      exact ⟨by rw [hfi]; rfl, fun n hn => (by rw [hfi] at hn; cases hn; rfl), fun hn => (by rw [hfi] at hn; cases hn)⟩
    · have hlen := valDepth_eq hin
      have HC : Hid (ErrRep tab Wb D about y) := hin
      have HI : Hid (e.first = about.first) := hiff.symm
      subst hwr
      rcases errRep_cases hin with ⟨rfl, rfl⟩ | ⟨m, rfl, rfl⟩ | ⟨what', about', wraps', b', off', y', rfl, rfl, hcell', hin'⟩
      · have hfi : e.first = none := HI.out
        clear hc' hchb hin hiff hlen hlen0
        go_wp2
        go_ret
        exact ⟨by rw [hfi]; rfl, fun n hn => (by rw [hfi] at hn; cases hn), fun _ => rfl⟩
      · clear hc' hchb hin hiff
        go_wp2
        go_roundw
        case rel => exact ⟨trivial, .num m, HC.out, rfl, HI.out.symm⟩
        case measure =>
          show valDepth _ D (.iface 35 (.int .i64 m)) < _
          rw [hlen, hlen0]
          simp [errDepth]
      · clear hc' hchb hin hiff hcell' hin'
        go_wp2
        go_roundw
        case rel => exact ⟨trivial, _, HC.out, rfl, HI.out.symm⟩
        case measure =>
          show valDepth _ D (.iface 147 (.pointer (some ⟨b', off', none⟩))) < _
          rw [hlen, hlen0]
          simp [errDepth]

/-- the number at its place, if there is one -/
def laidDown (w : World) (t : Addr) : Option Int → World
  | some n => w.setCell t (.int .i64 n)
  | none => w
set_option maxRecDepth 1000000 in
set_option maxHeartbeats 4000000 in
theorem as_calls {W : World} {D : Nat → Prop} (hD : ∀ b, D b → b < W.heap.size) (e : GErr) (x : Value) (hch : ErrRep tab W D e x) (t : Addr) (old : Value) (hg : W.cell? ⟨0, 0, none⟩ = some (.iface 154 (.agg #[.pointer (some ⟨1, 101, none⟩)])))
    (ht : W.cell? t = some old) (hf : W.frozen? t = false) (hto : t.block < W.heap.size) :
    Calls Tryz.prog 36 #[x, .iface 105 (.pointer (some t))] W fun r w' => r = .returned (.bool e.first.isSome) ∧
      ∃ w1, W.grownBy w1 none ∧ w' = laidDown w1 t e.first := by
  have h88 := @run_callFunc_extern Tryz.prog 55 _ (fun args => ReflectliteValue.unpack (args.getD 0 (.tuple #[]))) Tryz.func55 (by kernel_rfl) (by kernel_rfl) (by kernel_rfl) (by kernel_rfl)
  have h89 := @run_callFunc_extern Tryz.prog 56 _ (ReflectliteValue.methodAny (ReflectliteValue.valueError "reflectlite.Value.Type" 0) (fun t _ _ _ => ReflectliteType.toType t)) Tryz.func56 (by kernel_rfl) (by kernel_rfl) (by kernel_rfl) (by kernel_rfl)
  have h90 := @run_callFunc_extern Tryz.prog 57 _ (ReflectliteValue.method (ReflectliteValue.valueError "reflectlite.Value.IsNil" 0) ReflectliteValue.isNil) Tryz.func57 (by kernel_rfl) (by kernel_rfl) (by kernel_rfl) (by kernel_rfl)
  have h118 := @run_callFunc_extern Tryz.prog 105 _ (ReflectliteType.abiMethod fun t => do pure (.int .u8 (← Rtype.kind t))) Tryz.func105 (by kernel_rfl) (by kernel_rfl) (by kernel_rfl) (by kernel_rfl)
  have h130 := @run_callFunc_extern Tryz.prog 118 _ (ReflectliteType.method ReflectliteType.elem) Tryz.func118 (by kernel_rfl) (by kernel_rfl) (by kernel_rfl) (by kernel_rfl)
  have h131 := @run_callFunc_extern Tryz.prog 119 _ (ReflectliteType.relation "Implements" ReflectliteType.implements_) Tryz.func119 (by kernel_rfl) (by kernel_rfl) (by kernel_rfl) (by kernel_rfl)
  have f6 := as_valueOfT
  have f7 := as_typeT
  have mK := as_methodKind
  have mE := as_methodElem
  have mI := as_methodImplements
  have kT := as_kindT
  have kE := as_kindE
  have eT := as_elemT
  have iE := as_implementsE
  have g0 : W.grownBy W none := ⟨rfl, rfl, rfl, Nat.le_refl _, fun _ _ _ => rfl⟩
  have hlt : 0 < W.heap.size := by omega
  cases hnil : e.isNil with
  | true =>
    have he : e = .nil := by cases e <;> first | rfl | cases hnil
    subst he
    cases hch
    go_enter Tryz.func36, Tryz.ntmps36
    go_wp2
    go_ret
    exact ⟨rfl, W, g0, rfl⟩
  | false =>
    have n8 := as_isNilT ⟨W.heap.size, 0, none⟩ t ((W.alloc (.cells #[.pointer (some t)] 105)).alloc (.cells #[.pointer (some ⟨1, 105, none⟩), .pointer (some ⟨W.heap.size, 0, none⟩), .int .u64 150] 132)) (by simp)
    have hg2 : ((W.alloc (.cells #[.pointer (some t)] 105)).alloc (.cells #[.pointer (some ⟨1, 105, none⟩), .pointer (some ⟨W.heap.size, 0, none⟩), .int .u64 150] 132)).cell? ⟨0, 0, none⟩ = some (.iface 154 (.agg #[.pointer (some ⟨1, 101, none⟩)])) := by
      rw [World.cell?_alloc_lt _ _ ⟨0, 0, none⟩ (by simp), World.cell?_alloc_lt _ _ ⟨0, 0, none⟩ hlt]; exact hg
    have gA := (World.grownBy_alloc W (.cells #[.pointer (some t)] 105) none)
    have gB := (World.grownBy_alloc (W.alloc (.cells #[.pointer (some t)] 105)) (.cells #[.pointer (some ⟨1, 105, none⟩), .pointer (some ⟨W.heap.size, 0, none⟩), .int .u64 150] 132) none)
    have gAB : W.grownBy ((W.alloc (.cells #[.pointer (some t)] 105)).alloc (.cells #[.pointer (some ⟨1, 105, none⟩), .pointer (some ⟨W.heap.size, 0, none⟩), .int .u64 150] 132)) none :=
      ⟨gB.os.trans gA.os, gB.tape.trans gA.tape, gB.output.trans gA.output, Nat.le_trans gA.size gB.size, fun k hk hne => (gB.block k (Nat.lt_of_lt_of_le hk gA.size) hne).trans (gA.block k hk hne)⟩
    have hsz : ((W.alloc (.cells #[.pointer (some t)] 105)).alloc (.cells #[.pointer (some ⟨1, 105, none⟩), .pointer (some ⟨W.heap.size, 0, none⟩), .int .u64 150] 132)).heap.size = W.heap.size + 2 := by simp
    have hw := as_walk (W := (W.alloc (.cells #[.pointer (some t)] 105)).alloc (.cells #[.pointer (some ⟨1, 105, none⟩), .pointer (some ⟨W.heap.size, 0, none⟩), .int .u64 150] 132)) (D := D)
      (fun b hb => by have := hD b hb; rw [hsz]; omega) e x (hch.mono (fun _ h => h) (fun b hb => gAB.block b (hD b hb) (by simp))) hnil t ⟨W.heap.size, 0, none⟩ old (by simp)
      (by rw [World.cell?_alloc_lt _ _ t (by simp; omega), World.cell?_alloc_lt _ _ t hto]; exact ht)
      (by rw [World.frozen?_alloc_old _ _ t (by simp; omega), World.frozen?_alloc_old _ _ t (Nat.ne_of_lt hto)]; exact hf) (by rw [hsz]; simp) (by rw [hsz]; omega)
    have hxn : ∃ tx vx, x = .iface tx vx := by
      rcases errRep_cases hch with ⟨rfl, rfl⟩ | ⟨m, rfl, rfl⟩ | ⟨what, about, wraps, b, off, y, rfl, rfl, hcell, hin⟩
      · cases hnil
      · exact ⟨_, _, rfl⟩
      · exact ⟨_, _, rfl⟩
    obtain ⟨tx, vx, rfl⟩ := hxn
    clear hch
    have fin : ∀ w', ((∀ n, e.first = some n → w' = ((((W.alloc (.cells #[.pointer (some t)] 105)).alloc (.cells #[.pointer (some ⟨1, 105, none⟩), .pointer (some ⟨W.heap.size, 0, none⟩), .int .u64 150] 132)).alloc (.cells #[.pointer (some ⟨1, 105, none⟩), .pointer (some ⟨W.heap.size, 0, none⟩), .int .u64 150] 132)).alloc (.cells #[.int .i64 n] 35)).setCell t (.int .i64 n)) ∧
        (e.first = none → w' = ((W.alloc (.cells #[.pointer (some t)] 105)).alloc (.cells #[.pointer (some ⟨1, 105, none⟩), .pointer (some ⟨W.heap.size, 0, none⟩), .int .u64 150] 132)).alloc (.cells #[.pointer (some ⟨1, 105, none⟩), .pointer (some ⟨W.heap.size, 0, none⟩), .int .u64 150] 132))) →
        ∃ w1, W.grownBy w1 none ∧ w' = laidDown w1 t e.first := by
      intro w' h
      have tr : ∀ {w1 w2 : World}, W.grownBy w1 none → w1.grownBy w2 none → W.grownBy w2 none := fun gA gB => ⟨gB.os.trans gA.os, gB.tape.trans gA.tape, gB.output.trans gA.output, Nat.le_trans gA.size gB.size, fun k hk hne => (gB.block k (Nat.lt_of_lt_of_le hk gA.size) hne).trans (gA.block k hk hne)⟩
      cases hfi : e.first with
      | none =>
        rw [hfi] at h
        exact ⟨_, tr gAB (World.grownBy_alloc _ _ none), h.2 rfl⟩
      | some n =>
        rw [hfi] at h
        exact ⟨_, tr (tr gAB (World.grownBy_alloc _ _ none)) (World.grownBy_alloc _ _ none), h.1 n rfl⟩
    go_enter Tryz.func36, Tryz.ntmps36
    go_wp2_with (go_at_call 58; refine hw.mono ?_; rintro r w' ⟨rfl, h1, h2⟩)
    go_ret
    exact ⟨rfl, fin _ ⟨h1, h2⟩⟩
theorem as_callable : Callable Tryz.prog 36 := Tryz.call36
theorem asOK : AsOK Tryz.prog tab := by
  intro _
  refine ⟨as_callable, ?_⟩
  intro W D e x t ty old hG hD hch hheap hnD
  have hg : W.cell? ⟨0, 0, none⟩ = some (.iface 154 (.agg #[.pointer (some ⟨1, 101, none⟩)])) := hG _ (List.mem_singleton.2 rfl)
  have hto : t < W.heap.size := (Array.getElem?_eq_some_iff.1 hheap).1
  refine (as_calls hD e x hch ⟨t, 0, none⟩ (.int .i64 old) hg (by simp [World.cell?, hheap]) (by simp [World.frozen?, hheap]) hto).mono ?_
  rintro r w' ⟨rfl, w1, hg1, rfl⟩
  have hh1 : w1.heap[t]? = some (.cells #[.int .i64 old] ty (0, 0)) := by rw [hg1.block t hto (by simp)]; exact hheap
  refine ⟨rfl, ?_, ?_⟩
  · cases e.first with
    | none => exact ⟨hg1.os, hg1.tape, hg1.output, hg1.size, fun k hk hne => hg1.block k hk (by simp)⟩
    | some n =>
      have gs : w1.grownBy (w1.setCell ⟨t, 0, none⟩ (.int .i64 n)) (some t) := ⟨rfl, rfl, rfl, by simp [World.setCell], fun k _ hk => heap_setCell_other w1 ⟨t, 0, none⟩ k _ (fun e => hk (by rw [e]))⟩
      exact ⟨gs.os.trans hg1.os, gs.tape.trans hg1.tape, gs.output.trans hg1.output, Nat.le_trans hg1.size gs.size, fun k hk hne => (gs.block k (Nat.lt_of_lt_of_le hk hg1.size) hne).trans (hg1.block k hk (by simp))⟩
  · cases e.first with
    | none => exact hh1
    | some n =>
      simp only [Option.getD_some]
      have := heap_setCell_same w1 t 0 _ ty (.int .i64 n) hh1
      exact this
end Go.Proofs.YtbhnkjnjeifdhaaGreatDoor.W
