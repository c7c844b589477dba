/-
  errors.Is of an error of this program and a number: whether the number is in it. No conditions.
-/
import Derived.Test.YtofodkmokjhcoaaVT
import Derived.WalkKit
import Derived.LaidEql
import Derived.Stop.Asserts
import Derived.RowKitTokens
import Derived.Elder7
set_option linter.unusedVariables false
namespace Go.Proofs.Ytofodkmokjhcoaa.W
open Go Go.Proofs V Go.RowKit Go.Extern.Stop Go.Stop Go.Extern
/-! ### errors.Is: closed facts -/
theorem is_typeOf (v : Value) (w : World) : (Extern.ReflectliteType.typeOf #[.iface 28 v]).run Try.prog w = .ok (.iface 115 (.agg #[.pointer (some ⟨0, 28, none⟩)])) w := by kernel_rfl
/-- what the model does at (rtype).Comparable -/
def compExt : Array Value → Sem Value := Extern.ReflectliteType.method fun t => do Extern.Rtype.noPackHeld "Comparable" t; pure (.bool (← typeInfo t).comparable)
theorem is_comparable (w : World) : (compExt #[.agg #[.pointer (some ⟨0, 28, none⟩)]]).run Try.prog w = .ok (.bool true) w := by kernel_rfl
theorem is_methodComparable (v : Value) (w : World) : (Go.method 263 115 v "Comparable").run Try.prog w = .ok (84, v) w := by kernel_rfl
theorem is_comp : (Try.prog.info? 28).map (·.comparable) = some true := by kernel_rfl
theorem is_noIsE (v : Value) (xT : TypeId) (w : World) : (Instr.typeAssert (.iface 28 v) xT 117 true).run Try.prog w = .ok (.tuple #[.nilIface, .bool false]) w := Go.run_typeAssert_lacksB Try.underlying117 (by kernel_rfl) (by kernel_rfl) v xT w
theorem is_noUnwrapE (v : Value) (xT : TypeId) (w : World) : (Instr.typeAssert (.iface 28 v) xT 120 true).run Try.prog w = .ok (.tuple #[.nilIface, .bool false]) w := Go.run_typeAssert_lacksB Try.underlying120 (by kernel_rfl) (by kernel_rfl) v xT w
theorem is_noUnwrapsE (v : Value) (xT : TypeId) (w : World) : (Instr.typeAssert (.iface 28 v) xT 122 true).run Try.prog w = .ok (.tuple #[.nilIface, .bool false]) w := Go.run_typeAssert_lacksB Try.underlying122 (by kernel_rfl) (by kernel_rfl) v xT w
theorem is_noIsF (v : Value) (xT : TypeId) (w : World) : (Instr.typeAssert (.iface 125 v) xT 117 true).run Try.prog w = .ok (.tuple #[.nilIface, .bool false]) w := Go.run_typeAssert_lacksB Try.underlying117 (by kernel_rfl) (by kernel_rfl) v xT w
theorem is_hasUnwrapF (v : Value) (xT : TypeId) (w : World) : (Instr.typeAssert (.iface 125 v) xT 120 true).run Try.prog w = .ok (.tuple #[.iface 125 v, .bool true]) w := Go.run_typeAssert_hasB Try.underlying120 (by kernel_rfl) v xT w
theorem is_methodUnwrap (v : Value) (w : World) : (Go.method 263 125 v "Unwrap").run Try.prog w = .ok (94, v) w := by kernel_rfl
theorem is_eql (m n : Int) (w : World) : (binOp .eql 101 (.iface 28 (.int .i64 m)) (.iface 28 (.int .i64 n))).run Try.prog w = .ok (.bool (m == n)) w := by
  obtain ⟨i, hi, hc⟩ := Option.map_eq_some_iff.1 is_comp
  have h : ∀ d : Nat, (Op.equalIn (d + 2) 101 (.iface 28 (.int .i64 m)) (.iface 28 (.int .i64 n))).run Try.prog w = .ok (m == n) w := fun d => by
    simp [Op.equalIn, run_underlying Try.underlying101, run_underlying Try.underlying28, typeInfo, hi, hc]
  simp only [binOp]
  simp [Op.equal, Op.maxDepth, h 9998]

/-! ### errors.Is, by its contract -/
def errDepth : GErr → Nat
  | .nil => 0
  | .num _ => 1
  | .flt _ e _ => errDepth e + 1
theorem errRep_unique {w : World} {D : Nat → Prop} {e e' : GErr} {x : Value} (h : ErrRep tab w D e x) (h' : ErrRep tab w D e' x) : e = e' := by
  induction h generalizing e' with
  | nil => cases h'; rfl
  | num n => cases h'; rfl
  | flt d a _ ih =>
    cases h' with
    | flt d' a' h2 =>
      have e0 := (a 0 _ rfl).symm.trans (a' 0 _ rfl)
      have e1 := (a 1 _ rfl).symm.trans (a' 1 _ rfl)
      have e2 := (a 2 _ rfl).symm.trans (a' 2 _ rfl)
      cases e0
      cases e1
      cases e2
      rw [ih h2]
open Classical in
/-- how deep a value is: the loop's measure -/
noncomputable def valDepth (w : World) (D : Nat → Prop) (x : Value) : Nat := if h : ∃ e, ErrRep tab w D e x then errDepth h.choose else 0
theorem valDepth_eq {w : World} {D : Nat → Prop} {e : GErr} {x : Value} (h : ErrRep tab w D e x) : valDepth w D x = errDepth e := by
  unfold valDepth
  rw [dif_pos ⟨e, h⟩]
  rw [errRep_unique (Exists.choose_spec (⟨e, h⟩ : ∃ e, ErrRep tab w D e x)) h]

/-- what an error's value may be -/
theorem errRep_cases {w : World} {D : Nat → Prop} {e : GErr} {x : Value} (h : ErrRep tab w D e x) : (e = .nil ∧ x = .nilIface) ∨ (∃ n, e = .num n ∧ x = .iface 28 (.int .i64 n)) ∨
    (∃ what about wraps b off y, e = .flt what about wraps ∧ x = .iface 125 (.pointer (some ⟨b, off, none⟩)) ∧ w.cell? ⟨b, off + 1, none⟩ = some y ∧ ErrRep tab w D about y) := by
  cases h with
  | nil => exact .inl ⟨rfl, rfl⟩
  | num n => exact .inr (.inl ⟨n, rfl, rfl⟩)
  | flt d a h2 => exact .inr (.inr ⟨_, _, _, _, _, _, rfl, rfl, a 1 _ rfl, h2⟩)

set_option maxRecDepth 1000000 in
theorem is_walk {W : World} {D : Nat → Prop} (n : Int) (e : GErr) (x : Value) (hch : ErrRep tab W D e x) (hne : e.isNil = false) :
    Calls Try.prog 57 #[x, .iface 28 (.int .i64 n), .bool true] W fun r w' => r = .returned (.bool (e.has n)) ∧ w' = W := by
  have nE := is_noIsE
  have uE := is_noUnwrapE
  have vE := is_noUnwrapsE
  have nW := is_noIsF
  have uW := is_hasUnwrapF
  have mU := is_methodUnwrap
  go_enter Try.func57, Try.ntmps57
  go_wp2
  go_loopw [0] (fun x' wl => wl = W ∧ ∃ e', ErrRep tab W D e' x' ∧ e'.isNil = false ∧ e'.has n = e.has n) (fun x' _ => valDepth W D x')
  case atStart => exact ⟨rfl, e, hch, hne, rfl⟩
  case round =>
    obtain ⟨rfl, e', hc', hn', hiff⟩ := hrel
    have hlen0 := valDepth_eq hc'
    rcases errRep_cases hc' with ⟨rfl, rfl⟩ | ⟨m, rfl, rfl⟩ | ⟨what, about, wraps, b, off, y, rfl, rfl, hcell, hin⟩
    · cases hn'
    · have heq := is_eql m n wr
      clear hc' hlen0
      cases hb : (m == n) with
      | true =>
        rw [hb] at heq
        have hh : e.has n = true := by rw [← hiff]; exact hb
        clear hiff hb hch
        go_wp2
        go_ret
        exact ⟨by rw [hh]; rfl, rfl⟩
      | false =>
        rw [hb] at heq
        have hh : e.has n = false := by rw [← hiff]; exact hb
        clear hiff hb hch
        go_wp2
        go_ret
        exact ⟨by rw [hh]; rfl, rfl⟩
    · have hty := run_eql_iface_types (P := Try.prog) 125 28 (.pointer (some ⟨b, off, none⟩)) (.int .i64 n) Try.underlying101 (by decide) wr
      have hlen := valDepth_eq hin
      have HC : Hid (ErrRep tab wr D about y) := hin
      have HI : Hid (e.has n = about.has n) := hiff.symm
      rcases errRep_cases hin with ⟨rfl, rfl⟩ | ⟨m, rfl, rfl⟩ | ⟨what', about', wraps', b', off', y', rfl, rfl, hcell', hin'⟩
      · have hh : e.has n = false := HI.out
        clear hc' hch hin hiff hlen hlen0
        go_wp2
        go_ret
        exact ⟨by rw [hh]; rfl, rfl⟩
      · clear hc' hch hin hiff
        go_wp2
        go_roundw
        case rel => exact ⟨trivial, .num m, HC.out, rfl, HI.out.symm⟩
        case measure =>
          show valDepth wr D (.iface 28 (.int .i64 m)) < _
          rw [hlen, hlen0]
          simp [errDepth]
      · clear hc' hch hin hiff hcell' hin'
        go_wp2
        go_roundw
        case rel => exact ⟨trivial, _, HC.out, rfl, HI.out.symm⟩
        case measure =>
          show valDepth wr D (.iface 125 (.pointer (some ⟨b', off', none⟩))) < _
          rw [hlen, hlen0]
          simp [errDepth]

set_option maxRecDepth 1000000 in
theorem is_calls {W : World} {D : Nat → Prop} (n : Int) (e : GErr) (x : Value) (hch : ErrRep tab W D e x) :
    Calls Try.prog 51 #[x, .iface 28 (.int .i64 n)] W fun r w' => r = .returned (.bool (e.has n)) ∧ w' = W := by
  have hF := @run_callFunc_extern Try.prog 56 _ Extern.ReflectliteType.typeOf Try.func56 (by kernel_rfl) (by kernel_rfl) (by kernel_rfl) (by kernel_rfl)
  have hC := @run_callFunc_extern Try.prog 84 _ compExt Try.func84 (by kernel_rfl) (by kernel_rfl) (by kernel_rfl) (by kernel_rfl)
  have tT := is_typeOf
  have cT := is_comparable
  have mR := is_methodComparable
  rcases errRep_cases hch with ⟨rfl, rfl⟩ | ⟨m, rfl, rfl⟩ | ⟨what, about, wraps, b, off, y, rfl, rfl, hcell, hin⟩
  · have hn := run_eql_iface_nil_left (P := Try.prog) W 28 (.int .i64 n) Try.underlying101
    clear hch
    go_enter Try.func51, Try.ntmps51
    go_wp2
    go_ret
    exact ⟨rfl, rfl⟩
  · have hw := is_walk n (.num m) _ hch rfl
    clear hch
    go_enter Try.func51, Try.ntmps51
    go_wp2_with (go_at_call 57; refine hw.mono ?_; rintro e w' ⟨rfl, rfl⟩)
    go_ret
    exact ⟨rfl, rfl⟩
  · have hw := is_walk n _ _ hch rfl
    clear hch hin
    go_enter Try.func51, Try.ntmps51
    go_wp2_with (go_at_call 57; refine hw.mono ?_; rintro e w' ⟨rfl, rfl⟩)
    go_ret
    exact ⟨rfl, rfl⟩

end Go.Proofs.Ytofodkmokjhcoaa.W
