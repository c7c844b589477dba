/-
  The functions that are proved by hand: a number as text, a fault as text, how deep a fault is. No conditions.
-/
import Derived.Test.YtpnnmpdjgnbkhaaDoorVI
import Derived.WalkKit
import Derived.LaidEql
import Derived.Stop.Asserts
import Derived.RowKitTokens
import Derived.Elder7
import Derived.Deep.RegionWith
set_option linter.unusedVariables false
namespace Go.Proofs.YtpnnmpdjgnbkhaaDoor.W
open Go Go.Proofs V Go.RowKit Go.Extern.Stop Go.Stop Go.Extern
/-! ### a number's text -/
theorem noFOKb : SpecsOK Tryd.prog tab noF := SpecsOK.none cmpOK asOK
def agE : Args Ty (Int × Unit) := V.arg (tab.den 33) (noArgs)
def rsE : Res Ty tab (ByteArray) false := V.oneRes (tab.den 9) (ent 9).ids (ent 9).plain (fun x _ => (ent 9).flat x rfl)
def errS : List UInt8 := [101, 114, 114, 111, 114]
def numT : Nat → Int → Option ByteArray
  | 0, _ => none
  | d + 1, a0 => bif decide (a0 < (0 : Int)) then some (ByteArray.mk (Array.mk [(101 : UInt8), (114 : UInt8), (114 : UInt8), (111 : UInt8), (114 : UInt8)])) else bif decide (a0 < (10 : Int)) then some (ByteArray.mk (Array.mk ([(101 : UInt8), (114 : UInt8), (114 : UInt8), (111 : UInt8), (114 : UInt8), (32 : UInt8)] ++ [].concat (UInt8.ofNat (IntKind.u8.wrap (IntKind.i64.wrap ((48 : Int) + a0))).toNat)))) else (numT d (IntKind.i64.wrap (a0.tdiv (10 : Int)))).bind fun r => bif (r.size + (bytesStr (List.map (fun x => x) ((List.replicate (1 : Nat) (0 : Int)).set (0 : Nat) (IntKind.u8.wrap (IntKind.i64.wrap ((48 : Int) + a0.tmod (10 : Int))))))).size).ble (4294967296 : Nat) then some (ByteArray.mk (Array.mk (r.data.toList ++ [].concat (UInt8.ofNat (IntKind.u8.wrap (IntKind.i64.wrap ((48 : Int) + a0.tmod (10 : Int)))).toNat)))) else none
noncomputable def spE (d : Nat) : FSpec Ty := spec agE rsE (fun _ x => numT d x.1)
theorem boE : Tryd.f121.body = some (bodyOf Tryd.f121) := by kernel_rfl
theorem ndE : nodupB ((loopsIn (bodyOf Tryd.f121)).map firstRegion) = true := by kernel_rfl
theorem okE : ∀ d, FOK Tryd.prog tab 121 (spE d)
  | 0 => hand_ok (A := agE) (B := rsE) (F := fun _ x => numT 0 x.1) (fun k x y h => by cases h)
  | d + 1 => spec_ok (A := agE) (B := rsE) (keeps := fun _ => ⟨[], [], 0⟩) tabOK (noFOKb.add (okE d) Tryd.call121) Tryd.func121 boE (by kernel_rfl) ndE (LSOK.none) (F := fun _ x => numT (d + 1) x.1) fun k x => by kernel_rfl
theorem ft_num {W : World} (hG : GlobOK tab W) (n : Int) {t : ByteArray} (h : numT 30 n = some t) : Calls Tryd.prog 121 #[.int .i64 n] W fun r w' => r = .returned (.string t) ∧ W.grownBy w' none := by
  have := (okE 30).1 0 [.int .i64 n] (.str t) (by
    show (match agE.dec [.int .i64 n] with
      | some x => (numT 30 x.1).bind fun y => some (rsE.enc y)
      | none => none) = some (AV.str t)
    have : agE.dec [.int .i64 n] = some (n, ()) := rfl
    rw [this]
    simp only [h, Option.bind_some]
    rfl) W (fun _ => False) [.int .i64 n] hG (fun _ h => h.elim) (.cons (.elem (.one rfl (.int _ _))) .nil)
  refine this.mono ?_
  rintro e w' ⟨x, rfl, hx, hg⟩
  have hx := hx.one_inv rfl (by simp) (by simp) (by simp)
  cases hx
  exact ⟨rfl, hg⟩
/-! ### a fault's text -/
theorem ft_methodN (v : Value) (w : World) : (Go.method 315 33 v "Error").run Tryd.prog w = .ok (121, v) w := by kernel_rfl
theorem ft_methodF (v : Value) (w : World) : (Go.method 315 124 v "Error").run Tryd.prog w = .ok (122, v) w := by kernel_rfl
def colon : ByteArray := ByteArray.mk (Array.mk [58, 32])
def textB : GErr → ByteArray
  | .nil => ByteArray.empty
  | .num n => (numT 30 n).getD ByteArray.empty
  | .flt s e _ => (s ++ colon) ++ textB e
def chainOk : GErr → Bool
  | .nil => false
  | .num n => (numT 30 n).isSome
  | .flt _ e _ => chainOk e
theorem ft_drew {W w2 : World} (h : W.drew.grownBy w2 none) : W.grownBy w2 none := ⟨h.os, h.tape, h.output, h.size, fun k hk hne => h.block k hk hne⟩
theorem ft_cell {W w2 : World} (h : W.grownBy w2 none) {b o : Nat} {v : Value} (hb : b < W.heap.size) (hc : W.cell? ⟨b, o, none⟩ = some v) : w2.cell? ⟨b, o, none⟩ = some v := by
  unfold World.cell? at hc ⊢
  rw [h.block b hb (by simp)]
  exact hc
theorem ft_add (a b : ByteArray) (h : a.size + b.size ≤ 4294967296) (w : World) : (binOp .add 9 (.string a) (.string b)).run Tryd.prog w = .ok (.string (a ++ b)) w := by
  simp [binOp, Op.stringOp]
  have : IntKind.i64.max = 9223372036854775807 := rfl
  omega
set_option maxRecDepth 1000000 in
set_option maxHeartbeats 4000000 in
theorem ft_flt : ∀ (e : GErr) (W : World) (D : Nat → Prop) (b off : Nat) (what : ByteArray) (y : Value) (wraps : Bool), GlobOK tab W → (∀ b, D b → b < W.heap.size) → D b → At W b off [.string what, y, .bool wraps] → ErrRep tab W D e y → chainOk e = true → (textB (.flt what e wraps)).size ≤ 4294967296 →
    Calls Tryd.prog 122 #[.pointer (some ⟨b, off, none⟩)] W fun r w' => r = .returned (.string (textB (.flt what e wraps))) ∧ W.grownBy w' none := by
  intro e
  induction e with
  | nil => intro W D b off what y wraps _ _ _ _ _ hc _; cases hc
  | num n =>
    intro W D b off what y wraps hG hD hb hat hr hc hs
    have hy : y = .iface 33 (.int .i64 n) := by cases hr; rfl
    subst hy
    clear hr
    have c0 : W.cell? ⟨b, off, none⟩ = some (.string what) := by simpa using hat 0 _ rfl
    have c1 : W.cell? ⟨b, off + 1, none⟩ = _ := hat 1 _ rfl
    obtain ⟨t, ht⟩ := Option.isSome_iff_exists.1 hc
    have mN := ft_methodN
    have hbs : b < W.heap.size := hD b hb
    have htb : textB (.num n) = t := by show (numT 30 n).getD _ = t; rw [ht]; rfl
    have hsz : what.size + 2 + t.size ≤ 4294967296 := by
      have : (textB (.flt what (.num n) wraps)).size = what.size + 2 + t.size := by
        show ((what ++ colon) ++ textB (.num n)).size = _
        rw [htb, ByteArray.size_append, ByteArray.size_append]; rfl
      omega
    have a1 := ft_add what colon (by show what.size + 2 ≤ _; omega)
    have a2 := ft_add (what ++ colon) t (by rw [ByteArray.size_append]; show what.size + 2 + t.size ≤ _; omega)
    have hcall := fun (W : World) (hG : GlobOK tab W) => ft_num hG n ht
    go_enter Tryd.func122, Tryd.ntmps122
    go_wp2
    go_region_with (go_at_call 121; refine (hcall _ ?_).mono ?_; exact hG; rintro r w2 ⟨rfl, hgr⟩; have c0' := ft_cell hgr hbs c0; have c1' := ft_cell hgr hbs c1)
    all_goals
      go_wp2
      go_ret
      exact ⟨by rw [show textB (.flt what (.num n) wraps) = (what ++ colon) ++ textB (.num n) from rfl, htb]; rfl, ft_drew hgr⟩
  | flt s e wr ih =>
    intro W D b off what y wraps hG hD hb hat hr hc hs
    obtain ⟨b', off', y', hy, hb', hat', hr'⟩ : ∃ b' off' y', y = .iface 124 (.pointer (some ⟨b', off', none⟩)) ∧ D b' ∧ At W b' off' [.string s, y', .bool wr] ∧ ErrRep tab W D e y' := by
      cases hr with
      | flt d a h => exact ⟨_, _, _, rfl, d, a, h⟩
    subst hy
    clear hr
    have c0 : W.cell? ⟨b, off, none⟩ = some (.string what) := by simpa using hat 0 _ rfl
    have c1 : W.cell? ⟨b, off + 1, none⟩ = _ := hat 1 _ rfl
    have mF := ft_methodF
    have hbs : b < W.heap.size := hD b hb
    generalize htb : textB (.flt s e wr) = t at hs
    have hfull : textB (.flt what (.flt s e wr) wraps) = (what ++ colon) ++ t := by rw [← htb]; rfl
    have hsz : what.size + 2 + t.size ≤ 4294967296 := by
      rw [hfull, ByteArray.size_append, ByteArray.size_append] at hs; exact hs
    have a1 := ft_add what colon (by show what.size + 2 ≤ _; omega)
    have a2 := ft_add (what ++ colon) t (by rw [ByteArray.size_append]; show what.size + 2 + t.size ≤ _; omega)
    have hcall := ih W.drew D b' off' s y' wr hG hD hb' hat' (hr'.mono (fun _ h => h) (fun _ _ => rfl)) hc (by rw [htb]; omega)
    rw [htb] at hcall
    clear ih hr' hat' htb hs
    go_enter Tryd.func122, Tryd.ntmps122
    go_wp2
    go_region_with (go_at_call 122; refine hcall.mono ?_; rintro r w2 ⟨rfl, hgr⟩; have c0' := ft_cell hgr hbs c0; have c1' := ft_cell hgr hbs c1)
    all_goals
      go_wp2
      go_ret
      exact ⟨by rw [hfull]; rfl, ft_drew hgr⟩
/-! ### errors.As with the address of a fault's address: closed facts -/
theorem dp_valueOfT (t : Addr) (w : World) : (ReflectliteValue.unpack (.iface 128 (.pointer (some t)))).run Tryd.prog w
    = .ok (.agg #[.pointer (some ⟨1, 128, none⟩), .pointer (some ⟨w.heap.size, 0, none⟩), .int .u64 150]) (w.alloc (.cells #[.pointer (some t)] 128)) := by kernel_rfl
theorem dp_typeT (a : Addr) (w : World) : (ReflectliteValue.methodAny (ReflectliteValue.valueError "reflectlite.Value.Type" 0) (fun t _ _ _ => ReflectliteType.toType t) #[.agg #[.pointer (some ⟨1, 128, none⟩), .pointer (some a), .int .u64 150]]).run Tryd.prog w
    = .ok (.iface 170 (.agg #[.pointer (some ⟨1, 128, none⟩)])) w := by kernel_rfl
theorem dp_kindT (w : World) : ((ReflectliteType.abiMethod fun t => (fun a : Nat => Value.int IntKind.u8 (a : Int)) <$> Rtype.kind t) #[.pointer (some ⟨1, 128, none⟩)]).run Tryd.prog w = .ok (.int .u8 22) w := by kernel_rfl
theorem dp_kindE (w : World) : ((ReflectliteType.abiMethod fun t => (fun a : Nat => Value.int IntKind.u8 (a : Int)) <$> Rtype.kind t) #[.pointer (some ⟨1, 124, none⟩)]).run Tryd.prog w = .ok (.int .u8 22) w := by kernel_rfl
theorem dp_partsT (a : Addr) (w : World) : (ReflectliteValue.parts (.agg #[.pointer (some ⟨1, 128, none⟩), .pointer (some a), .int .u64 150])).run Tryd.prog w = .ok (some (128, a, 150)) w := by kernel_rfl
theorem dp_isNilT (a p : Addr) (W : World) (ha : W.cell? a = some (.pointer (some p))) :
    (ReflectliteValue.method (ReflectliteValue.valueError "reflectlite.Value.IsNil" 0) ReflectliteValue.isNil #[.agg #[.pointer (some ⟨1, 128, none⟩), .pointer (some a), .int .u64 150]]).run Tryd.prog W = .ok (.bool false) W := by
  rw [as_rlm]
  simp only [Sem.run_bind, dp_partsT, Result.andThen]
  simp [ReflectliteValue.isNil, loadVar, isAgg, underlying, Tryd.underlying128, ha, Result.andThen]
theorem dp_elemT (w : World) : (ReflectliteType.method ReflectliteType.elem #[.agg #[.pointer (some ⟨1, 128, none⟩)]]).run Tryd.prog w = .ok (.iface 170 (.agg #[.pointer (some ⟨1, 124, none⟩)])) w := by kernel_rfl
theorem dp_implementsE (w : World) : (ReflectliteType.relation "Implements" ReflectliteType.implements_ #[.agg #[.pointer (some ⟨1, 124, none⟩)], .iface 170 (.agg #[.pointer (some ⟨1, 48, none⟩)])]).run Tryd.prog w = .ok (.bool true) w := by kernel_rfl
theorem dp_assignableE (w : World) : (ReflectliteType.relation "AssignableTo" ReflectliteType.assignableTo #[.agg #[.pointer (some ⟨1, 33, none⟩)], .iface 170 (.agg #[.pointer (some ⟨1, 124, none⟩)])]).run Tryd.prog w = .ok (.bool false) w := by kernel_rfl
theorem dp_assignableF (w : World) : (ReflectliteType.relation "AssignableTo" ReflectliteType.assignableTo #[.agg #[.pointer (some ⟨1, 124, none⟩)], .iface 170 (.agg #[.pointer (some ⟨1, 124, none⟩)])]).run Tryd.prog w = .ok (.bool true) w := by kernel_rfl
theorem dp_valueOfF (p : Addr) (w : World) : (ReflectliteValue.unpack (.iface 124 (.pointer (some p)))).run Tryd.prog w
    = .ok (.agg #[.pointer (some ⟨1, 124, none⟩), .pointer (some ⟨w.heap.size, 0, none⟩), .int .u64 150]) (w.alloc (.cells #[.pointer (some p)] 124)) := by kernel_rfl
theorem dp_elemOfT (w : World) : (Rtype.elem? 128).run Tryd.prog w = .ok (some 124) w := by kernel_rfl
theorem dp_mkE (p : Addr) (w : World) : (ReflectliteValue.mk 124 p ReflectliteValue.flagAddr).run Tryd.prog w = .ok (.agg #[.pointer (some ⟨1, 124, none⟩), .pointer (some p), .int .u64 406]) w := by kernel_rfl
theorem dp_elemVT (a p : Addr) (W : World) (ha : W.cell? a = some (.pointer (some p))) :
    (ReflectliteValue.method (ReflectliteValue.valueError "reflectlite.Value.Elem" 0) ReflectliteValue.elem #[.agg #[.pointer (some ⟨1, 128, none⟩), .pointer (some a), .int .u64 150]]).run Tryd.prog W
      = .ok (.agg #[.pointer (some ⟨1, 124, none⟩), .pointer (some p), .int .u64 406]) W := by
  rw [as_rlm]
  simp only [Sem.run_bind, dp_partsT, Result.andThen]
  simp [ReflectliteValue.elem, loadVar, isAgg, underlying, Tryd.underlying128, ha, Result.andThen, dp_elemOfT, dp_mkE]
theorem dp_partsA (a : Addr) (w : World) : (ReflectliteValue.parts (.agg #[.pointer (some ⟨1, 124, none⟩), .pointer (some a), .int .u64 406])).run Tryd.prog w = .ok (some (124, a, 406)) w := by kernel_rfl
theorem dp_partsE (a : Addr) (w : World) : (ReflectliteValue.parts (.agg #[.pointer (some ⟨1, 124, none⟩), .pointer (some a), .int .u64 150])).run Tryd.prog w = .ok (some (124, a, 150)) w := by kernel_rfl
theorem dp_directE (w : World) : (Rtype.directlyAssignable 124 124).run Tryd.prog w = .ok true w := by kernel_rfl
theorem dp_setE (ta b p : Addr) (old : Value) (W : World) (hb : W.cell? b = some (.pointer (some p))) (ht : W.cell? ta = some old) (hf : W.frozen? ta = false) :
    (ReflectliteValue.set #[.agg #[.pointer (some ⟨1, 124, none⟩), .pointer (some ta), .int .u64 406], .agg #[.pointer (some ⟨1, 124, none⟩), .pointer (some b), .int .u64 150]]).run Tryd.prog W
      = .ok (.tuple #[]) (W.setCell ta (.pointer (some p))) := by
  rw [as_rls]
  simp only [Sem.run_bind, dp_partsA, dp_partsE, Result.andThen]
  simp [ReflectliteValue.flagAddr, loadVar, isAgg, underlying, Tryd.underlying124, hb, Result.andThen, dp_directE, storeVar, Value.cells, storeCells, Addr.add]
  rw [run_store Tryd.prog W ta _ _ (by rfl)]
  simp [ht, hf]
theorem dp_noAsE (v : Value) (xT : TypeId) (w : World) : (Instr.typeAssert (.iface 33 v) xT 174 true).run Tryd.prog w = .ok (.tuple #[.nilIface, .bool false]) w := Go.run_typeAssert_lacksB Tryd.underlying174 (by kernel_rfl) (by kernel_rfl) v xT w
set_option maxRecDepth 1000000 in
set_option maxHeartbeats 4000000 in
theorem dp_walkF {W : World} (p : Addr) (t a : Addr) (old : Value) (ha : W.cell? a = some (.pointer (some t))) (ht : W.cell? t = some old) (hf : W.frozen? t = false) (ho : a.block < W.heap.size) (hto : t.block < W.heap.size) :
    Calls Tryd.prog 91 #[.iface 124 (.pointer (some p)), .iface 128 (.pointer (some t)), .agg #[.pointer (some ⟨1, 128, none⟩), .pointer (some a), .int .u64 150], .iface 170 (.agg #[.pointer (some ⟨1, 124, none⟩)])] W fun r w' =>
      r = .returned (.bool true) ∧ w' = ((W.alloc (.cells #[.pointer (some ⟨1, 128, none⟩), .pointer (some a), .int .u64 150] 155)).alloc (.cells #[.pointer (some p)] 124)).setCell t (.pointer (some p)) := by
  have h88 := @run_callFunc_extern Tryd.prog 88 _ (fun args => ReflectliteValue.unpack (args.getD 0 (.tuple #[]))) Tryd.func88 (by kernel_rfl) (by kernel_rfl) (by kernel_rfl) (by kernel_rfl)
  have h92 := @run_callFunc_extern Tryd.prog 92 _ ReflectliteType.typeOf Tryd.func92 (by kernel_rfl) (by kernel_rfl) (by kernel_rfl) (by kernel_rfl)
  have h128 := @run_callFunc_extern Tryd.prog 128 _ (ReflectliteType.relation "AssignableTo" ReflectliteType.assignableTo) Tryd.func128 (by kernel_rfl) (by kernel_rfl) (by kernel_rfl) (by kernel_rfl)
  have h99 := @run_callFunc_extern Tryd.prog 99 _ (ReflectliteValue.method (ReflectliteValue.valueError "reflectlite.Value.Elem" 0) ReflectliteValue.elem) Tryd.func99 (by kernel_rfl) (by kernel_rfl) (by kernel_rfl) (by kernel_rfl)
  have h100 := @run_callFunc_extern Tryd.prog 100 _ ReflectliteValue.set Tryd.func100 (by kernel_rfl) (by kernel_rfl) (by kernel_rfl) (by kernel_rfl)
  have tF := as_typeOfF
  have mA := as_methodAssignableTo
  have aF := dp_assignableF
  have vF := dp_valueOfF
  generalize hWb : W.alloc (.cells #[.pointer (some ⟨1, 128, none⟩), .pointer (some a), .int .u64 150] 155) = Wb
  go_enter Tryd.func91, Tryd.ntmps91
  go_wp2
  go_loopw [0] (fun x' wl => wl = Wb ∧ x' = .iface 124 (.pointer (some p))) (fun _ _ => 0)
  case atStart => exact ⟨rfl, rfl⟩
  case round =>
    obtain ⟨hwr, hx'⟩ := hrel
    subst hwr
    subst hx'
    subst hWb
    have el := dp_elemVT a t (W.alloc (.cells #[.pointer (some ⟨1, 128, none⟩), .pointer (some a), .int .u64 150] 155)) (by rw [World.cell?_alloc_lt _ _ a ho]; exact ha)
    have st := dp_setE t ⟨W.heap.size + 1, 0, none⟩ p old ((W.alloc (.cells #[.pointer (some ⟨1, 128, none⟩), .pointer (some a), .int .u64 150] 155)).alloc (.cells #[.pointer (some p)] 124))
      (by rw [World.cell?_alloc_at _ _ _ _ (by simp)]; rfl) (by rw [World.cell?_alloc_lt _ _ t (by simp; omega), World.cell?_alloc_lt _ _ t hto]; exact ht)
      (by rw [World.frozen?_alloc_old _ _ t (by simp; omega), World.frozen?_alloc_old _ _ t (Nat.ne_of_lt hto)]; exact hf)
    go_wp2
    go_ret
    exact ⟨rfl, rfl⟩
set_option maxRecDepth 1000000 in
set_option maxHeartbeats 4000000 in
theorem dp_walkE {W : World} (n : Int) (t a : Addr) :
    Calls Tryd.prog 91 #[.iface 33 (.int .i64 n), .iface 128 (.pointer (some t)), .agg #[.pointer (some ⟨1, 128, none⟩), .pointer (some a), .int .u64 150], .iface 170 (.agg #[.pointer (some ⟨1, 124, none⟩)])] W fun r w' =>
      r = .returned (.bool false) ∧ w' = W.alloc (.cells #[.pointer (some ⟨1, 128, none⟩), .pointer (some a), .int .u64 150] 155) := by
  have h92 := @run_callFunc_extern Tryd.prog 92 _ ReflectliteType.typeOf Tryd.func92 (by kernel_rfl) (by kernel_rfl) (by kernel_rfl) (by kernel_rfl)
  have h128 := @run_callFunc_extern Tryd.prog 128 _ (ReflectliteType.relation "AssignableTo" ReflectliteType.assignableTo) Tryd.func128 (by kernel_rfl) (by kernel_rfl) (by kernel_rfl) (by kernel_rfl)
  have tE := as_typeOfE
  have mA := as_methodAssignableTo
  have aE := dp_assignableE
  have nE := dp_noAsE
  have uE := is_noUnwrapE
  have vE := is_noUnwrapsE
  generalize hWb : W.alloc (.cells #[.pointer (some ⟨1, 128, none⟩), .pointer (some a), .int .u64 150] 155) = Wb
  go_enter Tryd.func91, Tryd.ntmps91
  go_wp2
  go_loopw [0] (fun x' wl => wl = Wb ∧ x' = .iface 33 (.int .i64 n)) (fun _ _ => 0)
  case atStart => exact ⟨rfl, rfl⟩
  case round =>
    obtain ⟨hwr, hx'⟩ := hrel
    subst hwr
    subst hx'
    go_wp2
    go_ret
    exact ⟨rfl, rfl⟩
theorem dp_grown2 {W w1 w2 : World} (gA : W.grownBy w1 none) (gB : w1.grownBy w2 none) : W.grownBy w2 none := ⟨gB.os.trans gA.os, gB.tape.trans gA.tape, gB.output.trans gA.output, Nat.le_trans gA.size gB.size, fun k hk hne => (gB.block k (Nat.lt_of_lt_of_le hk gA.size) hne).trans (gA.block k hk hne)⟩
set_option maxRecDepth 1000000 in
set_option maxHeartbeats 4000000 in
theorem dp_calls {W : World} (tx : TypeId) (vx : Value) (R : Ending → World → World → Prop) (t : Addr) (old : Value) (hg : W.cell? ⟨0, 0, none⟩ = some (.iface 170 (.agg #[.pointer (some ⟨1, 48, none⟩)])))
    (ht : W.cell? t = some old) (hf : W.frozen? t = false) (hto : t.block < W.heap.size)
    (hw : ∀ (W1 : World) (a : Addr), W.grownBy W1 none → W1.cell? a = some (.pointer (some t)) → W1.cell? t = some old → W1.frozen? t = false → a.block < W1.heap.size → t.block < W1.heap.size →
      Calls Tryd.prog 91 #[.iface tx vx, .iface 128 (.pointer (some t)), .agg #[.pointer (some ⟨1, 128, none⟩), .pointer (some a), .int .u64 150], .iface 170 (.agg #[.pointer (some ⟨1, 124, none⟩)])] W1 fun r w' => ∃ b, r = .returned (.bool b) ∧ R r W1 w') :
    Calls Tryd.prog 59 #[.iface tx vx, .iface 128 (.pointer (some t))] W fun r w' => ∃ W1, W.grownBy W1 none ∧ R r W1 w' := by
  have h88 := @run_callFunc_extern Tryd.prog 88 _ (fun args => ReflectliteValue.unpack (args.getD 0 (.tuple #[]))) Tryd.func88 (by kernel_rfl) (by kernel_rfl) (by kernel_rfl) (by kernel_rfl)
  have h89 := @run_callFunc_extern Tryd.prog 89 _ (ReflectliteValue.methodAny (ReflectliteValue.valueError "reflectlite.Value.Type" 0) (fun t _ _ _ => ReflectliteType.toType t)) Tryd.func89 (by kernel_rfl) (by kernel_rfl) (by kernel_rfl) (by kernel_rfl)
  have h90 := @run_callFunc_extern Tryd.prog 90 _ (ReflectliteValue.method (ReflectliteValue.valueError "reflectlite.Value.IsNil" 0) ReflectliteValue.isNil) Tryd.func90 (by kernel_rfl) (by kernel_rfl) (by kernel_rfl) (by kernel_rfl)
  have h118 := @run_callFunc_extern Tryd.prog 118 _ (ReflectliteType.abiMethod fun t => do pure (.int .u8 (← Rtype.kind t))) Tryd.func118 (by kernel_rfl) (by kernel_rfl) (by kernel_rfl) (by kernel_rfl)
  have h130 := @run_callFunc_extern Tryd.prog 130 _ (ReflectliteType.method ReflectliteType.elem) Tryd.func130 (by kernel_rfl) (by kernel_rfl) (by kernel_rfl) (by kernel_rfl)
  have h131 := @run_callFunc_extern Tryd.prog 131 _ (ReflectliteType.relation "Implements" ReflectliteType.implements_) Tryd.func131 (by kernel_rfl) (by kernel_rfl) (by kernel_rfl) (by kernel_rfl)
  have f6 := dp_valueOfT
  have f7 := dp_typeT
  have mK := as_methodKind
  have mE := as_methodElem
  have mI := as_methodImplements
  have kT := dp_kindT
  have kE := dp_kindE
  have eT := dp_elemT
  have iE := dp_implementsE
  have hlt : 0 < W.heap.size := by omega
  have n8 := dp_isNilT ⟨W.heap.size, 0, none⟩ t ((W.alloc (.cells #[.pointer (some t)] 128)).alloc (.cells #[.pointer (some ⟨1, 128, none⟩), .pointer (some ⟨W.heap.size, 0, none⟩), .int .u64 150] 155)) (by simp)
  have hg2 : ((W.alloc (.cells #[.pointer (some t)] 128)).alloc (.cells #[.pointer (some ⟨1, 128, none⟩), .pointer (some ⟨W.heap.size, 0, none⟩), .int .u64 150] 155)).cell? ⟨0, 0, none⟩ = some (.iface 170 (.agg #[.pointer (some ⟨1, 48, none⟩)])) := by
    rw [World.cell?_alloc_lt _ _ ⟨0, 0, none⟩ (by simp), World.cell?_alloc_lt _ _ ⟨0, 0, none⟩ hlt]; exact hg
  have gA := (World.grownBy_alloc W (.cells #[.pointer (some t)] 128) none)
  have gB := (World.grownBy_alloc (W.alloc (.cells #[.pointer (some t)] 128)) (.cells #[.pointer (some ⟨1, 128, none⟩), .pointer (some ⟨W.heap.size, 0, none⟩), .int .u64 150] 155) none)
  have gAB := dp_grown2 gA gB
  have hcall := hw ((W.alloc (.cells #[.pointer (some t)] 128)).alloc (.cells #[.pointer (some ⟨1, 128, none⟩), .pointer (some ⟨W.heap.size, 0, none⟩), .int .u64 150] 155)) ⟨W.heap.size, 0, none⟩ gAB (by simp)
      (by rw [World.cell?_alloc_lt _ _ t (by simp; omega), World.cell?_alloc_lt _ _ t hto]; exact ht)
      (by rw [World.frozen?_alloc_old _ _ t (by simp; omega), World.frozen?_alloc_old _ _ t (Nat.ne_of_lt hto)]; exact hf) (by simp; omega) (by simp; omega)
  clear hw
  go_enter Tryd.func59, Tryd.ntmps59
  go_wp2_with (go_at_call 91; refine hcall.mono ?_; rintro r w' ⟨b, rfl, hR⟩)
  go_ret
  exact ⟨_, gAB, hR⟩
/-- none there: nothing is asked -/
theorem dp_callsNil {W : World} (t : Addr) : Calls Tryd.prog 59 #[.nilIface, .iface 128 (.pointer (some t))] W fun r w' => r = .returned (.bool false) ∧ w' = W := by
  go_enter Tryd.func59, Tryd.ntmps59
  go_wp2
  go_ret
  exact ⟨rfl, rfl⟩
/-! ### how deep an error is -/
def deepG : GErr → Int
  | .nil => 0
  | .num _ => 0
  | .flt _ e b => (if b then 1 else 0) + deepG e
theorem deepG_nonneg : ∀ e, 0 ≤ deepG e
  | .nil => Int.le_refl _
  | .num _ => Int.le_refl _
  | .flt _ e b => by have := deepG_nonneg e; unfold deepG; split <;> omega
/-- between two rounds: all that was there ahead of the call is as it was -/
structure DpW (W wl : World) (x0 : Value) : Prop where
  os : wl.os = W.os
  tape : wl.tape = W.tape
  output : wl.output = W.output
  size : W.heap.size < wl.heap.size
  block : ∀ k, k < W.heap.size → wl.heap[k]? = W.heap[k]?
  cell : wl.heap[W.heap.size]? = some (.cells #[x0] 124 (0, 0))
theorem DpW.grown {W wl w2 : World} {x0 : Value} (h : DpW W wl x0) (hg : wl.grownBy w2 none) : DpW W w2 x0 :=
  ⟨hg.os.trans h.os, hg.tape.trans h.tape, hg.output.trans h.output, Nat.lt_of_lt_of_le h.size hg.size, fun k hk => (hg.block k (Nat.lt_trans hk h.size) (by simp)).trans (h.block k hk), (hg.block _ h.size (by simp)).trans h.cell⟩
theorem DpW.set {W wl : World} {x0 : Value} (h : DpW W wl x0) (v : Value) : DpW W (wl.setCell ⟨W.heap.size, 0, none⟩ v) v :=
  ⟨h.os, h.tape, h.output, by simp [World.setCell]; exact h.size, fun k hk => (heap_setCell_other wl _ k _ (Nat.ne_of_lt hk)).trans (h.block k hk), heap_setCell_same wl _ 0 _ _ _ h.cell⟩
theorem DpW.at {W wl : World} {x0 : Value} (h : DpW W wl x0) : wl.cell? ⟨W.heap.size, 0, none⟩ = some x0 ∧ wl.frozen? ⟨W.heap.size, 0, none⟩ = false := by
  constructor
  · simp [World.cell?, h.cell]
  · simp [World.frozen?, h.cell]
theorem DpW.old {W wl : World} {x0 : Value} (h : DpW W wl x0) {b o : Nat} (hb : b < W.heap.size) : wl.cell? ⟨b, o, none⟩ = W.cell? ⟨b, o, none⟩ := by
  unfold World.cell?
  rw [h.block b hb]
theorem DpW.err {W wl : World} {x0 : Value} (h : DpW W wl x0) {D : Nat → Prop} (hD : ∀ b, D b → b < W.heap.size) {e : GErr} {x : Value} (hr : ErrRep tab W D e x) : ErrRep tab wl D e x := hr.mono (fun _ h => h) fun b hb => h.block b (hD b hb)
theorem dp_asF {W wl : World} {x0 : Value} (h : DpW W wl x0) (hpos : 0 < W.heap.size) (hg : W.cell? ⟨0, 0, none⟩ = some (.iface 170 (.agg #[.pointer (some ⟨1, 48, none⟩)]))) (p : Addr) :
    Calls Tryd.prog 59 #[.iface 124 (.pointer (some p)), .iface 128 (.pointer (some ⟨W.heap.size, 0, none⟩))] wl fun r w' => r = .returned (.bool true) ∧ DpW W w' (.pointer (some p)) := by
  obtain ⟨c1, c2⟩ := h.at
  refine (dp_calls 124 (.pointer (some p)) (fun r W1 w' => r = .returned (.bool true) ∧ w' = ((W1.alloc (.cells #[.pointer (some ⟨1, 128, none⟩), .pointer (some ⟨wl.heap.size, 0, none⟩), .int .u64 150] 155)).alloc (.cells #[.pointer (some p)] 124)).setCell ⟨W.heap.size, 0, none⟩ (.pointer (some p)) ∨ (r = .returned (.bool true) ∧ ∃ v t, w' = ((W1.alloc v).alloc t).setCell ⟨W.heap.size, 0, none⟩ (.pointer (some p)))) ⟨W.heap.size, 0, none⟩ x0 (by rw [h.old hpos]; exact hg) c1 c2 h.size fun W1 a hgr ha ht hf hab htb => ?_).mono ?_
  · refine (dp_walkF p ⟨W.heap.size, 0, none⟩ a x0 ha ht hf hab htb).mono ?_
    rintro r w' ⟨rfl, rfl⟩
    exact ⟨true, rfl, .inr ⟨rfl, _, _, rfl⟩⟩
  · rintro r w' ⟨W1, hgr, ⟨rfl, rfl⟩ | ⟨rfl, v, t, rfl⟩⟩
    · exact ⟨rfl, ((h.grown hgr).grown (dp_grown2 (World.grownBy_alloc _ _ none) (World.grownBy_alloc _ _ none))).set _⟩
    · exact ⟨rfl, ((h.grown hgr).grown (dp_grown2 (World.grownBy_alloc _ _ none) (World.grownBy_alloc _ _ none))).set _⟩
theorem dp_asE {W wl : World} {x0 : Value} (h : DpW W wl x0) (hpos : 0 < W.heap.size) (hg : W.cell? ⟨0, 0, none⟩ = some (.iface 170 (.agg #[.pointer (some ⟨1, 48, none⟩)]))) (n : Int) :
    Calls Tryd.prog 59 #[.iface 33 (.int .i64 n), .iface 128 (.pointer (some ⟨W.heap.size, 0, none⟩))] wl fun r w' => r = .returned (.bool false) ∧ DpW W w' x0 := by
  obtain ⟨c1, c2⟩ := h.at
  refine (dp_calls 33 (.int .i64 n) (fun r W1 w' => r = .returned (.bool false) ∧ ∃ v, w' = W1.alloc v) ⟨W.heap.size, 0, none⟩ x0 (by rw [h.old hpos]; exact hg) c1 c2 h.size fun W1 a hgr ha ht hf hab htb => ?_).mono ?_
  · refine (dp_walkE n ⟨W.heap.size, 0, none⟩ a).mono ?_
    rintro r w' ⟨rfl, rfl⟩
    exact ⟨false, rfl, rfl, _, rfl⟩
  · rintro r w' ⟨W1, hgr, rfl, v, rfl⟩
    exact ⟨rfl, (h.grown hgr).grown (World.grownBy_alloc _ _ none)⟩
set_option maxRecDepth 1000000 in
set_option maxHeartbeats 4000000 in
theorem dp_deep {W : World} {D : Nat → Prop} (hG : GlobOK tab W) (hD : ∀ b, D b → b < W.heap.size) (e : GErr) (x : Value) (hch : ErrRep tab W D e x) (hb : deepG e ≤ 1000000) :
    Calls Tryd.prog 33 #[x] W fun r w' => r = .returned (.int .i64 (deepG e)) ∧ W.grownBy w' none := by
  have hg : W.cell? ⟨0, 0, none⟩ = some (.iface 170 (.agg #[.pointer (some ⟨1, 48, none⟩)])) := hG _ (List.mem_singleton.2 rfl)
  have hpos : 0 < W.heap.size := by
    rcases Nat.eq_zero_or_pos W.heap.size with h | h
    · have hn : W.heap[0]? = none := Array.getElem?_eq_none (by omega)
      unfold World.cell? at hg
      simp only [hn] at hg
      cases hg
    · exact h
  have fin : ∀ {wl : World} {x0 : Value}, DpW W wl x0 → W.grownBy wl none := fun h => ⟨h.os, h.tape, h.output, Nat.le_of_lt h.size, fun k hk _ => h.block k hk⟩
  have h0 : DpW W (W.alloc (.cells #[.pointer none] 124)) (.pointer none) := by
    refine ⟨rfl, rfl, rfl, by rw [World.size_alloc]; omega, fun k hk => ?_, by show (W.heap.push _)[W.heap.size]? = _; exact Array.getElem?_push_size⟩
    exact (World.grownBy_alloc W (.cells #[.pointer none] 124) none).block k hk (by simp)
  generalize hW0 : W.alloc (.cells #[.pointer none] 124) = W0 at h0
  go_enter Tryd.func33, Tryd.ntmps33
  go_wp2
  go_loopw [0, 3] (fun x' n wl => ∃ e' nn x0, DpW W wl x0 ∧ ErrRep tab W D e' x' ∧ n = .int .i64 nn ∧ 0 ≤ nn ∧ nn + deepG e' = deepG e) (fun x' _ _ => valDepth W D x')
  case atStart => exact ⟨e, 0, _, h0, hch, rfl, Int.le_refl _, by omega⟩
  case round =>
    obtain ⟨e', nn, x0, hd, hr, rfl, hn0, hsum⟩ := hrel
    have hdep := valDepth_eq hr
    clear h0 hW0 hch
    cases hr with
    | nil =>
      have hs : nn = deepG e := by have : deepG .nil = 0 := rfl; omega
      have hgr := fin hd
      go_wp2_with (go_at_call 59; refine (dp_callsNil _).mono ?_; rintro r w' ⟨rfl, rfl⟩)
      go_ret
      exact ⟨rfl, hgr⟩
    | num n =>
      have hs : nn = deepG e := by have : deepG (.num n) = 0 := rfl; omega
      have hcall := dp_asE hd hpos hg n
      go_wp2_with (go_at_call 59; refine hcall.mono ?_; rintro r w' ⟨rfl, hd'⟩)
      go_ret
      exact ⟨rfl, fin hd'⟩
    | @flt what e1 wraps b off y hb hat hr1 =>
      have hcall := dp_asF hd hpos hg ⟨b, off, none⟩
      have hbl := hD b hb
      have HR : Hid (ErrRep tab W D e1 y) := hr1
      have hdep1 := valDepth_eq hr1
      have a1 : W.cell? ⟨b, off + 1, none⟩ = some y := hat 1 _ rfl
      have a2 : W.cell? ⟨b, off + 2, none⟩ = some (.bool wraps) := hat 2 _ rfl
      have hnn := deepG_nonneg e1
      have hw1 : IntKind.i64.wrap (nn + 1) = nn + 1 := wI_in (by have := deepG_nonneg (.flt what e1 wraps); omega)
      clear hat hr1
      have key : ∀ {w' : World}, DpW W w' (.pointer (some ⟨b, off, none⟩)) → w'.cell? ⟨b, off + 1, none⟩ = some y ∧ w'.cell? ⟨b, off + 2, none⟩ = some (.bool wraps) ∧ w'.cell? ⟨W.heap.size, 0, none⟩ = some (.pointer (some ⟨b, off, none⟩)) := fun h => ⟨by rw [h.old hbl]; exact a1, by rw [h.old hbl]; exact a2, h.at.1⟩
      cases wraps with
      | true =>
        have hs2 : nn + 1 + deepG e1 = deepG e := by have : deepG (.flt what e1 true) = 1 + deepG e1 := rfl; omega
        have HS : Hid (nn + 1 + deepG e1 = deepG e) := hs2
        clear hsum hs2
        go_wp2_with (go_at_call 59; refine hcall.mono ?_; rintro r w' ⟨rfl, hd'⟩; obtain ⟨k1, k2, k3⟩ := key hd')
        exact ⟨⟨e1, nn + 1, _, hd', HR.out, rfl, by omega, HS.out⟩, by rw [hdep1, hdep]; simp [errDepth]⟩
      | false =>
        have hs2 : nn + deepG e1 = deepG e := by have : deepG (.flt what e1 false) = 0 + deepG e1 := rfl; omega
        have HS : Hid (nn + deepG e1 = deepG e) := hs2
        clear hsum hs2
        go_wp2_with (go_at_call 59; refine hcall.mono ?_; rintro r w' ⟨rfl, hd'⟩; obtain ⟨k1, k2, k3⟩ := key hd')
        exact ⟨⟨e1, nn, _, hd', HR.out, rfl, by omega, HS.out⟩, by rw [hdep1, hdep]; simp [errDepth]⟩
/-! ### fault.Text, fault.Deep: their contracts -/
theorem ft_eqNil (u : TypeId) (v : Value) (w : World) : (binOp .eql 48 (.iface u v) .nilIface).run Tryd.prog w = .ok (.bool false) w := by
  have hq : ∀ d, (Op.equalIn (d + 1) 48 (.iface u v) .nilIface).run Tryd.prog w = .ok false w := fun d => by
    simp [Op.equalIn, Sem.run_bind, run_underlying Tryd.underlying48]
  have hq2 : (Op.equal 48 (.iface u v) .nilIface).run Tryd.prog w = .ok false w := hq 9999
  simp [binOp, hq2]
set_option maxRecDepth 1000000 in
theorem ft_text {W : World} {D : Nat → Prop} (hG : GlobOK tab W) (hD : ∀ b, D b → b < W.heap.size) (e : GErr) (x : Value) (hch : ErrRep tab W D e x) (hc : e.isNil = true ∨ (chainOk e = true ∧ (textB e).size ≤ 4294967296)) :
    Calls Tryd.prog 32 #[x] W fun r w' => r = .returned (.string (textB e)) ∧ W.grownBy w' none := by
  cases hch with
  | nil =>
    go_enter Tryd.func32, Tryd.ntmps32
    go_wp2
    go_ret
    exact ⟨rfl, rfl, rfl, rfl, Nat.le_refl _, fun _ _ _ => rfl⟩
  | num n =>
    obtain ⟨hc, hs⟩ := hc.resolve_left (by simp [GErr.isNil])
    obtain ⟨t, ht⟩ := Option.isSome_iff_exists.1 hc
    have htb : textB (.num n) = t := by show (numT 30 n).getD _ = t; rw [ht]; rfl
    have mN : ∀ (v : Value) (w : World), (Go.method 315 tab.errnoTy v "Error").run Tryd.prog w = .ok (121, v) w := ft_methodN
    have hq := ft_eqNil tab.errnoTy (.int .i64 n)
    have hcall := ft_num hG n ht
    go_enter Tryd.func32, Tryd.ntmps32
    go_wp2_with (go_at_call 121; refine hcall.mono ?_; rintro r w' ⟨rfl, hgr⟩)
    go_ret
    exact ⟨by rw [htb]; rfl, hgr⟩
  | @flt what e1 wraps b off y hb hat hr =>
    obtain ⟨hc, hs⟩ := hc.resolve_left (by simp [GErr.isNil])
    have mF : ∀ (v : Value) (w : World), (Go.method 315 tab.faultTy v "Error").run Tryd.prog w = .ok (122, v) w := ft_methodF
    have hq := ft_eqNil tab.faultTy (.pointer (some ⟨b, off, none⟩))
    have hcall := ft_flt e1 W D b off what y wraps hG hD hb hat hr hc hs
    generalize textB (.flt what e1 wraps) = t at hcall hs
    clear hat hr
    go_enter Tryd.func32, Tryd.ntmps32
    go_wp2_with (go_at_call 122; refine hcall.mono ?_; rintro r w' ⟨rfl, hgr⟩)
    go_ret
    exact ⟨rfl, hgr⟩
def textF (_ : Nat) (x : GErr × Unit) : Option ByteArray :=
  match x with
  | (e, ()) => bif e.isNil then some ByteArray.empty else bif chainOk e && decide ((textB e).size ≤ 4294967296) then some (textB e) else none
def deepF (_ : Nat) (x : GErr × Unit) : Option Int :=
  match x with
  | (e, ()) => bif decide (deepG e ≤ 1000000) then some (deepG e) else none
theorem textOK : FOK Tryd.prog tab 32 (spec (V.arg (tab.den 48) noArgs : Args Ty (GErr × Unit)) (V.oneRes (tab.den 9) (ent 9).ids (ent 9).plain (fun x _ => (ent 9).flat x rfl) : Res Ty tab ByteArray false) textF) := by
  refine hand_ok fun k x y hF w D vals hG hD hrep => ?_
  obtain ⟨e, u⟩ := x
  cases u
  have hrep' : RepL tab w D [.err e] vals := hrep
  cases hrep' with
  | cons h1 h2 =>
    cases h2
    have r1 := h1.err_inv
    have hcond : (e.isNil = true ∨ (chainOk e = true ∧ (textB e).size ≤ 4294967296)) ∧ y = textB e := by
      unfold textF at hF
      simp only at hF
      cases hn : e.isNil with
      | true =>
        rw [hn, cond_true] at hF
        have : e = .nil := by cases e <;> first | rfl | cases hn
        subst this
        cases hF
        exact ⟨.inl rfl, rfl⟩
      | false =>
        rw [hn, cond_false] at hF
        cases hc : (chainOk e && decide ((textB e).size ≤ 4294967296)) with
        | false => rw [hc] at hF; cases hF
        | true =>
          rw [hc] at hF
          simp only [Bool.and_eq_true, decide_eq_true_eq] at hc
          cases hF
          exact ⟨.inr hc, rfl⟩
    obtain ⟨hc, rfl⟩ := hcond
    refine (ft_text hG hD e _ r1 hc).mono ?_
    rintro r w' ⟨rfl, hgr⟩
    exact ⟨_, rfl, .elem (.one rfl (.str _)), hgr⟩
theorem deepOK : FOK Tryd.prog tab 33 (spec (V.arg (tab.den 48) noArgs : Args Ty (GErr × Unit)) (V.oneRes (tab.den 3) (ent 3).ids (ent 3).plain (fun x _ => (ent 3).flat x rfl) : Res Ty tab Int false) deepF) := by
  refine hand_ok fun k x y hF w D vals hG hD hrep => ?_
  obtain ⟨e, u⟩ := x
  cases u
  have hrep' : RepL tab w D [.err e] vals := hrep
  cases hrep' with
  | cons h1 h2 =>
    cases h2
    have r1 := h1.err_inv
    unfold deepF at hF
    simp only at hF
    cases hd : decide (deepG e ≤ 1000000) with
    | false => rw [hd] at hF; cases hF
    | true =>
      rw [hd] at hF
      cases hF
      refine (dp_deep hG hD e _ r1 (of_decide_eq_true hd)).mono ?_
      rintro r w' ⟨rfl, hgr⟩
      exact ⟨_, rfl, .elem (.one rfl (.int _ _)), hgr⟩
end Go.Proofs.YtpnnmpdjgnbkhaaDoor.W
