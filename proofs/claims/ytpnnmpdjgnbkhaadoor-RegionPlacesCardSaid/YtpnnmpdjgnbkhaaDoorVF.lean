/-
  The functions that the statement reaches, as typed functions, and that the program computes them. No conditions. Printed by program.
-/
import Derived.Test.YtpnnmpdjgnbkhaaDoorVI
set_option linter.unusedVariables false
namespace Go.Proofs.YtpnnmpdjgnbkhaaDoor.W
open Go Go.Proofs V
theorem noFOK : SpecsOK Tryd.prog tab noF := SpecsOK.none cmpOK asOK
def ag82 : Args Ty (T64 × Unit) := V.arg (tab.den 65) (noArgs)
def rs82 : Res Ty tab (Bool) false := V.oneRes (tab.den 4) (ent 4).ids (ent 4).plain (fun x _ => (ent 4).flat x rfl)
def kp82 : Nat → Keep := fun i => ⟨[], []⟩
/-- "silt/plan.Good" -/
def F82 (k : Nat) (x : T64 × Unit) : Option (Bool) :=
  match x with
  | (a0, ()) => bif decide (a0.1 ≥ (1 : Int)) then bif decide (a0.1 ≤ (64 : Int)) then bif decide (a0.2 ≥ (6 : Int)) then bif decide (a0.2 ≤ (16 : Int)) then bif decide (a0.3 ≥ (24 : Int)) then bif decide (a0.3 ≤ (32 : Int)) then bif decide (a0.4 ≥ (2 : Int)) then some (decide (a0.4 ≤ (16 : Int))) else some false else some false else some false else some false else some false else some false else some false
noncomputable def sp82 : FSpec Ty := spec ag82 rs82 F82
theorem bo82 : Tryd.f82.body = some (bodyOf Tryd.f82) := by kernel_rfl
theorem nd82 : nodupB ((loopsIn (bodyOf Tryd.f82)).map firstRegion) = true := by kernel_rfl
theorem ok82 : FOK Tryd.prog tab 82 sp82 := spec_ok (keeps := kp82) tabOK noFOK Tryd.func82 bo82 (by kernel_rfl) nd82 (LSOK.none) (F := F82) fun k x => by kernel_rfl
noncomputable def fs82 : Nat → Option (FSpec Ty) := addF 82 sp82 noF
theorem fs82OK : SpecsOK Tryd.prog tab fs82 := noFOK.add ok82 Tryd.call82
def ag30 : Args Ty (Int × ByteArray × Unit) := V.arg (tab.den 33) (V.arg (tab.den 9) (noArgs))
def rs30 : Res Ty tab (GErr) true := V.oneRes (tab.den 48) (ent 48).ids (ent 48).plain (fun _ h => by cases h)
def kp30 : Nat → Keep := fun i => ⟨[], []⟩
/-- "silt/fault.New" -/
def F30 (k : Nat) (x : Int × ByteArray × Unit) : Option (GErr) :=
  match x with
  | (a0, a1, ()) => bif a0 == (0 : Int) then some GErr.nil else some (GErr.flt a1 (GErr.num a0) false)
noncomputable def sp30 : FSpec Ty := spec ag30 rs30 F30
theorem bo30 : Tryd.f30.body = some (bodyOf Tryd.f30) := by kernel_rfl
theorem nd30 : nodupB ((loopsIn (bodyOf Tryd.f30)).map firstRegion) = true := by kernel_rfl
theorem ok30 : FOK Tryd.prog tab 30 sp30 := spec_ok (keeps := kp30) tabOK fs82OK Tryd.func30 bo30 (by kernel_rfl) nd30 (LSOK.none) (F := F30) fun k x => by kernel_rfl
noncomputable def fs30 : Nat → Option (FSpec Ty) := addF 30 sp30 fs82
theorem fs30OK : SpecsOK Tryd.prog tab fs30 := fs82OK.add ok30 Tryd.call30
def ag103 : Args Ty (T64 × Unit) := V.arg (tab.den 65) (noArgs)
def rs103 : Res Ty tab (Int) false := V.oneRes (tab.den 3) (ent 3).ids (ent 3).plain (fun x _ => (ent 3).flat x rfl)
def kp103 : Nat → Keep := fun i => ⟨[], []⟩
/-- "silt/plan.Total" -/
def F103 (k : Nat) (x : T64 × Unit) : Option (Int) :=
  match x with
  | (a0, ()) => (F82 k (T64.mk a0.1 a0.2 a0.3 a0.4, ())).bind fun r => bif !r then some (0 : Int) else some (IntKind.i64.wrap ((4 : Int) + IntKind.i64.wrap (a0.2 * a0.3)))
noncomputable def sp103 : FSpec Ty := spec ag103 rs103 F103
theorem bo103 : Tryd.f103.body = some (bodyOf Tryd.f103) := by kernel_rfl
theorem nd103 : nodupB ((loopsIn (bodyOf Tryd.f103)).map firstRegion) = true := by kernel_rfl
theorem ok103 : FOK Tryd.prog tab 103 sp103 := spec_ok (keeps := kp103) tabOK fs30OK Tryd.func103 bo103 (by kernel_rfl) nd103 (LSOK.none) (F := F103) fun k x => by kernel_rfl
noncomputable def fs103 : Nat → Option (FSpec Ty) := addF 103 sp103 fs30
theorem fs103OK : SpecsOK Tryd.prog tab fs103 := fs30OK.add ok103 Tryd.call103
def ag102 : Args Ty (T64 × Int × Unit) := V.arg (tab.den 65) (V.arg (tab.den 3) (noArgs))
def rs102 : Res Ty tab (Int) false := V.oneRes (tab.den 3) (ent 3).ids (ent 3).plain (fun x _ => (ent 3).flat x rfl)
def kp102 : Nat → Keep := fun i => ⟨[], []⟩
/-- "silt/plan.part" -/
def F102 (k : Nat) (x : T64 × Int × Unit) : Option (Int) :=
  match x with
  | (a0, a1, ()) => bif decide (a1 < (4 : Int)) then some (0 : Int) else (F103 k (T64.mk a0.1 a0.2 a0.3 a0.4, ())).bind fun r => bif decide (a1 ≥ r) then some (2 : Int) else some (1 : Int)
noncomputable def sp102 : FSpec Ty := spec ag102 rs102 F102
theorem bo102 : Tryd.f102.body = some (bodyOf Tryd.f102) := by kernel_rfl
theorem nd102 : nodupB ((loopsIn (bodyOf Tryd.f102)).map firstRegion) = true := by kernel_rfl
theorem ok102 : FOK Tryd.prog tab 102 sp102 := spec_ok (keeps := kp102) tabOK fs103OK Tryd.func102 bo102 (by kernel_rfl) nd102 (LSOK.none) (F := F102) fun k x => by kernel_rfl
noncomputable def fs102 : Nat → Option (FSpec Ty) := addF 102 sp102 fs103
theorem fs102OK : SpecsOK Tryd.prog tab fs102 := fs103OK.add ok102 Tryd.call102
def ag101 : Args Ty (T64 × Int × Unit) := V.arg (tab.den 65) (V.arg (tab.den 3) (noArgs))
def rs101 : Res Ty tab (Int × Int × Bool × Unit) false := V.manyRes (V.part (tab.den 3) (ent 3).ids (ent 3).plain (fun x _ => (ent 3).flat x rfl) (V.part (tab.den 3) (ent 3).ids (ent 3).plain (fun x _ => (ent 3).flat x rfl) (V.part (tab.den 4) (ent 4).ids (ent 4).plain (fun x _ => (ent 4).flat x rfl) (noParts))))
def kp101 : Nat → Keep := fun i => ⟨[], []⟩
/-- "silt/plan.Of" -/
def F101 (k : Nat) (x : T64 × Int × Unit) : Option (Int × Int × Bool × Unit) :=
  match x with
  | (a0, a1, ()) => (F82 k (T64.mk a0.1 a0.2 a0.3 a0.4, ())).bind fun r => bif !r then some ((0 : Int), (0 : Int), false, ()) else (F102 k (T64.mk a0.1 a0.2 a0.3 a0.4, a1, ())).bind fun r => bif r == (0 : Int) then some ((0 : Int), (0 : Int), false, ()) else bif r == (2 : Int) then some ((0 : Int), (0 : Int), false, ()) else bif a0.3 != (0 : Int) then bif a0.3 != (0 : Int) then some (IntKind.i64.wrap ((IntKind.i64.wrap (a1 - (4 : Int))).tdiv a0.3), (IntKind.i64.wrap (a1 - (4 : Int))).tmod a0.3, true, ()) else none else none
noncomputable def sp101 : FSpec Ty := spec ag101 rs101 F101
theorem bo101 : Tryd.f101.body = some (bodyOf Tryd.f101) := by kernel_rfl
theorem nd101 : nodupB ((loopsIn (bodyOf Tryd.f101)).map firstRegion) = true := by kernel_rfl
theorem ok101 : FOK Tryd.prog tab 101 sp101 := spec_ok (keeps := kp101) tabOK fs102OK Tryd.func101 bo101 (by kernel_rfl) nd101 (LSOK.none) (F := F101) fun k x => by kernel_rfl
noncomputable def fs101 : Nat → Option (FSpec Ty) := addF 101 sp101 fs102
theorem fs101OK : SpecsOK Tryd.prog tab fs101 := fs102OK.add ok101 Tryd.call101
def ag83 : Args Ty (T64 × Unit) := V.arg (tab.den 65) (noArgs)
def rs83 : Res Ty tab (Int) false := V.oneRes (tab.den 3) (ent 3).ids (ent 3).plain (fun x _ => (ent 3).flat x rfl)
def kp83 : Nat → Keep := fun i => ⟨[], []⟩
/-- "silt/plan.Maps" -/
def F83 (k : Nat) (x : T64 × Unit) : Option (Int) :=
  match x with
  | (a0, ()) => (F82 k (T64.mk a0.1 a0.2 a0.3 a0.4, ())).bind fun r => bif !r then some (0 : Int) else some (IntKind.i64.wrap (IntKind.i64.wrap ((IntKind.i64.wrap (a0.1 - (1 : Int))).tdiv (8 : Int)) + (1 : Int)))
noncomputable def sp83 : FSpec Ty := spec ag83 rs83 F83
theorem bo83 : Tryd.f83.body = some (bodyOf Tryd.f83) := by kernel_rfl
theorem nd83 : nodupB ((loopsIn (bodyOf Tryd.f83)).map firstRegion) = true := by kernel_rfl
theorem ok83 : FOK Tryd.prog tab 83 sp83 := spec_ok (keeps := kp83) tabOK fs101OK Tryd.func83 bo83 (by kernel_rfl) nd83 (LSOK.none) (F := F83) fun k x => by kernel_rfl
noncomputable def fs83 : Nat → Option (FSpec Ty) := addF 83 sp83 fs101
theorem fs83OK : SpecsOK Tryd.prog tab fs83 := fs101OK.add ok83 Tryd.call83
def ag94 : Args Ty (T67 × Unit) := V.arg (tab.den 68) (noArgs)
def rs94 : Res Ty tab (GErr) true := V.oneRes (tab.den 48) (ent 48).ids (ent 48).plain (fun _ h => by cases h)
def of94_2 : List Int × Int × Int × Int × Int × Int × Int × Int × Int × Int × List Int → NSt Ty := fun x => ⟨[.ptr 100000 [], .arr 3 8 (x.1), .int .i64 (x.2.1)], [.var (.cons (.int .u32 (x.2.2.1)) (.cons (.cons (.int .i64 (x.2.2.2.1)) (.cons (.int .i64 (x.2.2.2.2.1)) (.cons (.int .i64 (x.2.2.2.2.2.1)) (.cons (.int .i64 (x.2.2.2.2.2.2.1)) (.nil))))) (.cons (.int .i64 (x.2.2.2.2.2.2.2.1)) (.cons (.int .i64 (x.2.2.2.2.2.2.2.2.1)) (.cons (.int .u32 (x.2.2.2.2.2.2.2.2.2.1)) (.cons (.arr 3 8 (x.2.2.2.2.2.2.2.2.2.2)) (.nil)))))))]⟩
def ab94_2 : (n : NSt Ty) → Option {x : List Int × Int × Int × Int × Int × Int × Int × Int × Int × Int × List Int // of94_2 x = n}
  | ⟨[.ptr 100000 [], .arr 3 8 v0, .int .i64 v1], [.var (.cons (.int .u32 v2) (.cons (.cons (.int .i64 v3) (.cons (.int .i64 v4) (.cons (.int .i64 v5) (.cons (.int .i64 v6) (.nil))))) (.cons (.int .i64 v7) (.cons (.int .i64 v8) (.cons (.int .u32 v9) (.cons (.arr 3 8 v10) (.nil)))))))]⟩ => some ⟨(v0, v1, v2, v3, v4, v5, v6, v7, v8, v9, v10), rfl⟩
  | _ => none
def on94_2a : GErr → NSt Ty := fun x => ⟨[.err (x)], []⟩
def on94_2b : Unit → NSt Ty := fun x => ⟨[.undef], []⟩
def oa94_2 : (e : Ex) → (n : NSt Ty) → Option {y : (GErr) ⊕ (Unit) // oe2 .ret (.exit 0) y = e ∧ on2 on94_2a on94_2b y = n}
  | .ret, ⟨[.err v0], []⟩ => some ⟨.inl v0, rfl, rfl⟩
  | .exit 0, ⟨[.undef], []⟩ => some ⟨.inr (), rfl, rfl⟩
  | _, _ => none
/-- a round of the loop 2 of function 94 -/
def R94_2 (k : Nat) (again : List Int × Int × Int × Int × Int × Int × Int × Int × Int × Int × List Int → Option ((GErr) ⊕ (Unit))) (x : List Int × Int × Int × Int × Int × Int × Int × Int × Int × Int × List Int) : Option ((GErr) ⊕ (Unit)) :=
  match x with
  | (v0, v1, v2, v3, v4, v5, v6, v7, v8, v9, v10) => bif decide (v1 < (8 : Int)) then bif inRange v1 (8 : Nat) then (F101 k (T64.mk v3 v4 v5 v6, v0.getD v1.toNat (0 : Int), ())).bind fun r => bif v0.getD v1.toNat (0 : Int) != (0 : Int) then bif !r.snd.snd.fst then (F30 k ((11 : Int), ByteArray.mk (Array.mk [(114 : UInt8), (111 : UInt8), (111 : UInt8), (116 : UInt8)]), ())).bind fun r => some (Sum.inl r) else (F83 k (T64.mk v3 v4 v5 v6, ())).bind fun r => bif decide (v1 ≥ r) then (F30 k ((11 : Int), ByteArray.mk (Array.mk [(114 : UInt8), (111 : UInt8), (111 : UInt8), (116 : UInt8)]), ())).bind fun r => some (Sum.inl r) else again (v0, IntKind.i64.wrap (v1 + (1 : Int)), v2, v3, v4, v5, v6, v7, v8, v9, v10) else again (v0, IntKind.i64.wrap (v1 + (1 : Int)), v2, v3, v4, v5, v6, v7, v8, v9, v10) else none else some (Sum.inr ())
def L94_2 (k n : Nat) (x : List Int × Int × Int × Int × Int × Int × Int × Int × Int × Int × List Int) : Option ((GErr) ⊕ (Unit)) := iterR (R94_2 k) n x
noncomputable def ls94_2 : Nat → Option (LSum Ty) := addL 2 (lsum2 of94_2 ab94_2 L94_2 .ret on94_2a (.exit 0) on94_2b) noL
def kp94 : Nat → Keep := fun i => cond (i == 2) ⟨[1, 9, 10], [2]⟩ (⟨[], []⟩)
/-- "silt/region.roots" -/
def F94 (k : Nat) (x : T67 × Unit) : Option (GErr) :=
  match x with
  | (a0, ()) => (L94_2 k k (a0.6, (0 : Int), a0.1, a0.2.1, a0.2.2, a0.2.3, a0.2.4, a0.3, a0.4, a0.5, a0.6)).bind fun r => sumK r (fun a => some a) fun b => some GErr.nil
noncomputable def sp94 : FSpec Ty := spec ag94 rs94 F94
theorem bo94 : Tryd.f94.body = some (bodyOf Tryd.f94) := by kernel_rfl
theorem nd94 : nodupB ((loopsIn (bodyOf Tryd.f94)).map firstRegion) = true := by kernel_rfl
theorem lo94_2 : LSOK fs83 kp94 tab Tryd.f94 ls94_2 := lsum2_ok bo94 nd94 (LSOK.none) oa94_2 (R := R94_2) fun k again x => by kernel_rfl
theorem ok94 : FOK Tryd.prog tab 94 sp94 := spec_ok (keeps := kp94) tabOK fs83OK Tryd.func94 bo94 (by kernel_rfl) nd94 (lo94_2) (F := F94) fun k x => by kernel_rfl
noncomputable def fs94 : Nat → Option (FSpec Ty) := addF 94 sp94 fs83
theorem fs94OK : SpecsOK Tryd.prog tab fs94 := fs83OK.add ok94 Tryd.call94
def ag34 : Args Ty (GErr × ByteArray × Unit) := V.arg (tab.den 48) (V.arg (tab.den 9) (noArgs))
def rs34 : Res Ty tab (GErr) true := V.oneRes (tab.den 48) (ent 48).ids (ent 48).plain (fun _ h => by cases h)
def kp34 : Nat → Keep := fun i => ⟨[], []⟩
/-- "silt/fault.Wrap" -/
def F34 (k : Nat) (x : GErr × ByteArray × Unit) : Option (GErr) :=
  match x with
  | (a0, a1, ()) => bif a0.isNil then some GErr.nil else some (GErr.flt a1 a0 true)
noncomputable def sp34 : FSpec Ty := spec ag34 rs34 F34
theorem bo34 : Tryd.f34.body = some (bodyOf Tryd.f34) := by kernel_rfl
theorem nd34 : nodupB ((loopsIn (bodyOf Tryd.f34)).map firstRegion) = true := by kernel_rfl
theorem ok34 : FOK Tryd.prog tab 34 sp34 := spec_ok (keeps := kp34) tabOK fs94OK Tryd.func34 bo34 (by kernel_rfl) nd34 (LSOK.none) (F := F34) fun k x => by kernel_rfl
noncomputable def fs34 : Nat → Option (FSpec Ty) := addF 34 sp34 fs94
theorem fs34OK : SpecsOK Tryd.prog tab fs34 := fs94OK.add ok34 Tryd.call34
def ag63 : Args Ty (T67 × Unit) := V.arg (tab.den 68) (noArgs)
def rs63 : Res Ty tab (GErr) true := V.oneRes (tab.den 48) (ent 48).ids (ent 48).plain (fun _ h => by cases h)
def kp63 : Nat → Keep := fun i => ⟨[], []⟩
/-- "silt/region.wrong" -/
def F63 (k : Nat) (x : T67 × Unit) : Option (GErr) :=
  match x with
  | (a0, ()) => (F82 k (T64.mk a0.2.1 a0.2.2 a0.2.3 a0.2.4, ())).bind fun r => bif !r then (F30 k ((11 : Int), ByteArray.mk (Array.mk [(103 : UInt8), (101 : UInt8), (111 : UInt8), (109 : UInt8), (101 : UInt8), (116 : UInt8), (114 : UInt8), (121 : UInt8)]), ())).bind fun r => some r else bif decide (a0.3 < (0 : Int)) then (F30 k ((11 : Int), ByteArray.mk (Array.mk [(104 : UInt8), (101 : UInt8), (97 : UInt8), (100 : UInt8)]), ())).bind fun r => some r else bif decide (a0.3 ≥ a0.2.2) then (F30 k ((11 : Int), ByteArray.mk (Array.mk [(104 : UInt8), (101 : UInt8), (97 : UInt8), (100 : UInt8)]), ())).bind fun r => some r else bif decide (a0.4 < (0 : Int)) then (F30 k ((11 : Int), ByteArray.mk (Array.mk [(104 : UInt8), (101 : UInt8), (97 : UInt8), (100 : UInt8)]), ())).bind fun r => some r else bif decide (a0.4 > a0.2.3) then (F30 k ((11 : Int), ByteArray.mk (Array.mk [(104 : UInt8), (101 : UInt8), (97 : UInt8), (100 : UInt8)]), ())).bind fun r => some r else (F94 k (T67.mk a0.1 (T64.mk a0.2.1 a0.2.2 a0.2.3 a0.2.4) a0.3 a0.4 a0.5 a0.6, ())).bind fun r => (F34 k (r, ByteArray.mk (Array.mk [(114 : UInt8), (101 : UInt8), (103 : UInt8), (105 : UInt8), (111 : UInt8), (110 : UInt8)]), ())).bind fun r => some r
noncomputable def sp63 : FSpec Ty := spec ag63 rs63 F63
theorem bo63 : Tryd.f63.body = some (bodyOf Tryd.f63) := by kernel_rfl
theorem nd63 : nodupB ((loopsIn (bodyOf Tryd.f63)).map firstRegion) = true := by kernel_rfl
theorem ok63 : FOK Tryd.prog tab 63 sp63 := spec_ok (keeps := kp63) tabOK fs34OK Tryd.func63 bo63 (by kernel_rfl) nd63 (LSOK.none) (F := F63) fun k x => by kernel_rfl
noncomputable def fs63 : Nat → Option (FSpec Ty) := addF 63 sp63 fs34
theorem fs63OK : SpecsOK Tryd.prog tab fs63 := fs34OK.add ok63 Tryd.call63
def ag62 : Args Ty (GErr × Unit) := V.arg (tab.den 48) (noArgs)
def rs62 : Res Ty tab (Int) false := V.oneRes (tab.den 33) (ent 33).ids (ent 33).plain (fun x _ => (ent 33).flat x rfl)
def kp62 : Nat → Keep := fun i => ⟨[], []⟩
/-- "silt/region.number" -/
def F62 (k : Nat) (x : GErr × Unit) : Option (Int) :=
  match x with
  | (a0, ()) => bif a0.first.isSome then some (a0.first.getD (0 : Int)) else some (0 : Int)
noncomputable def sp62 : FSpec Ty := spec ag62 rs62 F62
theorem bo62 : Tryd.f62.body = some (bodyOf Tryd.f62) := by kernel_rfl
theorem nd62 : nodupB ((loopsIn (bodyOf Tryd.f62)).map firstRegion) = true := by kernel_rfl
theorem ok62 : FOK Tryd.prog tab 62 sp62 := spec_ok (keeps := kp62) tabOK fs63OK Tryd.func62 bo62 (by kernel_rfl) nd62 (LSOK.none) (F := F62) fun k x => by kernel_rfl
noncomputable def fs62 : Nat → Option (FSpec Ty) := addF 62 sp62 fs63
theorem fs62OK : SpecsOK Tryd.prog tab fs62 := fs63OK.add ok62 Tryd.call62
def ag64 : Args Ty (Int × Unit) := V.arg (tab.den 63) (noArgs)
def rs64 : Res Ty tab ((List Int)) true := V.oneRes (tab.den 24) (ent 24).ids (ent 24).plain (fun _ h => by cases h)
def kp64 : Nat → Keep := fun i => ⟨[], []⟩
/-- "silt/region.four" -/
def F64 (k : Nat) (x : Int × Unit) : Option ((List Int)) :=
  match x with
  | (a0, ()) => some (((((List.replicate (4 : Nat) (0 : Int)).set (0 : Nat) (IntKind.u8.wrap a0)).set (1 : Nat) (IntKind.u8.wrap (a0.fdiv ((2 : Int) ^ min (Int.toNat (8 : Int)) IntKind.u32.bits)))).set (2 : Nat) (IntKind.u8.wrap (a0.fdiv ((2 : Int) ^ min (Int.toNat (16 : Int)) IntKind.u32.bits)))).set (3 : Nat) (IntKind.u8.wrap (a0.fdiv ((2 : Int) ^ min (Int.toNat (24 : Int)) IntKind.u32.bits))))
noncomputable def sp64 : FSpec Ty := spec ag64 rs64 F64
theorem bo64 : Tryd.f64.body = some (bodyOf Tryd.f64) := by kernel_rfl
theorem nd64 : nodupB ((loopsIn (bodyOf Tryd.f64)).map firstRegion) = true := by kernel_rfl
theorem ok64 : FOK Tryd.prog tab 64 sp64 := spec_ok (keeps := kp64) tabOK fs62OK Tryd.func64 bo64 (by kernel_rfl) nd64 (LSOK.none) (F := F64) fun k x => by kernel_rfl
noncomputable def fs64 : Nat → Option (FSpec Ty) := addF 64 sp64 fs62
theorem fs64OK : SpecsOK Tryd.prog tab fs64 := fs62OK.add ok64 Tryd.call64
def ag38 : Args Ty (T67 × Unit) := V.arg (tab.den 68) (noArgs)
def rs38 : Res Ty tab ((List (List Int)) × Int × Unit) false := V.manyRes (V.part (tab.den 71) (ent 71).ids (ent 71).plain (fun x _ => (ent 71).flat x rfl) (V.part (tab.den 33) (ent 33).ids (ent 33).plain (fun x _ => (ent 33).flat x rfl) (noParts)))
def of38_6 : Int × Int × Int × Int × Int × Int × Int × Int × Int × List Int × List (List Int) × List (List Int) → NSt Ty := fun x => ⟨[.ptr 100000 [], .ptr 100001 [], .ptr 100002 [], .int .i64 (x.1)], [.var (.cons (.int .u32 (x.2.1)) (.cons (.cons (.int .i64 (x.2.2.1)) (.cons (.int .i64 (x.2.2.2.1)) (.cons (.int .i64 (x.2.2.2.2.1)) (.cons (.int .i64 (x.2.2.2.2.2.1)) (.nil))))) (.cons (.int .i64 (x.2.2.2.2.2.2.1)) (.cons (.int .i64 (x.2.2.2.2.2.2.2.1)) (.cons (.int .u32 (x.2.2.2.2.2.2.2.2.1)) (.cons (.arr 3 8 (x.2.2.2.2.2.2.2.2.2.1)) (.nil))))))), .var (.arr 70 2 (x.2.2.2.2.2.2.2.2.2.2.1)), .var (.arr 70 2 (x.2.2.2.2.2.2.2.2.2.2.2))]⟩
def ab38_6 : (n : NSt Ty) → Option {x : Int × Int × Int × Int × Int × Int × Int × Int × Int × List Int × List (List Int) × List (List Int) // of38_6 x = n}
  | ⟨[.ptr 100000 [], .ptr 100001 [], .ptr 100002 [], .int .i64 v0], [.var (.cons (.int .u32 v1) (.cons (.cons (.int .i64 v2) (.cons (.int .i64 v3) (.cons (.int .i64 v4) (.cons (.int .i64 v5) (.nil))))) (.cons (.int .i64 v6) (.cons (.int .i64 v7) (.cons (.int .u32 v8) (.cons (.arr 3 8 v9) (.nil))))))), .var (.arr 70 2 v10), .var (.arr 70 2 v11)]⟩ => some ⟨(v0, v1, v2, v3, v4, v5, v6, v7, v8, v9, v10, v11), rfl⟩
  | _ => none
def oe38_6 : Int × Int × Int × Int × Int × Int × Int × Int × List Int × List (List Int) × List (List Int) → Ex := fun _ => .exit 0
def on38_6 : Int × Int × Int × Int × Int × Int × Int × Int × List Int × List (List Int) × List (List Int) → NSt Ty := fun x => ⟨[.ptr 100000 [], .ptr 100001 [], .ptr 100002 []], [.var (.cons (.int .u32 (x.1)) (.cons (.cons (.int .i64 (x.2.1)) (.cons (.int .i64 (x.2.2.1)) (.cons (.int .i64 (x.2.2.2.1)) (.cons (.int .i64 (x.2.2.2.2.1)) (.nil))))) (.cons (.int .i64 (x.2.2.2.2.2.1)) (.cons (.int .i64 (x.2.2.2.2.2.2.1)) (.cons (.int .u32 (x.2.2.2.2.2.2.2.1)) (.cons (.arr 3 8 (x.2.2.2.2.2.2.2.2.1)) (.nil))))))), .var (.arr 70 2 (x.2.2.2.2.2.2.2.2.2.1)), .var (.arr 70 2 (x.2.2.2.2.2.2.2.2.2.2))]⟩
def oa38_6 : (e : Ex) → (n : NSt Ty) → Option {y : Int × Int × Int × Int × Int × Int × Int × Int × List Int × List (List Int) × List (List Int) // oe38_6 y = e ∧ on38_6 y = n}
  | .exit 0, ⟨[.ptr 100000 [], .ptr 100001 [], .ptr 100002 []], [.var (.cons (.int .u32 v0) (.cons (.cons (.int .i64 v1) (.cons (.int .i64 v2) (.cons (.int .i64 v3) (.cons (.int .i64 v4) (.nil))))) (.cons (.int .i64 v5) (.cons (.int .i64 v6) (.cons (.int .u32 v7) (.cons (.arr 3 8 v8) (.nil))))))), .var (.arr 70 2 v9), .var (.arr 70 2 v10)]⟩ => some ⟨(v0, v1, v2, v3, v4, v5, v6, v7, v8, v9, v10), rfl, rfl⟩
  | _, _ => none
/-- a round of the loop 6 of function 38 -/
def R38_6 (k : Nat) (again : Int × Int × Int × Int × Int × Int × Int × Int × Int × List Int × List (List Int) × List (List Int) → Option (Int × Int × Int × Int × Int × Int × Int × Int × List Int × List (List Int) × List (List Int))) (x : Int × Int × Int × Int × Int × Int × Int × Int × Int × List Int × List (List Int) × List (List Int)) : Option (Int × Int × Int × Int × Int × Int × Int × Int × List Int × List (List Int) × List (List Int)) :=
  match x with
  | (v0, v1, v2, v3, v4, v5, v6, v7, v8, v9, v10, v11) => bif decide (v0 < (2 : Int)) then bif inRange v0 (2 : Nat) then bif inRange v0 (2 : Nat) then bif inRange v0 (2 : Nat) then (F64 k (v1, ())).bind fun r => again (IntKind.i64.wrap (v0 + (1 : Int)), v1, v2, v3, v4, v5, v6, v7, v8, v9, v10, ((v11.set v0.toNat (List.set (v11.getD v0.toNat (List.replicate (64 : Nat) (0 : Int))) (Int.toNat (0 : Int)) (82 : Int))).set v0.toNat (List.set ((v11.set v0.toNat (List.set (v11.getD v0.toNat (List.replicate (64 : Nat) (0 : Int))) (Int.toNat (0 : Int)) (82 : Int))).getD v0.toNat (List.replicate (64 : Nat) (0 : Int))) (Int.toNat (1 : Int)) (IntKind.u8.wrap v0))).set v0.toNat (splice (((v11.set v0.toNat (List.set (v11.getD v0.toNat (List.replicate (64 : Nat) (0 : Int))) (Int.toNat (0 : Int)) (82 : Int))).set v0.toNat (List.set ((v11.set v0.toNat (List.set (v11.getD v0.toNat (List.replicate (64 : Nat) (0 : Int))) (Int.toNat (0 : Int)) (82 : Int))).getD v0.toNat (List.replicate (64 : Nat) (0 : Int))) (Int.toNat (1 : Int)) (IntKind.u8.wrap v0))).getD v0.toNat (List.replicate (64 : Nat) (0 : Int))) r (Int.toNat (2 : Int)) (min r.length ((↑(64 : Nat) : Int) - (2 : Int)).toNat))) else none else none else none else some (v1, v2, v3, v4, v5, v6, v7, v8, v9, v10, v11)
def L38_6 (k n : Nat) (x : Int × Int × Int × Int × Int × Int × Int × Int × Int × List Int × List (List Int) × List (List Int)) : Option (Int × Int × Int × Int × Int × Int × Int × Int × List Int × List (List Int) × List (List Int)) := iterR (R38_6 k) n x
noncomputable def ls38_6 : Nat → Option (LSum Ty) := addL 6 (LSum.of of38_6 ab38_6 L38_6 oe38_6 on38_6) noL
def of38_14 : List Int × Int × List (List Int) × List (List Int) → NSt Ty := fun x => ⟨[.ptr 100000 [], .ptr 100001 [], .arr 3 8 (x.1), .int .i64 (x.2.1)], [.var (.arr 70 2 (x.2.2.1)), .var (.arr 70 2 (x.2.2.2))]⟩
def ab38_14 : (n : NSt Ty) → Option {x : List Int × Int × List (List Int) × List (List Int) // of38_14 x = n}
  | ⟨[.ptr 100000 [], .ptr 100001 [], .arr 3 8 v0, .int .i64 v1], [.var (.arr 70 2 v2), .var (.arr 70 2 v3)]⟩ => some ⟨(v0, v1, v2, v3), rfl⟩
  | _ => none
def oe38_14 : List (List Int) × List (List Int) → Ex := fun _ => .exit 2
def on38_14 : List (List Int) × List (List Int) → NSt Ty := fun x => ⟨[.ptr 100000 [], .ptr 100001 []], [.var (.arr 70 2 (x.1)), .var (.arr 70 2 (x.2))]⟩
def oa38_14 : (e : Ex) → (n : NSt Ty) → Option {y : List (List Int) × List (List Int) // oe38_14 y = e ∧ on38_14 y = n}
  | .exit 2, ⟨[.ptr 100000 [], .ptr 100001 []], [.var (.arr 70 2 v0), .var (.arr 70 2 v1)]⟩ => some ⟨(v0, v1), rfl, rfl⟩
  | _, _ => none
/-- a round of the loop 14 of function 38 -/
def R38_14 (k : Nat) (again : List Int × Int × List (List Int) × List (List Int) → Option (List (List Int) × List (List Int))) (x : List Int × Int × List (List Int) × List (List Int)) : Option (List (List Int) × List (List Int)) :=
  match x with
  | (v0, v1, v2, v3) => bif decide (v1 < (8 : Int)) then bif inRange v1 (8 : Nat) then bif inRange (IntKind.i64.wrap ((6 : Int) + IntKind.i64.wrap ((2 : Int) * v1))) (64 : Nat) then bif inRange (IntKind.i64.wrap (IntKind.i64.wrap ((6 : Int) + IntKind.i64.wrap ((2 : Int) * v1)) + (1 : Int))) (64 : Nat) then again (v0, IntKind.i64.wrap (v1 + (1 : Int)), v2, (v3.set (Int.toNat (1 : Int)) (List.set (v3.getD (Int.toNat (1 : Int)) (List.replicate (64 : Nat) (0 : Int))) (IntKind.i64.wrap ((6 : Int) + IntKind.i64.wrap ((2 : Int) * v1))).toNat (IntKind.u8.wrap (v0.getD v1.toNat (0 : Int))))).set (Int.toNat (1 : Int)) (List.set ((v3.set (Int.toNat (1 : Int)) (List.set (v3.getD (Int.toNat (1 : Int)) (List.replicate (64 : Nat) (0 : Int))) (IntKind.i64.wrap ((6 : Int) + IntKind.i64.wrap ((2 : Int) * v1))).toNat (IntKind.u8.wrap (v0.getD v1.toNat (0 : Int))))).getD (Int.toNat (1 : Int)) (List.replicate (64 : Nat) (0 : Int))) (IntKind.i64.wrap (IntKind.i64.wrap ((6 : Int) + IntKind.i64.wrap ((2 : Int) * v1)) + (1 : Int))).toNat (IntKind.u8.wrap (Int.fdiv (v0.getD v1.toNat (0 : Int)) ((2 : Int) ^ min (Int.toNat (8 : Int)) IntKind.i64.bits))))) else none else none else none else some (v2, v3)
def L38_14 (k n : Nat) (x : List Int × Int × List (List Int) × List (List Int)) : Option (List (List Int) × List (List Int)) := iterR (R38_14 k) n x
noncomputable def ls38_14 : Nat → Option (LSum Ty) := addL 14 (LSum.of of38_14 ab38_14 L38_14 oe38_14 on38_14) ls38_6
def kp38 : Nat → Keep := fun i => cond (i == 6) ⟨[1, 2, 5, 16], [1, 2, 5]⟩ (cond (i == 14) ⟨[2, 5, 68, 69], [2, 5]⟩ (⟨[], []⟩))
/-- "silt/region.Encode" -/
def F38 (k : Nat) (x : T67 × Unit) : Option ((List (List Int)) × Int × Unit) :=
  match x with
  | (a0, ()) => (F63 k (T67.mk a0.1 (T64.mk a0.2.1 a0.2.2 a0.2.3 a0.2.4) a0.3 a0.4 a0.5 a0.6, ())).bind fun r => (F62 k (r, ())).bind fun r => bif r != (0 : Int) then some (List.replicate (2 : Nat) (List.replicate (64 : Nat) (0 : Int)), r, ()) else (L38_6 k k ((0 : Int), a0.1, a0.2.1, a0.2.2, a0.2.3, a0.2.4, a0.3, a0.4, a0.5, a0.6, List.replicate (2 : Nat) (List.replicate (64 : Nat) (0 : Int)), List.replicate (2 : Nat) (List.replicate (64 : Nat) (0 : Int)))).bind fun r => (F64 k (r.snd.snd.snd.snd.snd.snd.snd.fst, ())).bind fun r_1 => (L38_14 k k (r.snd.snd.snd.snd.snd.snd.snd.snd.fst, (0 : Int), r.snd.snd.snd.snd.snd.snd.snd.snd.snd.fst, (r.snd.snd.snd.snd.snd.snd.snd.snd.snd.snd.set (Int.toNat (0 : Int)) (splice (r.snd.snd.snd.snd.snd.snd.snd.snd.snd.snd.getD (Int.toNat (0 : Int)) (List.replicate (64 : Nat) (0 : Int))) (((((((List.replicate (6 : Nat) (0 : Int)).set (0 : Nat) (IntKind.u8.wrap r.snd.fst)).set (1 : Nat) (IntKind.u8.wrap r.snd.snd.fst)).set (2 : Nat) (IntKind.u8.wrap r.snd.snd.snd.fst)).set (3 : Nat) (IntKind.u8.wrap r.snd.snd.snd.snd.fst)).set (4 : Nat) (IntKind.u8.wrap r.snd.snd.snd.snd.snd.fst)).set (5 : Nat) (IntKind.u8.wrap r.snd.snd.snd.snd.snd.snd.fst)) (Int.toNat (6 : Int)) (min (((((((List.replicate (6 : Nat) (0 : Int)).set (0 : Nat) (IntKind.u8.wrap r.snd.fst)).set (1 : Nat) (IntKind.u8.wrap r.snd.snd.fst)).set (2 : Nat) (IntKind.u8.wrap r.snd.snd.snd.fst)).set (3 : Nat) (IntKind.u8.wrap r.snd.snd.snd.snd.fst)).set (4 : Nat) (IntKind.u8.wrap r.snd.snd.snd.snd.snd.fst)).set (5 : Nat) (IntKind.u8.wrap r.snd.snd.snd.snd.snd.snd.fst)).length ((↑(64 : Nat) : Int) - (6 : Int)).toNat))).set (Int.toNat (0 : Int)) (splice ((r.snd.snd.snd.snd.snd.snd.snd.snd.snd.snd.set (Int.toNat (0 : Int)) (splice (r.snd.snd.snd.snd.snd.snd.snd.snd.snd.snd.getD (Int.toNat (0 : Int)) (List.replicate (64 : Nat) (0 : Int))) (((((((List.replicate (6 : Nat) (0 : Int)).set (0 : Nat) (IntKind.u8.wrap r.snd.fst)).set (1 : Nat) (IntKind.u8.wrap r.snd.snd.fst)).set (2 : Nat) (IntKind.u8.wrap r.snd.snd.snd.fst)).set (3 : Nat) (IntKind.u8.wrap r.snd.snd.snd.snd.fst)).set (4 : Nat) (IntKind.u8.wrap r.snd.snd.snd.snd.snd.fst)).set (5 : Nat) (IntKind.u8.wrap r.snd.snd.snd.snd.snd.snd.fst)) (Int.toNat (6 : Int)) (min (((((((List.replicate (6 : Nat) (0 : Int)).set (0 : Nat) (IntKind.u8.wrap r.snd.fst)).set (1 : Nat) (IntKind.u8.wrap r.snd.snd.fst)).set (2 : Nat) (IntKind.u8.wrap r.snd.snd.snd.fst)).set (3 : Nat) (IntKind.u8.wrap r.snd.snd.snd.snd.fst)).set (4 : Nat) (IntKind.u8.wrap r.snd.snd.snd.snd.snd.fst)).set (5 : Nat) (IntKind.u8.wrap r.snd.snd.snd.snd.snd.snd.fst)).length ((↑(64 : Nat) : Int) - (6 : Int)).toNat))).getD (Int.toNat (0 : Int)) (List.replicate (64 : Nat) (0 : Int))) r_1 (Int.toNat (12 : Int)) (min r_1.length ((↑(64 : Nat) : Int) - (12 : Int)).toNat)))).bind fun r => some (r.snd, (0 : Int), ())
noncomputable def sp38 : FSpec Ty := spec ag38 rs38 F38
theorem bo38 : Tryd.f38.body = some (bodyOf Tryd.f38) := by kernel_rfl
theorem nd38 : nodupB ((loopsIn (bodyOf Tryd.f38)).map firstRegion) = true := by kernel_rfl
theorem lo38_6 : LSOK fs64 kp38 tab Tryd.f38 ls38_6 := lsum_ok bo38 nd38 (LSOK.none) oa38_6 (R := R38_6) fun k again x => by kernel_rfl
theorem lo38_14 : LSOK fs64 kp38 tab Tryd.f38 ls38_14 := lsum_ok bo38 nd38 (lo38_6) oa38_14 (R := R38_14) fun k again x => by kernel_rfl
theorem ok38 : FOK Tryd.prog tab 38 sp38 := spec_ok (keeps := kp38) tabOK fs64OK Tryd.func38 bo38 (by kernel_rfl) nd38 (lo38_14) (F := F38) fun k x => by kernel_rfl
noncomputable def fs38 : Nat → Option (FSpec Ty) := addF 38 sp38 fs64
theorem fs38OK : SpecsOK Tryd.prog tab fs38 := fs64OK.add ok38 Tryd.call38
def ag69 : Args Ty (T64 × Unit) := V.arg (tab.den 65) (noArgs)
def rs69 : Res Ty tab (Bool) false := V.oneRes (tab.den 4) (ent 4).ids (ent 4).plain (fun x _ => (ent 4).flat x rfl)
def kp69 : Nat → Keep := fun i => ⟨[], []⟩
/-- "silt/siltref03.Good" -/
def F69 (k : Nat) (x : T64 × Unit) : Option (Bool) :=
  match x with
  | (a0, ()) => bif decide (a0.1 ≥ (1 : Int)) then bif decide (a0.1 ≤ (64 : Int)) then bif decide (a0.2 ≥ (6 : Int)) then bif decide (a0.2 ≤ (16 : Int)) then bif decide (a0.3 ≥ (24 : Int)) then bif decide (a0.3 ≤ (32 : Int)) then bif decide (a0.4 ≥ (2 : Int)) then some (decide (a0.4 ≤ (16 : Int))) else some false else some false else some false else some false else some false else some false else some false
noncomputable def sp69 : FSpec Ty := spec ag69 rs69 F69
theorem bo69 : Tryd.f69.body = some (bodyOf Tryd.f69) := by kernel_rfl
theorem nd69 : nodupB ((loopsIn (bodyOf Tryd.f69)).map firstRegion) = true := by kernel_rfl
theorem ok69 : FOK Tryd.prog tab 69 sp69 := spec_ok (keeps := kp69) tabOK fs38OK Tryd.func69 bo69 (by kernel_rfl) nd69 (LSOK.none) (F := F69) fun k x => by kernel_rfl
noncomputable def fs69 : Nat → Option (FSpec Ty) := addF 69 sp69 fs38
theorem fs69OK : SpecsOK Tryd.prog tab fs69 := fs38OK.add ok69 Tryd.call69
def ag53 : Args Ty (T64 × Unit) := V.arg (tab.den 65) (noArgs)
def rs53 : Res Ty tab (T106) false := V.oneRes (tab.den 107) (ent 107).ids (ent 107).plain (fun x _ => (ent 107).flat x rfl)
def kp53 : Nat → Keep := fun i => ⟨[], []⟩
/-- "silt/siltref03.Of" -/
def F53 (k : Nat) (x : T64 × Unit) : Option (T106) :=
  match x with
  | (a0, ()) => (F69 k (T64.mk a0.1 a0.2 a0.3 a0.4, ())).bind fun r => bif !r then some (T106.mk (0 : Int) (0 : Int) (0 : Int)) else some (T106.mk (IntKind.i64.wrap ((IntKind.i64.wrap (a0.1 + (7 : Int))).tdiv (8 : Int))) (IntKind.i64.wrap ((4 : Int) + IntKind.i64.wrap (a0.2 * a0.3))) (if (if IntKind.i64.wrap ((IntKind.i64.wrap (IntKind.i64.wrap ((4 : Int) * IntKind.i64.wrap (a0.2 - (4 : Int))) - IntKind.i64.wrap ((IntKind.i64.wrap (a0.1 + (7 : Int))).tdiv (8 : Int)))).tdiv (3 : Int)) < a0.1 then IntKind.i64.wrap ((IntKind.i64.wrap (IntKind.i64.wrap ((4 : Int) * IntKind.i64.wrap (a0.2 - (4 : Int))) - IntKind.i64.wrap ((IntKind.i64.wrap (a0.1 + (7 : Int))).tdiv (8 : Int)))).tdiv (3 : Int)) else a0.1) > (0 : Int) then if IntKind.i64.wrap ((IntKind.i64.wrap (IntKind.i64.wrap ((4 : Int) * IntKind.i64.wrap (a0.2 - (4 : Int))) - IntKind.i64.wrap ((IntKind.i64.wrap (a0.1 + (7 : Int))).tdiv (8 : Int)))).tdiv (3 : Int)) < a0.1 then IntKind.i64.wrap ((IntKind.i64.wrap (IntKind.i64.wrap ((4 : Int) * IntKind.i64.wrap (a0.2 - (4 : Int))) - IntKind.i64.wrap ((IntKind.i64.wrap (a0.1 + (7 : Int))).tdiv (8 : Int)))).tdiv (3 : Int)) else a0.1 else (0 : Int)))
noncomputable def sp53 : FSpec Ty := spec ag53 rs53 F53
theorem bo53 : Tryd.f53.body = some (bodyOf Tryd.f53) := by kernel_rfl
theorem nd53 : nodupB ((loopsIn (bodyOf Tryd.f53)).map firstRegion) = true := by kernel_rfl
theorem ok53 : FOK Tryd.prog tab 53 sp53 := spec_ok (keeps := kp53) tabOK fs69OK Tryd.func53 bo53 (by kernel_rfl) nd53 (LSOK.none) (F := F53) fun k x => by kernel_rfl
noncomputable def fs53 : Nat → Option (FSpec Ty) := addF 53 sp53 fs69
theorem fs53OK : SpecsOK Tryd.prog tab fs53 := fs69OK.add ok53 Tryd.call53
def ag70 : Args Ty (T64 × Int × Unit) := V.arg (tab.den 65) (V.arg (tab.den 3) (noArgs))
def rs70 : Res Ty tab (T136) false := V.oneRes (tab.den 137) (ent 137).ids (ent 137).plain (fun x _ => (ent 137).flat x rfl)
def kp70 : Nat → Keep := fun i => ⟨[], []⟩
/-- "silt/siltref03.Where" -/
def F70 (k : Nat) (x : T64 × Int × Unit) : Option (T136) :=
  match x with
  | (a0, a1, ()) => (F69 k (T64.mk a0.1 a0.2 a0.3 a0.4, ())).bind fun r => bif !r then some (T136.mk (0 : Int) (0 : Int) false) else bif decide (a1 < (4 : Int)) then some (T136.mk (0 : Int) (0 : Int) false) else (F53 k (T64.mk a0.1 a0.2 a0.3 a0.4, ())).bind fun r => bif decide (a1 ≥ r.2) then some (T136.mk (0 : Int) (0 : Int) false) else bif a0.3 != (0 : Int) then bif a0.3 != (0 : Int) then some (T136.mk (IntKind.i64.wrap ((IntKind.i64.wrap (a1 - (4 : Int))).tdiv a0.3)) ((IntKind.i64.wrap (a1 - (4 : Int))).tmod a0.3) true) else none else none
noncomputable def sp70 : FSpec Ty := spec ag70 rs70 F70
theorem bo70 : Tryd.f70.body = some (bodyOf Tryd.f70) := by kernel_rfl
theorem nd70 : nodupB ((loopsIn (bodyOf Tryd.f70)).map firstRegion) = true := by kernel_rfl
theorem ok70 : FOK Tryd.prog tab 70 sp70 := spec_ok (keeps := kp70) tabOK fs53OK Tryd.func70 bo70 (by kernel_rfl) nd70 (LSOK.none) (F := F70) fun k x => by kernel_rfl
noncomputable def fs70 : Nat → Option (FSpec Ty) := addF 70 sp70 fs53
theorem fs70OK : SpecsOK Tryd.prog tab fs70 := fs53OK.add ok70 Tryd.call70
def ag43 : Args Ty (T67 × Unit) := V.arg (tab.den 68) (noArgs)
def rs43 : Res Ty tab (Bool) false := V.oneRes (tab.den 4) (ent 4).ids (ent 4).plain (fun x _ => (ent 4).flat x rfl)
def of43_4 : Int × Int × Int × Int × Int × Int × Int × Int × Int × List Int → NSt Ty := fun x => ⟨[.ptr 100000 [], .int .i64 (x.1)], [.var (.cons (.int .u32 (x.2.1)) (.cons (.cons (.int .i64 (x.2.2.1)) (.cons (.int .i64 (x.2.2.2.1)) (.cons (.int .i64 (x.2.2.2.2.1)) (.cons (.int .i64 (x.2.2.2.2.2.1)) (.nil))))) (.cons (.int .i64 (x.2.2.2.2.2.2.1)) (.cons (.int .i64 (x.2.2.2.2.2.2.2.1)) (.cons (.int .u32 (x.2.2.2.2.2.2.2.2.1)) (.cons (.arr 3 8 (x.2.2.2.2.2.2.2.2.2)) (.nil)))))))]⟩
def ab43_4 : (n : NSt Ty) → Option {x : Int × Int × Int × Int × Int × Int × Int × Int × Int × List Int // of43_4 x = n}
  | ⟨[.ptr 100000 [], .int .i64 v0], [.var (.cons (.int .u32 v1) (.cons (.cons (.int .i64 v2) (.cons (.int .i64 v3) (.cons (.int .i64 v4) (.cons (.int .i64 v5) (.nil))))) (.cons (.int .i64 v6) (.cons (.int .i64 v7) (.cons (.int .u32 v8) (.cons (.arr 3 8 v9) (.nil)))))))]⟩ => some ⟨(v0, v1, v2, v3, v4, v5, v6, v7, v8, v9), rfl⟩
  | _ => none
def on43_4a : Bool → NSt Ty := fun x => ⟨[.bool (x)], []⟩
def on43_4b : Unit → NSt Ty := fun x => ⟨[.undef], []⟩
def oa43_4 : (e : Ex) → (n : NSt Ty) → Option {y : (Bool) ⊕ (Unit) // oe2 .ret (.exit 0) y = e ∧ on2 on43_4a on43_4b y = n}
  | .ret, ⟨[.bool v0], []⟩ => some ⟨.inl v0, rfl, rfl⟩
  | .exit 0, ⟨[.undef], []⟩ => some ⟨.inr (), rfl, rfl⟩
  | _, _ => none
/-- a round of the loop 4 of function 43 -/
def R43_4 (k : Nat) (again : Int × Int × Int × Int × Int × Int × Int × Int × Int × List Int → Option ((Bool) ⊕ (Unit))) (x : Int × Int × Int × Int × Int × Int × Int × Int × Int × List Int) : Option ((Bool) ⊕ (Unit)) :=
  match x with
  | (v0, v1, v2, v3, v4, v5, v6, v7, v8, v9) => bif decide (v0 < (8 : Int)) then bif inRange v0 (8 : Nat) then bif v9.getD v0.toNat (0 : Int) != (0 : Int) then (F53 k (T64.mk v2 v3 v4 v5, ())).bind fun r => bif decide (v0 ≥ r.1) then some (Sum.inl false) else bif inRange v0 (8 : Nat) then (F70 k (T64.mk v2 v3 v4 v5, v9.getD v0.toNat (0 : Int), ())).bind fun r => bif !r.3 then some (Sum.inl false) else again (IntKind.i64.wrap (v0 + (1 : Int)), v1, v2, v3, v4, v5, v6, v7, v8, v9) else none else again (IntKind.i64.wrap (v0 + (1 : Int)), v1, v2, v3, v4, v5, v6, v7, v8, v9) else none else some (Sum.inr ())
def L43_4 (k n : Nat) (x : Int × Int × Int × Int × Int × Int × Int × Int × Int × List Int) : Option ((Bool) ⊕ (Unit)) := iterR (R43_4 k) n x
noncomputable def ls43_4 : Nat → Option (LSum Ty) := addL 4 (lsum2 of43_4 ab43_4 L43_4 .ret on43_4a (.exit 0) on43_4b) noL
def kp43 : Nat → Keep := fun i => cond (i == 4) ⟨[1, 3], [2]⟩ (⟨[], []⟩)
/-- "silt/siltref06.Good" -/
def F43 (k : Nat) (x : T67 × Unit) : Option (Bool) :=
  match x with
  | (a0, ()) => (F69 k (T64.mk a0.2.1 a0.2.2 a0.2.3 a0.2.4, ())).bind fun r => bif !r then some false else bif decide (a0.3 < (0 : Int)) then some false else bif decide (a0.3 ≥ a0.2.2) then some false else bif decide (a0.4 < (0 : Int)) then some false else bif decide (a0.4 > a0.2.3) then some false else (L43_4 k k ((0 : Int), a0.1, a0.2.1, a0.2.2, a0.2.3, a0.2.4, a0.3, a0.4, a0.5, a0.6)).bind fun r => sumK r (fun a => some a) fun b => some true
noncomputable def sp43 : FSpec Ty := spec ag43 rs43 F43
theorem bo43 : Tryd.f43.body = some (bodyOf Tryd.f43) := by kernel_rfl
theorem nd43 : nodupB ((loopsIn (bodyOf Tryd.f43)).map firstRegion) = true := by kernel_rfl
theorem lo43_4 : LSOK fs70 kp43 tab Tryd.f43 ls43_4 := lsum2_ok bo43 nd43 (LSOK.none) oa43_4 (R := R43_4) fun k again x => by kernel_rfl
theorem ok43 : FOK Tryd.prog tab 43 sp43 := spec_ok (keeps := kp43) tabOK fs70OK Tryd.func43 bo43 (by kernel_rfl) nd43 (lo43_4) (F := F43) fun k x => by kernel_rfl
noncomputable def fs43 : Nat → Option (FSpec Ty) := addF 43 sp43 fs70
theorem fs43OK : SpecsOK Tryd.prog tab fs43 := fs70OK.add ok43 Tryd.call43
def ag65 : Args Ty (Int × Int × Unit) := V.arg (tab.den 63) (V.arg (tab.den 3) (noArgs))
def rs65 : Res Ty tab ((List Int)) true := V.oneRes (tab.den 24) (ent 24).ids (ent 24).plain (fun _ h => by cases h)
def of65_3 : Int × Int × Int × List Int → NSt Ty := fun x => ⟨[.int .u32 (x.1), .int .i64 (x.2.1), .row 100000, .int .i64 (x.2.2.1)], [.row 5 (x.2.2.2)]⟩
def ab65_3 : (n : NSt Ty) → Option {x : Int × Int × Int × List Int // of65_3 x = n}
  | ⟨[.int .u32 v0, .int .i64 v1, .row 100000, .int .i64 v2], [.row 5 v3]⟩ => some ⟨(v0, v1, v2, v3), rfl⟩
  | _ => none
def oe65_3 : List Int → Ex := fun _ => .exit 0
def on65_3 : List Int → NSt Ty := fun x => ⟨[.row 100000], [.row 5 (x)]⟩
def oa65_3 : (e : Ex) → (n : NSt Ty) → Option {y : List Int // oe65_3 y = e ∧ on65_3 y = n}
  | .exit 0, ⟨[.row 100000], [.row 5 v0]⟩ => some ⟨v0, rfl, rfl⟩
  | _, _ => none
/-- a round of the loop 3 of function 65 -/
def R65_3 (k : Nat) (again : Int × Int × Int × List Int → Option (List Int)) (x : Int × Int × Int × List Int) : Option (List Int) :=
  match x with
  | (v0, v1, v2, v3) => bif decide (v2 < v1) then bif decide ((0 : Int) ≤ IntKind.u64.wrap (IntKind.i64.wrap ((8 : Int) * v2))) then bif decide (v3.length + ((List.replicate (1 : Nat) (0 : Int)).set (0 : Nat) (IntKind.u8.wrap (v0.fdiv ((2 : Int) ^ min (IntKind.u64.wrap (IntKind.i64.wrap ((8 : Int) * v2))).toNat IntKind.u32.bits)))).length ≤ roomMost) then again (v0, v1, IntKind.i64.wrap (v2 + (1 : Int)), v3 ++ (List.replicate (1 : Nat) (0 : Int)).set (0 : Nat) (IntKind.u8.wrap (v0.fdiv ((2 : Int) ^ min (IntKind.u64.wrap (IntKind.i64.wrap ((8 : Int) * v2))).toNat IntKind.u32.bits)))) else none else none else some v3
def L65_3 (k n : Nat) (x : Int × Int × Int × List Int) : Option (List Int) := iterR (R65_3 k) n x
noncomputable def ls65_3 : Nat → Option (LSum Ty) := addL 3 (LSum.of of65_3 ab65_3 L65_3 oe65_3 on65_3) noL
def kp65 : Nat → Keep := fun i => cond (i == 3) ⟨[0, 1, 5, 6], [5]⟩ (⟨[], []⟩)
/-- "silt/siltref04.Put" -/
def F65 (k : Nat) (x : Int × Int × Unit) : Option ((List Int)) :=
  match x with
  | (a0, a1, ()) => (L65_3 k k (a0, a1, (0 : Int), [])).bind fun r => some r
noncomputable def sp65 : FSpec Ty := spec ag65 rs65 F65
theorem bo65 : Tryd.f65.body = some (bodyOf Tryd.f65) := by kernel_rfl
theorem nd65 : nodupB ((loopsIn (bodyOf Tryd.f65)).map firstRegion) = true := by kernel_rfl
theorem lo65_3 : LSOK fs43 kp65 tab Tryd.f65 ls65_3 := lsum_ok bo65 nd65 (LSOK.none) oa65_3 (R := R65_3) fun k again x => by kernel_rfl
theorem ok65 : FOK Tryd.prog tab 65 sp65 := spec_ok (keeps := kp65) tabOK fs43OK Tryd.func65 bo65 (by kernel_rfl) nd65 (lo65_3) (F := F65) fun k x => by kernel_rfl
noncomputable def fs65 : Nat → Option (FSpec Ty) := addF 65 sp65 fs43
theorem fs65OK : SpecsOK Tryd.prog tab fs65 := fs43OK.add ok65 Tryd.call65
def ag66 : Args Ty ((List Int) × Unit) := V.arg (tab.den 24) (noArgs)
def rs66 : Res Ty tab ((List Int)) false := V.oneRes (tab.den 70) (ent 70).ids (ent 70).plain (fun x _ => (ent 70).flat x rfl)
def kp66 : Nat → Keep := fun i => ⟨[], []⟩
/-- "silt/siltref04.Sector" -/
def F66 (k : Nat) (x : (List Int) × Unit) : Option ((List Int)) :=
  match x with
  | (a0, ()) => some (splice (List.replicate (64 : Nat) (0 : Int)) a0 (Int.toNat (0 : Int)) (min a0.length ((↑(64 : Nat) : Int) - (0 : Int)).toNat))
noncomputable def sp66 : FSpec Ty := spec ag66 rs66 F66
theorem bo66 : Tryd.f66.body = some (bodyOf Tryd.f66) := by kernel_rfl
theorem nd66 : nodupB ((loopsIn (bodyOf Tryd.f66)).map firstRegion) = true := by kernel_rfl
theorem ok66 : FOK Tryd.prog tab 66 sp66 := spec_ok (keeps := kp66) tabOK fs65OK Tryd.func66 bo66 (by kernel_rfl) nd66 (LSOK.none) (F := F66) fun k x => by kernel_rfl
noncomputable def fs66 : Nat → Option (FSpec Ty) := addF 66 sp66 fs65
theorem fs66OK : SpecsOK Tryd.prog tab fs66 := fs65OK.add ok66 Tryd.call66
def ag39 : Args Ty (T67 × Unit) := V.arg (tab.den 68) (noArgs)
def rs39 : Res Ty tab ((List (List Int)) × Int × Unit) false := V.manyRes (V.part (tab.den 71) (ent 71).ids (ent 71).plain (fun x _ => (ent 71).flat x rfl) (V.part (tab.den 3) (ent 3).ids (ent 3).plain (fun x _ => (ent 3).flat x rfl) (noParts)))
def of39_8 : Int × Int × Int × Int × Int × Int × Int × Int × Int × List Int × List (List Int) × List Int × List Int → NSt Ty := fun x => ⟨[.ptr 100000 [], .ptr 100001 [], .row 100002, .row 100003, .int .i64 (x.1)], [.var (.cons (.int .u32 (x.2.1)) (.cons (.cons (.int .i64 (x.2.2.1)) (.cons (.int .i64 (x.2.2.2.1)) (.cons (.int .i64 (x.2.2.2.2.1)) (.cons (.int .i64 (x.2.2.2.2.2.1)) (.nil))))) (.cons (.int .i64 (x.2.2.2.2.2.2.1)) (.cons (.int .i64 (x.2.2.2.2.2.2.2.1)) (.cons (.int .u32 (x.2.2.2.2.2.2.2.2.1)) (.cons (.arr 3 8 (x.2.2.2.2.2.2.2.2.2.1)) (.nil))))))), .var (.arr 70 2 (x.2.2.2.2.2.2.2.2.2.2.1)), .row 5 (x.2.2.2.2.2.2.2.2.2.2.2.1), .row 5 (x.2.2.2.2.2.2.2.2.2.2.2.2)]⟩
def ab39_8 : (n : NSt Ty) → Option {x : Int × Int × Int × Int × Int × Int × Int × Int × Int × List Int × List (List Int) × List Int × List Int // of39_8 x = n}
  | ⟨[.ptr 100000 [], .ptr 100001 [], .row 100002, .row 100003, .int .i64 v0], [.var (.cons (.int .u32 v1) (.cons (.cons (.int .i64 v2) (.cons (.int .i64 v3) (.cons (.int .i64 v4) (.cons (.int .i64 v5) (.nil))))) (.cons (.int .i64 v6) (.cons (.int .i64 v7) (.cons (.int .u32 v8) (.cons (.arr 3 8 v9) (.nil))))))), .var (.arr 70 2 v10), .row 5 v11, .row 5 v12]⟩ => some ⟨(v0, v1, v2, v3, v4, v5, v6, v7, v8, v9, v10, v11, v12), rfl⟩
  | _ => none
def oe39_8 : List (List Int) × List Int × List Int → Ex := fun _ => .exit 0
def on39_8 : List (List Int) × List Int × List Int → NSt Ty := fun x => ⟨[.ptr 100000 [], .row 100001, .row 100002], [.var (.arr 70 2 (x.1)), .row 5 (x.2.1), .row 5 (x.2.2)]⟩
def oa39_8 : (e : Ex) → (n : NSt Ty) → Option {y : List (List Int) × List Int × List Int // oe39_8 y = e ∧ on39_8 y = n}
  | .exit 0, ⟨[.ptr 100000 [], .row 100001, .row 100002], [.var (.arr 70 2 v0), .row 5 v1, .row 5 v2]⟩ => some ⟨(v0, v1, v2), rfl, rfl⟩
  | _, _ => none
/-- a round of the loop 8 of function 39 -/
def R39_8 (k : Nat) (again : Int × Int × Int × Int × Int × Int × Int × Int × Int × List Int × List (List Int) × List Int × List Int → Option (List (List Int) × List Int × List Int)) (x : Int × Int × Int × Int × Int × Int × Int × Int × Int × List Int × List (List Int) × List Int × List Int) : Option (List (List Int) × List Int × List Int) :=
  match x with
  | (v0, v1, v2, v3, v4, v5, v6, v7, v8, v9, v10, v11, v12) => bif decide (v0 < (8 : Int)) then bif inRange v0 (8 : Nat) then (F65 k (IntKind.u32.wrap (v9.getD v0.toNat (0 : Int)), (2 : Int), ())).bind fun r => bif decide (v12.length + r.length ≤ roomMost) then again (IntKind.i64.wrap (v0 + (1 : Int)), v1, v2, v3, v4, v5, v6, v7, v8, v9, v10, v11, v12 ++ r) else none else none else some (v10, v11, v12)
def L39_8 (k n : Nat) (x : Int × Int × Int × Int × Int × Int × Int × Int × Int × List Int × List (List Int) × List Int × List Int) : Option (List (List Int) × List Int × List Int) := iterR (R39_8 k) n x
noncomputable def ls39_8 : Nat → Option (LSum Ty) := addL 8 (LSum.of of39_8 ab39_8 L39_8 oe39_8 on39_8) noL
def kp39 : Nat → Keep := fun i => cond (i == 8) ⟨[1, 2, 4, 5, 6], [2, 4, 5]⟩ (⟨[], []⟩)
/-- "silt/siltref06.Encode" -/
def F39 (k : Nat) (x : T67 × Unit) : Option ((List (List Int)) × Int × Unit) :=
  match x with
  | (a0, ()) => (F43 k (T67.mk a0.1 (T64.mk a0.2.1 a0.2.2 a0.2.3 a0.2.4) a0.3 a0.4 a0.5 a0.6, ())).bind fun r => bif !r then some (List.replicate (2 : Nat) (List.replicate (64 : Nat) (0 : Int)), (11 : Int), ()) else (F65 k (a0.1, (4 : Int), ())).bind fun r => bif decide ((((List.replicate (2 : Nat) (0 : Int)).set (0 : Nat) (82 : Int)).set (1 : Nat) (0 : Int)).length + r.length ≤ roomMost) then bif decide ((((List.replicate (2 : Nat) (0 : Int)).set (0 : Nat) (82 : Int)).set (1 : Nat) (0 : Int) ++ r).length + (((((((List.replicate (6 : Nat) (0 : Int)).set (0 : Nat) (IntKind.u8.wrap a0.2.1)).set (1 : Nat) (IntKind.u8.wrap a0.2.2)).set (2 : Nat) (IntKind.u8.wrap a0.2.3)).set (3 : Nat) (IntKind.u8.wrap a0.2.4)).set (4 : Nat) (IntKind.u8.wrap a0.3)).set (5 : Nat) (IntKind.u8.wrap a0.4)).length ≤ roomMost) then (F65 k (a0.5, (4 : Int), ())).bind fun r_1 => bif decide ((((List.replicate (2 : Nat) (0 : Int)).set (0 : Nat) (82 : Int)).set (1 : Nat) (0 : Int) ++ r ++ ((((((List.replicate (6 : Nat) (0 : Int)).set (0 : Nat) (IntKind.u8.wrap a0.2.1)).set (1 : Nat) (IntKind.u8.wrap a0.2.2)).set (2 : Nat) (IntKind.u8.wrap a0.2.3)).set (3 : Nat) (IntKind.u8.wrap a0.2.4)).set (4 : Nat) (IntKind.u8.wrap a0.3)).set (5 : Nat) (IntKind.u8.wrap a0.4)).length + r_1.length ≤ roomMost) then (F65 k (a0.1, (4 : Int), ())).bind fun r_2 => bif decide ((((List.replicate (2 : Nat) (0 : Int)).set (0 : Nat) (82 : Int)).set (1 : Nat) (1 : Int)).length + r_2.length ≤ roomMost) then (L39_8 k k ((0 : Int), a0.1, a0.2.1, a0.2.2, a0.2.3, a0.2.4, a0.3, a0.4, a0.5, a0.6, List.replicate (2 : Nat) (List.replicate (64 : Nat) (0 : Int)), ((List.replicate (2 : Nat) (0 : Int)).set (0 : Nat) (82 : Int)).set (1 : Nat) (0 : Int) ++ r ++ ((((((List.replicate (6 : Nat) (0 : Int)).set (0 : Nat) (IntKind.u8.wrap a0.2.1)).set (1 : Nat) (IntKind.u8.wrap a0.2.2)).set (2 : Nat) (IntKind.u8.wrap a0.2.3)).set (3 : Nat) (IntKind.u8.wrap a0.2.4)).set (4 : Nat) (IntKind.u8.wrap a0.3)).set (5 : Nat) (IntKind.u8.wrap a0.4) ++ r_1, ((List.replicate (2 : Nat) (0 : Int)).set (0 : Nat) (82 : Int)).set (1 : Nat) (1 : Int) ++ r_2)).bind fun r => (F66 k (r.snd.fst, ())).bind fun r_3 => (F66 k (r.snd.snd, ())).bind fun r => some (((List.replicate (2 : Nat) (List.replicate (64 : Nat) (0 : Int))).set (0 : Nat) r_3).set (1 : Nat) r, (0 : Int), ()) else none else none else none else none
noncomputable def sp39 : FSpec Ty := spec ag39 rs39 F39
theorem bo39 : Tryd.f39.body = some (bodyOf Tryd.f39) := by kernel_rfl
theorem nd39 : nodupB ((loopsIn (bodyOf Tryd.f39)).map firstRegion) = true := by kernel_rfl
theorem lo39_8 : LSOK fs66 kp39 tab Tryd.f39 ls39_8 := lsum_ok bo39 nd39 (LSOK.none) oa39_8 (R := R39_8) fun k again x => by kernel_rfl
theorem ok39 : FOK Tryd.prog tab 39 sp39 := spec_ok (keeps := kp39) tabOK fs66OK Tryd.func39 bo39 (by kernel_rfl) nd39 (lo39_8) (F := F39) fun k x => by kernel_rfl
noncomputable def fs39 : Nat → Option (FSpec Ty) := addF 39 sp39 fs66
theorem fs39OK : SpecsOK Tryd.prog tab fs39 := fs66OK.add ok39 Tryd.call39
def ag67 : Args Ty ((List Int) × Unit) := V.arg (tab.den 24) (noArgs)
def rs67 : Res Ty tab (Int) false := V.oneRes (tab.den 63) (ent 63).ids (ent 63).plain (fun x _ => (ent 63).flat x rfl)
def kp67 : Nat → Keep := fun i => ⟨[], []⟩
/-- "silt/region.get" -/
def F67 (k : Nat) (x : (List Int) × Unit) : Option (Int) :=
  match x with
  | (a0, ()) => bif inRange (0 : Int) a0.length then bif inRange (1 : Int) a0.length then bif inRange (2 : Int) a0.length then bif inRange (3 : Int) a0.length then some (IntKind.u32.wrap (↑(BitVec.ofInt IntKind.u32.bits (IntKind.u32.wrap (↑(BitVec.ofInt IntKind.u32.bits (IntKind.u32.wrap (↑(BitVec.ofInt IntKind.u32.bits (IntKind.u32.wrap (a0.getD (Int.toNat (0 : Int)) (0 : Int))) ||| BitVec.ofInt IntKind.u32.bits (IntKind.u32.wrap (IntKind.u32.wrap (a0.getD (Int.toNat (1 : Int)) (0 : Int)) * (2 : Int) ^ min (Int.toNat (8 : Int)) IntKind.u32.bits))).toNat : Int)) ||| BitVec.ofInt IntKind.u32.bits (IntKind.u32.wrap (IntKind.u32.wrap (a0.getD (Int.toNat (2 : Int)) (0 : Int)) * (2 : Int) ^ min (Int.toNat (16 : Int)) IntKind.u32.bits))).toNat : Int)) ||| BitVec.ofInt IntKind.u32.bits (IntKind.u32.wrap (IntKind.u32.wrap (a0.getD (Int.toNat (3 : Int)) (0 : Int)) * (2 : Int) ^ min (Int.toNat (24 : Int)) IntKind.u32.bits))).toNat : Int)) else none else none else none else none
noncomputable def sp67 : FSpec Ty := spec ag67 rs67 F67
theorem bo67 : Tryd.f67.body = some (bodyOf Tryd.f67) := by kernel_rfl
theorem nd67 : nodupB ((loopsIn (bodyOf Tryd.f67)).map firstRegion) = true := by kernel_rfl
theorem ok67 : FOK Tryd.prog tab 67 sp67 := spec_ok (keeps := kp67) tabOK fs39OK Tryd.func67 bo67 (by kernel_rfl) nd67 (LSOK.none) (F := F67) fun k x => by kernel_rfl
noncomputable def fs67 : Nat → Option (FSpec Ty) := addF 67 sp67 fs39
theorem fs67OK : SpecsOK Tryd.prog tab fs67 := fs39OK.add ok67 Tryd.call67
def ag40 : Args Ty ((List (List Int)) × Unit) := V.arg (tab.den 71) (noArgs)
def rs40 : Res Ty tab (T67 × Int × Unit) false := V.manyRes (V.part (tab.den 68) (ent 68).ids (ent 68).plain (fun x _ => (ent 68).flat x rfl) (V.part (tab.den 33) (ent 33).ids (ent 33).plain (fun x _ => (ent 33).flat x rfl) (noParts)))
def of40_4 : Int × List (List Int) × Int × Int × Int × Int × Int × Int × Int × Int × List Int × Int × Int × Int × Int × Int × Int × Int × Int × List Int → NSt Ty := fun x => ⟨[.ptr 100000 [], .ptr 100001 [], .ptr 100002 [], .int .i64 (x.1)], [.var (.arr 70 2 (x.2.1)), .var (.cons (.int .u32 (x.2.2.1)) (.cons (.cons (.int .i64 (x.2.2.2.1)) (.cons (.int .i64 (x.2.2.2.2.1)) (.cons (.int .i64 (x.2.2.2.2.2.1)) (.cons (.int .i64 (x.2.2.2.2.2.2.1)) (.nil))))) (.cons (.int .i64 (x.2.2.2.2.2.2.2.1)) (.cons (.int .i64 (x.2.2.2.2.2.2.2.2.1)) (.cons (.int .u32 (x.2.2.2.2.2.2.2.2.2.1)) (.cons (.arr 3 8 (x.2.2.2.2.2.2.2.2.2.2.1)) (.nil))))))), .var (.cons (.int .u32 (x.2.2.2.2.2.2.2.2.2.2.2.1)) (.cons (.cons (.int .i64 (x.2.2.2.2.2.2.2.2.2.2.2.2.1)) (.cons (.int .i64 (x.2.2.2.2.2.2.2.2.2.2.2.2.2.1)) (.cons (.int .i64 (x.2.2.2.2.2.2.2.2.2.2.2.2.2.2.1)) (.cons (.int .i64 (x.2.2.2.2.2.2.2.2.2.2.2.2.2.2.2.1)) (.nil))))) (.cons (.int .i64 (x.2.2.2.2.2.2.2.2.2.2.2.2.2.2.2.2.1)) (.cons (.int .i64 (x.2.2.2.2.2.2.2.2.2.2.2.2.2.2.2.2.2.1)) (.cons (.int .u32 (x.2.2.2.2.2.2.2.2.2.2.2.2.2.2.2.2.2.2.1)) (.cons (.arr 3 8 (x.2.2.2.2.2.2.2.2.2.2.2.2.2.2.2.2.2.2.2)) (.nil)))))))]⟩
def ab40_4 : (n : NSt Ty) → Option {x : Int × List (List Int) × Int × Int × Int × Int × Int × Int × Int × Int × List Int × Int × Int × Int × Int × Int × Int × Int × Int × List Int // of40_4 x = n}
  | ⟨[.ptr 100000 [], .ptr 100001 [], .ptr 100002 [], .int .i64 v0], [.var (.arr 70 2 v1), .var (.cons (.int .u32 v2) (.cons (.cons (.int .i64 v3) (.cons (.int .i64 v4) (.cons (.int .i64 v5) (.cons (.int .i64 v6) (.nil))))) (.cons (.int .i64 v7) (.cons (.int .i64 v8) (.cons (.int .u32 v9) (.cons (.arr 3 8 v10) (.nil))))))), .var (.cons (.int .u32 v11) (.cons (.cons (.int .i64 v12) (.cons (.int .i64 v13) (.cons (.int .i64 v14) (.cons (.int .i64 v15) (.nil))))) (.cons (.int .i64 v16) (.cons (.int .i64 v17) (.cons (.int .u32 v18) (.cons (.arr 3 8 v19) (.nil)))))))]⟩ => some ⟨(v0, v1, v2, v3, v4, v5, v6, v7, v8, v9, v10, v11, v12, v13, v14, v15, v16, v17, v18, v19), rfl⟩
  | _ => none
def oe40_4 : List (List Int) × Int × Int × Int × Int × Int × Int × Int × Int × List Int × Int × Int × Int × Int × Int × Int × Int × Int × List Int → Ex := fun _ => .exit 0
def on40_4 : List (List Int) × Int × Int × Int × Int × Int × Int × Int × Int × List Int × Int × Int × Int × Int × Int × Int × Int × Int × List Int → NSt Ty := fun x => ⟨[.ptr 100000 [], .ptr 100001 [], .ptr 100002 []], [.var (.arr 70 2 (x.1)), .var (.cons (.int .u32 (x.2.1)) (.cons (.cons (.int .i64 (x.2.2.1)) (.cons (.int .i64 (x.2.2.2.1)) (.cons (.int .i64 (x.2.2.2.2.1)) (.cons (.int .i64 (x.2.2.2.2.2.1)) (.nil))))) (.cons (.int .i64 (x.2.2.2.2.2.2.1)) (.cons (.int .i64 (x.2.2.2.2.2.2.2.1)) (.cons (.int .u32 (x.2.2.2.2.2.2.2.2.1)) (.cons (.arr 3 8 (x.2.2.2.2.2.2.2.2.2.1)) (.nil))))))), .var (.cons (.int .u32 (x.2.2.2.2.2.2.2.2.2.2.1)) (.cons (.cons (.int .i64 (x.2.2.2.2.2.2.2.2.2.2.2.1)) (.cons (.int .i64 (x.2.2.2.2.2.2.2.2.2.2.2.2.1)) (.cons (.int .i64 (x.2.2.2.2.2.2.2.2.2.2.2.2.2.1)) (.cons (.int .i64 (x.2.2.2.2.2.2.2.2.2.2.2.2.2.2.1)) (.nil))))) (.cons (.int .i64 (x.2.2.2.2.2.2.2.2.2.2.2.2.2.2.2.1)) (.cons (.int .i64 (x.2.2.2.2.2.2.2.2.2.2.2.2.2.2.2.2.1)) (.cons (.int .u32 (x.2.2.2.2.2.2.2.2.2.2.2.2.2.2.2.2.2.1)) (.cons (.arr 3 8 (x.2.2.2.2.2.2.2.2.2.2.2.2.2.2.2.2.2.2)) (.nil)))))))]⟩
def oa40_4 : (e : Ex) → (n : NSt Ty) → Option {y : List (List Int) × Int × Int × Int × Int × Int × Int × Int × Int × List Int × Int × Int × Int × Int × Int × Int × Int × Int × List Int // oe40_4 y = e ∧ on40_4 y = n}
  | .exit 0, ⟨[.ptr 100000 [], .ptr 100001 [], .ptr 100002 []], [.var (.arr 70 2 v0), .var (.cons (.int .u32 v1) (.cons (.cons (.int .i64 v2) (.cons (.int .i64 v3) (.cons (.int .i64 v4) (.cons (.int .i64 v5) (.nil))))) (.cons (.int .i64 v6) (.cons (.int .i64 v7) (.cons (.int .u32 v8) (.cons (.arr 3 8 v9) (.nil))))))), .var (.cons (.int .u32 v10) (.cons (.cons (.int .i64 v11) (.cons (.int .i64 v12) (.cons (.int .i64 v13) (.cons (.int .i64 v14) (.nil))))) (.cons (.int .i64 v15) (.cons (.int .i64 v16) (.cons (.int .u32 v17) (.cons (.arr 3 8 v18) (.nil)))))))]⟩ => some ⟨(v0, v1, v2, v3, v4, v5, v6, v7, v8, v9, v10, v11, v12, v13, v14, v15, v16, v17, v18), rfl, rfl⟩
  | _, _ => none
/-- a round of the loop 4 of function 40 -/
def R40_4 (k : Nat) (again : Int × List (List Int) × Int × Int × Int × Int × Int × Int × Int × Int × List Int × Int × Int × Int × Int × Int × Int × Int × Int × List Int → Option (List (List Int) × Int × Int × Int × Int × Int × Int × Int × Int × List Int × Int × Int × Int × Int × Int × Int × Int × Int × List Int)) (x : Int × List (List Int) × Int × Int × Int × Int × Int × Int × Int × Int × List Int × Int × Int × Int × Int × Int × Int × Int × Int × List Int) : Option (List (List Int) × Int × Int × Int × Int × Int × Int × Int × Int × List Int × Int × Int × Int × Int × Int × Int × Int × Int × List Int) :=
  match x with
  | (v0, v1, v2, v3, v4, v5, v6, v7, v8, v9, v10, v11, v12, v13, v14, v15, v16, v17, v18, v19) => bif decide (v0 < (8 : Int)) then bif inRange (IntKind.i64.wrap ((6 : Int) + IntKind.i64.wrap ((2 : Int) * v0))) (64 : Nat) then bif inRange (IntKind.i64.wrap (IntKind.i64.wrap ((6 : Int) + IntKind.i64.wrap ((2 : Int) * v0)) + (1 : Int))) (64 : Nat) then bif inRange v0 (8 : Nat) then again (IntKind.i64.wrap (v0 + (1 : Int)), v1, v2, v3, v4, v5, v6, v7, v8, v9, v10, v11, v12, v13, v14, v15, v16, v17, v18, v19.set v0.toNat (IntKind.i64.wrap (↑(BitVec.ofInt IntKind.i64.bits (IntKind.i64.wrap (List.getD (v1.getD (Int.toNat (1 : Int)) (List.replicate (64 : Nat) (0 : Int))) (IntKind.i64.wrap ((6 : Int) + IntKind.i64.wrap ((2 : Int) * v0))).toNat (0 : Int))) ||| BitVec.ofInt IntKind.i64.bits (IntKind.i64.wrap (IntKind.i64.wrap (List.getD (v1.getD (Int.toNat (1 : Int)) (List.replicate (64 : Nat) (0 : Int))) (IntKind.i64.wrap (IntKind.i64.wrap ((6 : Int) + IntKind.i64.wrap ((2 : Int) * v0)) + (1 : Int))).toNat (0 : Int)) * (2 : Int) ^ min (Int.toNat (8 : Int)) IntKind.i64.bits))).toNat : Int))) else none else none else none else some (v1, v2, v3, v4, v5, v6, v7, v8, v9, v10, v11, v12, v13, v14, v15, v16, v17, v18, v19)
def L40_4 (k n : Nat) (x : Int × List (List Int) × Int × Int × Int × Int × Int × Int × Int × Int × List Int × Int × Int × Int × Int × Int × Int × Int × Int × List Int) : Option (List (List Int) × Int × Int × Int × Int × Int × Int × Int × Int × List Int × Int × Int × Int × Int × Int × Int × Int × Int × List Int) := iterR (R40_4 k) n x
noncomputable def ls40_4 : Nat → Option (LSum Ty) := addL 4 (LSum.of of40_4 ab40_4 L40_4 oe40_4 on40_4) noL
def kp40 : Nat → Keep := fun i => cond (i == 4) ⟨[1, 2, 5, 43], [1, 2, 5]⟩ (⟨[], []⟩)
/-- "silt/region.Decode" -/
def F40 (k : Nat) (x : (List (List Int)) × Unit) : Option (T67 × Int × Unit) :=
  match x with
  | (a0, ()) => (F67 k (List.take ((↑(64 : Nat) : Int) - (2 : Int)).toNat (List.drop (Int.toNat (2 : Int)) (a0.getD (Int.toNat (0 : Int)) (List.replicate (64 : Nat) (0 : Int)))), ())).bind fun r => (F67 k (List.take ((↑(64 : Nat) : Int) - (12 : Int)).toNat (List.drop (Int.toNat (12 : Int)) (a0.getD (Int.toNat (0 : Int)) (List.replicate (64 : Nat) (0 : Int)))), ())).bind fun r_1 => (L40_4 k k ((0 : Int), a0, (0 : Int), (0 : Int), (0 : Int), (0 : Int), (0 : Int), (0 : Int), (0 : Int), (0 : Int), List.replicate (8 : Nat) (0 : Int), r, IntKind.i64.wrap (List.getD (a0.getD (Int.toNat (0 : Int)) (List.replicate (64 : Nat) (0 : Int))) (Int.toNat (6 : Int) + Int.toNat (0 : Int)) (0 : Int)), IntKind.i64.wrap (List.getD (a0.getD (Int.toNat (0 : Int)) (List.replicate (64 : Nat) (0 : Int))) (Int.toNat (6 : Int) + Int.toNat (1 : Int)) (0 : Int)), IntKind.i64.wrap (List.getD (a0.getD (Int.toNat (0 : Int)) (List.replicate (64 : Nat) (0 : Int))) (Int.toNat (6 : Int) + Int.toNat (2 : Int)) (0 : Int)), IntKind.i64.wrap (List.getD (a0.getD (Int.toNat (0 : Int)) (List.replicate (64 : Nat) (0 : Int))) (Int.toNat (6 : Int) + Int.toNat (3 : Int)) (0 : Int)), IntKind.i64.wrap (List.getD (a0.getD (Int.toNat (0 : Int)) (List.replicate (64 : Nat) (0 : Int))) (Int.toNat (6 : Int) + Int.toNat (4 : Int)) (0 : Int)), IntKind.i64.wrap (List.getD (a0.getD (Int.toNat (0 : Int)) (List.replicate (64 : Nat) (0 : Int))) (Int.toNat (6 : Int) + Int.toNat (5 : Int)) (0 : Int)), r_1, List.replicate (8 : Nat) (0 : Int))).bind fun r => (F38 k (T67.mk r.snd.snd.snd.snd.snd.snd.snd.snd.snd.snd.fst (T64.mk r.snd.snd.snd.snd.snd.snd.snd.snd.snd.snd.snd.fst r.snd.snd.snd.snd.snd.snd.snd.snd.snd.snd.snd.snd.fst r.snd.snd.snd.snd.snd.snd.snd.snd.snd.snd.snd.snd.snd.fst r.snd.snd.snd.snd.snd.snd.snd.snd.snd.snd.snd.snd.snd.snd.fst) r.snd.snd.snd.snd.snd.snd.snd.snd.snd.snd.snd.snd.snd.snd.snd.fst r.snd.snd.snd.snd.snd.snd.snd.snd.snd.snd.snd.snd.snd.snd.snd.snd.fst r.snd.snd.snd.snd.snd.snd.snd.snd.snd.snd.snd.snd.snd.snd.snd.snd.snd.fst r.snd.snd.snd.snd.snd.snd.snd.snd.snd.snd.snd.snd.snd.snd.snd.snd.snd.snd, ())).bind fun r_2 => bif r_2.snd.fst != (0 : Int) then some (T67.mk (0 : Int) (T64.mk (0 : Int) (0 : Int) (0 : Int) (0 : Int)) (0 : Int) (0 : Int) (0 : Int) (List.replicate (8 : Nat) (0 : Int)), (11 : Int), ()) else bif !decide (r_2.fst = r.fst) then some (T67.mk (0 : Int) (T64.mk (0 : Int) (0 : Int) (0 : Int) (0 : Int)) (0 : Int) (0 : Int) (0 : Int) (List.replicate (8 : Nat) (0 : Int)), (11 : Int), ()) else some (T67.mk r.snd.snd.snd.snd.snd.snd.snd.snd.snd.snd.fst (T64.mk r.snd.snd.snd.snd.snd.snd.snd.snd.snd.snd.snd.fst r.snd.snd.snd.snd.snd.snd.snd.snd.snd.snd.snd.snd.fst r.snd.snd.snd.snd.snd.snd.snd.snd.snd.snd.snd.snd.snd.fst r.snd.snd.snd.snd.snd.snd.snd.snd.snd.snd.snd.snd.snd.snd.fst) r.snd.snd.snd.snd.snd.snd.snd.snd.snd.snd.snd.snd.snd.snd.snd.fst r.snd.snd.snd.snd.snd.snd.snd.snd.snd.snd.snd.snd.snd.snd.snd.snd.fst r.snd.snd.snd.snd.snd.snd.snd.snd.snd.snd.snd.snd.snd.snd.snd.snd.snd.fst r.snd.snd.snd.snd.snd.snd.snd.snd.snd.snd.snd.snd.snd.snd.snd.snd.snd.snd, (0 : Int), ())
noncomputable def sp40 : FSpec Ty := spec ag40 rs40 F40
theorem bo40 : Tryd.f40.body = some (bodyOf Tryd.f40) := by kernel_rfl
theorem nd40 : nodupB ((loopsIn (bodyOf Tryd.f40)).map firstRegion) = true := by kernel_rfl
theorem lo40_4 : LSOK fs67 kp40 tab Tryd.f40 ls40_4 := lsum_ok bo40 nd40 (LSOK.none) oa40_4 (R := R40_4) fun k again x => by kernel_rfl
theorem ok40 : FOK Tryd.prog tab 40 sp40 := spec_ok (keeps := kp40) tabOK fs67OK Tryd.func40 bo40 (by kernel_rfl) nd40 (lo40_4) (F := F40) fun k x => by kernel_rfl
noncomputable def fs40 : Nat → Option (FSpec Ty) := addF 40 sp40 fs67
theorem fs40OK : SpecsOK Tryd.prog tab fs40 := fs67OK.add ok40 Tryd.call40
def ag68 : Args Ty ((List Int) × Unit) := V.arg (tab.den 24) (noArgs)
def rs68 : Res Ty tab (Int) false := V.oneRes (tab.den 63) (ent 63).ids (ent 63).plain (fun x _ => (ent 63).flat x rfl)
def of68_3 : List Int × Int × Int → NSt Ty := fun x => ⟨[.slice 5 (x.1), .int .u32 (x.2.1), .int .i64 (x.2.2)], []⟩
def ab68_3 : (n : NSt Ty) → Option {x : List Int × Int × Int // of68_3 x = n}
  | ⟨[.slice 5 v0, .int .u32 v1, .int .i64 v2], []⟩ => some ⟨(v0, v1, v2), rfl⟩
  | _ => none
def oe68_3 : Int → Ex := fun _ => .exit 0
def on68_3 : Int → NSt Ty := fun x => ⟨[.int .u32 (x)], []⟩
def oa68_3 : (e : Ex) → (n : NSt Ty) → Option {y : Int // oe68_3 y = e ∧ on68_3 y = n}
  | .exit 0, ⟨[.int .u32 v0], []⟩ => some ⟨v0, rfl, rfl⟩
  | _, _ => none
/-- a round of the loop 3 of function 68 -/
def R68_3 (k : Nat) (again : List Int × Int × Int → Option (Int)) (x : List Int × Int × Int) : Option (Int) :=
  match x with
  | (v0, v1, v2) => bif decide (v2 ≥ (0 : Int)) then bif inRange v2 v0.length then again (v0, IntKind.u32.wrap (IntKind.u32.wrap (v1 * (2 : Int) ^ min (Int.toNat (8 : Int)) IntKind.u32.bits) + IntKind.u32.wrap (v0.getD v2.toNat (0 : Int))), IntKind.i64.wrap (v2 - (1 : Int))) else none else some v1
def L68_3 (k n : Nat) (x : List Int × Int × Int) : Option (Int) := iterR (R68_3 k) n x
noncomputable def ls68_3 : Nat → Option (LSum Ty) := addL 3 (LSum.of of68_3 ab68_3 L68_3 oe68_3 on68_3) noL
def kp68 : Nat → Keep := fun i => cond (i == 3) ⟨[0, 3, 4], [3]⟩ (⟨[], []⟩)
/-- "silt/siltref04.Num" -/
def F68 (k : Nat) (x : (List Int) × Unit) : Option (Int) :=
  match x with
  | (a0, ()) => (L68_3 k k (a0, (0 : Int), IntKind.i64.wrap ((↑a0.length : Int) - (1 : Int)))).bind fun r => some r
noncomputable def sp68 : FSpec Ty := spec ag68 rs68 F68
theorem bo68 : Tryd.f68.body = some (bodyOf Tryd.f68) := by kernel_rfl
theorem nd68 : nodupB ((loopsIn (bodyOf Tryd.f68)).map firstRegion) = true := by kernel_rfl
theorem lo68_3 : LSOK fs40 kp68 tab Tryd.f68 ls68_3 := lsum_ok bo68 nd68 (LSOK.none) oa68_3 (R := R68_3) fun k again x => by kernel_rfl
theorem ok68 : FOK Tryd.prog tab 68 sp68 := spec_ok (keeps := kp68) tabOK fs40OK Tryd.func68 bo68 (by kernel_rfl) nd68 (lo68_3) (F := F68) fun k x => by kernel_rfl
noncomputable def fs68 : Nat → Option (FSpec Ty) := addF 68 sp68 fs40
theorem fs68OK : SpecsOK Tryd.prog tab fs68 := fs40OK.add ok68 Tryd.call68
def ag41 : Args Ty ((List (List Int)) × Unit) := V.arg (tab.den 71) (noArgs)
def rs41 : Res Ty tab (T67 × Int × Unit) false := V.manyRes (V.part (tab.den 68) (ent 68).ids (ent 68).plain (fun x _ => (ent 68).flat x rfl) (V.part (tab.den 3) (ent 3).ids (ent 3).plain (fun x _ => (ent 3).flat x rfl) (noParts)))
def of41_5 : Int × List (List Int) × Int × Int × Int × Int × Int × Int × Int × Int × List Int × List Int × Int × Int × Int × Int × Int × Int × Int × Int × List Int → NSt Ty := fun x => ⟨[.ptr 100000 [], .ptr 100001 [], .ptr 100002 [], .ptr 100003 [], .int .i64 (x.1)], [.var (.arr 70 2 (x.2.1)), .var (.cons (.int .u32 (x.2.2.1)) (.cons (.cons (.int .i64 (x.2.2.2.1)) (.cons (.int .i64 (x.2.2.2.2.1)) (.cons (.int .i64 (x.2.2.2.2.2.1)) (.cons (.int .i64 (x.2.2.2.2.2.2.1)) (.nil))))) (.cons (.int .i64 (x.2.2.2.2.2.2.2.1)) (.cons (.int .i64 (x.2.2.2.2.2.2.2.2.1)) (.cons (.int .u32 (x.2.2.2.2.2.2.2.2.2.1)) (.cons (.arr 3 8 (x.2.2.2.2.2.2.2.2.2.2.1)) (.nil))))))), .var (.arr 5 64 (x.2.2.2.2.2.2.2.2.2.2.2.1)), .var (.cons (.int .u32 (x.2.2.2.2.2.2.2.2.2.2.2.2.1)) (.cons (.cons (.int .i64 (x.2.2.2.2.2.2.2.2.2.2.2.2.2.1)) (.cons (.int .i64 (x.2.2.2.2.2.2.2.2.2.2.2.2.2.2.1)) (.cons (.int .i64 (x.2.2.2.2.2.2.2.2.2.2.2.2.2.2.2.1)) (.cons (.int .i64 (x.2.2.2.2.2.2.2.2.2.2.2.2.2.2.2.2.1)) (.nil))))) (.cons (.int .i64 (x.2.2.2.2.2.2.2.2.2.2.2.2.2.2.2.2.2.1)) (.cons (.int .i64 (x.2.2.2.2.2.2.2.2.2.2.2.2.2.2.2.2.2.2.1)) (.cons (.int .u32 (x.2.2.2.2.2.2.2.2.2.2.2.2.2.2.2.2.2.2.2.1)) (.cons (.arr 3 8 (x.2.2.2.2.2.2.2.2.2.2.2.2.2.2.2.2.2.2.2.2)) (.nil)))))))]⟩
def ab41_5 : (n : NSt Ty) → Option {x : Int × List (List Int) × Int × Int × Int × Int × Int × Int × Int × Int × List Int × List Int × Int × Int × Int × Int × Int × Int × Int × Int × List Int // of41_5 x = n}
  | ⟨[.ptr 100000 [], .ptr 100001 [], .ptr 100002 [], .ptr 100003 [], .int .i64 v0], [.var (.arr 70 2 v1), .var (.cons (.int .u32 v2) (.cons (.cons (.int .i64 v3) (.cons (.int .i64 v4) (.cons (.int .i64 v5) (.cons (.int .i64 v6) (.nil))))) (.cons (.int .i64 v7) (.cons (.int .i64 v8) (.cons (.int .u32 v9) (.cons (.arr 3 8 v10) (.nil))))))), .var (.arr 5 64 v11), .var (.cons (.int .u32 v12) (.cons (.cons (.int .i64 v13) (.cons (.int .i64 v14) (.cons (.int .i64 v15) (.cons (.int .i64 v16) (.nil))))) (.cons (.int .i64 v17) (.cons (.int .i64 v18) (.cons (.int .u32 v19) (.cons (.arr 3 8 v20) (.nil)))))))]⟩ => some ⟨(v0, v1, v2, v3, v4, v5, v6, v7, v8, v9, v10, v11, v12, v13, v14, v15, v16, v17, v18, v19, v20), rfl⟩
  | _ => none
def oe41_5 : List (List Int) × Int × Int × Int × Int × Int × Int × Int × Int × List Int × Int × Int × Int × Int × Int × Int × Int × Int × List Int → Ex := fun _ => .exit 0
def on41_5 : List (List Int) × Int × Int × Int × Int × Int × Int × Int × Int × List Int × Int × Int × Int × Int × Int × Int × Int × Int × List Int → NSt Ty := fun x => ⟨[.ptr 100000 [], .ptr 100001 [], .ptr 100002 []], [.var (.arr 70 2 (x.1)), .var (.cons (.int .u32 (x.2.1)) (.cons (.cons (.int .i64 (x.2.2.1)) (.cons (.int .i64 (x.2.2.2.1)) (.cons (.int .i64 (x.2.2.2.2.1)) (.cons (.int .i64 (x.2.2.2.2.2.1)) (.nil))))) (.cons (.int .i64 (x.2.2.2.2.2.2.1)) (.cons (.int .i64 (x.2.2.2.2.2.2.2.1)) (.cons (.int .u32 (x.2.2.2.2.2.2.2.2.1)) (.cons (.arr 3 8 (x.2.2.2.2.2.2.2.2.2.1)) (.nil))))))), .var (.cons (.int .u32 (x.2.2.2.2.2.2.2.2.2.2.1)) (.cons (.cons (.int .i64 (x.2.2.2.2.2.2.2.2.2.2.2.1)) (.cons (.int .i64 (x.2.2.2.2.2.2.2.2.2.2.2.2.1)) (.cons (.int .i64 (x.2.2.2.2.2.2.2.2.2.2.2.2.2.1)) (.cons (.int .i64 (x.2.2.2.2.2.2.2.2.2.2.2.2.2.2.1)) (.nil))))) (.cons (.int .i64 (x.2.2.2.2.2.2.2.2.2.2.2.2.2.2.2.1)) (.cons (.int .i64 (x.2.2.2.2.2.2.2.2.2.2.2.2.2.2.2.2.1)) (.cons (.int .u32 (x.2.2.2.2.2.2.2.2.2.2.2.2.2.2.2.2.2.1)) (.cons (.arr 3 8 (x.2.2.2.2.2.2.2.2.2.2.2.2.2.2.2.2.2.2)) (.nil)))))))]⟩
def oa41_5 : (e : Ex) → (n : NSt Ty) → Option {y : List (List Int) × Int × Int × Int × Int × Int × Int × Int × Int × List Int × Int × Int × Int × Int × Int × Int × Int × Int × List Int // oe41_5 y = e ∧ on41_5 y = n}
  | .exit 0, ⟨[.ptr 100000 [], .ptr 100001 [], .ptr 100002 []], [.var (.arr 70 2 v0), .var (.cons (.int .u32 v1) (.cons (.cons (.int .i64 v2) (.cons (.int .i64 v3) (.cons (.int .i64 v4) (.cons (.int .i64 v5) (.nil))))) (.cons (.int .i64 v6) (.cons (.int .i64 v7) (.cons (.int .u32 v8) (.cons (.arr 3 8 v9) (.nil))))))), .var (.cons (.int .u32 v10) (.cons (.cons (.int .i64 v11) (.cons (.int .i64 v12) (.cons (.int .i64 v13) (.cons (.int .i64 v14) (.nil))))) (.cons (.int .i64 v15) (.cons (.int .i64 v16) (.cons (.int .u32 v17) (.cons (.arr 3 8 v18) (.nil)))))))]⟩ => some ⟨(v0, v1, v2, v3, v4, v5, v6, v7, v8, v9, v10, v11, v12, v13, v14, v15, v16, v17, v18), rfl, rfl⟩
  | _, _ => none
/-- a round of the loop 5 of function 41 -/
def R41_5 (k : Nat) (again : Int × List (List Int) × Int × Int × Int × Int × Int × Int × Int × Int × List Int × List Int × Int × Int × Int × Int × Int × Int × Int × Int × List Int → Option (List (List Int) × Int × Int × Int × Int × Int × Int × Int × Int × List Int × Int × Int × Int × Int × Int × Int × Int × Int × List Int)) (x : Int × List (List Int) × Int × Int × Int × Int × Int × Int × Int × Int × List Int × List Int × Int × Int × Int × Int × Int × Int × Int × Int × List Int) : Option (List (List Int) × Int × Int × Int × Int × Int × Int × Int × Int × List Int × Int × Int × Int × Int × Int × Int × Int × Int × List Int) :=
  match x with
  | (v0, v1, v2, v3, v4, v5, v6, v7, v8, v9, v10, v11, v12, v13, v14, v15, v16, v17, v18, v19, v20) => bif decide (v0 < (8 : Int)) then bif decide ((0 : Int) ≤ IntKind.i64.wrap ((6 : Int) + IntKind.i64.wrap ((2 : Int) * v0))) && decide (IntKind.i64.wrap ((6 : Int) + IntKind.i64.wrap ((2 : Int) * v0)) ≤ IntKind.i64.wrap ((8 : Int) + IntKind.i64.wrap ((2 : Int) * v0))) && decide (IntKind.i64.wrap ((8 : Int) + IntKind.i64.wrap ((2 : Int) * v0)) ≤ (↑(64 : Nat) : Int)) then (F68 k (List.take (IntKind.i64.wrap ((8 : Int) + IntKind.i64.wrap ((2 : Int) * v0)) - IntKind.i64.wrap ((6 : Int) + IntKind.i64.wrap ((2 : Int) * v0))).toNat (List.drop (IntKind.i64.wrap ((6 : Int) + IntKind.i64.wrap ((2 : Int) * v0))).toNat v11), ())).bind fun r => bif inRange v0 (8 : Nat) then again (IntKind.i64.wrap (v0 + (1 : Int)), v1, v2, v3, v4, v5, v6, v7, v8, v9, v10, v11, v12, v13, v14, v15, v16, v17, v18, v19, v20.set v0.toNat (IntKind.i64.wrap r)) else none else none else some (v1, v2, v3, v4, v5, v6, v7, v8, v9, v10, v12, v13, v14, v15, v16, v17, v18, v19, v20)
def L41_5 (k n : Nat) (x : Int × List (List Int) × Int × Int × Int × Int × Int × Int × Int × Int × List Int × List Int × Int × Int × Int × Int × Int × Int × Int × Int × List Int) : Option (List (List Int) × Int × Int × Int × Int × Int × Int × Int × Int × List Int × Int × Int × Int × Int × Int × Int × Int × Int × List Int) := iterR (R41_5 k) n x
noncomputable def ls41_5 : Nat → Option (LSum Ty) := addL 5 (LSum.of of41_5 ab41_5 L41_5 oe41_5 on41_5) noL
def kp41 : Nat → Keep := fun i => cond (i == 5) ⟨[1, 2, 5, 6, 7], [1, 2, 6]⟩ (⟨[], []⟩)
/-- "silt/siltref06.Decode" -/
def F41 (k : Nat) (x : (List (List Int)) × Unit) : Option (T67 × Int × Unit) :=
  match x with
  | (a0, ()) => (F68 k (List.take ((6 : Int) - (2 : Int)).toNat (List.drop (Int.toNat (2 : Int)) (a0.getD (Int.toNat (0 : Int)) (List.replicate (64 : Nat) (0 : Int)))), ())).bind fun r => (F68 k (List.take ((16 : Int) - (12 : Int)).toNat (List.drop (Int.toNat (12 : Int)) (a0.getD (Int.toNat (0 : Int)) (List.replicate (64 : Nat) (0 : Int)))), ())).bind fun r_1 => (L41_5 k k ((0 : Int), a0, (0 : Int), (0 : Int), (0 : Int), (0 : Int), (0 : Int), (0 : Int), (0 : Int), (0 : Int), List.replicate (8 : Nat) (0 : Int), a0.getD (Int.toNat (1 : Int)) (List.replicate (64 : Nat) (0 : Int)), r, IntKind.i64.wrap (List.getD (a0.getD (Int.toNat (0 : Int)) (List.replicate (64 : Nat) (0 : Int))) (Int.toNat (6 : Int)) (0 : Int)), IntKind.i64.wrap (List.getD (a0.getD (Int.toNat (0 : Int)) (List.replicate (64 : Nat) (0 : Int))) (Int.toNat (7 : Int)) (0 : Int)), IntKind.i64.wrap (List.getD (a0.getD (Int.toNat (0 : Int)) (List.replicate (64 : Nat) (0 : Int))) (Int.toNat (8 : Int)) (0 : Int)), IntKind.i64.wrap (List.getD (a0.getD (Int.toNat (0 : Int)) (List.replicate (64 : Nat) (0 : Int))) (Int.toNat (9 : Int)) (0 : Int)), IntKind.i64.wrap (List.getD (a0.getD (Int.toNat (0 : Int)) (List.replicate (64 : Nat) (0 : Int))) (Int.toNat (10 : Int)) (0 : Int)), IntKind.i64.wrap (List.getD (a0.getD (Int.toNat (0 : Int)) (List.replicate (64 : Nat) (0 : Int))) (Int.toNat (11 : Int)) (0 : Int)), r_1, List.replicate (8 : Nat) (0 : Int))).bind fun r => (F39 k (T67.mk r.snd.snd.snd.snd.snd.snd.snd.snd.snd.snd.fst (T64.mk r.snd.snd.snd.snd.snd.snd.snd.snd.snd.snd.snd.fst r.snd.snd.snd.snd.snd.snd.snd.snd.snd.snd.snd.snd.fst r.snd.snd.snd.snd.snd.snd.snd.snd.snd.snd.snd.snd.snd.fst r.snd.snd.snd.snd.snd.snd.snd.snd.snd.snd.snd.snd.snd.snd.fst) r.snd.snd.snd.snd.snd.snd.snd.snd.snd.snd.snd.snd.snd.snd.snd.fst r.snd.snd.snd.snd.snd.snd.snd.snd.snd.snd.snd.snd.snd.snd.snd.snd.fst r.snd.snd.snd.snd.snd.snd.snd.snd.snd.snd.snd.snd.snd.snd.snd.snd.snd.fst r.snd.snd.snd.snd.snd.snd.snd.snd.snd.snd.snd.snd.snd.snd.snd.snd.snd.snd, ())).bind fun r_2 => bif r_2.snd.fst != (0 : Int) then some (T67.mk (0 : Int) (T64.mk (0 : Int) (0 : Int) (0 : Int) (0 : Int)) (0 : Int) (0 : Int) (0 : Int) (List.replicate (8 : Nat) (0 : Int)), (11 : Int), ()) else bif !decide (r_2.fst = r.fst) then some (T67.mk (0 : Int) (T64.mk (0 : Int) (0 : Int) (0 : Int) (0 : Int)) (0 : Int) (0 : Int) (0 : Int) (List.replicate (8 : Nat) (0 : Int)), (11 : Int), ()) else some (T67.mk r.snd.snd.snd.snd.snd.snd.snd.snd.snd.snd.fst (T64.mk r.snd.snd.snd.snd.snd.snd.snd.snd.snd.snd.snd.fst r.snd.snd.snd.snd.snd.snd.snd.snd.snd.snd.snd.snd.fst r.snd.snd.snd.snd.snd.snd.snd.snd.snd.snd.snd.snd.snd.fst r.snd.snd.snd.snd.snd.snd.snd.snd.snd.snd.snd.snd.snd.snd.fst) r.snd.snd.snd.snd.snd.snd.snd.snd.snd.snd.snd.snd.snd.snd.snd.fst r.snd.snd.snd.snd.snd.snd.snd.snd.snd.snd.snd.snd.snd.snd.snd.snd.fst r.snd.snd.snd.snd.snd.snd.snd.snd.snd.snd.snd.snd.snd.snd.snd.snd.snd.fst r.snd.snd.snd.snd.snd.snd.snd.snd.snd.snd.snd.snd.snd.snd.snd.snd.snd.snd, (0 : Int), ())
noncomputable def sp41 : FSpec Ty := spec ag41 rs41 F41
theorem bo41 : Tryd.f41.body = some (bodyOf Tryd.f41) := by kernel_rfl
theorem nd41 : nodupB ((loopsIn (bodyOf Tryd.f41)).map firstRegion) = true := by kernel_rfl
theorem lo41_5 : LSOK fs68 kp41 tab Tryd.f41 ls41_5 := lsum_ok bo41 nd41 (LSOK.none) oa41_5 (R := R41_5) fun k again x => by kernel_rfl
theorem ok41 : FOK Tryd.prog tab 41 sp41 := spec_ok (keeps := kp41) tabOK fs68OK Tryd.func41 bo41 (by kernel_rfl) nd41 (lo41_5) (F := F41) fun k x => by kernel_rfl
noncomputable def fs41 : Nat → Option (FSpec Ty) := addF 41 sp41 fs68
theorem fs41OK : SpecsOK Tryd.prog tab fs41 := fs68OK.add ok41 Tryd.call41
def ag42 : Args Ty (T67 × Unit) := V.arg (tab.den 68) (noArgs)
def rs42 : Res Ty tab (Bool) false := V.oneRes (tab.den 4) (ent 4).ids (ent 4).plain (fun x _ => (ent 4).flat x rfl)
def kp42 : Nat → Keep := fun i => ⟨[], []⟩
/-- "silt/region.Good" -/
def F42 (k : Nat) (x : T67 × Unit) : Option (Bool) :=
  match x with
  | (a0, ()) => (F63 k (T67.mk a0.1 (T64.mk a0.2.1 a0.2.2 a0.2.3 a0.2.4) a0.3 a0.4 a0.5 a0.6, ())).bind fun r => (F62 k (r, ())).bind fun r => some (r == (0 : Int))
noncomputable def sp42 : FSpec Ty := spec ag42 rs42 F42
theorem bo42 : Tryd.f42.body = some (bodyOf Tryd.f42) := by kernel_rfl
theorem nd42 : nodupB ((loopsIn (bodyOf Tryd.f42)).map firstRegion) = true := by kernel_rfl
theorem ok42 : FOK Tryd.prog tab 42 sp42 := spec_ok (keeps := kp42) tabOK fs41OK Tryd.func42 bo42 (by kernel_rfl) nd42 (LSOK.none) (F := F42) fun k x => by kernel_rfl
noncomputable def fs42 : Nat → Option (FSpec Ty) := addF 42 sp42 fs41
theorem fs42OK : SpecsOK Tryd.prog tab fs42 := fs41OK.add ok42 Tryd.call42
def ag71 : Args Ty (Unit) := noArgs
def rs71 : Res Ty tab (T64) false := V.oneRes (tab.den 65) (ent 65).ids (ent 65).plain (fun x _ => (ent 65).flat x rfl)
def kp71 : Nat → Keep := fun i => ⟨[], []⟩
/-- "silt/siltlaw03.Small" -/
def F71 (k : Nat) (x : Unit) : Option (T64) :=
  match x with
  | () => some (T64.mk (16 : Int) (8 : Int) (24 : Int) (4 : Int))
noncomputable def sp71 : FSpec Ty := spec ag71 rs71 F71
theorem bo71 : Tryd.f71.body = some (bodyOf Tryd.f71) := by kernel_rfl
theorem nd71 : nodupB ((loopsIn (bodyOf Tryd.f71)).map firstRegion) = true := by kernel_rfl
theorem ok71 : FOK Tryd.prog tab 71 sp71 := spec_ok (keeps := kp71) tabOK fs42OK Tryd.func71 bo71 (by kernel_rfl) nd71 (LSOK.none) (F := F71) fun k x => by kernel_rfl
noncomputable def fs71 : Nat → Option (FSpec Ty) := addF 71 sp71 fs42
theorem fs71OK : SpecsOK Tryd.prog tab fs71 := fs42OK.add ok71 Tryd.call71
def ag44 : Args Ty (Unit) := noArgs
def rs44 : Res Ty tab (Bool) false := V.oneRes (tab.den 4) (ent 4).ids (ent 4).plain (fun x _ => (ent 4).flat x rfl)
def kp44 : Nat → Keep := fun i => ⟨[], []⟩
/-- "silt/siltlaw06.wakes" -/
def F44 (k : Nat) (x : Unit) : Option (Bool) :=
  match x with
  | () => (F71 k ()).bind fun r => (F38 k (T67.mk (258 : Int) (T64.mk r.1 r.2 r.3 r.4) (3 : Int) (5 : Int) (7 : Int) ((List.replicate (8 : Nat) (0 : Int)).set (Int.toNat (1 : Int)) (30 : Int)), ())).bind fun r_1 => (F40 k (r_1.fst, ())).bind fun r_2 => (F40 k (r_1.fst.set (Int.toNat (1 : Int)) (List.set (r_1.fst.getD (Int.toNat (1 : Int)) (List.replicate (64 : Nat) (0 : Int))) (Int.toNat (2 : Int)) (IntKind.u8.wrap (List.getD (r_1.fst.getD (Int.toNat (1 : Int)) (List.replicate (64 : Nat) (0 : Int))) (Int.toNat (2 : Int)) (0 : Int) + (1 : Int)))), ())).bind fun r_3 => (F40 k (List.replicate (2 : Nat) (List.replicate (64 : Nat) (0 : Int)), ())).bind fun r_4 => bif r_1.snd.fst == (0 : Int) then bif List.getD ((r_1.fst.set (Int.toNat (1 : Int)) (List.set (r_1.fst.getD (Int.toNat (1 : Int)) (List.replicate (64 : Nat) (0 : Int))) (Int.toNat (2 : Int)) (IntKind.u8.wrap (List.getD (r_1.fst.getD (Int.toNat (1 : Int)) (List.replicate (64 : Nat) (0 : Int))) (Int.toNat (2 : Int)) (0 : Int) + (1 : Int))))).getD (Int.toNat (0 : Int)) (List.replicate (64 : Nat) (0 : Int))) (Int.toNat (0 : Int)) (0 : Int) == (82 : Int) then bif List.getD ((r_1.fst.set (Int.toNat (1 : Int)) (List.set (r_1.fst.getD (Int.toNat (1 : Int)) (List.replicate (64 : Nat) (0 : Int))) (Int.toNat (2 : Int)) (IntKind.u8.wrap (List.getD (r_1.fst.getD (Int.toNat (1 : Int)) (List.replicate (64 : Nat) (0 : Int))) (Int.toNat (2 : Int)) (0 : Int) + (1 : Int))))).getD (Int.toNat (0 : Int)) (List.replicate (64 : Nat) (0 : Int))) (Int.toNat (2 : Int)) (0 : Int) == (2 : Int) then bif List.getD ((r_1.fst.set (Int.toNat (1 : Int)) (List.set (r_1.fst.getD (Int.toNat (1 : Int)) (List.replicate (64 : Nat) (0 : Int))) (Int.toNat (2 : Int)) (IntKind.u8.wrap (List.getD (r_1.fst.getD (Int.toNat (1 : Int)) (List.replicate (64 : Nat) (0 : Int))) (Int.toNat (2 : Int)) (0 : Int) + (1 : Int))))).getD (Int.toNat (0 : Int)) (List.replicate (64 : Nat) (0 : Int))) (Int.toNat (3 : Int)) (0 : Int) == (1 : Int) then bif List.getD ((r_1.fst.set (Int.toNat (1 : Int)) (List.set (r_1.fst.getD (Int.toNat (1 : Int)) (List.replicate (64 : Nat) (0 : Int))) (Int.toNat (2 : Int)) (IntKind.u8.wrap (List.getD (r_1.fst.getD (Int.toNat (1 : Int)) (List.replicate (64 : Nat) (0 : Int))) (Int.toNat (2 : Int)) (0 : Int) + (1 : Int))))).getD (Int.toNat (0 : Int)) (List.replicate (64 : Nat) (0 : Int))) (Int.toNat (6 : Int)) (0 : Int) == (16 : Int) then bif List.getD ((r_1.fst.set (Int.toNat (1 : Int)) (List.set (r_1.fst.getD (Int.toNat (1 : Int)) (List.replicate (64 : Nat) (0 : Int))) (Int.toNat (2 : Int)) (IntKind.u8.wrap (List.getD (r_1.fst.getD (Int.toNat (1 : Int)) (List.replicate (64 : Nat) (0 : Int))) (Int.toNat (2 : Int)) (0 : Int) + (1 : Int))))).getD (Int.toNat (0 : Int)) (List.replicate (64 : Nat) (0 : Int))) (Int.toNat (10 : Int)) (0 : Int) == (3 : Int) then bif List.getD ((r_1.fst.set (Int.toNat (1 : Int)) (List.set (r_1.fst.getD (Int.toNat (1 : Int)) (List.replicate (64 : Nat) (0 : Int))) (Int.toNat (2 : Int)) (IntKind.u8.wrap (List.getD (r_1.fst.getD (Int.toNat (1 : Int)) (List.replicate (64 : Nat) (0 : Int))) (Int.toNat (2 : Int)) (0 : Int) + (1 : Int))))).getD (Int.toNat (0 : Int)) (List.replicate (64 : Nat) (0 : Int))) (Int.toNat (12 : Int)) (0 : Int) == (7 : Int) then bif List.getD ((r_1.fst.set (Int.toNat (1 : Int)) (List.set (r_1.fst.getD (Int.toNat (1 : Int)) (List.replicate (64 : Nat) (0 : Int))) (Int.toNat (2 : Int)) (IntKind.u8.wrap (List.getD (r_1.fst.getD (Int.toNat (1 : Int)) (List.replicate (64 : Nat) (0 : Int))) (Int.toNat (2 : Int)) (0 : Int) + (1 : Int))))).getD (Int.toNat (1 : Int)) (List.replicate (64 : Nat) (0 : Int))) (Int.toNat (1 : Int)) (0 : Int) == (1 : Int) then bif List.getD ((r_1.fst.set (Int.toNat (1 : Int)) (List.set (r_1.fst.getD (Int.toNat (1 : Int)) (List.replicate (64 : Nat) (0 : Int))) (Int.toNat (2 : Int)) (IntKind.u8.wrap (List.getD (r_1.fst.getD (Int.toNat (1 : Int)) (List.replicate (64 : Nat) (0 : Int))) (Int.toNat (2 : Int)) (0 : Int) + (1 : Int))))).getD (Int.toNat (1 : Int)) (List.replicate (64 : Nat) (0 : Int))) (Int.toNat (8 : Int)) (0 : Int) == (30 : Int) then bif r_2.snd.fst == (0 : Int) then bif r_2.fst.1 == (258 : Int) && (r_2.fst.2.1 == r.1 && (r_2.fst.2.2 == r.2 && (r_2.fst.2.3 == r.3 && (r_2.fst.2.4 == r.4 && true))) && (r_2.fst.3 == (3 : Int) && (r_2.fst.4 == (5 : Int) && (r_2.fst.5 == (7 : Int) && (decide (r_2.fst.6 = (List.replicate (8 : Nat) (0 : Int)).set (Int.toNat (1 : Int)) (30 : Int)) && true))))) then bif r_3.snd.fst == (11 : Int) then bif r_4.snd.fst == (11 : Int) then (F42 k (T67.mk (258 : Int) (T64.mk r.1 r.2 r.3 r.4) (3 : Int) (5 : Int) (7 : Int) ((List.replicate (8 : Nat) (0 : Int)).set (Int.toNat (1 : Int)) (30 : Int)), ())).bind fun r => some r else some false else some false else some false else some false else some false else some false else some false else some false else some false else some false else some false else some false else some false
noncomputable def sp44 : FSpec Ty := spec ag44 rs44 F44
theorem bo44 : Tryd.f44.body = some (bodyOf Tryd.f44) := by kernel_rfl
theorem nd44 : nodupB ((loopsIn (bodyOf Tryd.f44)).map firstRegion) = true := by kernel_rfl
theorem ok44 : FOK Tryd.prog tab 44 sp44 := spec_ok (keeps := kp44) tabOK fs71OK Tryd.func44 bo44 (by kernel_rfl) nd44 (LSOK.none) (F := F44) fun k x => by kernel_rfl
noncomputable def fs44 : Nat → Option (FSpec Ty) := addF 44 sp44 fs71
theorem fs44OK : SpecsOK Tryd.prog tab fs44 := fs71OK.add ok44 Tryd.call44
def ag11 : Args Ty (T67 × (List (List Int)) × Unit) := V.arg (tab.den 68) (V.arg (tab.den 71) (noArgs))
def rs11 : Res Ty tab (Bool) false := V.oneRes (tab.den 4) (ent 4).ids (ent 4).plain (fun x _ => (ent 4).flat x rfl)
def kp11 : Nat → Keep := fun i => ⟨[], []⟩
/-- "silt/siltlaw06.RegionCodes" -/
def F11 (k : Nat) (x : T67 × (List (List Int)) × Unit) : Option (Bool) :=
  match x with
  | (a0, a1, ()) => (F38 k (T67.mk a0.1 (T64.mk a0.2.1 a0.2.2 a0.2.3 a0.2.4) a0.3 a0.4 a0.5 a0.6, ())).bind fun r => (F39 k (T67.mk a0.1 (T64.mk a0.2.1 a0.2.2 a0.2.3 a0.2.4) a0.3 a0.4 a0.5 a0.6, ())).bind fun r_1 => (F40 k (a1, ())).bind fun r_2 => (F41 k (a1, ())).bind fun r_3 => (F42 k (T67.mk a0.1 (T64.mk a0.2.1 a0.2.2 a0.2.3 a0.2.4) a0.3 a0.4 a0.5 a0.6, ())).bind fun r_4 => (F43 k (T67.mk a0.1 (T64.mk a0.2.1 a0.2.2 a0.2.3 a0.2.4) a0.3 a0.4 a0.5 a0.6, ())).bind fun r_5 => bif r_4 == r_5 then bif decide (r.fst = r_1.fst) then bif r.snd.fst == r_1.snd.fst then bif r_2.fst.1 == r_3.fst.1 && (r_2.fst.2.1 == r_3.fst.2.1 && (r_2.fst.2.2 == r_3.fst.2.2 && (r_2.fst.2.3 == r_3.fst.2.3 && (r_2.fst.2.4 == r_3.fst.2.4 && true))) && (r_2.fst.3 == r_3.fst.3 && (r_2.fst.4 == r_3.fst.4 && (r_2.fst.5 == r_3.fst.5 && (decide (r_2.fst.6 = r_3.fst.6) && true))))) then bif r_2.snd.fst == r_3.snd.fst then (F44 k ()).bind fun r => some r else some false else some false else some false else some false else some false
noncomputable def sp11 : FSpec Ty := spec ag11 rs11 F11
theorem bo11 : Tryd.f11.body = some (bodyOf Tryd.f11) := by kernel_rfl
theorem nd11 : nodupB ((loopsIn (bodyOf Tryd.f11)).map firstRegion) = true := by kernel_rfl
theorem ok11 : FOK Tryd.prog tab 11 sp11 := spec_ok (keeps := kp11) tabOK fs44OK Tryd.func11 bo11 (by kernel_rfl) nd11 (LSOK.none) (F := F11) fun k x => by kernel_rfl
noncomputable def fs11 : Nat → Option (FSpec Ty) := addF 11 sp11 fs44
theorem fs11OK : SpecsOK Tryd.prog tab fs11 := fs44OK.add ok11 Tryd.call11
def ag12 : Args Ty (T67 × T67 × Unit) := V.arg (tab.den 68) (V.arg (tab.den 68) (noArgs))
def rs12 : Res Ty tab (Bool) false := V.oneRes (tab.den 4) (ent 4).ids (ent 4).plain (fun x _ => (ent 4).flat x rfl)
def kp12 : Nat → Keep := fun i => ⟨[], []⟩
/-- "silt/siltlaw06.RegionTorn" -/
def F12 (k : Nat) (x : T67 × T67 × Unit) : Option (Bool) :=
  match x with
  | (a0, a1, ()) => (F38 k (T67.mk a0.1 (T64.mk a0.2.1 a0.2.2 a0.2.3 a0.2.4) a0.3 a0.4 a0.5 a0.6, ())).bind fun r => (F38 k (T67.mk a1.1 (T64.mk a1.2.1 a1.2.2 a1.2.3 a1.2.4) a1.3 a1.4 a1.5 a1.6, ())).bind fun r_1 => bif r.snd.fst != (0 : Int) then bif r.snd.fst == (11 : Int) then (F44 k ()).bind fun r => some r else some false else (F40 k (r.fst, ())).bind fun r_2 => (F40 k (((List.replicate (2 : Nat) (List.replicate (64 : Nat) (0 : Int))).set (0 : Nat) (r.fst.getD (Int.toNat (1 : Int)) (List.replicate (64 : Nat) (0 : Int)))).set (1 : Nat) (r.fst.getD (Int.toNat (0 : Int)) (List.replicate (64 : Nat) (0 : Int))), ())).bind fun r_3 => bif r_2.snd.fst != (0 : Int) then some false else bif !(r_2.fst.1 == a0.1 && (r_2.fst.2.1 == a0.2.1 && (r_2.fst.2.2 == a0.2.2 && (r_2.fst.2.3 == a0.2.3 && (r_2.fst.2.4 == a0.2.4 && true))) && (r_2.fst.3 == a0.3 && (r_2.fst.4 == a0.4 && (r_2.fst.5 == a0.5 && (decide (r_2.fst.6 = a0.6) && true)))))) then some false else bif r_3.snd.fst != (11 : Int) then some false else bif r_1.snd.fst != (0 : Int) then (F44 k ()).bind fun r => some r else bif a1.1 == a0.1 then (F44 k ()).bind fun r => some r else (F40 k (((List.replicate (2 : Nat) (List.replicate (64 : Nat) (0 : Int))).set (0 : Nat) (r.fst.getD (Int.toNat (0 : Int)) (List.replicate (64 : Nat) (0 : Int)))).set (1 : Nat) (r_1.fst.getD (Int.toNat (1 : Int)) (List.replicate (64 : Nat) (0 : Int))), ())).bind fun r_4 => (F40 k (((List.replicate (2 : Nat) (List.replicate (64 : Nat) (0 : Int))).set (0 : Nat) (r_1.fst.getD (Int.toNat (0 : Int)) (List.replicate (64 : Nat) (0 : Int)))).set (1 : Nat) (r.fst.getD (Int.toNat (1 : Int)) (List.replicate (64 : Nat) (0 : Int))), ())).bind fun r => bif r_4.snd.fst == (11 : Int) then bif r.snd.fst == (11 : Int) then (F44 k ()).bind fun r => some r else some false else some false
noncomputable def sp12 : FSpec Ty := spec ag12 rs12 F12
theorem bo12 : Tryd.f12.body = some (bodyOf Tryd.f12) := by kernel_rfl
theorem nd12 : nodupB ((loopsIn (bodyOf Tryd.f12)).map firstRegion) = true := by kernel_rfl
theorem ok12 : FOK Tryd.prog tab 12 sp12 := spec_ok (keeps := kp12) tabOK fs11OK Tryd.func12 bo12 (by kernel_rfl) nd12 (LSOK.none) (F := F12) fun k x => by kernel_rfl
noncomputable def fs12 : Nat → Option (FSpec Ty) := addF 12 sp12 fs11
theorem fs12OK : SpecsOK Tryd.prog tab fs12 := fs11OK.add ok12 Tryd.call12
def ag13 : Args Ty (T67 × Unit) := V.arg (tab.den 68) (noArgs)
def rs13 : Res Ty tab (Bool) false := V.oneRes (tab.den 4) (ent 4).ids (ent 4).plain (fun x _ => (ent 4).flat x rfl)
def of13_6 : Int × Int × Int × Int × Int × Int × Int × Int × Int × List Int × List Int × List Int → NSt Ty := fun x => ⟨[.ptr 100000 [], .ptr 100001 [], .ptr 100002 [], .int .i64 (x.1)], [.var (.cons (.int .u32 (x.2.1)) (.cons (.cons (.int .i64 (x.2.2.1)) (.cons (.int .i64 (x.2.2.2.1)) (.cons (.int .i64 (x.2.2.2.2.1)) (.cons (.int .i64 (x.2.2.2.2.2.1)) (.nil))))) (.cons (.int .i64 (x.2.2.2.2.2.2.1)) (.cons (.int .i64 (x.2.2.2.2.2.2.2.1)) (.cons (.int .u32 (x.2.2.2.2.2.2.2.2.1)) (.cons (.arr 3 8 (x.2.2.2.2.2.2.2.2.2.1)) (.nil))))))), .var (.arr 5 64 (x.2.2.2.2.2.2.2.2.2.2.1)), .var (.arr 5 64 (x.2.2.2.2.2.2.2.2.2.2.2))]⟩
def ab13_6 : (n : NSt Ty) → Option {x : Int × Int × Int × Int × Int × Int × Int × Int × Int × List Int × List Int × List Int // of13_6 x = n}
  | ⟨[.ptr 100000 [], .ptr 100001 [], .ptr 100002 [], .int .i64 v0], [.var (.cons (.int .u32 v1) (.cons (.cons (.int .i64 v2) (.cons (.int .i64 v3) (.cons (.int .i64 v4) (.cons (.int .i64 v5) (.nil))))) (.cons (.int .i64 v6) (.cons (.int .i64 v7) (.cons (.int .u32 v8) (.cons (.arr 3 8 v9) (.nil))))))), .var (.arr 5 64 v10), .var (.arr 5 64 v11)]⟩ => some ⟨(v0, v1, v2, v3, v4, v5, v6, v7, v8, v9, v10, v11), rfl⟩
  | _ => none
def on13_6a : Bool × Int × Int × Int × Int × Int × Int × Int × Int × List Int × List Int × List Int → NSt Ty := fun x => ⟨[.ptr 100000 [], .bool (x.1), .ptr 100001 [], .ptr 100002 []], [.var (.cons (.int .u32 (x.2.1)) (.cons (.cons (.int .i64 (x.2.2.1)) (.cons (.int .i64 (x.2.2.2.1)) (.cons (.int .i64 (x.2.2.2.2.1)) (.cons (.int .i64 (x.2.2.2.2.2.1)) (.nil))))) (.cons (.int .i64 (x.2.2.2.2.2.2.1)) (.cons (.int .i64 (x.2.2.2.2.2.2.2.1)) (.cons (.int .u32 (x.2.2.2.2.2.2.2.2.1)) (.cons (.arr 3 8 (x.2.2.2.2.2.2.2.2.2.1)) (.nil))))))), .var (.arr 5 64 (x.2.2.2.2.2.2.2.2.2.2.1)), .var (.arr 5 64 (x.2.2.2.2.2.2.2.2.2.2.2))]⟩
def on13_6b : Int × Int × Int × Int × Int × Int × Int × Int × List Int × List Int × List Int → NSt Ty := fun x => ⟨[.ptr 100000 [], .undef, .ptr 100001 [], .ptr 100002 []], [.var (.cons (.int .u32 (x.1)) (.cons (.cons (.int .i64 (x.2.1)) (.cons (.int .i64 (x.2.2.1)) (.cons (.int .i64 (x.2.2.2.1)) (.cons (.int .i64 (x.2.2.2.2.1)) (.nil))))) (.cons (.int .i64 (x.2.2.2.2.2.1)) (.cons (.int .i64 (x.2.2.2.2.2.2.1)) (.cons (.int .u32 (x.2.2.2.2.2.2.2.1)) (.cons (.arr 3 8 (x.2.2.2.2.2.2.2.2.1)) (.nil))))))), .var (.arr 5 64 (x.2.2.2.2.2.2.2.2.2.1)), .var (.arr 5 64 (x.2.2.2.2.2.2.2.2.2.2))]⟩
def oa13_6 : (e : Ex) → (n : NSt Ty) → Option {y : (Bool × Int × Int × Int × Int × Int × Int × Int × Int × List Int × List Int × List Int) ⊕ (Int × Int × Int × Int × Int × Int × Int × Int × List Int × List Int × List Int) // oe2 .ret (.exit 0) y = e ∧ on2 on13_6a on13_6b y = n}
  | .ret, ⟨[.ptr 100000 [], .bool v0, .ptr 100001 [], .ptr 100002 []], [.var (.cons (.int .u32 v1) (.cons (.cons (.int .i64 v2) (.cons (.int .i64 v3) (.cons (.int .i64 v4) (.cons (.int .i64 v5) (.nil))))) (.cons (.int .i64 v6) (.cons (.int .i64 v7) (.cons (.int .u32 v8) (.cons (.arr 3 8 v9) (.nil))))))), .var (.arr 5 64 v10), .var (.arr 5 64 v11)]⟩ => some ⟨.inl (v0, v1, v2, v3, v4, v5, v6, v7, v8, v9, v10, v11), rfl, rfl⟩
  | .exit 0, ⟨[.ptr 100000 [], .undef, .ptr 100001 [], .ptr 100002 []], [.var (.cons (.int .u32 v0) (.cons (.cons (.int .i64 v1) (.cons (.int .i64 v2) (.cons (.int .i64 v3) (.cons (.int .i64 v4) (.nil))))) (.cons (.int .i64 v5) (.cons (.int .i64 v6) (.cons (.int .u32 v7) (.cons (.arr 3 8 v8) (.nil))))))), .var (.arr 5 64 v9), .var (.arr 5 64 v10)]⟩ => some ⟨.inr (v0, v1, v2, v3, v4, v5, v6, v7, v8, v9, v10), rfl, rfl⟩
  | _, _ => none
/-- a round of the loop 6 of function 13 -/
def R13_6 (k : Nat) (again : Int × Int × Int × Int × Int × Int × Int × Int × Int × List Int × List Int × List Int → Option ((Bool × Int × Int × Int × Int × Int × Int × Int × Int × List Int × List Int × List Int) ⊕ (Int × Int × Int × Int × Int × Int × Int × Int × List Int × List Int × List Int))) (x : Int × Int × Int × Int × Int × Int × Int × Int × Int × List Int × List Int × List Int) : Option ((Bool × Int × Int × Int × Int × Int × Int × Int × Int × List Int × List Int × List Int) ⊕ (Int × Int × Int × Int × Int × Int × Int × Int × List Int × List Int × List Int)) :=
  match x with
  | (v0, v1, v2, v3, v4, v5, v6, v7, v8, v9, v10, v11) => bif decide (v0 < (4 : Int)) then bif decide ((0 : Int) ≤ IntKind.u64.wrap (IntKind.i64.wrap ((8 : Int) * v0))) then bif inRange (IntKind.i64.wrap ((2 : Int) + v0)) (64 : Nat) then bif v10.getD (IntKind.i64.wrap ((2 : Int) + v0)).toNat (0 : Int) != IntKind.u8.wrap (v1.fdiv ((2 : Int) ^ min (IntKind.u64.wrap (IntKind.i64.wrap ((8 : Int) * v0))).toNat IntKind.u32.bits)) then some (Sum.inl (false, v1, v2, v3, v4, v5, v6, v7, v8, v9, v10, v11)) else bif inRange (IntKind.i64.wrap ((2 : Int) + v0)) (64 : Nat) then bif v11.getD (IntKind.i64.wrap ((2 : Int) + v0)).toNat (0 : Int) != IntKind.u8.wrap (v1.fdiv ((2 : Int) ^ min (IntKind.u64.wrap (IntKind.i64.wrap ((8 : Int) * v0))).toNat IntKind.u32.bits)) then some (Sum.inl (false, v1, v2, v3, v4, v5, v6, v7, v8, v9, v10, v11)) else bif inRange (IntKind.i64.wrap ((12 : Int) + v0)) (64 : Nat) then bif decide ((0 : Int) ≤ IntKind.u64.wrap (IntKind.i64.wrap ((8 : Int) * v0))) then bif v10.getD (IntKind.i64.wrap ((12 : Int) + v0)).toNat (0 : Int) != IntKind.u8.wrap (v8.fdiv ((2 : Int) ^ min (IntKind.u64.wrap (IntKind.i64.wrap ((8 : Int) * v0))).toNat IntKind.u32.bits)) then some (Sum.inl (false, v1, v2, v3, v4, v5, v6, v7, v8, v9, v10, v11)) else again (IntKind.i64.wrap (v0 + (1 : Int)), v1, v2, v3, v4, v5, v6, v7, v8, v9, v10, v11) else none else none else none else none else none else some (Sum.inr (v1, v2, v3, v4, v5, v6, v7, v8, v9, v10, v11))
def L13_6 (k n : Nat) (x : Int × Int × Int × Int × Int × Int × Int × Int × Int × List Int × List Int × List Int) : Option ((Bool × Int × Int × Int × Int × Int × Int × Int × Int × List Int × List Int × List Int) ⊕ (Int × Int × Int × Int × Int × Int × Int × Int × List Int × List Int × List Int)) := iterR (R13_6 k) n x
noncomputable def ls13_6 : Nat → Option (LSum Ty) := addL 6 (lsum2 of13_6 ab13_6 L13_6 .ret on13_6a (.exit 0) on13_6b) noL
def of13_12 : Int × Int × Int × Int × Int × Int × Int × Int × Int × List Int × List Int × List Int → NSt Ty := fun x => ⟨[.ptr 100000 [], .ptr 100001 [], .ptr 100002 [], .int .i64 (x.1)], [.var (.cons (.int .u32 (x.2.1)) (.cons (.cons (.int .i64 (x.2.2.1)) (.cons (.int .i64 (x.2.2.2.1)) (.cons (.int .i64 (x.2.2.2.2.1)) (.cons (.int .i64 (x.2.2.2.2.2.1)) (.nil))))) (.cons (.int .i64 (x.2.2.2.2.2.2.1)) (.cons (.int .i64 (x.2.2.2.2.2.2.2.1)) (.cons (.int .u32 (x.2.2.2.2.2.2.2.2.1)) (.cons (.arr 3 8 (x.2.2.2.2.2.2.2.2.2.1)) (.nil))))))), .var (.arr 5 64 (x.2.2.2.2.2.2.2.2.2.2.1)), .var (.arr 5 64 (x.2.2.2.2.2.2.2.2.2.2.2))]⟩
def ab13_12 : (n : NSt Ty) → Option {x : Int × Int × Int × Int × Int × Int × Int × Int × Int × List Int × List Int × List Int // of13_12 x = n}
  | ⟨[.ptr 100000 [], .ptr 100001 [], .ptr 100002 [], .int .i64 v0], [.var (.cons (.int .u32 v1) (.cons (.cons (.int .i64 v2) (.cons (.int .i64 v3) (.cons (.int .i64 v4) (.cons (.int .i64 v5) (.nil))))) (.cons (.int .i64 v6) (.cons (.int .i64 v7) (.cons (.int .u32 v8) (.cons (.arr 3 8 v9) (.nil))))))), .var (.arr 5 64 v10), .var (.arr 5 64 v11)]⟩ => some ⟨(v0, v1, v2, v3, v4, v5, v6, v7, v8, v9, v10, v11), rfl⟩
  | _ => none
def on13_12a : Bool × Int × Int × Int × Int × Int × Int × Int × Int × List Int × List Int × List Int → NSt Ty := fun x => ⟨[.ptr 100000 [], .bool (x.1), .ptr 100001 [], .ptr 100002 []], [.var (.cons (.int .u32 (x.2.1)) (.cons (.cons (.int .i64 (x.2.2.1)) (.cons (.int .i64 (x.2.2.2.1)) (.cons (.int .i64 (x.2.2.2.2.1)) (.cons (.int .i64 (x.2.2.2.2.2.1)) (.nil))))) (.cons (.int .i64 (x.2.2.2.2.2.2.1)) (.cons (.int .i64 (x.2.2.2.2.2.2.2.1)) (.cons (.int .u32 (x.2.2.2.2.2.2.2.2.1)) (.cons (.arr 3 8 (x.2.2.2.2.2.2.2.2.2.1)) (.nil))))))), .var (.arr 5 64 (x.2.2.2.2.2.2.2.2.2.2.1)), .var (.arr 5 64 (x.2.2.2.2.2.2.2.2.2.2.2))]⟩
def on13_12b : Int × Int × Int × Int × Int × Int × Int × Int × List Int × List Int × List Int → NSt Ty := fun x => ⟨[.ptr 100000 [], .undef, .ptr 100001 [], .ptr 100002 []], [.var (.cons (.int .u32 (x.1)) (.cons (.cons (.int .i64 (x.2.1)) (.cons (.int .i64 (x.2.2.1)) (.cons (.int .i64 (x.2.2.2.1)) (.cons (.int .i64 (x.2.2.2.2.1)) (.nil))))) (.cons (.int .i64 (x.2.2.2.2.2.1)) (.cons (.int .i64 (x.2.2.2.2.2.2.1)) (.cons (.int .u32 (x.2.2.2.2.2.2.2.1)) (.cons (.arr 3 8 (x.2.2.2.2.2.2.2.2.1)) (.nil))))))), .var (.arr 5 64 (x.2.2.2.2.2.2.2.2.2.1)), .var (.arr 5 64 (x.2.2.2.2.2.2.2.2.2.2))]⟩
def oa13_12 : (e : Ex) → (n : NSt Ty) → Option {y : (Bool × Int × Int × Int × Int × Int × Int × Int × Int × List Int × List Int × List Int) ⊕ (Int × Int × Int × Int × Int × Int × Int × Int × List Int × List Int × List Int) // oe2 .ret (.exit 2) y = e ∧ on2 on13_12a on13_12b y = n}
  | .ret, ⟨[.ptr 100000 [], .bool v0, .ptr 100001 [], .ptr 100002 []], [.var (.cons (.int .u32 v1) (.cons (.cons (.int .i64 v2) (.cons (.int .i64 v3) (.cons (.int .i64 v4) (.cons (.int .i64 v5) (.nil))))) (.cons (.int .i64 v6) (.cons (.int .i64 v7) (.cons (.int .u32 v8) (.cons (.arr 3 8 v9) (.nil))))))), .var (.arr 5 64 v10), .var (.arr 5 64 v11)]⟩ => some ⟨.inl (v0, v1, v2, v3, v4, v5, v6, v7, v8, v9, v10, v11), rfl, rfl⟩
  | .exit 2, ⟨[.ptr 100000 [], .undef, .ptr 100001 [], .ptr 100002 []], [.var (.cons (.int .u32 v0) (.cons (.cons (.int .i64 v1) (.cons (.int .i64 v2) (.cons (.int .i64 v3) (.cons (.int .i64 v4) (.nil))))) (.cons (.int .i64 v5) (.cons (.int .i64 v6) (.cons (.int .u32 v7) (.cons (.arr 3 8 v8) (.nil))))))), .var (.arr 5 64 v9), .var (.arr 5 64 v10)]⟩ => some ⟨.inr (v0, v1, v2, v3, v4, v5, v6, v7, v8, v9, v10), rfl, rfl⟩
  | _, _ => none
/-- a round of the loop 12 of function 13 -/
def R13_12 (k : Nat) (again : Int × Int × Int × Int × Int × Int × Int × Int × Int × List Int × List Int × List Int → Option ((Bool × Int × Int × Int × Int × Int × Int × Int × Int × List Int × List Int × List Int) ⊕ (Int × Int × Int × Int × Int × Int × Int × Int × List Int × List Int × List Int))) (x : Int × Int × Int × Int × Int × Int × Int × Int × Int × List Int × List Int × List Int) : Option ((Bool × Int × Int × Int × Int × Int × Int × Int × Int × List Int × List Int × List Int) ⊕ (Int × Int × Int × Int × Int × Int × Int × Int × List Int × List Int × List Int)) :=
  match x with
  | (v0, v1, v2, v3, v4, v5, v6, v7, v8, v9, v10, v11) => bif decide (v0 < (8 : Int)) then bif inRange (IntKind.i64.wrap ((6 : Int) + IntKind.i64.wrap ((2 : Int) * v0))) (64 : Nat) then bif inRange (IntKind.i64.wrap ((7 : Int) + IntKind.i64.wrap ((2 : Int) * v0))) (64 : Nat) then bif inRange v0 (8 : Nat) then bif IntKind.i64.wrap (IntKind.i64.wrap (v11.getD (IntKind.i64.wrap ((6 : Int) + IntKind.i64.wrap ((2 : Int) * v0))).toNat (0 : Int)) + IntKind.i64.wrap ((256 : Int) * IntKind.i64.wrap (v11.getD (IntKind.i64.wrap ((7 : Int) + IntKind.i64.wrap ((2 : Int) * v0))).toNat (0 : Int)))) != v9.getD v0.toNat (0 : Int) then some (Sum.inl (false, v1, v2, v3, v4, v5, v6, v7, v8, v9, v10, v11)) else again (IntKind.i64.wrap (v0 + (1 : Int)), v1, v2, v3, v4, v5, v6, v7, v8, v9, v10, v11) else none else none else none else some (Sum.inr (v1, v2, v3, v4, v5, v6, v7, v8, v9, v10, v11))
def L13_12 (k n : Nat) (x : Int × Int × Int × Int × Int × Int × Int × Int × Int × List Int × List Int × List Int) : Option ((Bool × Int × Int × Int × Int × Int × Int × Int × Int × List Int × List Int × List Int) ⊕ (Int × Int × Int × Int × Int × Int × Int × Int × List Int × List Int × List Int)) := iterR (R13_12 k) n x
noncomputable def ls13_12 : Nat → Option (LSum Ty) := addL 12 (lsum2 of13_12 ab13_12 L13_12 .ret on13_12a (.exit 2) on13_12b) ls13_6
def kp13 : Nat → Keep := fun i => cond (i == 6) ⟨[1, 5, 6, 7], [1, 2, 5, 6]⟩ (cond (i == 12) ⟨[1, 5, 6, 9], [1, 2, 5, 6]⟩ (⟨[], []⟩))
/-- "silt/siltlaw06.RegionPlaces" -/
def F13 (k : Nat) (x : T67 × Unit) : Option (Bool) :=
  match x with
  | (a0, ()) => (F38 k (T67.mk a0.1 (T64.mk a0.2.1 a0.2.2 a0.2.3 a0.2.4) a0.3 a0.4 a0.5 a0.6, ())).bind fun r => bif r.snd.fst != (0 : Int) then bif decide (r.fst = List.replicate (2 : Nat) (List.replicate (64 : Nat) (0 : Int))) then (F42 k (T67.mk a0.1 (T64.mk a0.2.1 a0.2.2 a0.2.3 a0.2.4) a0.3 a0.4 a0.5 a0.6, ())).bind fun r => bif !r then (F44 k ()).bind fun r => some r else some false else some false else (L13_6 k k ((0 : Int), a0.1, a0.2.1, a0.2.2, a0.2.3, a0.2.4, a0.3, a0.4, a0.5, a0.6, r.fst.getD (Int.toNat (0 : Int)) (List.replicate (64 : Nat) (0 : Int)), r.fst.getD (Int.toNat (1 : Int)) (List.replicate (64 : Nat) (0 : Int)))).bind fun r => sumK r (fun a => some a.fst) fun b => (L13_12 k k ((0 : Int), b.fst, b.snd.fst, b.snd.snd.fst, b.snd.snd.snd.fst, b.snd.snd.snd.snd.fst, b.snd.snd.snd.snd.snd.fst, b.snd.snd.snd.snd.snd.snd.fst, b.snd.snd.snd.snd.snd.snd.snd.fst, b.snd.snd.snd.snd.snd.snd.snd.snd.fst, b.snd.snd.snd.snd.snd.snd.snd.snd.snd.fst, b.snd.snd.snd.snd.snd.snd.snd.snd.snd.snd)).bind fun r => sumK r (fun a => some a.fst) fun b => bif b.snd.snd.snd.snd.snd.snd.snd.snd.snd.fst.getD (Int.toNat (0 : Int)) (0 : Int) == (82 : Int) then bif b.snd.snd.snd.snd.snd.snd.snd.snd.snd.snd.getD (Int.toNat (0 : Int)) (0 : Int) == (82 : Int) then bif b.snd.snd.snd.snd.snd.snd.snd.snd.snd.fst.getD (Int.toNat (1 : Int)) (0 : Int) == (0 : Int) then bif b.snd.snd.snd.snd.snd.snd.snd.snd.snd.snd.getD (Int.toNat (1 : Int)) (0 : Int) == (1 : Int) then bif IntKind.i64.wrap (b.snd.snd.snd.snd.snd.snd.snd.snd.snd.fst.getD (Int.toNat (6 : Int)) (0 : Int)) == b.snd.fst then bif IntKind.i64.wrap (b.snd.snd.snd.snd.snd.snd.snd.snd.snd.fst.getD (Int.toNat (7 : Int)) (0 : Int)) == b.snd.snd.fst then bif IntKind.i64.wrap (b.snd.snd.snd.snd.snd.snd.snd.snd.snd.fst.getD (Int.toNat (8 : Int)) (0 : Int)) == b.snd.snd.snd.fst then bif IntKind.i64.wrap (b.snd.snd.snd.snd.snd.snd.snd.snd.snd.fst.getD (Int.toNat (9 : Int)) (0 : Int)) == b.snd.snd.snd.snd.fst then bif IntKind.i64.wrap (b.snd.snd.snd.snd.snd.snd.snd.snd.snd.fst.getD (Int.toNat (10 : Int)) (0 : Int)) == b.snd.snd.snd.snd.snd.fst then bif IntKind.i64.wrap (b.snd.snd.snd.snd.snd.snd.snd.snd.snd.fst.getD (Int.toNat (11 : Int)) (0 : Int)) == b.snd.snd.snd.snd.snd.snd.fst then bif b.snd.snd.snd.snd.snd.snd.snd.snd.snd.fst.getD (Int.toNat (16 : Int)) (0 : Int) == (0 : Int) then bif b.snd.snd.snd.snd.snd.snd.snd.snd.snd.snd.getD (Int.toNat (22 : Int)) (0 : Int) == (0 : Int) then (F42 k (T67.mk b.fst (T64.mk b.snd.fst b.snd.snd.fst b.snd.snd.snd.fst b.snd.snd.snd.snd.fst) b.snd.snd.snd.snd.snd.fst b.snd.snd.snd.snd.snd.snd.fst b.snd.snd.snd.snd.snd.snd.snd.fst b.snd.snd.snd.snd.snd.snd.snd.snd.fst, ())).bind fun r => bif r then (F44 k ()).bind fun r => some r else some false else some false else some false else some false else some false else some false else some false else some false else some false else some false else some false else some false else some false
noncomputable def sp13 : FSpec Ty := spec ag13 rs13 F13
theorem bo13 : Tryd.f13.body = some (bodyOf Tryd.f13) := by kernel_rfl
theorem nd13 : nodupB ((loopsIn (bodyOf Tryd.f13)).map firstRegion) = true := by kernel_rfl
theorem lo13_6 : LSOK fs12 kp13 tab Tryd.f13 ls13_6 := lsum2_ok bo13 nd13 (LSOK.none) oa13_6 (R := R13_6) fun k again x => by kernel_rfl
theorem lo13_12 : LSOK fs12 kp13 tab Tryd.f13 ls13_12 := lsum2_ok bo13 nd13 (lo13_6) oa13_12 (R := R13_12) fun k again x => by kernel_rfl
theorem ok13 : FOK Tryd.prog tab 13 sp13 := spec_ok (keeps := kp13) tabOK fs12OK Tryd.func13 bo13 (by kernel_rfl) nd13 (lo13_12) (F := F13) fun k x => by kernel_rfl
noncomputable def fs13 : Nat → Option (FSpec Ty) := addF 13 sp13 fs12
theorem fs13OK : SpecsOK Tryd.prog tab fs13 := fs12OK.add ok13 Tryd.call13
def ag14 : Args Ty (T67 × Int × Int × Unit) := V.arg (tab.den 68) (V.arg (tab.den 5) (V.arg (tab.den 3) (noArgs)))
def rs14 : Res Ty tab (Bool) false := V.oneRes (tab.den 4) (ent 4).ids (ent 4).plain (fun x _ => (ent 4).flat x rfl)
def kp14 : Nat → Keep := fun i => ⟨[], []⟩
/-- "silt/siltlaw06.RegionRoots" -/
def F14 (k : Nat) (x : T67 × Int × Int × Unit) : Option (Bool) :=
  match x with
  | (a0, a1, a2, ()) => (F43 k (T67.mk a0.1 (T64.mk a0.2.1 a0.2.2 a0.2.3 a0.2.4) a0.3 a0.4 a0.5 a0.6, ())).bind fun r => bif !r then (F42 k (T67.mk a0.1 (T64.mk a0.2.1 a0.2.2 a0.2.3 a0.2.4) a0.3 a0.4 a0.5 a0.6, ())).bind fun r => bif !r then (F44 k ()).bind fun r => some r else some false else bif inRange ((IntKind.i64.wrap a1).tmod (8 : Int)) (8 : Nat) then bif a2 == (0 : Int) then (F38 k (T67.mk a0.1 (T64.mk a0.2.1 a0.2.2 a0.2.3 a0.2.4) a0.3 a0.4 a0.5 (a0.6.set ((IntKind.i64.wrap a1).tmod (8 : Int)).toNat a2), ())).bind fun r => (F42 k (T67.mk a0.1 (T64.mk a0.2.1 a0.2.2 a0.2.3 a0.2.4) a0.3 a0.4 a0.5 (a0.6.set ((IntKind.i64.wrap a1).tmod (8 : Int)).toNat a2), ())).bind fun r_1 => bif r_1 == true then bif (r.snd.fst == (0 : Int)) == true then (F44 k ()).bind fun r => some r else some false else some false else bif decide ((IntKind.i64.wrap a1).tmod (8 : Int) < IntKind.i64.wrap ((IntKind.i64.wrap (IntKind.i64.wrap (a0.2.1 + (8 : Int)) - (1 : Int))).tdiv (8 : Int))) then bif decide (a2 ≥ (4 : Int)) then (F38 k (T67.mk a0.1 (T64.mk a0.2.1 a0.2.2 a0.2.3 a0.2.4) a0.3 a0.4 a0.5 (a0.6.set ((IntKind.i64.wrap a1).tmod (8 : Int)).toNat a2), ())).bind fun r => (F42 k (T67.mk a0.1 (T64.mk a0.2.1 a0.2.2 a0.2.3 a0.2.4) a0.3 a0.4 a0.5 (a0.6.set ((IntKind.i64.wrap a1).tmod (8 : Int)).toNat a2), ())).bind fun r_1 => bif r_1 == decide (a2 < IntKind.i64.wrap ((4 : Int) + IntKind.i64.wrap (a0.2.2 * a0.2.3))) then bif (r.snd.fst == (0 : Int)) == decide (a2 < IntKind.i64.wrap ((4 : Int) + IntKind.i64.wrap (a0.2.2 * a0.2.3))) then (F44 k ()).bind fun r => some r else some false else some false else (F38 k (T67.mk a0.1 (T64.mk a0.2.1 a0.2.2 a0.2.3 a0.2.4) a0.3 a0.4 a0.5 (a0.6.set ((IntKind.i64.wrap a1).tmod (8 : Int)).toNat a2), ())).bind fun r => (F42 k (T67.mk a0.1 (T64.mk a0.2.1 a0.2.2 a0.2.3 a0.2.4) a0.3 a0.4 a0.5 (a0.6.set ((IntKind.i64.wrap a1).tmod (8 : Int)).toNat a2), ())).bind fun r_1 => bif r_1 == false then bif (r.snd.fst == (0 : Int)) == false then (F44 k ()).bind fun r => some r else some false else some false else (F38 k (T67.mk a0.1 (T64.mk a0.2.1 a0.2.2 a0.2.3 a0.2.4) a0.3 a0.4 a0.5 (a0.6.set ((IntKind.i64.wrap a1).tmod (8 : Int)).toNat a2), ())).bind fun r => (F42 k (T67.mk a0.1 (T64.mk a0.2.1 a0.2.2 a0.2.3 a0.2.4) a0.3 a0.4 a0.5 (a0.6.set ((IntKind.i64.wrap a1).tmod (8 : Int)).toNat a2), ())).bind fun r_1 => bif r_1 == false then bif (r.snd.fst == (0 : Int)) == false then (F44 k ()).bind fun r => some r else some false else some false else none
noncomputable def sp14 : FSpec Ty := spec ag14 rs14 F14
theorem bo14 : Tryd.f14.body = some (bodyOf Tryd.f14) := by kernel_rfl
theorem nd14 : nodupB ((loopsIn (bodyOf Tryd.f14)).map firstRegion) = true := by kernel_rfl
theorem ok14 : FOK Tryd.prog tab 14 sp14 := spec_ok (keeps := kp14) tabOK fs13OK Tryd.func14 bo14 (by kernel_rfl) nd14 (LSOK.none) (F := F14) fun k x => by kernel_rfl
noncomputable def fs14 : Nat → Option (FSpec Ty) := addF 14 sp14 fs13
theorem fs14OK : SpecsOK Tryd.prog tab fs14 := fs13OK.add ok14 Tryd.call14
end Go.Proofs.YtpnnmpdjgnbkhaaDoor.W
