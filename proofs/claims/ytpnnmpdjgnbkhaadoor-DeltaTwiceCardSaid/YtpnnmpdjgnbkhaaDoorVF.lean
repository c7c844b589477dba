/-
  The functions that the statement reaches, as typed functions, and that the program computes them. No conditions. Printed by program.
-/
import Derived.Test.YtpnnmpdjgnbkhaaDoorVI
set_option linter.unusedVariables false
namespace Go.Proofs.YtpnnmpdjgnbkhaaDoor.W
open Go Go.Proofs V
theorem noFOK : SpecsOK Tryd.prog tab noF := SpecsOK.none cmpOK asOK
def ag23 : Args Ty ((List Int) × (List Int) × Unit) := V.arg (tab.den 23) (V.arg (tab.den 23) (noArgs))
def rs23 : Res Ty tab (Int × (List Int) × Bool × Unit) true := V.manyRes (V.part (tab.den 3) (ent 3).ids (ent 3).plain (fun _ h => by cases h) (V.part (tab.den 24) (ent 24).ids (ent 24).plain (fun _ h => by cases h) (V.part (tab.den 4) (ent 4).ids (ent 4).plain (fun _ h => by cases h) (noParts))))
def of23_3 : Int × Int × Int × List Int × List Int → NSt Ty := fun x => ⟨[.ptr 100000 [], .ptr 100001 [], .int .i64 (x.1), .int .i64 (x.2.1), .int .i64 (x.2.2.1)], [.var (.arr 5 32 (x.2.2.2.1)), .var (.arr 5 32 (x.2.2.2.2))]⟩
def ab23_3 : (n : NSt Ty) → Option {x : Int × Int × Int × List Int × List Int // of23_3 x = n}
  | ⟨[.ptr 100000 [], .ptr 100001 [], .int .i64 v0, .int .i64 v1, .int .i64 v2], [.var (.arr 5 32 v3), .var (.arr 5 32 v4)]⟩ => some ⟨(v0, v1, v2, v3, v4), rfl⟩
  | _ => none
def oe23_3 : Int × Int × List Int → Ex := fun _ => .exit 0
def on23_3 : Int × Int × List Int → NSt Ty := fun x => ⟨[.ptr 100000 [], .int .i64 (x.1), .int .i64 (x.2.1)], [.var (.arr 5 32 (x.2.2))]⟩
def oa23_3 : (e : Ex) → (n : NSt Ty) → Option {y : Int × Int × List Int // oe23_3 y = e ∧ on23_3 y = n}
  | .exit 0, ⟨[.ptr 100000 [], .int .i64 v0, .int .i64 v1], [.var (.arr 5 32 v2)]⟩ => some ⟨(v0, v1, v2), rfl, rfl⟩
  | _, _ => none
/-- a round of the loop 3 of function 23 -/
def R23_3 (k : Nat) (again : Int × Int × Int × List Int × List Int → Option (Int × Int × List Int)) (x : Int × Int × Int × List Int × List Int) : Option (Int × Int × List Int) :=
  match x with
  | (v0, v1, v2, v3, v4) => bif decide (v2 < (32 : Int)) then bif inRange v2 (32 : Nat) then bif inRange v2 (32 : Nat) then bif v3.getD v2.toNat (0 : Int) == v4.getD v2.toNat (0 : Int) then again (v0, v1, IntKind.i64.wrap (v2 + (1 : Int)), v3, v4) else bif decide (v0 < (0 : Int)) then again (v2, v2, IntKind.i64.wrap (v2 + (1 : Int)), v3, v4) else again (v0, v2, IntKind.i64.wrap (v2 + (1 : Int)), v3, v4) else none else none else some (v0, v1, v4)
def L23_3 (k n : Nat) (x : Int × Int × Int × List Int × List Int) : Option (Int × Int × List Int) := iterR (R23_3 k) n x
noncomputable def ls23_3 : Nat → Option (LSum Ty) := addL 3 (LSum.of of23_3 ab23_3 L23_3 oe23_3 on23_3) noL
def kp23 : Nat → Keep := fun i => cond (i == 3) ⟨[2, 3, 7, 8, 10], [3, 7, 8]⟩ (⟨[], []⟩)
/-- "silt/delta.Diff" -/
def F23 (k : Nat) (x : (List Int) × (List Int) × Unit) : Option (Int × (List Int) × Bool × Unit) :=
  match x with
  | (a0, a1, ()) => (L23_3 k k ((-1 : Int), (0 : Int), (0 : Int), a0, a1)).bind fun r => bif decide (r.fst < (0 : Int)) then some ((0 : Int), [], false, ()) else bif decide (IntKind.i64.wrap (r.snd.fst - r.fst) ≥ (16 : Int)) then some ((0 : Int), [], false, ()) else bif decide ((0 : Int) ≤ r.fst) && decide (r.fst ≤ IntKind.i64.wrap (r.snd.fst + (1 : Int))) && decide (IntKind.i64.wrap (r.snd.fst + (1 : Int)) ≤ (↑(32 : Nat) : Int)) then bif decide ((0 : Nat) + (List.take (IntKind.i64.wrap (r.snd.fst + (1 : Int)) - r.fst).toNat (List.drop r.fst.toNat r.snd.snd)).length ≤ roomMost) then some (r.fst, [] ++ List.take (IntKind.i64.wrap (r.snd.fst + (1 : Int)) - r.fst).toNat (List.drop r.fst.toNat r.snd.snd), true, ()) else none else none
noncomputable def sp23 : FSpec Ty := spec ag23 rs23 F23
theorem bo23 : Tryd.f23.body = some (bodyOf Tryd.f23) := by kernel_rfl
theorem nd23 : nodupB ((loopsIn (bodyOf Tryd.f23)).map firstRegion) = true := by kernel_rfl
theorem lo23_3 : LSOK noF kp23 tab Tryd.f23 ls23_3 := lsum_ok bo23 nd23 (LSOK.none) oa23_3 (R := R23_3) fun k again x => by kernel_rfl
theorem ok23 : FOK Tryd.prog tab 23 sp23 := spec_ok (keeps := kp23) tabOK noFOK Tryd.func23 bo23 (by kernel_rfl) nd23 (lo23_3) (F := F23) fun k x => by kernel_rfl
noncomputable def fs23 : Nat → Option (FSpec Ty) := addF 23 sp23 noF
theorem fs23OK : SpecsOK Tryd.prog tab fs23 := noFOK.add ok23 Tryd.call23
def ag30 : Args Ty (Int × ByteArray × Unit) := V.arg (tab.den 33) (V.arg (tab.den 9) (noArgs))
def rs30 : Res Ty tab (GErr) true := V.oneRes (tab.den 48) (ent 48).ids (ent 48).plain (fun _ h => by cases h)
def kp30 : Nat → Keep := fun i => ⟨[], []⟩
/-- "silt/fault.New" -/
def F30 (k : Nat) (x : Int × ByteArray × Unit) : Option (GErr) :=
  match x with
  | (a0, a1, ()) => bif a0 == (0 : Int) then some GErr.nil else some (GErr.flt a1 (GErr.num a0) false)
noncomputable def sp30 : FSpec Ty := spec ag30 rs30 F30
theorem bo30 : Tryd.f30.body = some (bodyOf Tryd.f30) := by kernel_rfl
theorem nd30 : nodupB ((loopsIn (bodyOf Tryd.f30)).map firstRegion) = true := by kernel_rfl
theorem ok30 : FOK Tryd.prog tab 30 sp30 := spec_ok (keeps := kp30) tabOK fs23OK Tryd.func30 bo30 (by kernel_rfl) nd30 (LSOK.none) (F := F30) fun k x => by kernel_rfl
noncomputable def fs30 : Nat → Option (FSpec Ty) := addF 30 sp30 fs23
theorem fs30OK : SpecsOK Tryd.prog tab fs30 := fs23OK.add ok30 Tryd.call30
def ag34 : Args Ty (GErr × ByteArray × Unit) := V.arg (tab.den 48) (V.arg (tab.den 9) (noArgs))
def rs34 : Res Ty tab (GErr) true := V.oneRes (tab.den 48) (ent 48).ids (ent 48).plain (fun _ h => by cases h)
def kp34 : Nat → Keep := fun i => ⟨[], []⟩
/-- "silt/fault.Wrap" -/
def F34 (k : Nat) (x : GErr × ByteArray × Unit) : Option (GErr) :=
  match x with
  | (a0, a1, ()) => bif a0.isNil then some GErr.nil else some (GErr.flt a1 a0 true)
noncomputable def sp34 : FSpec Ty := spec ag34 rs34 F34
theorem bo34 : Tryd.f34.body = some (bodyOf Tryd.f34) := by kernel_rfl
theorem nd34 : nodupB ((loopsIn (bodyOf Tryd.f34)).map firstRegion) = true := by kernel_rfl
theorem ok34 : FOK Tryd.prog tab 34 sp34 := spec_ok (keeps := kp34) tabOK fs30OK Tryd.func34 bo34 (by kernel_rfl) nd34 (LSOK.none) (F := F34) fun k x => by kernel_rfl
noncomputable def fs34 : Nat → Option (FSpec Ty) := addF 34 sp34 fs30
theorem fs34OK : SpecsOK Tryd.prog tab fs34 := fs30OK.add ok34 Tryd.call34
def ag60 : Args Ty (Int × (List Int) × Unit) := V.arg (tab.den 3) (V.arg (tab.den 24) (noArgs))
def rs60 : Res Ty tab (GErr) true := V.oneRes (tab.den 48) (ent 48).ids (ent 48).plain (fun _ h => by cases h)
def kp60 : Nat → Keep := fun i => ⟨[], []⟩
/-- "silt/delta.fits" -/
def F60 (k : Nat) (x : Int × (List Int) × Unit) : Option (GErr) :=
  match x with
  | (a0, a1, ()) => bif decide (a0 < (0 : Int)) then (F30 k ((1 : Int), ByteArray.mk (Array.mk [(98 : UInt8), (121 : UInt8), (116 : UInt8), (101 : UInt8), (115 : UInt8)]), ())).bind fun r => (F34 k (r, ByteArray.mk (Array.mk [(97 : UInt8), (112 : UInt8), (112 : UInt8), (108 : UInt8), (121 : UInt8)]), ())).bind fun r => some r else bif decide ((↑a1.length : Int) < (1 : Int)) then (F30 k ((1 : Int), ByteArray.mk (Array.mk [(98 : UInt8), (121 : UInt8), (116 : UInt8), (101 : UInt8), (115 : UInt8)]), ())).bind fun r => (F34 k (r, ByteArray.mk (Array.mk [(97 : UInt8), (112 : UInt8), (112 : UInt8), (108 : UInt8), (121 : UInt8)]), ())).bind fun r => some r else bif decide ((↑a1.length : Int) > (32 : Int)) then (F30 k ((1 : Int), ByteArray.mk (Array.mk [(98 : UInt8), (121 : UInt8), (116 : UInt8), (101 : UInt8), (115 : UInt8)]), ())).bind fun r => (F34 k (r, ByteArray.mk (Array.mk [(97 : UInt8), (112 : UInt8), (112 : UInt8), (108 : UInt8), (121 : UInt8)]), ())).bind fun r => some r else bif decide (a0 > IntKind.i64.wrap ((32 : Int) - (↑a1.length : Int))) then (F30 k ((1 : Int), ByteArray.mk (Array.mk [(98 : UInt8), (121 : UInt8), (116 : UInt8), (101 : UInt8), (115 : UInt8)]), ())).bind fun r => (F34 k (r, ByteArray.mk (Array.mk [(97 : UInt8), (112 : UInt8), (112 : UInt8), (108 : UInt8), (121 : UInt8)]), ())).bind fun r => some r else some GErr.nil
noncomputable def sp60 : FSpec Ty := spec ag60 rs60 F60
theorem bo60 : Tryd.f60.body = some (bodyOf Tryd.f60) := by kernel_rfl
theorem nd60 : nodupB ((loopsIn (bodyOf Tryd.f60)).map firstRegion) = true := by kernel_rfl
theorem ok60 : FOK Tryd.prog tab 60 sp60 := spec_ok (keeps := kp60) tabOK fs34OK Tryd.func60 bo60 (by kernel_rfl) nd60 (LSOK.none) (F := F60) fun k x => by kernel_rfl
noncomputable def fs60 : Nat → Option (FSpec Ty) := addF 60 sp60 fs34
theorem fs60OK : SpecsOK Tryd.prog tab fs60 := fs34OK.add ok60 Tryd.call60
def ag25 : Args Ty ((List Int) × Int × (List Int) × Unit) := V.arg (tab.den 23) (V.arg (tab.den 3) (V.arg (tab.den 24) (noArgs)))
def rs25 : Res Ty tab ((List Int) × Int × Unit) false := V.manyRes (V.part (tab.den 23) (ent 23).ids (ent 23).plain (fun x _ => (ent 23).flat x rfl) (V.part (tab.den 33) (ent 33).ids (ent 33).plain (fun x _ => (ent 33).flat x rfl) (noParts)))
def kp25 : Nat → Keep := fun i => ⟨[], []⟩
/-- "silt/delta.Apply" -/
def F25 (k : Nat) (x : (List Int) × Int × (List Int) × Unit) : Option ((List Int) × Int × Unit) :=
  match x with
  | (a0, a1, a2, ()) => (F60 k (a1, a2, ())).bind fun r => bif r.first.isSome then some (List.replicate (32 : Nat) (0 : Int), r.first.getD (0 : Int), ()) else bif decide ((0 : Int) ≤ a1) && decide (a1 ≤ (↑(32 : Nat) : Int)) && decide ((↑(32 : Nat) : Int) ≤ (↑(32 : Nat) : Int)) then some (splice a0 a2 a1.toNat (min a2.length ((↑(32 : Nat) : Int) - a1).toNat), (0 : Int), ()) else none
noncomputable def sp25 : FSpec Ty := spec ag25 rs25 F25
theorem bo25 : Tryd.f25.body = some (bodyOf Tryd.f25) := by kernel_rfl
theorem nd25 : nodupB ((loopsIn (bodyOf Tryd.f25)).map firstRegion) = true := by kernel_rfl
theorem ok25 : FOK Tryd.prog tab 25 sp25 := spec_ok (keeps := kp25) tabOK fs60OK Tryd.func25 bo25 (by kernel_rfl) nd25 (LSOK.none) (F := F25) fun k x => by kernel_rfl
noncomputable def fs25 : Nat → Option (FSpec Ty) := addF 25 sp25 fs60
theorem fs25OK : SpecsOK Tryd.prog tab fs25 := fs60OK.add ok25 Tryd.call25
def ag22 : Args Ty (Unit) := noArgs
def rs22 : Res Ty tab (Bool) false := V.oneRes (tab.den 4) (ent 4).ids (ent 4).plain (fun x _ => (ent 4).flat x rfl)
def kp22 : Nat → Keep := fun i => ⟨[], []⟩
/-- "silt/siltlaw07.wakes" -/
def F22 (k : Nat) (x : Unit) : Option (Bool) :=
  match x with
  | () => (F23 k (List.replicate (32 : Nat) (0 : Int), ((List.replicate (32 : Nat) (0 : Int)).set (Int.toNat (3 : Int)) (7 : Int)).set (Int.toNat (5 : Int)) (8 : Int), ())).bind fun r => (F25 k (List.replicate (32 : Nat) (0 : Int), r.fst, r.snd.fst, ())).bind fun r_1 => (F23 k (List.replicate (32 : Nat) (0 : Int), List.replicate (32 : Nat) (0 : Int), ())).bind fun r_2 => (F25 k (List.replicate (32 : Nat) (0 : Int), (31 : Int), ((List.replicate (2 : Nat) (0 : Int)).set (0 : Nat) (1 : Int)).set (1 : Nat) (2 : Int), ())).bind fun r_3 => bif r.snd.snd.fst then bif r.fst == (3 : Int) then bif (↑r.snd.fst.length : Int) == (3 : Int) then bif r_1.snd.fst == (0 : Int) then bif decide (r_1.fst = ((List.replicate (32 : Nat) (0 : Int)).set (Int.toNat (3 : Int)) (7 : Int)).set (Int.toNat (5 : Int)) (8 : Int)) then bif !r_2.snd.snd.fst then some (r_3.snd.fst == (1 : Int)) else some false else some false else some false else some false else some false else some false
noncomputable def sp22 : FSpec Ty := spec ag22 rs22 F22
theorem bo22 : Tryd.f22.body = some (bodyOf Tryd.f22) := by kernel_rfl
theorem nd22 : nodupB ((loopsIn (bodyOf Tryd.f22)).map firstRegion) = true := by kernel_rfl
theorem ok22 : FOK Tryd.prog tab 22 sp22 := spec_ok (keeps := kp22) tabOK fs25OK Tryd.func22 bo22 (by kernel_rfl) nd22 (LSOK.none) (F := F22) fun k x => by kernel_rfl
noncomputable def fs22 : Nat → Option (FSpec Ty) := addF 22 sp22 fs25
theorem fs22OK : SpecsOK Tryd.prog tab fs22 := fs25OK.add ok22 Tryd.call22
def ag24 : Args Ty ((List Int) × (List Int) × Unit) := V.arg (tab.den 23) (V.arg (tab.den 23) (noArgs))
def rs24 : Res Ty tab (T30) true := V.oneRes (tab.den 31) (ent 31).ids (ent 31).plain (fun _ h => by cases h)
def of24_3 : Int × Int × Int × List Int × List Int × Int × Bool × List Int → NSt Ty := fun x => ⟨[.ptr 100000 [], .ptr 100001 [], .ptr 100002 [], .int .i64 (x.1), .int .i64 (x.2.1), .int .i64 (x.2.2.1)], [.var (.arr 5 32 (x.2.2.2.1)), .var (.arr 5 32 (x.2.2.2.2.1)), .var (.cons (.int .i64 (x.2.2.2.2.2.1)) (.cons (.row 100003) (.cons (.bool (x.2.2.2.2.2.2.1)) (.nil)))), .row 5 (x.2.2.2.2.2.2.2)]⟩
def ab24_3 : (n : NSt Ty) → Option {x : Int × Int × Int × List Int × List Int × Int × Bool × List Int // of24_3 x = n}
  | ⟨[.ptr 100000 [], .ptr 100001 [], .ptr 100002 [], .int .i64 v0, .int .i64 v1, .int .i64 v2], [.var (.arr 5 32 v3), .var (.arr 5 32 v4), .var (.cons (.int .i64 v5) (.cons (.row 100003) (.cons (.bool v6) (.nil)))), .row 5 v7]⟩ => some ⟨(v0, v1, v2, v3, v4, v5, v6, v7), rfl⟩
  | _ => none
def oe24_3 : Int × Int × List Int × Int × Bool × List Int → Ex := fun _ => .exit 0
def on24_3 : Int × Int × List Int × Int × Bool × List Int → NSt Ty := fun x => ⟨[.ptr 100000 [], .ptr 100001 [], .int .i64 (x.1), .int .i64 (x.2.1)], [.var (.arr 5 32 (x.2.2.1)), .var (.cons (.int .i64 (x.2.2.2.1)) (.cons (.row 100002) (.cons (.bool (x.2.2.2.2.1)) (.nil)))), .row 5 (x.2.2.2.2.2)]⟩
def oa24_3 : (e : Ex) → (n : NSt Ty) → Option {y : Int × Int × List Int × Int × Bool × List Int // oe24_3 y = e ∧ on24_3 y = n}
  | .exit 0, ⟨[.ptr 100000 [], .ptr 100001 [], .int .i64 v0, .int .i64 v1], [.var (.arr 5 32 v2), .var (.cons (.int .i64 v3) (.cons (.row 100002) (.cons (.bool v4) (.nil)))), .row 5 v5]⟩ => some ⟨(v0, v1, v2, v3, v4, v5), rfl, rfl⟩
  | _, _ => none
/-- a round of the loop 3 of function 24 -/
def R24_3 (k : Nat) (again : Int × Int × Int × List Int × List Int × Int × Bool × List Int → Option (Int × Int × List Int × Int × Bool × List Int)) (x : Int × Int × Int × List Int × List Int × Int × Bool × List Int) : Option (Int × Int × List Int × Int × Bool × List Int) :=
  match x with
  | (v0, v1, v2, v3, v4, v5, v6, v7) => bif decide (v2 < (32 : Int)) then bif inRange v2 (32 : Nat) then bif inRange v2 (32 : Nat) then bif v3.getD v2.toNat (0 : Int) != v4.getD v2.toNat (0 : Int) then bif decide (v0 < (0 : Int)) then again (v2, v2, IntKind.i64.wrap (v2 + (1 : Int)), v3, v4, v5, v6, v7) else again (v0, v2, IntKind.i64.wrap (v2 + (1 : Int)), v3, v4, v5, v6, v7) else again (v0, v1, IntKind.i64.wrap (v2 + (1 : Int)), v3, v4, v5, v6, v7) else none else none else some (v0, v1, v4, v5, v6, v7)
def L24_3 (k n : Nat) (x : Int × Int × Int × List Int × List Int × Int × Bool × List Int) : Option (Int × Int × List Int × Int × Bool × List Int) := iterR (R24_3 k) n x
noncomputable def ls24_3 : Nat → Option (LSum Ty) := addL 3 (LSum.of of24_3 ab24_3 L24_3 oe24_3 on24_3) noL
def kp24 : Nat → Keep := fun i => cond (i == 3) ⟨[2, 3, 4, 5, 6, 7], [3, 4, 5, 6]⟩ (⟨[], []⟩)
/-- "silt/siltref07.Diff" -/
def F24 (k : Nat) (x : (List Int) × (List Int) × Unit) : Option (T30) :=
  match x with
  | (a0, a1, ()) => (L24_3 k k ((-1 : Int), (-1 : Int), (0 : Int), a0, a1, (0 : Int), false, [])).bind fun r => bif decide (r.fst < (0 : Int)) then some (T30.mk (0 : Int) [] false) else bif decide (IntKind.i64.wrap (IntKind.i64.wrap (r.snd.fst - r.fst) + (1 : Int)) > (16 : Int)) then some (T30.mk (0 : Int) [] false) else bif decide ((0 : Int) ≤ r.fst) && decide (r.fst ≤ IntKind.i64.wrap (r.snd.fst + (1 : Int))) && decide (IntKind.i64.wrap (r.snd.fst + (1 : Int)) ≤ (↑(32 : Nat) : Int)) then bif decide ((List.replicate (0 : Nat) (0 : Int)).length + (List.take (IntKind.i64.wrap (r.snd.fst + (1 : Int)) - r.fst).toNat (List.drop r.fst.toNat r.snd.snd.fst)).length ≤ roomMost) then some (T30.mk r.fst (List.replicate (0 : Nat) (0 : Int) ++ List.take (IntKind.i64.wrap (r.snd.fst + (1 : Int)) - r.fst).toNat (List.drop r.fst.toNat r.snd.snd.fst)) true) else none else none
noncomputable def sp24 : FSpec Ty := spec ag24 rs24 F24
theorem bo24 : Tryd.f24.body = some (bodyOf Tryd.f24) := by kernel_rfl
theorem nd24 : nodupB ((loopsIn (bodyOf Tryd.f24)).map firstRegion) = true := by kernel_rfl
theorem lo24_3 : LSOK fs22 kp24 tab Tryd.f24 ls24_3 := lsum_ok bo24 nd24 (LSOK.none) oa24_3 (R := R24_3) fun k again x => by kernel_rfl
theorem ok24 : FOK Tryd.prog tab 24 sp24 := spec_ok (keeps := kp24) tabOK fs22OK Tryd.func24 bo24 (by kernel_rfl) nd24 (lo24_3) (F := F24) fun k x => by kernel_rfl
noncomputable def fs24 : Nat → Option (FSpec Ty) := addF 24 sp24 fs22
theorem fs24OK : SpecsOK Tryd.prog tab fs24 := fs22OK.add ok24 Tryd.call24
def ag26 : Args Ty ((List Int) × Int × (List Int) × Unit) := V.arg (tab.den 23) (V.arg (tab.den 3) (V.arg (tab.den 24) (noArgs)))
def rs26 : Res Ty tab (T36) false := V.oneRes (tab.den 37) (ent 37).ids (ent 37).plain (fun x _ => (ent 37).flat x rfl)
def kp26 : Nat → Keep := fun i => ⟨[], []⟩
/-- "silt/siltref07.Apply" -/
def F26 (k : Nat) (x : (List Int) × Int × (List Int) × Unit) : Option (T36) :=
  match x with
  | (a0, a1, a2, ()) => bif decide (a1 < (0 : Int)) then some (T36.mk (List.replicate (32 : Nat) (0 : Int)) false) else bif decide (a1 > (32 : Int)) then some (T36.mk (List.replicate (32 : Nat) (0 : Int)) false) else bif decide ((↑a2.length : Int) < (1 : Int)) then some (T36.mk (List.replicate (32 : Nat) (0 : Int)) false) else bif decide ((↑a2.length : Int) > IntKind.i64.wrap ((32 : Int) - a1)) then some (T36.mk (List.replicate (32 : Nat) (0 : Int)) false) else bif decide ((0 : Int) ≤ a1) && decide (a1 ≤ (↑(32 : Nat) : Int)) && decide ((↑(32 : Nat) : Int) ≤ (↑(32 : Nat) : Int)) then some (T36.mk (splice a0 a2 a1.toNat (min a2.length ((↑(32 : Nat) : Int) - a1).toNat)) true) else none
noncomputable def sp26 : FSpec Ty := spec ag26 rs26 F26
theorem bo26 : Tryd.f26.body = some (bodyOf Tryd.f26) := by kernel_rfl
theorem nd26 : nodupB ((loopsIn (bodyOf Tryd.f26)).map firstRegion) = true := by kernel_rfl
theorem ok26 : FOK Tryd.prog tab 26 sp26 := spec_ok (keeps := kp26) tabOK fs24OK Tryd.func26 bo26 (by kernel_rfl) nd26 (LSOK.none) (F := F26) fun k x => by kernel_rfl
noncomputable def fs26 : Nat → Option (FSpec Ty) := addF 26 sp26 fs24
theorem fs26OK : SpecsOK Tryd.prog tab fs26 := fs24OK.add ok26 Tryd.call26
def ag27 : Args Ty ((List Int) × (List Int) × Unit) := V.arg (tab.den 24) (V.arg (tab.den 24) (noArgs))
def rs27 : Res Ty tab (Bool) false := V.oneRes (tab.den 4) (ent 4).ids (ent 4).plain (fun x _ => (ent 4).flat x rfl)
def kp27 : Nat → Keep := fun i => ⟨[], []⟩
/-- "silt/siltkeep.Bytes" -/
def F27 (k : Nat) (x : (List Int) × (List Int) × Unit) : Option (Bool) :=
  match x with
  | (a0, a1, ()) => some ((bytesStr (List.map (fun x => x) a0)).toList == (bytesStr (List.map (fun x => x) a1)).toList)
noncomputable def sp27 : FSpec Ty := spec ag27 rs27 F27
theorem bo27 : Tryd.f27.body = some (bodyOf Tryd.f27) := by kernel_rfl
theorem nd27 : nodupB ((loopsIn (bodyOf Tryd.f27)).map firstRegion) = true := by kernel_rfl
theorem ok27 : FOK Tryd.prog tab 27 sp27 := spec_ok (keeps := kp27) tabOK fs26OK Tryd.func27 bo27 (by kernel_rfl) nd27 (LSOK.none) (F := F27) fun k x => by kernel_rfl
noncomputable def fs27 : Nat → Option (FSpec Ty) := addF 27 sp27 fs26
theorem fs27OK : SpecsOK Tryd.prog tab fs27 := fs26OK.add ok27 Tryd.call27
def ag3 : Args Ty ((List Int) × (List Int) × T25 × Unit) := V.arg (tab.den 23) (V.arg (tab.den 23) (V.arg (tab.den 26) (noArgs)))
def rs3 : Res Ty tab (Bool) false := V.oneRes (tab.den 4) (ent 4).ids (ent 4).plain (fun x _ => (ent 4).flat x rfl)
def kp3 : Nat → Keep := fun i => ⟨[], []⟩
/-- "silt/siltlaw07.DeltaTells" -/
def F3 (k : Nat) (x : (List Int) × (List Int) × T25 × Unit) : Option (Bool) :=
  match x with
  | (a0, a1, a2, ()) => bif decide ((↑a2.2.length : Int) > (300 : Int)) then (F22 k ()).bind fun r => some r else (F23 k (a0, a1, ())).bind fun r => (F24 k (a0, a1, ())).bind fun r_1 => bif decide ((List.replicate (0 : Nat) (0 : Int)).length + a2.2.length ≤ roomMost) then (F25 k (a0, a2.1, List.replicate (0 : Nat) (0 : Int) ++ a2.2, ())).bind fun r_2 => (F26 k (a0, a2.1, a2.2, ())).bind fun r_3 => bif r.fst == r_1.1 then (F27 k (r.snd.fst, r_1.2, ())).bind fun r_4 => bif r_4 then bif r.snd.snd.fst == r_1.3 then bif decide (r_2.fst = r_3.1) then bif (r_2.snd.fst == (0 : Int)) == r_3.2 then bif r_2.snd.fst == (0 : Int) then (F22 k ()).bind fun r => some r else bif r_2.snd.fst == (1 : Int) then (F22 k ()).bind fun r => some r else some false else some false else some false else some false else some false else some false else none
noncomputable def sp3 : FSpec Ty := spec ag3 rs3 F3
theorem bo3 : Tryd.f3.body = some (bodyOf Tryd.f3) := by kernel_rfl
theorem nd3 : nodupB ((loopsIn (bodyOf Tryd.f3)).map firstRegion) = true := by kernel_rfl
theorem ok3 : FOK Tryd.prog tab 3 sp3 := spec_ok (keeps := kp3) tabOK fs27OK Tryd.func3 bo3 (by kernel_rfl) nd3 (LSOK.none) (F := F3) fun k x => by kernel_rfl
noncomputable def fs3 : Nat → Option (FSpec Ty) := addF 3 sp3 fs27
theorem fs3OK : SpecsOK Tryd.prog tab fs3 := fs27OK.add ok3 Tryd.call3
def ag4 : Args Ty ((List Int) × (List Int) × Unit) := V.arg (tab.den 23) (V.arg (tab.den 23) (noArgs))
def rs4 : Res Ty tab (Bool) false := V.oneRes (tab.den 4) (ent 4).ids (ent 4).plain (fun x _ => (ent 4).flat x rfl)
def of4_5 : Int × List Int × Int × Int × Int × List Int × List Int → NSt Ty := fun x => ⟨[.ptr 100000 [], .ptr 100001 [], .int .i64 (x.1), .slice 5 (x.2.1), .int .i64 (x.2.2.1), .int .i64 (x.2.2.2.1), .int .i64 (x.2.2.2.2.1)], [.var (.arr 5 32 (x.2.2.2.2.2.1)), .var (.arr 5 32 (x.2.2.2.2.2.2))]⟩
def ab4_5 : (n : NSt Ty) → Option {x : Int × List Int × Int × Int × Int × List Int × List Int // of4_5 x = n}
  | ⟨[.ptr 100000 [], .ptr 100001 [], .int .i64 v0, .slice 5 v1, .int .i64 v2, .int .i64 v3, .int .i64 v4], [.var (.arr 5 32 v5), .var (.arr 5 32 v6)]⟩ => some ⟨(v0, v1, v2, v3, v4, v5, v6), rfl⟩
  | _ => none
def oe4_5 : Int × List Int × Int × Int × List Int × List Int → Ex := fun _ => .exit 0
def on4_5 : Int × List Int × Int × Int × List Int × List Int → NSt Ty := fun x => ⟨[.ptr 100000 [], .ptr 100001 [], .int .i64 (x.1), .slice 5 (x.2.1), .int .i64 (x.2.2.1), .int .i64 (x.2.2.2.1)], [.var (.arr 5 32 (x.2.2.2.2.1)), .var (.arr 5 32 (x.2.2.2.2.2))]⟩
def oa4_5 : (e : Ex) → (n : NSt Ty) → Option {y : Int × List Int × Int × Int × List Int × List Int // oe4_5 y = e ∧ on4_5 y = n}
  | .exit 0, ⟨[.ptr 100000 [], .ptr 100001 [], .int .i64 v0, .slice 5 v1, .int .i64 v2, .int .i64 v3], [.var (.arr 5 32 v4), .var (.arr 5 32 v5)]⟩ => some ⟨(v0, v1, v2, v3, v4, v5), rfl, rfl⟩
  | _, _ => none
/-- a round of the loop 5 of function 4 -/
def R4_5 (k : Nat) (again : Int × List Int × Int × Int × Int × List Int × List Int → Option (Int × List Int × Int × Int × List Int × List Int)) (x : Int × List Int × Int × Int × Int × List Int × List Int) : Option (Int × List Int × Int × Int × List Int × List Int) :=
  match x with
  | (v0, v1, v2, v3, v4, v5, v6) => bif decide (v4 < (32 : Int)) then bif inRange v4 (32 : Nat) then bif inRange v4 (32 : Nat) then bif v5.getD v4.toNat (0 : Int) != v6.getD v4.toNat (0 : Int) then again (v0, v1, if v4 < v2 then v4 else v2, v4, IntKind.i64.wrap (v4 + (1 : Int)), v5, v6) else again (v0, v1, v2, v3, IntKind.i64.wrap (v4 + (1 : Int)), v5, v6) else none else none else some (v0, v1, v2, v3, v5, v6)
def L4_5 (k n : Nat) (x : Int × List Int × Int × Int × Int × List Int × List Int) : Option (Int × List Int × Int × Int × List Int × List Int) := iterR (R4_5 k) n x
noncomputable def ls4_5 : Nat → Option (LSum Ty) := addL 5 (LSum.of of4_5 ab4_5 L4_5 oe4_5 on4_5) noL
def kp4 : Nat → Keep := fun i => cond (i == 5) ⟨[2, 3, 5, 6, 8, 9, 10], [2, 3, 5, 6, 8, 9]⟩ (⟨[], []⟩)
/-- "silt/siltlaw07.DeltaBack" -/
def F4 (k : Nat) (x : (List Int) × (List Int) × Unit) : Option (Bool) :=
  match x with
  | (a0, a1, ()) => (F23 k (a0, a1, ())).bind fun r => bif !r.snd.snd.fst then (L4_5 k k (r.fst, r.snd.fst, (32 : Int), (-1 : Int), (0 : Int), a0, a1)).bind fun r => bif decide (r.snd.snd.snd.snd.fst = r.snd.snd.snd.snd.snd) then bif r.fst == (0 : Int) then bif (↑r.snd.fst.length : Int) == (0 : Int) then (F22 k ()).bind fun r => some r else some false else some false else bif decide (IntKind.i64.wrap (r.snd.snd.snd.fst - r.snd.snd.fst) ≥ (16 : Int)) then bif r.fst == (0 : Int) then bif (↑r.snd.fst.length : Int) == (0 : Int) then (F22 k ()).bind fun r => some r else some false else some false else some false else bif decide ((↑r.snd.fst.length : Int) < (1 : Int)) then some false else bif decide ((↑r.snd.fst.length : Int) > (16 : Int)) then some false else bif decide (r.fst < (0 : Int)) then some false else bif decide (IntKind.i64.wrap (r.fst + (↑r.snd.fst.length : Int)) > (32 : Int)) then some false else (F25 k (a0, r.fst, r.snd.fst, ())).bind fun r_1 => bif r_1.snd.fst == (0 : Int) then bif decide (r_1.fst = a1) then bif inRange r.fst (32 : Nat) then bif inRange (0 : Int) r.snd.fst.length then bif a0.getD r.fst.toNat (0 : Int) != r.snd.fst.getD (Int.toNat (0 : Int)) (0 : Int) then bif inRange (IntKind.i64.wrap (IntKind.i64.wrap (r.fst + (↑r.snd.fst.length : Int)) - (1 : Int))) (32 : Nat) then bif inRange (IntKind.i64.wrap ((↑r.snd.fst.length : Int) - (1 : Int))) r.snd.fst.length then bif a0.getD (IntKind.i64.wrap (IntKind.i64.wrap (r.fst + (↑r.snd.fst.length : Int)) - (1 : Int))).toNat (0 : Int) != r.snd.fst.getD (IntKind.i64.wrap ((↑r.snd.fst.length : Int) - (1 : Int))).toNat (0 : Int) then (F22 k ()).bind fun r => some r else some false else none else none else some false else none else none else some false else some false
noncomputable def sp4 : FSpec Ty := spec ag4 rs4 F4
theorem bo4 : Tryd.f4.body = some (bodyOf Tryd.f4) := by kernel_rfl
theorem nd4 : nodupB ((loopsIn (bodyOf Tryd.f4)).map firstRegion) = true := by kernel_rfl
theorem lo4_5 : LSOK fs3 kp4 tab Tryd.f4 ls4_5 := lsum_ok bo4 nd4 (LSOK.none) oa4_5 (R := R4_5) fun k again x => by kernel_rfl
theorem ok4 : FOK Tryd.prog tab 4 sp4 := spec_ok (keeps := kp4) tabOK fs3OK Tryd.func4 bo4 (by kernel_rfl) nd4 (lo4_5) (F := F4) fun k x => by kernel_rfl
noncomputable def fs4 : Nat → Option (FSpec Ty) := addF 4 sp4 fs3
theorem fs4OK : SpecsOK Tryd.prog tab fs4 := fs3OK.add ok4 Tryd.call4
def ag5 : Args Ty ((List Int) × T25 × Unit) := V.arg (tab.den 23) (V.arg (tab.den 26) (noArgs))
def rs5 : Res Ty tab (Bool) false := V.oneRes (tab.den 4) (ent 4).ids (ent 4).plain (fun x _ => (ent 4).flat x rfl)
def of5_7 : Int × List Int × Int × List Int × List Int → NSt Ty := fun x => ⟨[.ptr 100000 [], .ptr 100001 [], .ptr 100002 [], .int .i64 (x.1)], [.var (.arr 5 32 (x.2.1)), .var (.cons (.int .i64 (x.2.2.1)) (.cons (.slice 5 (x.2.2.2.1)) (.nil))), .var (.arr 5 32 (x.2.2.2.2))]⟩
def ab5_7 : (n : NSt Ty) → Option {x : Int × List Int × Int × List Int × List Int // of5_7 x = n}
  | ⟨[.ptr 100000 [], .ptr 100001 [], .ptr 100002 [], .int .i64 v0], [.var (.arr 5 32 v1), .var (.cons (.int .i64 v2) (.cons (.slice 5 v3) (.nil))), .var (.arr 5 32 v4)]⟩ => some ⟨(v0, v1, v2, v3, v4), rfl⟩
  | _ => none
def on5_7a : Bool → NSt Ty := fun x => ⟨[.bool (x)], []⟩
def on5_7b : Unit → NSt Ty := fun x => ⟨[.undef], []⟩
def oa5_7 : (e : Ex) → (n : NSt Ty) → Option {y : (Bool) ⊕ (Unit) // oe2 .ret (.exit 0) y = e ∧ on2 on5_7a on5_7b y = n}
  | .ret, ⟨[.bool v0], []⟩ => some ⟨.inl v0, rfl, rfl⟩
  | .exit 0, ⟨[.undef], []⟩ => some ⟨.inr (), rfl, rfl⟩
  | _, _ => none
/-- a round of the loop 7 of function 5 -/
def R5_7 (k : Nat) (again : Int × List Int × Int × List Int × List Int → Option ((Bool) ⊕ (Unit))) (x : Int × List Int × Int × List Int × List Int) : Option ((Bool) ⊕ (Unit)) :=
  match x with
  | (v0, v1, v2, v3, v4) => bif decide (v0 < (32 : Int)) then bif inRange v0 (32 : Nat) then bif decide (v0 ≥ v2) then bif decide (IntKind.i64.wrap (v0 - v2) < (↑v3.length : Int)) then bif inRange (IntKind.i64.wrap (v0 - v2)) v3.length then bif inRange v0 (32 : Nat) then bif v4.getD v0.toNat (0 : Int) != v3.getD (IntKind.i64.wrap (v0 - v2)).toNat (0 : Int) then some (Sum.inl false) else again (IntKind.i64.wrap (v0 + (1 : Int)), v1, v2, v3, v4) else none else none else bif inRange v0 (32 : Nat) then bif v4.getD v0.toNat (0 : Int) != v1.getD v0.toNat (0 : Int) then some (Sum.inl false) else again (IntKind.i64.wrap (v0 + (1 : Int)), v1, v2, v3, v4) else none else bif inRange v0 (32 : Nat) then bif v4.getD v0.toNat (0 : Int) != v1.getD v0.toNat (0 : Int) then some (Sum.inl false) else again (IntKind.i64.wrap (v0 + (1 : Int)), v1, v2, v3, v4) else none else none else some (Sum.inr ())
def L5_7 (k n : Nat) (x : Int × List Int × Int × List Int × List Int) : Option ((Bool) ⊕ (Unit)) := iterR (R5_7 k) n x
noncomputable def ls5_7 : Nat → Option (LSum Ty) := addL 7 (lsum2 of5_7 ab5_7 L5_7 .ret on5_7a (.exit 0) on5_7b) noL
def kp5 : Nat → Keep := fun i => cond (i == 7) ⟨[2, 3, 5, 7], [4]⟩ (⟨[], []⟩)
/-- "silt/siltlaw07.DeltaLays" -/
def F5 (k : Nat) (x : (List Int) × T25 × Unit) : Option (Bool) :=
  match x with
  | (a0, a1, ()) => bif decide ((↑a1.2.length : Int) > (300 : Int)) then (F22 k ()).bind fun r => some r else (F25 k (a0, a1.1, a1.2, ())).bind fun r => bif r.snd.fst != (0 : Int) then bif decide (r.fst = List.replicate (32 : Nat) (0 : Int)) then bif r.snd.fst == (1 : Int) then bif (↑a1.2.length : Int) == (0 : Int) then (F22 k ()).bind fun r => some r else bif decide (a1.1 < (0 : Int)) then (F22 k ()).bind fun r => some r else bif decide (a1.1 ≥ (32 : Int)) then (F22 k ()).bind fun r => some r else bif decide ((↑a1.2.length : Int) > IntKind.i64.wrap ((32 : Int) - a1.1)) then (F22 k ()).bind fun r => some r else some false else some false else some false else (L5_7 k k ((0 : Int), a0, a1.1, a1.2, r.fst)).bind fun r => sumK r (fun a => some a) fun b => (F22 k ()).bind fun r => some r
noncomputable def sp5 : FSpec Ty := spec ag5 rs5 F5
theorem bo5 : Tryd.f5.body = some (bodyOf Tryd.f5) := by kernel_rfl
theorem nd5 : nodupB ((loopsIn (bodyOf Tryd.f5)).map firstRegion) = true := by kernel_rfl
theorem lo5_7 : LSOK fs4 kp5 tab Tryd.f5 ls5_7 := lsum2_ok bo5 nd5 (LSOK.none) oa5_7 (R := R5_7) fun k again x => by kernel_rfl
theorem ok5 : FOK Tryd.prog tab 5 sp5 := spec_ok (keeps := kp5) tabOK fs4OK Tryd.func5 bo5 (by kernel_rfl) nd5 (lo5_7) (F := F5) fun k x => by kernel_rfl
noncomputable def fs5 : Nat → Option (FSpec Ty) := addF 5 sp5 fs4
theorem fs5OK : SpecsOK Tryd.prog tab fs5 := fs4OK.add ok5 Tryd.call5
def ag6 : Args Ty ((List Int) × T25 × T25 × Unit) := V.arg (tab.den 23) (V.arg (tab.den 26) (V.arg (tab.den 26) (noArgs)))
def rs6 : Res Ty tab (Bool) false := V.oneRes (tab.den 4) (ent 4).ids (ent 4).plain (fun x _ => (ent 4).flat x rfl)
def kp6 : Nat → Keep := fun i => ⟨[], []⟩
/-- "silt/siltlaw07.DeltaTwice" -/
def F6 (k : Nat) (x : (List Int) × T25 × T25 × Unit) : Option (Bool) :=
  match x with
  | (a0, a1, a2, ()) => bif decide ((↑a1.2.length : Int) > (100 : Int)) then (F22 k ()).bind fun r => some r else bif decide ((↑a2.2.length : Int) > (100 : Int)) then (F22 k ()).bind fun r => some r else (F25 k (a0, a1.1, a1.2, ())).bind fun r => bif r.snd.fst != (0 : Int) then (F22 k ()).bind fun r => some r else (F25 k (r.fst, a1.1, a1.2, ())).bind fun r_1 => bif r_1.snd.fst != (0 : Int) then some false else bif !decide (r.fst = r_1.fst) then some false else (F25 k (r.fst, a2.1, a2.2, ())).bind fun r => (F25 k (a0, a2.1, a2.2, ())).bind fun r_2 => bif r.snd.fst != r_2.snd.fst then some false else bif r.snd.fst != (0 : Int) then (F22 k ()).bind fun r => some r else bif decide (IntKind.i64.wrap (a1.1 + (↑a1.2.length : Int)) > a2.1) then bif decide (IntKind.i64.wrap (a2.1 + (↑a2.2.length : Int)) > a1.1) then (F22 k ()).bind fun r => some r else (F25 k (r_2.fst, a1.1, a1.2, ())).bind fun r_3 => bif r_3.snd.fst == (0 : Int) then bif decide (r_3.fst = r.fst) then (F22 k ()).bind fun r => some r else some false else some false else (F25 k (r_2.fst, a1.1, a1.2, ())).bind fun r_3 => bif r_3.snd.fst == (0 : Int) then bif decide (r_3.fst = r.fst) then (F22 k ()).bind fun r => some r else some false else some false
noncomputable def sp6 : FSpec Ty := spec ag6 rs6 F6
theorem bo6 : Tryd.f6.body = some (bodyOf Tryd.f6) := by kernel_rfl
theorem nd6 : nodupB ((loopsIn (bodyOf Tryd.f6)).map firstRegion) = true := by kernel_rfl
theorem ok6 : FOK Tryd.prog tab 6 sp6 := spec_ok (keeps := kp6) tabOK fs5OK Tryd.func6 bo6 (by kernel_rfl) nd6 (LSOK.none) (F := F6) fun k x => by kernel_rfl
noncomputable def fs6 : Nat → Option (FSpec Ty) := addF 6 sp6 fs5
theorem fs6OK : SpecsOK Tryd.prog tab fs6 := fs5OK.add ok6 Tryd.call6
end Go.Proofs.YtpnnmpdjgnbkhaaDoor.W
