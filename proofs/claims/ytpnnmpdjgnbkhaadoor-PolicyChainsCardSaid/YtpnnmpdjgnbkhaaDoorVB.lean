/-
  The functions that fold.Page calls, as typed functions, and that the program computes them. No conditions. Printed by program.
-/
import Derived.Test.YtpnnmpdjgnbkhaaDoorVI
set_option linter.unusedVariables false
namespace Go.Proofs.YtpnnmpdjgnbkhaaDoor.W.Pg
open Go Go.Proofs V
theorem noFOK : SpecsOK Tryd.prog tab noF := SpecsOK.none cmpOK asOK
def ag30 : Args Ty (Int × ByteArray × Unit) := V.arg (tab.den 33) (V.arg (tab.den 9) (noArgs))
def rs30 : Res Ty tab (GErr) true := V.oneRes (tab.den 48) (ent 48).ids (ent 48).plain (fun _ h => by cases h)
def kp30 : Nat → Keep := fun i => ⟨[], [], 0⟩
/-- "silt/fault.New" -/
def F30 (k : Nat) (x : Int × ByteArray × Unit) : Option (GErr) :=
  match x with
  | (a0, a1, ()) => bif a0 == (0 : Int) then some GErr.nil else some (GErr.flt a1 (GErr.num a0) false)
noncomputable def sp30 : FSpec Ty := spec ag30 rs30 F30
theorem bo30 : Tryd.f30.body = some (bodyOf Tryd.f30) := by kernel_rfl
theorem nd30 : nodupB ((loopsIn (bodyOf Tryd.f30)).map firstRegion) = true := by kernel_rfl
theorem ok30 : FOK Tryd.prog tab 30 sp30 := spec_ok (keeps := kp30) tabOK noFOK Tryd.func30 bo30 (by kernel_rfl) nd30 (LSOK.none) (F := F30) fun k x => by kernel_rfl
noncomputable def fs30 : Nat → Option (FSpec Ty) := addF 30 sp30 noF
theorem fs30OK : SpecsOK Tryd.prog tab fs30 := noFOK.add ok30 Tryd.call30
def ag34 : Args Ty (GErr × ByteArray × Unit) := V.arg (tab.den 48) (V.arg (tab.den 9) (noArgs))
def rs34 : Res Ty tab (GErr) true := V.oneRes (tab.den 48) (ent 48).ids (ent 48).plain (fun _ h => by cases h)
def kp34 : Nat → Keep := fun i => ⟨[], [], 0⟩
/-- "silt/fault.Wrap" -/
def F34 (k : Nat) (x : GErr × ByteArray × Unit) : Option (GErr) :=
  match x with
  | (a0, a1, ()) => bif a0.isNil then some GErr.nil else some (GErr.flt a1 a0 true)
noncomputable def sp34 : FSpec Ty := spec ag34 rs34 F34
theorem bo34 : Tryd.f34.body = some (bodyOf Tryd.f34) := by kernel_rfl
theorem nd34 : nodupB ((loopsIn (bodyOf Tryd.f34)).map firstRegion) = true := by kernel_rfl
theorem ok34 : FOK Tryd.prog tab 34 sp34 := spec_ok (keeps := kp34) tabOK fs30OK Tryd.func34 bo34 (by kernel_rfl) nd34 (LSOK.none) (F := F34) fun k x => by kernel_rfl
noncomputable def fs34 : Nat → Option (FSpec Ty) := addF 34 sp34 fs30
theorem fs34OK : SpecsOK Tryd.prog tab fs34 := fs30OK.add ok34 Tryd.call34
def ag60 : Args Ty (Int × (List Int) × Unit) := V.arg (tab.den 3) (V.arg (tab.den 24) (noArgs))
def rs60 : Res Ty tab (GErr) true := V.oneRes (tab.den 48) (ent 48).ids (ent 48).plain (fun _ h => by cases h)
def kp60 : Nat → Keep := fun i => ⟨[], [], 0⟩
/-- "silt/delta.fits" -/
def F60 (k : Nat) (x : Int × (List Int) × Unit) : Option (GErr) :=
  match x with
  | (a0, a1, ()) => bif decide (a0 < (0 : Int)) then (F30 k ((1 : Int), ByteArray.mk (Array.mk [(98 : UInt8), (121 : UInt8), (116 : UInt8), (101 : UInt8), (115 : UInt8)]), ())).bind fun r => (F34 k (r, ByteArray.mk (Array.mk [(97 : UInt8), (112 : UInt8), (112 : UInt8), (108 : UInt8), (121 : UInt8)]), ())).bind fun r => some r else bif decide ((↑a1.length : Int) < (1 : Int)) then (F30 k ((1 : Int), ByteArray.mk (Array.mk [(98 : UInt8), (121 : UInt8), (116 : UInt8), (101 : UInt8), (115 : UInt8)]), ())).bind fun r => (F34 k (r, ByteArray.mk (Array.mk [(97 : UInt8), (112 : UInt8), (112 : UInt8), (108 : UInt8), (121 : UInt8)]), ())).bind fun r => some r else bif decide ((↑a1.length : Int) > (32 : Int)) then (F30 k ((1 : Int), ByteArray.mk (Array.mk [(98 : UInt8), (121 : UInt8), (116 : UInt8), (101 : UInt8), (115 : UInt8)]), ())).bind fun r => (F34 k (r, ByteArray.mk (Array.mk [(97 : UInt8), (112 : UInt8), (112 : UInt8), (108 : UInt8), (121 : UInt8)]), ())).bind fun r => some r else bif decide (a0 > IntKind.i64.wrap ((32 : Int) - (↑a1.length : Int))) then (F30 k ((1 : Int), ByteArray.mk (Array.mk [(98 : UInt8), (121 : UInt8), (116 : UInt8), (101 : UInt8), (115 : UInt8)]), ())).bind fun r => (F34 k (r, ByteArray.mk (Array.mk [(97 : UInt8), (112 : UInt8), (112 : UInt8), (108 : UInt8), (121 : UInt8)]), ())).bind fun r => some r else some GErr.nil
noncomputable def sp60 : FSpec Ty := spec ag60 rs60 F60
theorem bo60 : Tryd.f60.body = some (bodyOf Tryd.f60) := by kernel_rfl
theorem nd60 : nodupB ((loopsIn (bodyOf Tryd.f60)).map firstRegion) = true := by kernel_rfl
theorem ok60 : FOK Tryd.prog tab 60 sp60 := spec_ok (keeps := kp60) tabOK fs34OK Tryd.func60 bo60 (by kernel_rfl) nd60 (LSOK.none) (F := F60) fun k x => by kernel_rfl
noncomputable def fs60 : Nat → Option (FSpec Ty) := addF 60 sp60 fs34
theorem fs60OK : SpecsOK Tryd.prog tab fs60 := fs34OK.add ok60 Tryd.call60
def ag25 : Args Ty ((List Int) × Int × (List Int) × Unit) := V.arg (tab.den 23) (V.arg (tab.den 3) (V.arg (tab.den 24) (noArgs)))
def rs25 : Res Ty tab ((List Int) × Int × Unit) false := V.manyRes (V.part (tab.den 23) (ent 23).ids (ent 23).plain (fun x _ => (ent 23).flat x rfl) (V.part (tab.den 33) (ent 33).ids (ent 33).plain (fun x _ => (ent 33).flat x rfl) (noParts)))
def kp25 : Nat → Keep := fun i => ⟨[], [], 0⟩
/-- "silt/delta.Apply" -/
def F25 (k : Nat) (x : (List Int) × Int × (List Int) × Unit) : Option ((List Int) × Int × Unit) :=
  match x with
  | (a0, a1, a2, ()) => (F60 k (a1, a2, ())).bind fun r => bif r.first.isSome then some (List.replicate (32 : Nat) (0 : Int), r.first.getD (0 : Int), ()) else bif decide ((0 : Int) ≤ a1) && decide (a1 ≤ (↑(32 : Nat) : Int)) && decide ((↑(32 : Nat) : Int) ≤ (↑(32 : Nat) : Int)) then some (splice a0 a2 a1.toNat (min a2.length ((↑(32 : Nat) : Int) - a1).toNat), (0 : Int), ()) else none
noncomputable def sp25 : FSpec Ty := spec ag25 rs25 F25
theorem bo25 : Tryd.f25.body = some (bodyOf Tryd.f25) := by kernel_rfl
theorem nd25 : nodupB ((loopsIn (bodyOf Tryd.f25)).map firstRegion) = true := by kernel_rfl
theorem ok25 : FOK Tryd.prog tab 25 sp25 := spec_ok (keeps := kp25) tabOK fs60OK Tryd.func25 bo25 (by kernel_rfl) nd25 (LSOK.none) (F := F25) fun k x => by kernel_rfl
noncomputable def fs25 : Nat → Option (FSpec Ty) := addF 25 sp25 fs60
theorem fs25OK : SpecsOK Tryd.prog tab fs25 := fs60OK.add ok25 Tryd.call25
def ag75 : Args Ty (T89 × Unit) := V.arg (tab.den 90) (noArgs)
def rs75 : Res Ty tab (Bool) false := V.oneRes (tab.den 4) (ent 4).ids (ent 4).plain (fun x _ => (ent 4).flat x rfl)
def kp75 : Nat → Keep := fun i => ⟨[], [], 0⟩
/-- "silt/block.plain" -/
def F75 (k : Nat) (x : T89 × Unit) : Option (Bool) :=
  match x with
  | (a0, ()) => bif a0.4 == (0 : Int) then bif (↑a0.5.length : Int) == (0 : Int) then bif a0.1 == (1 : Int) then bif decide (a0.7 = List.replicate (8 : Nat) (0 : Int)) then some (a0.6 == (0 : Int)) else some false else bif a0.1 == (2 : Int) then bif decide (a0.7 = List.replicate (8 : Nat) (0 : Int)) then some (decide (a0.3 = List.replicate (32 : Nat) (0 : Int))) else some false else bif decide (a0.3 = List.replicate (32 : Nat) (0 : Int)) then some (a0.6 == (0 : Int)) else some false else bif a0.1 == (1 : Int) then bif decide (a0.7 = List.replicate (8 : Nat) (0 : Int)) then some false else some false else bif a0.1 == (2 : Int) then bif decide (a0.7 = List.replicate (8 : Nat) (0 : Int)) then some (decide (a0.3 = List.replicate (32 : Nat) (0 : Int))) else some false else bif decide (a0.3 = List.replicate (32 : Nat) (0 : Int)) then some false else some false else bif a0.1 == (1 : Int) then bif decide (a0.7 = List.replicate (8 : Nat) (0 : Int)) then some false else some false else bif a0.1 == (2 : Int) then bif decide (a0.7 = List.replicate (8 : Nat) (0 : Int)) then some (decide (a0.3 = List.replicate (32 : Nat) (0 : Int))) else some false else bif decide (a0.3 = List.replicate (32 : Nat) (0 : Int)) then some false else some false
noncomputable def sp75 : FSpec Ty := spec ag75 rs75 F75
theorem bo75 : Tryd.f75.body = some (bodyOf Tryd.f75) := by kernel_rfl
theorem nd75 : nodupB ((loopsIn (bodyOf Tryd.f75)).map firstRegion) = true := by kernel_rfl
theorem ok75 : FOK Tryd.prog tab 75 sp75 := spec_ok (keeps := kp75) tabOK fs25OK Tryd.func75 bo75 (by kernel_rfl) nd75 (LSOK.none) (F := F75) fun k x => by kernel_rfl
noncomputable def fs75 : Nat → Option (FSpec Ty) := addF 75 sp75 fs25
theorem fs75OK : SpecsOK Tryd.prog tab fs75 := fs25OK.add ok75 Tryd.call75
def ag76 : Args Ty (Int × Unit) := V.arg (tab.den 3) (noArgs)
def rs76 : Res Ty tab (Bool) false := V.oneRes (tab.den 4) (ent 4).ids (ent 4).plain (fun x _ => (ent 4).flat x rfl)
def kp76 : Nat → Keep := fun i => ⟨[], [], 0⟩
/-- "silt/block.head" -/
def F76 (k : Nat) (x : Int × Unit) : Option (Bool) :=
  match x with
  | (a0, ()) => bif a0 == (0 : Int) then some true else bif a0 == (1 : Int) then some true else bif decide (a0 ≥ (4 : Int)) then some (decide (a0 ≤ (1023 : Int))) else some false
noncomputable def sp76 : FSpec Ty := spec ag76 rs76 F76
theorem bo76 : Tryd.f76.body = some (bodyOf Tryd.f76) := by kernel_rfl
theorem nd76 : nodupB ((loopsIn (bodyOf Tryd.f76)).map firstRegion) = true := by kernel_rfl
theorem ok76 : FOK Tryd.prog tab 76 sp76 := spec_ok (keeps := kp76) tabOK fs75OK Tryd.func76 bo76 (by kernel_rfl) nd76 (LSOK.none) (F := F76) fun k x => by kernel_rfl
noncomputable def fs76 : Nat → Option (FSpec Ty) := addF 76 sp76 fs75
theorem fs76OK : SpecsOK Tryd.prog tab fs76 := fs75OK.add ok76 Tryd.call76
def ag78 : Args Ty (Int × Unit) := V.arg (tab.den 3) (noArgs)
def rs78 : Res Ty tab (Bool) false := V.oneRes (tab.den 4) (ent 4).ids (ent 4).plain (fun x _ => (ent 4).flat x rfl)
def kp78 : Nat → Keep := fun i => ⟨[], [], 0⟩
/-- "silt/block.Good$1" -/
def F78 (k : Nat) (x : Int × Unit) : Option (Bool) :=
  match x with
  | (a0, ()) => (F76 k (a0, ())).bind fun r => some !r
noncomputable def sp78 : FSpec Ty := spec ag78 rs78 F78
theorem bo78 : Tryd.f78.body = some (bodyOf Tryd.f78) := by kernel_rfl
theorem nd78 : nodupB ((loopsIn (bodyOf Tryd.f78)).map firstRegion) = true := by kernel_rfl
theorem ok78 : FOK Tryd.prog tab 78 sp78 := spec_ok (keeps := kp78) tabOK fs76OK Tryd.func78 bo78 (by kernel_rfl) nd78 (LSOK.none) (F := F78) fun k x => by kernel_rfl
noncomputable def fs78 : Nat → Option (FSpec Ty) := addF 78 sp78 fs76
theorem fs78OK : SpecsOK Tryd.prog tab fs78 := fs76OK.add ok78 Tryd.call78
def ag95 : Args Ty ((List Int) × Unit × Unit) := V.arg (tab.den 97) (V.arg (tab.den 143) (noArgs))
def rs95 : Res Ty tab (Int) false := V.oneRes (tab.den 3) (ent 3).ids (ent 3).plain (fun x _ => (ent 3).flat x rfl)
def of95_2 : List Int × Int × Int → NSt Ty := fun x => ⟨[.slice 3 (x.1), .func 78, .int .i64 (x.2.1), .int .i64 (x.2.2)], []⟩
def ab95_2 : (n : NSt Ty) → Option {x : List Int × Int × Int // of95_2 x = n}
  | ⟨[.slice 3 v0, .func 78, .int .i64 v1, .int .i64 v2], []⟩ => some ⟨(v0, v1, v2), rfl⟩
  | _ => none
def on95_2a : Int → NSt Ty := fun x => ⟨[.int .i64 (x)], []⟩
def on95_2b : Unit → NSt Ty := fun x => ⟨[.undef], []⟩
def oa95_2 : (e : Ex) → (n : NSt Ty) → Option {y : (Int) ⊕ (Unit) // oe2 .ret (.exit 0) y = e ∧ on2 on95_2a on95_2b y = n}
  | .ret, ⟨[.int .i64 v0], []⟩ => some ⟨.inl v0, rfl, rfl⟩
  | .exit 0, ⟨[.undef], []⟩ => some ⟨.inr (), rfl, rfl⟩
  | _, _ => none
/-- a round of the loop 2 of function 95 -/
def R95_2 (k : Nat) (again : List Int × Int × Int → Option ((Int) ⊕ (Unit))) (x : List Int × Int × Int) : Option ((Int) ⊕ (Unit)) :=
  match x with
  | (v0, v1, v2) => bif decide (v2 < v1) then bif inRange v2 v0.length then (F78 k (v0.getD v2.toNat (0 : Int), ())).bind fun r => bif r then some (Sum.inl v2) else again (v0, v1, IntKind.i64.wrap (v2 + (1 : Int))) else none else some (Sum.inr ())
def L95_2 (k n : Nat) (x : List Int × Int × Int) : Option ((Int) ⊕ (Unit)) := iterR (R95_2 k) n x
noncomputable def ls95_2 : Nat → Option (LSum Ty) := addL 2 (lsum2 of95_2 ab95_2 L95_2 .ret on95_2a (.exit 0) on95_2b) noL
def kp95 : Nat → Keep := fun i => cond (i == 2) ⟨[0, 1, 7, 8], [4], 0⟩ (⟨[], [], 0⟩)
/-- "slices.IndexFunc[[]int,int]" -/
def F95 (k : Nat) (x : (List Int) × Unit × Unit) : Option (Int) :=
  match x with
  | (a0, a1, ()) => (L95_2 k k (a0, (↑a0.length : Int), (0 : Int))).bind fun r => sumK r (fun a => some a) fun b => some (-1 : Int)
noncomputable def sp95 : FSpec Ty := spec ag95 rs95 F95
theorem bo95 : Tryd.f95.body = some (bodyOf Tryd.f95) := by kernel_rfl
theorem nd95 : nodupB ((loopsIn (bodyOf Tryd.f95)).map firstRegion) = true := by kernel_rfl
theorem lo95_2 : LSOK fs78 kp95 tab Tryd.f95 ls95_2 := lsum2_ok bo95 nd95 (LSOK.none) oa95_2 (R := R95_2) fun k again x => by kernel_rfl
theorem ok95 : FOK Tryd.prog tab 95 sp95 := spec_ok (keeps := kp95) tabOK fs78OK Tryd.func95 bo95 (by kernel_rfl) nd95 (lo95_2) (F := F95) fun k x => by kernel_rfl
noncomputable def fs95 : Nat → Option (FSpec Ty) := addF 95 sp95 fs78
theorem fs95OK : SpecsOK Tryd.prog tab fs95 := fs78OK.add ok95 Tryd.call95
def ag77 : Args Ty ((List Int) × Unit × Unit) := V.arg (tab.den 97) (V.arg (tab.den 143) (noArgs))
def rs77 : Res Ty tab (Bool) false := V.oneRes (tab.den 4) (ent 4).ids (ent 4).plain (fun x _ => (ent 4).flat x rfl)
def kp77 : Nat → Keep := fun i => ⟨[], [], 0⟩
/-- "slices.ContainsFunc[[]int,int]" -/
def F77 (k : Nat) (x : (List Int) × Unit × Unit) : Option (Bool) :=
  match x with
  | (a0, a1, ()) => (F95 k (a0, (), ())).bind fun r => some (decide (r ≥ (0 : Int)))
noncomputable def sp77 : FSpec Ty := spec ag77 rs77 F77
theorem bo77 : Tryd.f77.body = some (bodyOf Tryd.f77) := by kernel_rfl
theorem nd77 : nodupB ((loopsIn (bodyOf Tryd.f77)).map firstRegion) = true := by kernel_rfl
theorem ok77 : FOK Tryd.prog tab 77 sp77 := spec_ok (keeps := kp77) tabOK fs95OK Tryd.func77 bo77 (by kernel_rfl) nd77 (LSOK.none) (F := F77) fun k x => by kernel_rfl
noncomputable def fs77 : Nat → Option (FSpec Ty) := addF 77 sp77 fs95
theorem fs77OK : SpecsOK Tryd.prog tab fs77 := fs95OK.add ok77 Tryd.call77
def ag47 : Args Ty (T89 × Unit) := V.arg (tab.den 90) (noArgs)
def rs47 : Res Ty tab (Bool) false := V.oneRes (tab.den 4) (ent 4).ids (ent 4).plain (fun x _ => (ent 4).flat x rfl)
def kp47 : Nat → Keep := fun i => ⟨[], [], 0⟩
/-- "silt/block.Good" -/
def F47 (k : Nat) (x : T89 × Unit) : Option (Bool) :=
  match x with
  | (a0, ()) => bif decide (a0.2 < (0 : Int)) then some false else (F75 k (T89.mk a0.1 a0.2 a0.3 a0.4 a0.5 a0.6 a0.7, ())).bind fun r => bif !r then some false else bif a0.1 == (2 : Int) then bif decide (a0.4 < (0 : Int)) then some false else bif decide ((↑a0.5.length : Int) < (1 : Int)) then some false else bif decide ((↑a0.5.length : Int) > (16 : Int)) then some false else bif decide (a0.4 > IntKind.i64.wrap ((32 : Int) - (↑a0.5.length : Int))) then some false else bif a0.6 == (0 : Int) then some false else (F76 k (a0.6, ())).bind fun r => bif !r then some false else some (decide (a0.2 < (64 : Int))) else bif a0.1 == (1 : Int) then some (decide (a0.2 < (64 : Int))) else bif a0.1 == (3 : Int) then bif decide (a0.2 < (8 : Int)) then (F77 k (List.take ((↑(8 : Nat) : Int) - (0 : Int)).toNat (List.drop (Int.toNat (0 : Int)) a0.7), (), ())).bind fun r => some !r else some false else some false
noncomputable def sp47 : FSpec Ty := spec ag47 rs47 F47
theorem bo47 : Tryd.f47.body = some (bodyOf Tryd.f47) := by kernel_rfl
theorem nd47 : nodupB ((loopsIn (bodyOf Tryd.f47)).map firstRegion) = true := by kernel_rfl
theorem ok47 : FOK Tryd.prog tab 47 sp47 := spec_ok (keeps := kp47) tabOK fs77OK Tryd.func47 bo47 (by kernel_rfl) nd47 (LSOK.none) (F := F47) fun k x => by kernel_rfl
noncomputable def fs47 : Nat → Option (FSpec Ty) := addF 47 sp47 fs77
theorem fs47OK : SpecsOK Tryd.prog tab fs47 := fs77OK.add ok47 Tryd.call47
def ag96 : Args Ty (T89 × Int × Bool × Unit) := V.arg (tab.den 90) (V.arg (tab.den 3) (V.arg (tab.den 4) (noArgs)))
def rs96 : Res Ty tab (GErr) true := V.oneRes (tab.den 48) (ent 48).ids (ent 48).plain (fun _ h => by cases h)
def kp96 : Nat → Keep := fun i => ⟨[], [], 0⟩
/-- "silt/fold.link" -/
def F96 (k : Nat) (x : T89 × Int × Bool × Unit) : Option (GErr) :=
  match x with
  | (a0, a1, a2, ()) => (F47 k (T89.mk a0.1 a0.2 a0.3 a0.4 a0.5 a0.6 a0.7, ())).bind fun r => bif !r then (F30 k ((11 : Int), ByteArray.mk (Array.mk [(98 : UInt8), (108 : UInt8), (111 : UInt8), (99 : UInt8), (107 : UInt8)]), ())).bind fun r => some r else bif a0.2 != a1 then (F30 k ((11 : Int), ByteArray.mk (Array.mk [(98 : UInt8), (108 : UInt8), (111 : UInt8), (99 : UInt8), (107 : UInt8)]), ())).bind fun r => some r else bif a0.1 == (2 : Int) then bif (a0.6 == (1 : Int)) == a2 then some GErr.nil else bif a0.1 == (1 : Int) then bif a2 then some GErr.nil else (F30 k ((11 : Int), ByteArray.mk (Array.mk [(101 : UInt8), (110 : UInt8), (100 : UInt8)]), ())).bind fun r => some r else (F30 k ((11 : Int), ByteArray.mk (Array.mk [(101 : UInt8), (110 : UInt8), (100 : UInt8)]), ())).bind fun r => some r else bif a0.1 == (1 : Int) then bif a2 then some GErr.nil else (F30 k ((11 : Int), ByteArray.mk (Array.mk [(101 : UInt8), (110 : UInt8), (100 : UInt8)]), ())).bind fun r => some r else (F30 k ((11 : Int), ByteArray.mk (Array.mk [(101 : UInt8), (110 : UInt8), (100 : UInt8)]), ())).bind fun r => some r
noncomputable def sp96 : FSpec Ty := spec ag96 rs96 F96
theorem bo96 : Tryd.f96.body = some (bodyOf Tryd.f96) := by kernel_rfl
theorem nd96 : nodupB ((loopsIn (bodyOf Tryd.f96)).map firstRegion) = true := by kernel_rfl
theorem ok96 : FOK Tryd.prog tab 96 sp96 := spec_ok (keeps := kp96) tabOK fs47OK Tryd.func96 bo96 (by kernel_rfl) nd96 (LSOK.none) (F := F96) fun k x => by kernel_rfl
noncomputable def fs96 : Nat → Option (FSpec Ty) := addF 96 sp96 fs47
theorem fs96OK : SpecsOK Tryd.prog tab fs96 := fs47OK.add ok96 Tryd.call96
def ag85 : Args Ty ((List T89) × Unit) := V.arg (tab.den 100) (noArgs)
def rs85 : Res Ty tab (GErr) true := V.oneRes (tab.den 48) (ent 48).ids (ent 48).plain (fun _ h => by cases h)
def of85_4 : List T89 × List T89 × Int × Int → NSt Ty := fun x => ⟨[.slice 90 (x.1), .slice 90 (x.2.1), .int .i64 (x.2.2.1), .int .i64 (x.2.2.2)], []⟩
def ab85_4 : (n : NSt Ty) → Option {x : List T89 × List T89 × Int × Int // of85_4 x = n}
  | ⟨[.slice 90 v0, .slice 90 v1, .int .i64 v2, .int .i64 v3], []⟩ => some ⟨(v0, v1, v2, v3), rfl⟩
  | _ => none
def on85_4a : GErr → NSt Ty := fun x => ⟨[.err (x)], []⟩
def on85_4b : Unit → NSt Ty := fun x => ⟨[.undef], []⟩
def oa85_4 : (e : Ex) → (n : NSt Ty) → Option {y : (GErr) ⊕ (Unit) // oe2 .ret (.exit 0) y = e ∧ on2 on85_4a on85_4b y = n}
  | .ret, ⟨[.err v0], []⟩ => some ⟨.inl v0, rfl, rfl⟩
  | .exit 0, ⟨[.undef], []⟩ => some ⟨.inr (), rfl, rfl⟩
  | _, _ => none
/-- a round of the loop 4 of function 85 -/
def R85_4 (k : Nat) (again : List T89 × List T89 × Int × Int → Option ((GErr) ⊕ (Unit))) (x : List T89 × List T89 × Int × Int) : Option ((GErr) ⊕ (Unit)) :=
  match x with
  | (v0, v1, v2, v3) => bif decide (v3 < v2) then bif inRange v3 v1.length then bif inRange (0 : Int) v0.length then (F96 k (T89.mk (v1.getD v3.toNat (T89.mk (0 : Int) (0 : Int) (List.replicate (32 : Nat) (0 : Int)) (0 : Int) [] (0 : Int) (List.replicate (8 : Nat) (0 : Int)))).1 (v1.getD v3.toNat (T89.mk (0 : Int) (0 : Int) (List.replicate (32 : Nat) (0 : Int)) (0 : Int) [] (0 : Int) (List.replicate (8 : Nat) (0 : Int)))).2 (v1.getD v3.toNat (T89.mk (0 : Int) (0 : Int) (List.replicate (32 : Nat) (0 : Int)) (0 : Int) [] (0 : Int) (List.replicate (8 : Nat) (0 : Int)))).3 (v1.getD v3.toNat (T89.mk (0 : Int) (0 : Int) (List.replicate (32 : Nat) (0 : Int)) (0 : Int) [] (0 : Int) (List.replicate (8 : Nat) (0 : Int)))).4 (v1.getD v3.toNat (T89.mk (0 : Int) (0 : Int) (List.replicate (32 : Nat) (0 : Int)) (0 : Int) [] (0 : Int) (List.replicate (8 : Nat) (0 : Int)))).5 (v1.getD v3.toNat (T89.mk (0 : Int) (0 : Int) (List.replicate (32 : Nat) (0 : Int)) (0 : Int) [] (0 : Int) (List.replicate (8 : Nat) (0 : Int)))).6 (v1.getD v3.toNat (T89.mk (0 : Int) (0 : Int) (List.replicate (32 : Nat) (0 : Int)) (0 : Int) [] (0 : Int) (List.replicate (8 : Nat) (0 : Int)))).7, (v0.getD (Int.toNat (0 : Int)) (T89.mk (0 : Int) (0 : Int) (List.replicate (32 : Nat) (0 : Int)) (0 : Int) [] (0 : Int) (List.replicate (8 : Nat) (0 : Int)))).2, v3 == IntKind.i64.wrap ((↑v0.length : Int) - (1 : Int)), ())).bind fun r => bif !r.isNil then (F34 k (r, ByteArray.mk (Array.mk [(99 : UInt8), (104 : UInt8), (97 : UInt8), (105 : UInt8), (110 : UInt8)]), ())).bind fun r => some (Sum.inl r) else again (v0, v1, v2, IntKind.i64.wrap (v3 + (1 : Int))) else none else none else some (Sum.inr ())
def L85_4 (k n : Nat) (x : List T89 × List T89 × Int × Int) : Option ((GErr) ⊕ (Unit)) := iterR (R85_4 k) n x
noncomputable def ls85_4 : Nat → Option (LSum Ty) := addL 4 (lsum2 of85_4 ab85_4 L85_4 .ret on85_4a (.exit 0) on85_4b) noL
def kp85 : Nat → Keep := fun i => cond (i == 4) ⟨[0, 10, 11, 12], [2], 0⟩ (⟨[], [], 0⟩)
/-- "silt/fold.wrong" -/
def F85 (k : Nat) (x : (List T89) × Unit) : Option (GErr) :=
  match x with
  | (a0, ()) => bif decide ((↑a0.length : Int) > (3 : Int)) then (F30 k ((11 : Int), ByteArray.mk (Array.mk [(108 : UInt8), (111 : UInt8), (110 : UInt8), (103 : UInt8)]), ())).bind fun r => some r else (L85_4 k k (a0, a0, (↑a0.length : Int), (0 : Int))).bind fun r => sumK r (fun a => some a) fun b => some GErr.nil
noncomputable def sp85 : FSpec Ty := spec ag85 rs85 F85
theorem bo85 : Tryd.f85.body = some (bodyOf Tryd.f85) := by kernel_rfl
theorem nd85 : nodupB ((loopsIn (bodyOf Tryd.f85)).map firstRegion) = true := by kernel_rfl
theorem lo85_4 : LSOK fs96 kp85 tab Tryd.f85 ls85_4 := lsum2_ok bo85 nd85 (LSOK.none) oa85_4 (R := R85_4) fun k again x => by kernel_rfl
theorem ok85 : FOK Tryd.prog tab 85 sp85 := spec_ok (keeps := kp85) tabOK fs96OK Tryd.func85 bo85 (by kernel_rfl) nd85 (lo85_4) (F := F85) fun k x => by kernel_rfl
noncomputable def fs85 : Nat → Option (FSpec Ty) := addF 85 sp85 fs96
theorem fs85OK : SpecsOK Tryd.prog tab fs85 := fs96OK.add ok85 Tryd.call85
def ag61 : Args Ty (GErr × GErr × Unit) := V.arg (tab.den 48) (V.arg (tab.den 48) noArgs)
def rs61 : Res Ty tab Bool false := V.oneRes (tab.den 4) (ent 4).ids (ent 4).plain (fun x _ => (ent 4).flat x rfl)
/-- errors.Is -/
def F61 : Nat → (GErr × GErr × Unit) → Option Bool := errIsF
noncomputable def sp61 : FSpec Ty := spec ag61 rs61 F61
theorem ok61 : FOK Tryd.prog tab 61 sp61 := errIs_ok (A := ag61) (B := rs61) (fun _ _ => rfl) (fun _ => rfl) (fun _ _ n e x h => is_calls n e x h)
noncomputable def fs61 : Nat → Option (FSpec Ty) := addF 61 sp61 fs85
theorem fs61OK : SpecsOK Tryd.prog tab fs61 := fs85OK.add ok61 Tryd.call61
def ag36 : Args Ty (GErr × Int × Unit) := V.arg (tab.den 48) (V.arg (tab.den 33) (noArgs))
def rs36 : Res Ty tab (Bool) false := V.oneRes (tab.den 4) (ent 4).ids (ent 4).plain (fun x _ => (ent 4).flat x rfl)
def kp36 : Nat → Keep := fun i => ⟨[], [], 0⟩
/-- "silt/fault.Is" -/
def F36 (k : Nat) (x : GErr × Int × Unit) : Option (Bool) :=
  match x with
  | (a0, a1, ()) => bif a0.isNil then some (a1 == (0 : Int)) else (F61 k (a0, GErr.num a1, ())).bind fun r => some r
noncomputable def sp36 : FSpec Ty := spec ag36 rs36 F36
theorem bo36 : Tryd.f36.body = some (bodyOf Tryd.f36) := by kernel_rfl
theorem nd36 : nodupB ((loopsIn (bodyOf Tryd.f36)).map firstRegion) = true := by kernel_rfl
theorem ok36 : FOK Tryd.prog tab 36 sp36 := spec_ok (keeps := kp36) tabOK fs61OK Tryd.func36 bo36 (by kernel_rfl) nd36 (LSOK.none) (F := F36) fun k x => by kernel_rfl
noncomputable def fs36 : Nat → Option (FSpec Ty) := addF 36 sp36 fs61
theorem fs36OK : SpecsOK Tryd.prog tab fs36 := fs61OK.add ok36 Tryd.call36
end Go.Proofs.YtpnnmpdjgnbkhaaDoor.W.Pg
