/-
  The functions that the statement reaches, as typed functions, and that the program computes them. No conditions. Printed by program.
-/
import Derived.Test.YtpnnmpdjgnbkhaaDoorVI
set_option linter.unusedVariables false
namespace Go.Proofs.YtpnnmpdjgnbkhaaDoor.W
open Go Go.Proofs V
theorem noFOK : SpecsOK Tryd.prog tab noF := SpecsOK.none cmpOK asOK
def ag71 : Args Ty (Unit) := noArgs
def rs71 : Res Ty tab (T64) false := V.oneRes (tab.den 65) (ent 65).ids (ent 65).plain (fun x _ => (ent 65).flat x rfl)
def kp71 : Nat → Keep := fun i => ⟨[], []⟩
/-- "silt/siltlaw03.Small" -/
def F71 (k : Nat) (x : Unit) : Option (T64) :=
  match x with
  | () => some (T64.mk (16 : Int) (8 : Int) (24 : Int) (4 : Int))
noncomputable def sp71 : FSpec Ty := spec ag71 rs71 F71
theorem bo71 : Tryd.f71.body = some (bodyOf Tryd.f71) := by kernel_rfl
theorem nd71 : nodupB ((loopsIn (bodyOf Tryd.f71)).map firstRegion) = true := by kernel_rfl
theorem ok71 : FOK Tryd.prog tab 71 sp71 := spec_ok (keeps := kp71) tabOK noFOK Tryd.func71 bo71 (by kernel_rfl) nd71 (LSOK.none) (F := F71) fun k x => by kernel_rfl
noncomputable def fs71 : Nat → Option (FSpec Ty) := addF 71 sp71 noF
theorem fs71OK : SpecsOK Tryd.prog tab fs71 := noFOK.add ok71 Tryd.call71
def ag82 : Args Ty (T64 × Unit) := V.arg (tab.den 65) (noArgs)
def rs82 : Res Ty tab (Bool) false := V.oneRes (tab.den 4) (ent 4).ids (ent 4).plain (fun x _ => (ent 4).flat x rfl)
def kp82 : Nat → Keep := fun i => ⟨[], []⟩
/-- "silt/plan.Good" -/
def F82 (k : Nat) (x : T64 × Unit) : Option (Bool) :=
  match x with
  | (a0, ()) => bif decide (a0.1 ≥ (1 : Int)) then bif decide (a0.1 ≤ (64 : Int)) then bif decide (a0.2 ≥ (6 : Int)) then bif decide (a0.2 ≤ (16 : Int)) then bif decide (a0.3 ≥ (24 : Int)) then bif decide (a0.3 ≤ (32 : Int)) then bif decide (a0.4 ≥ (2 : Int)) then some (decide (a0.4 ≤ (16 : Int))) else some false else some false else some false else some false else some false else some false else some false
noncomputable def sp82 : FSpec Ty := spec ag82 rs82 F82
theorem bo82 : Tryd.f82.body = some (bodyOf Tryd.f82) := by kernel_rfl
theorem nd82 : nodupB ((loopsIn (bodyOf Tryd.f82)).map firstRegion) = true := by kernel_rfl
theorem ok82 : FOK Tryd.prog tab 82 sp82 := spec_ok (keeps := kp82) tabOK fs71OK Tryd.func82 bo82 (by kernel_rfl) nd82 (LSOK.none) (F := F82) fun k x => by kernel_rfl
noncomputable def fs82 : Nat → Option (FSpec Ty) := addF 82 sp82 fs71
theorem fs82OK : SpecsOK Tryd.prog tab fs82 := fs71OK.add ok82 Tryd.call82
def ag30 : Args Ty (Int × ByteArray × Unit) := V.arg (tab.den 33) (V.arg (tab.den 9) (noArgs))
def rs30 : Res Ty tab (GErr) true := V.oneRes (tab.den 48) (ent 48).ids (ent 48).plain (fun _ h => by cases h)
def kp30 : Nat → Keep := fun i => ⟨[], []⟩
/-- "silt/fault.New" -/
def F30 (k : Nat) (x : Int × ByteArray × Unit) : Option (GErr) :=
  match x with
  | (a0, a1, ()) => bif a0 == (0 : Int) then some GErr.nil else some (GErr.flt a1 (GErr.num a0) false)
noncomputable def sp30 : FSpec Ty := spec ag30 rs30 F30
theorem bo30 : Tryd.f30.body = some (bodyOf Tryd.f30) := by kernel_rfl
theorem nd30 : nodupB ((loopsIn (bodyOf Tryd.f30)).map firstRegion) = true := by kernel_rfl
theorem ok30 : FOK Tryd.prog tab 30 sp30 := spec_ok (keeps := kp30) tabOK fs82OK Tryd.func30 bo30 (by kernel_rfl) nd30 (LSOK.none) (F := F30) fun k x => by kernel_rfl
noncomputable def fs30 : Nat → Option (FSpec Ty) := addF 30 sp30 fs82
theorem fs30OK : SpecsOK Tryd.prog tab fs30 := fs82OK.add ok30 Tryd.call30
def ag81 : Args Ty ((List Int) × Unit) := V.arg (tab.den 97) (noArgs)
def rs81 : Res Ty tab ((List T89)) true := V.oneRes (tab.den 100) (ent 100).ids (ent 100).plain (fun _ h => by cases h)
def of81_3 : List Int × Int × List T89 → NSt Ty := fun x => ⟨[.slice 3 (x.1), .row 100000, .int .i64 (x.2.1)], [.row 90 (x.2.2)]⟩
def ab81_3 : (n : NSt Ty) → Option {x : List Int × Int × List T89 // of81_3 x = n}
  | ⟨[.slice 3 v0, .row 100000, .int .i64 v1], [.row 90 v2]⟩ => some ⟨(v0, v1, v2), rfl⟩
  | _ => none
def oe81_3 : List T89 → Ex := fun _ => .exit 0
def on81_3 : List T89 → NSt Ty := fun x => ⟨[.row 100000], [.row 90 (x)]⟩
def oa81_3 : (e : Ex) → (n : NSt Ty) → Option {y : List T89 // oe81_3 y = e ∧ on81_3 y = n}
  | .exit 0, ⟨[.row 100000], [.row 90 v0]⟩ => some ⟨v0, rfl, rfl⟩
  | _, _ => none
/-- a round of the loop 3 of function 81 -/
def R81_3 (k : Nat) (again : List Int × Int × List T89 → Option (List T89)) (x : List Int × Int × List T89) : Option (List T89) :=
  match x with
  | (v0, v1, v2) => bif decide (v1 < (↑v0.length : Int)) then bif decide ((0 : Int) ≤ v1) && decide (v1 ≤ (↑v0.length : Int)) && decide ((↑v0.length : Int) ≤ (↑v0.length : Int)) then bif decide (v2.length + ((List.replicate (1 : Nat) (T89.mk (0 : Int) (0 : Int) (List.replicate (32 : Nat) (0 : Int)) (0 : Int) [] (0 : Int) (List.replicate (8 : Nat) (0 : Int)))).set (0 : Nat) (T89.mk (3 : Int) (IntKind.i64.wrap (v1.tdiv (8 : Int))) (List.replicate (32 : Nat) (0 : Int)) (0 : Int) [] (0 : Int) (splice (List.replicate (8 : Nat) (0 : Int)) (List.drop v1.toNat (List.take (↑v0.length : Int).toNat v0)) (Int.toNat (0 : Int)) (min (List.drop v1.toNat (List.take (↑v0.length : Int).toNat v0)).length ((↑(8 : Nat) : Int) - (0 : Int)).toNat)))).length ≤ roomMost) then again (v0, IntKind.i64.wrap (v1 + (8 : Int)), v2 ++ (List.replicate (1 : Nat) (T89.mk (0 : Int) (0 : Int) (List.replicate (32 : Nat) (0 : Int)) (0 : Int) [] (0 : Int) (List.replicate (8 : Nat) (0 : Int)))).set (0 : Nat) (T89.mk (3 : Int) (IntKind.i64.wrap (v1.tdiv (8 : Int))) (List.replicate (32 : Nat) (0 : Int)) (0 : Int) [] (0 : Int) (splice (List.replicate (8 : Nat) (0 : Int)) (List.drop v1.toNat (List.take (↑v0.length : Int).toNat v0)) (Int.toNat (0 : Int)) (min (List.drop v1.toNat (List.take (↑v0.length : Int).toNat v0)).length ((↑(8 : Nat) : Int) - (0 : Int)).toNat)))) else none else none else some v2
def L81_3 (k n : Nat) (x : List Int × Int × List T89) : Option (List T89) := iterR (R81_3 k) n x
noncomputable def ls81_3 : Nat → Option (LSum Ty) := addL 3 (LSum.of of81_3 ab81_3 L81_3 oe81_3 on81_3) noL
def kp81 : Nat → Keep := fun i => cond (i == 3) ⟨[0, 3, 4], [3]⟩ (⟨[], []⟩)
/-- "silt/mappage.cut" -/
def F81 (k : Nat) (x : (List Int) × Unit) : Option ((List T89)) :=
  match x with
  | (a0, ()) => (L81_3 k k (a0, (0 : Int), [])).bind fun r => some r
noncomputable def sp81 : FSpec Ty := spec ag81 rs81 F81
theorem bo81 : Tryd.f81.body = some (bodyOf Tryd.f81) := by kernel_rfl
theorem nd81 : nodupB ((loopsIn (bodyOf Tryd.f81)).map firstRegion) = true := by kernel_rfl
theorem lo81_3 : LSOK fs30 kp81 tab Tryd.f81 ls81_3 := lsum_ok bo81 nd81 (LSOK.none) oa81_3 (R := R81_3) fun k again x => by kernel_rfl
theorem ok81 : FOK Tryd.prog tab 81 sp81 := spec_ok (keeps := kp81) tabOK fs30OK Tryd.func81 bo81 (by kernel_rfl) nd81 (lo81_3) (F := F81) fun k x => by kernel_rfl
noncomputable def fs81 : Nat → Option (FSpec Ty) := addF 81 sp81 fs30
theorem fs81OK : SpecsOK Tryd.prog tab fs81 := fs30OK.add ok81 Tryd.call81
def ag75 : Args Ty (T89 × Unit) := V.arg (tab.den 90) (noArgs)
def rs75 : Res Ty tab (Bool) false := V.oneRes (tab.den 4) (ent 4).ids (ent 4).plain (fun x _ => (ent 4).flat x rfl)
def kp75 : Nat → Keep := fun i => ⟨[], []⟩
/-- "silt/block.plain" -/
def F75 (k : Nat) (x : T89 × Unit) : Option (Bool) :=
  match x with
  | (a0, ()) => bif a0.4 == (0 : Int) then bif (↑a0.5.length : Int) == (0 : Int) then bif a0.1 == (1 : Int) then bif decide (a0.7 = List.replicate (8 : Nat) (0 : Int)) then some (a0.6 == (0 : Int)) else some false else bif a0.1 == (2 : Int) then bif decide (a0.7 = List.replicate (8 : Nat) (0 : Int)) then some (decide (a0.3 = List.replicate (32 : Nat) (0 : Int))) else some false else bif decide (a0.3 = List.replicate (32 : Nat) (0 : Int)) then some (a0.6 == (0 : Int)) else some false else bif a0.1 == (1 : Int) then bif decide (a0.7 = List.replicate (8 : Nat) (0 : Int)) then some false else some false else bif a0.1 == (2 : Int) then bif decide (a0.7 = List.replicate (8 : Nat) (0 : Int)) then some (decide (a0.3 = List.replicate (32 : Nat) (0 : Int))) else some false else bif decide (a0.3 = List.replicate (32 : Nat) (0 : Int)) then some false else some false else bif a0.1 == (1 : Int) then bif decide (a0.7 = List.replicate (8 : Nat) (0 : Int)) then some false else some false else bif a0.1 == (2 : Int) then bif decide (a0.7 = List.replicate (8 : Nat) (0 : Int)) then some (decide (a0.3 = List.replicate (32 : Nat) (0 : Int))) else some false else bif decide (a0.3 = List.replicate (32 : Nat) (0 : Int)) then some false else some false
noncomputable def sp75 : FSpec Ty := spec ag75 rs75 F75
theorem bo75 : Tryd.f75.body = some (bodyOf Tryd.f75) := by kernel_rfl
theorem nd75 : nodupB ((loopsIn (bodyOf Tryd.f75)).map firstRegion) = true := by kernel_rfl
theorem ok75 : FOK Tryd.prog tab 75 sp75 := spec_ok (keeps := kp75) tabOK fs81OK Tryd.func75 bo75 (by kernel_rfl) nd75 (LSOK.none) (F := F75) fun k x => by kernel_rfl
noncomputable def fs75 : Nat → Option (FSpec Ty) := addF 75 sp75 fs81
theorem fs75OK : SpecsOK Tryd.prog tab fs75 := fs81OK.add ok75 Tryd.call75
def ag76 : Args Ty (Int × Unit) := V.arg (tab.den 3) (noArgs)
def rs76 : Res Ty tab (Bool) false := V.oneRes (tab.den 4) (ent 4).ids (ent 4).plain (fun x _ => (ent 4).flat x rfl)
def kp76 : Nat → Keep := fun i => ⟨[], []⟩
/-- "silt/block.head" -/
def F76 (k : Nat) (x : Int × Unit) : Option (Bool) :=
  match x with
  | (a0, ()) => bif a0 == (0 : Int) then some true else bif a0 == (1 : Int) then some true else bif decide (a0 ≥ (4 : Int)) then some (decide (a0 ≤ (1023 : Int))) else some false
noncomputable def sp76 : FSpec Ty := spec ag76 rs76 F76
theorem bo76 : Tryd.f76.body = some (bodyOf Tryd.f76) := by kernel_rfl
theorem nd76 : nodupB ((loopsIn (bodyOf Tryd.f76)).map firstRegion) = true := by kernel_rfl
theorem ok76 : FOK Tryd.prog tab 76 sp76 := spec_ok (keeps := kp76) tabOK fs75OK Tryd.func76 bo76 (by kernel_rfl) nd76 (LSOK.none) (F := F76) fun k x => by kernel_rfl
noncomputable def fs76 : Nat → Option (FSpec Ty) := addF 76 sp76 fs75
theorem fs76OK : SpecsOK Tryd.prog tab fs76 := fs75OK.add ok76 Tryd.call76
def ag78 : Args Ty (Int × Unit) := V.arg (tab.den 3) (noArgs)
def rs78 : Res Ty tab (Bool) false := V.oneRes (tab.den 4) (ent 4).ids (ent 4).plain (fun x _ => (ent 4).flat x rfl)
def kp78 : Nat → Keep := fun i => ⟨[], []⟩
/-- "silt/block.Good$1" -/
def F78 (k : Nat) (x : Int × Unit) : Option (Bool) :=
  match x with
  | (a0, ()) => (F76 k (a0, ())).bind fun r => some !r
noncomputable def sp78 : FSpec Ty := spec ag78 rs78 F78
theorem bo78 : Tryd.f78.body = some (bodyOf Tryd.f78) := by kernel_rfl
theorem nd78 : nodupB ((loopsIn (bodyOf Tryd.f78)).map firstRegion) = true := by kernel_rfl
theorem ok78 : FOK Tryd.prog tab 78 sp78 := spec_ok (keeps := kp78) tabOK fs76OK Tryd.func78 bo78 (by kernel_rfl) nd78 (LSOK.none) (F := F78) fun k x => by kernel_rfl
noncomputable def fs78 : Nat → Option (FSpec Ty) := addF 78 sp78 fs76
theorem fs78OK : SpecsOK Tryd.prog tab fs78 := fs76OK.add ok78 Tryd.call78
def ag95 : Args Ty ((List Int) × Unit × Unit) := V.arg (tab.den 97) (V.arg (tab.den 143) (noArgs))
def rs95 : Res Ty tab (Int) false := V.oneRes (tab.den 3) (ent 3).ids (ent 3).plain (fun x _ => (ent 3).flat x rfl)
def of95_2 : List Int × Int × Int → NSt Ty := fun x => ⟨[.slice 3 (x.1), .func 78, .int .i64 (x.2.1), .int .i64 (x.2.2)], []⟩
def ab95_2 : (n : NSt Ty) → Option {x : List Int × Int × Int // of95_2 x = n}
  | ⟨[.slice 3 v0, .func 78, .int .i64 v1, .int .i64 v2], []⟩ => some ⟨(v0, v1, v2), rfl⟩
  | _ => none
def on95_2a : Int → NSt Ty := fun x => ⟨[.int .i64 (x)], []⟩
def on95_2b : Unit → NSt Ty := fun x => ⟨[.undef], []⟩
def oa95_2 : (e : Ex) → (n : NSt Ty) → Option {y : (Int) ⊕ (Unit) // oe2 .ret (.exit 0) y = e ∧ on2 on95_2a on95_2b y = n}
  | .ret, ⟨[.int .i64 v0], []⟩ => some ⟨.inl v0, rfl, rfl⟩
  | .exit 0, ⟨[.undef], []⟩ => some ⟨.inr (), rfl, rfl⟩
  | _, _ => none
/-- a round of the loop 2 of function 95 -/
def R95_2 (k : Nat) (again : List Int × Int × Int → Option ((Int) ⊕ (Unit))) (x : List Int × Int × Int) : Option ((Int) ⊕ (Unit)) :=
  match x with
  | (v0, v1, v2) => bif decide (v2 < v1) then bif inRange v2 v0.length then (F78 k (v0.getD v2.toNat (0 : Int), ())).bind fun r => bif r then some (Sum.inl v2) else again (v0, v1, IntKind.i64.wrap (v2 + (1 : Int))) else none else some (Sum.inr ())
def L95_2 (k n : Nat) (x : List Int × Int × Int) : Option ((Int) ⊕ (Unit)) := iterR (R95_2 k) n x
noncomputable def ls95_2 : Nat → Option (LSum Ty) := addL 2 (lsum2 of95_2 ab95_2 L95_2 .ret on95_2a (.exit 0) on95_2b) noL
def kp95 : Nat → Keep := fun i => cond (i == 2) ⟨[0, 1, 7, 8], [4]⟩ (⟨[], []⟩)
/-- "slices.IndexFunc[[]int,int]" -/
def F95 (k : Nat) (x : (List Int) × Unit × Unit) : Option (Int) :=
  match x with
  | (a0, a1, ()) => (L95_2 k k (a0, (↑a0.length : Int), (0 : Int))).bind fun r => sumK r (fun a => some a) fun b => some (-1 : Int)
noncomputable def sp95 : FSpec Ty := spec ag95 rs95 F95
theorem bo95 : Tryd.f95.body = some (bodyOf Tryd.f95) := by kernel_rfl
theorem nd95 : nodupB ((loopsIn (bodyOf Tryd.f95)).map firstRegion) = true := by kernel_rfl
theorem lo95_2 : LSOK fs78 kp95 tab Tryd.f95 ls95_2 := lsum2_ok bo95 nd95 (LSOK.none) oa95_2 (R := R95_2) fun k again x => by kernel_rfl
theorem ok95 : FOK Tryd.prog tab 95 sp95 := spec_ok (keeps := kp95) tabOK fs78OK Tryd.func95 bo95 (by kernel_rfl) nd95 (lo95_2) (F := F95) fun k x => by kernel_rfl
noncomputable def fs95 : Nat → Option (FSpec Ty) := addF 95 sp95 fs78
theorem fs95OK : SpecsOK Tryd.prog tab fs95 := fs78OK.add ok95 Tryd.call95
def ag77 : Args Ty ((List Int) × Unit × Unit) := V.arg (tab.den 97) (V.arg (tab.den 143) (noArgs))
def rs77 : Res Ty tab (Bool) false := V.oneRes (tab.den 4) (ent 4).ids (ent 4).plain (fun x _ => (ent 4).flat x rfl)
def kp77 : Nat → Keep := fun i => ⟨[], []⟩
/-- "slices.ContainsFunc[[]int,int]" -/
def F77 (k : Nat) (x : (List Int) × Unit × Unit) : Option (Bool) :=
  match x with
  | (a0, a1, ()) => (F95 k (a0, (), ())).bind fun r => some (decide (r ≥ (0 : Int)))
noncomputable def sp77 : FSpec Ty := spec ag77 rs77 F77
theorem bo77 : Tryd.f77.body = some (bodyOf Tryd.f77) := by kernel_rfl
theorem nd77 : nodupB ((loopsIn (bodyOf Tryd.f77)).map firstRegion) = true := by kernel_rfl
theorem ok77 : FOK Tryd.prog tab 77 sp77 := spec_ok (keeps := kp77) tabOK fs95OK Tryd.func77 bo77 (by kernel_rfl) nd77 (LSOK.none) (F := F77) fun k x => by kernel_rfl
noncomputable def fs77 : Nat → Option (FSpec Ty) := addF 77 sp77 fs95
theorem fs77OK : SpecsOK Tryd.prog tab fs77 := fs95OK.add ok77 Tryd.call77
def ag47 : Args Ty (T89 × Unit) := V.arg (tab.den 90) (noArgs)
def rs47 : Res Ty tab (Bool) false := V.oneRes (tab.den 4) (ent 4).ids (ent 4).plain (fun x _ => (ent 4).flat x rfl)
def kp47 : Nat → Keep := fun i => ⟨[], []⟩
/-- "silt/block.Good" -/
def F47 (k : Nat) (x : T89 × Unit) : Option (Bool) :=
  match x with
  | (a0, ()) => bif decide (a0.2 < (0 : Int)) then some false else (F75 k (T89.mk a0.1 a0.2 a0.3 a0.4 a0.5 a0.6 a0.7, ())).bind fun r => bif !r then some false else bif a0.1 == (2 : Int) then bif decide (a0.4 < (0 : Int)) then some false else bif decide ((↑a0.5.length : Int) < (1 : Int)) then some false else bif decide ((↑a0.5.length : Int) > (16 : Int)) then some false else bif decide (a0.4 > IntKind.i64.wrap ((32 : Int) - (↑a0.5.length : Int))) then some false else bif a0.6 == (0 : Int) then some false else (F76 k (a0.6, ())).bind fun r => bif !r then some false else some (decide (a0.2 < (64 : Int))) else bif a0.1 == (1 : Int) then some (decide (a0.2 < (64 : Int))) else bif a0.1 == (3 : Int) then bif decide (a0.2 < (8 : Int)) then (F77 k (List.take ((↑(8 : Nat) : Int) - (0 : Int)).toNat (List.drop (Int.toNat (0 : Int)) a0.7), (), ())).bind fun r => some !r else some false else some false
noncomputable def sp47 : FSpec Ty := spec ag47 rs47 F47
theorem bo47 : Tryd.f47.body = some (bodyOf Tryd.f47) := by kernel_rfl
theorem nd47 : nodupB ((loopsIn (bodyOf Tryd.f47)).map firstRegion) = true := by kernel_rfl
theorem ok47 : FOK Tryd.prog tab 47 sp47 := spec_ok (keeps := kp47) tabOK fs77OK Tryd.func47 bo47 (by kernel_rfl) nd47 (LSOK.none) (F := F47) fun k x => by kernel_rfl
noncomputable def fs47 : Nat → Option (FSpec Ty) := addF 47 sp47 fs77
theorem fs47OK : SpecsOK Tryd.prog tab fs47 := fs77OK.add ok47 Tryd.call47
def ag34 : Args Ty (GErr × ByteArray × Unit) := V.arg (tab.den 48) (V.arg (tab.den 9) (noArgs))
def rs34 : Res Ty tab (GErr) true := V.oneRes (tab.den 48) (ent 48).ids (ent 48).plain (fun _ h => by cases h)
def kp34 : Nat → Keep := fun i => ⟨[], []⟩
/-- "silt/fault.Wrap" -/
def F34 (k : Nat) (x : GErr × ByteArray × Unit) : Option (GErr) :=
  match x with
  | (a0, a1, ()) => bif a0.isNil then some GErr.nil else some (GErr.flt a1 a0 true)
noncomputable def sp34 : FSpec Ty := spec ag34 rs34 F34
theorem bo34 : Tryd.f34.body = some (bodyOf Tryd.f34) := by kernel_rfl
theorem nd34 : nodupB ((loopsIn (bodyOf Tryd.f34)).map firstRegion) = true := by kernel_rfl
theorem ok34 : FOK Tryd.prog tab 34 sp34 := spec_ok (keeps := kp34) tabOK fs47OK Tryd.func34 bo34 (by kernel_rfl) nd34 (LSOK.none) (F := F34) fun k x => by kernel_rfl
noncomputable def fs34 : Nat → Option (FSpec Ty) := addF 34 sp34 fs47
theorem fs34OK : SpecsOK Tryd.prog tab fs34 := fs47OK.add ok34 Tryd.call34
def ag80 : Args Ty (T64 × (List Int) × Unit) := V.arg (tab.den 65) (V.arg (tab.den 97) (noArgs))
def rs80 : Res Ty tab (GErr) true := V.oneRes (tab.den 48) (ent 48).ids (ent 48).plain (fun _ h => by cases h)
def of80_4 : List T89 × Int × Int → NSt Ty := fun x => ⟨[.slice 90 (x.1), .int .i64 (x.2.1), .int .i64 (x.2.2)], []⟩
def ab80_4 : (n : NSt Ty) → Option {x : List T89 × Int × Int // of80_4 x = n}
  | ⟨[.slice 90 v0, .int .i64 v1, .int .i64 v2], []⟩ => some ⟨(v0, v1, v2), rfl⟩
  | _ => none
def on80_4a : GErr → NSt Ty := fun x => ⟨[.err (x)], []⟩
def on80_4b : Unit → NSt Ty := fun x => ⟨[.undef], []⟩
def oa80_4 : (e : Ex) → (n : NSt Ty) → Option {y : (GErr) ⊕ (Unit) // oe2 .ret (.exit 0) y = e ∧ on2 on80_4a on80_4b y = n}
  | .ret, ⟨[.err v0], []⟩ => some ⟨.inl v0, rfl, rfl⟩
  | .exit 0, ⟨[.undef], []⟩ => some ⟨.inr (), rfl, rfl⟩
  | _, _ => none
/-- a round of the loop 4 of function 80 -/
def R80_4 (k : Nat) (again : List T89 × Int × Int → Option ((GErr) ⊕ (Unit))) (x : List T89 × Int × Int) : Option ((GErr) ⊕ (Unit)) :=
  match x with
  | (v0, v1, v2) => bif decide (v2 < v1) then bif inRange v2 v0.length then (F47 k (T89.mk (v0.getD v2.toNat (T89.mk (0 : Int) (0 : Int) (List.replicate (32 : Nat) (0 : Int)) (0 : Int) [] (0 : Int) (List.replicate (8 : Nat) (0 : Int)))).1 (v0.getD v2.toNat (T89.mk (0 : Int) (0 : Int) (List.replicate (32 : Nat) (0 : Int)) (0 : Int) [] (0 : Int) (List.replicate (8 : Nat) (0 : Int)))).2 (v0.getD v2.toNat (T89.mk (0 : Int) (0 : Int) (List.replicate (32 : Nat) (0 : Int)) (0 : Int) [] (0 : Int) (List.replicate (8 : Nat) (0 : Int)))).3 (v0.getD v2.toNat (T89.mk (0 : Int) (0 : Int) (List.replicate (32 : Nat) (0 : Int)) (0 : Int) [] (0 : Int) (List.replicate (8 : Nat) (0 : Int)))).4 (v0.getD v2.toNat (T89.mk (0 : Int) (0 : Int) (List.replicate (32 : Nat) (0 : Int)) (0 : Int) [] (0 : Int) (List.replicate (8 : Nat) (0 : Int)))).5 (v0.getD v2.toNat (T89.mk (0 : Int) (0 : Int) (List.replicate (32 : Nat) (0 : Int)) (0 : Int) [] (0 : Int) (List.replicate (8 : Nat) (0 : Int)))).6 (v0.getD v2.toNat (T89.mk (0 : Int) (0 : Int) (List.replicate (32 : Nat) (0 : Int)) (0 : Int) [] (0 : Int) (List.replicate (8 : Nat) (0 : Int)))).7, ())).bind fun r => bif !r then (F30 k ((1 : Int), ByteArray.mk (Array.mk [(104 : UInt8), (101 : UInt8), (97 : UInt8), (100 : UInt8)]), ())).bind fun r => (F34 k (r, ByteArray.mk (Array.mk ([(109 : UInt8), (97 : UInt8), (112 : UInt8), (112 : UInt8), (105 : UInt8), (110 : UInt8), (103 : UInt8), (32 : UInt8), (112 : UInt8), (97 : UInt8), (103 : UInt8), (101 : UInt8), (32 : UInt8)] ++ [].concat (UInt8.ofNat (IntKind.u8.wrap (IntKind.i64.wrap ((48 : Int) + v2))).toNat))), ())).bind fun r => some (Sum.inl r) else again (v0, v1, IntKind.i64.wrap (v2 + (1 : Int))) else none else some (Sum.inr ())
def L80_4 (k n : Nat) (x : List T89 × Int × Int) : Option ((GErr) ⊕ (Unit)) := iterR (R80_4 k) n x
noncomputable def ls80_4 : Nat → Option (LSum Ty) := addL 4 (lsum2 of80_4 ab80_4 L80_4 .ret on80_4a (.exit 0) on80_4b) noL
def kp80 : Nat → Keep := fun i => cond (i == 4) ⟨[19, 20, 21], [4]⟩ (⟨[], []⟩)
/-- "silt/mappage.wrong" -/
def F80 (k : Nat) (x : T64 × (List Int) × Unit) : Option (GErr) :=
  match x with
  | (a0, a1, ()) => (F82 k (T64.mk a0.1 a0.2 a0.3 a0.4, ())).bind fun r => bif !r then (F30 k ((1 : Int), ByteArray.mk (Array.mk [(103 : UInt8), (101 : UInt8), (111 : UInt8), (109 : UInt8), (101 : UInt8), (116 : UInt8), (114 : UInt8), (121 : UInt8)]), ())).bind fun r => some r else bif (↑a1.length : Int) != a0.1 then (F30 k ((1 : Int), ByteArray.mk (Array.mk [(103 : UInt8), (101 : UInt8), (111 : UInt8), (109 : UInt8), (101 : UInt8), (116 : UInt8), (114 : UInt8), (121 : UInt8)]), ())).bind fun r => some r else (F81 k (a1, ())).bind fun r => (L80_4 k k (r, (↑r.length : Int), (0 : Int))).bind fun r => sumK r (fun a => some a) fun b => some GErr.nil
noncomputable def sp80 : FSpec Ty := spec ag80 rs80 F80
theorem bo80 : Tryd.f80.body = some (bodyOf Tryd.f80) := by kernel_rfl
theorem nd80 : nodupB ((loopsIn (bodyOf Tryd.f80)).map firstRegion) = true := by kernel_rfl
theorem lo80_4 : LSOK fs34 kp80 tab Tryd.f80 ls80_4 := lsum2_ok bo80 nd80 (LSOK.none) oa80_4 (R := R80_4) fun k again x => by kernel_rfl
theorem ok80 : FOK Tryd.prog tab 80 sp80 := spec_ok (keeps := kp80) tabOK fs34OK Tryd.func80 bo80 (by kernel_rfl) nd80 (lo80_4) (F := F80) fun k x => by kernel_rfl
noncomputable def fs80 : Nat → Option (FSpec Ty) := addF 80 sp80 fs34
theorem fs80OK : SpecsOK Tryd.prog tab fs80 := fs34OK.add ok80 Tryd.call80
def ag79 : Args Ty (GErr × Unit) := V.arg (tab.den 48) (noArgs)
def rs79 : Res Ty tab (Int) false := V.oneRes (tab.den 33) (ent 33).ids (ent 33).plain (fun x _ => (ent 33).flat x rfl)
def kp79 : Nat → Keep := fun i => ⟨[], []⟩
/-- "silt/mappage.number" -/
def F79 (k : Nat) (x : GErr × Unit) : Option (Int) :=
  match x with
  | (a0, ()) => bif a0.first.isSome then some (a0.first.getD (0 : Int)) else some (0 : Int)
noncomputable def sp79 : FSpec Ty := spec ag79 rs79 F79
theorem bo79 : Tryd.f79.body = some (bodyOf Tryd.f79) := by kernel_rfl
theorem nd79 : nodupB ((loopsIn (bodyOf Tryd.f79)).map firstRegion) = true := by kernel_rfl
theorem ok79 : FOK Tryd.prog tab 79 sp79 := spec_ok (keeps := kp79) tabOK fs80OK Tryd.func79 bo79 (by kernel_rfl) nd79 (LSOK.none) (F := F79) fun k x => by kernel_rfl
noncomputable def fs79 : Nat → Option (FSpec Ty) := addF 79 sp79 fs80
theorem fs79OK : SpecsOK Tryd.prog tab fs79 := fs80OK.add ok79 Tryd.call79
def ag50 : Args Ty (T64 × (List Int) × Unit) := V.arg (tab.den 65) (V.arg (tab.den 97) (noArgs))
def rs50 : Res Ty tab ((List T89) × Int × Unit) true := V.manyRes (V.part (tab.den 100) (ent 100).ids (ent 100).plain (fun _ h => by cases h) (V.part (tab.den 33) (ent 33).ids (ent 33).plain (fun _ h => by cases h) (noParts)))
def kp50 : Nat → Keep := fun i => ⟨[], []⟩
/-- "silt/mappage.Cut" -/
def F50 (k : Nat) (x : T64 × (List Int) × Unit) : Option ((List T89) × Int × Unit) :=
  match x with
  | (a0, a1, ()) => (F80 k (T64.mk a0.1 a0.2 a0.3 a0.4, a1, ())).bind fun r => (F79 k (r, ())).bind fun r => bif r != (0 : Int) then some ([], r, ()) else (F81 k (a1, ())).bind fun r => some (r, (0 : Int), ())
noncomputable def sp50 : FSpec Ty := spec ag50 rs50 F50
theorem bo50 : Tryd.f50.body = some (bodyOf Tryd.f50) := by kernel_rfl
theorem nd50 : nodupB ((loopsIn (bodyOf Tryd.f50)).map firstRegion) = true := by kernel_rfl
theorem ok50 : FOK Tryd.prog tab 50 sp50 := spec_ok (keeps := kp50) tabOK fs79OK Tryd.func50 bo50 (by kernel_rfl) nd50 (LSOK.none) (F := F50) fun k x => by kernel_rfl
noncomputable def fs50 : Nat → Option (FSpec Ty) := addF 50 sp50 fs79
theorem fs50OK : SpecsOK Tryd.prog tab fs50 := fs79OK.add ok50 Tryd.call50
def ag83 : Args Ty (T64 × Unit) := V.arg (tab.den 65) (noArgs)
def rs83 : Res Ty tab (Int) false := V.oneRes (tab.den 3) (ent 3).ids (ent 3).plain (fun x _ => (ent 3).flat x rfl)
def kp83 : Nat → Keep := fun i => ⟨[], []⟩
/-- "silt/plan.Maps" -/
def F83 (k : Nat) (x : T64 × Unit) : Option (Int) :=
  match x with
  | (a0, ()) => (F82 k (T64.mk a0.1 a0.2 a0.3 a0.4, ())).bind fun r => bif !r then some (0 : Int) else some (IntKind.i64.wrap (IntKind.i64.wrap ((IntKind.i64.wrap (a0.1 - (1 : Int))).tdiv (8 : Int)) + (1 : Int)))
noncomputable def sp83 : FSpec Ty := spec ag83 rs83 F83
theorem bo83 : Tryd.f83.body = some (bodyOf Tryd.f83) := by kernel_rfl
theorem nd83 : nodupB ((loopsIn (bodyOf Tryd.f83)).map firstRegion) = true := by kernel_rfl
theorem ok83 : FOK Tryd.prog tab 83 sp83 := spec_ok (keeps := kp83) tabOK fs50OK Tryd.func83 bo83 (by kernel_rfl) nd83 (LSOK.none) (F := F83) fun k x => by kernel_rfl
noncomputable def fs83 : Nat → Option (FSpec Ty) := addF 83 sp83 fs50
theorem fs83OK : SpecsOK Tryd.prog tab fs83 := fs50OK.add ok83 Tryd.call83
def ag84 : Args Ty (T89 × T89 × Unit) := V.arg (tab.den 90) (V.arg (tab.den 90) (noArgs))
def rs84 : Res Ty tab (Bool) false := V.oneRes (tab.den 4) (ent 4).ids (ent 4).plain (fun x _ => (ent 4).flat x rfl)
def kp84 : Nat → Keep := fun i => ⟨[], []⟩
/-- "silt/mappage.alike" -/
def F84 (k : Nat) (x : T89 × T89 × Unit) : Option (Bool) :=
  match x with
  | (a0, a1, ()) => bif a0.1 == a1.1 then bif a0.2 == a1.2 then bif decide (a0.3 = a1.3) then bif a0.4 == a1.4 then bif (↑a0.5.length : Int) == (0 : Int) then bif (↑a1.5.length : Int) == (0 : Int) then bif a0.6 == a1.6 then some (decide (a0.7 = a1.7)) else some false else some false else some false else some false else some false else some false else some false
noncomputable def sp84 : FSpec Ty := spec ag84 rs84 F84
theorem bo84 : Tryd.f84.body = some (bodyOf Tryd.f84) := by kernel_rfl
theorem nd84 : nodupB ((loopsIn (bodyOf Tryd.f84)).map firstRegion) = true := by kernel_rfl
theorem ok84 : FOK Tryd.prog tab 84 sp84 := spec_ok (keeps := kp84) tabOK fs83OK Tryd.func84 bo84 (by kernel_rfl) nd84 (LSOK.none) (F := F84) fun k x => by kernel_rfl
noncomputable def fs84 : Nat → Option (FSpec Ty) := addF 84 sp84 fs83
theorem fs84OK : SpecsOK Tryd.prog tab fs84 := fs83OK.add ok84 Tryd.call84
def ag51 : Args Ty (T64 × (List T89) × Unit) := V.arg (tab.den 65) (V.arg (tab.den 100) (noArgs))
def rs51 : Res Ty tab ((List Int) × Int × Unit) true := V.manyRes (V.part (tab.den 97) (ent 97).ids (ent 97).plain (fun _ h => by cases h) (V.part (tab.den 33) (ent 33).ids (ent 33).plain (fun _ h => by cases h) (noParts)))
def of51_7 : List T89 × List T89 × Int × Int × Int × Int × Int × Int × List Int → NSt Ty := fun x => ⟨[.slice 90 (x.1), .ptr 100000 [], .row 100001, .slice 90 (x.2.1), .int .i64 (x.2.2.1), .int .i64 (x.2.2.2.1)], [.var (.cons (.int .i64 (x.2.2.2.2.1)) (.cons (.int .i64 (x.2.2.2.2.2.1)) (.cons (.int .i64 (x.2.2.2.2.2.2.1)) (.cons (.int .i64 (x.2.2.2.2.2.2.2.1)) (.nil))))), .row 3 (x.2.2.2.2.2.2.2.2)]⟩
def ab51_7 : (n : NSt Ty) → Option {x : List T89 × List T89 × Int × Int × Int × Int × Int × Int × List Int // of51_7 x = n}
  | ⟨[.slice 90 v0, .ptr 100000 [], .row 100001, .slice 90 v1, .int .i64 v2, .int .i64 v3], [.var (.cons (.int .i64 v4) (.cons (.int .i64 v5) (.cons (.int .i64 v6) (.cons (.int .i64 v7) (.nil))))), .row 3 v8]⟩ => some ⟨(v0, v1, v2, v3, v4, v5, v6, v7, v8), rfl⟩
  | _ => none
def oe51_7 : List T89 × Int × Int × Int × Int × List Int → Ex := fun _ => .exit 0
def on51_7 : List T89 × Int × Int × Int × Int × List Int → NSt Ty := fun x => ⟨[.slice 90 (x.1), .ptr 100000 [], .row 100001], [.var (.cons (.int .i64 (x.2.1)) (.cons (.int .i64 (x.2.2.1)) (.cons (.int .i64 (x.2.2.2.1)) (.cons (.int .i64 (x.2.2.2.2.1)) (.nil))))), .row 3 (x.2.2.2.2.2)]⟩
def oa51_7 : (e : Ex) → (n : NSt Ty) → Option {y : List T89 × Int × Int × Int × Int × List Int // oe51_7 y = e ∧ on51_7 y = n}
  | .exit 0, ⟨[.slice 90 v0, .ptr 100000 [], .row 100001], [.var (.cons (.int .i64 v1) (.cons (.int .i64 v2) (.cons (.int .i64 v3) (.cons (.int .i64 v4) (.nil))))), .row 3 v5]⟩ => some ⟨(v0, v1, v2, v3, v4, v5), rfl, rfl⟩
  | _, _ => none
/-- a round of the loop 7 of function 51 -/
def R51_7 (k : Nat) (again : List T89 × List T89 × Int × Int × Int × Int × Int × Int × List Int → Option (List T89 × Int × Int × Int × Int × List Int)) (x : List T89 × List T89 × Int × Int × Int × Int × Int × Int × List Int) : Option (List T89 × Int × Int × Int × Int × List Int) :=
  match x with
  | (v0, v1, v2, v3, v4, v5, v6, v7, v8) => bif decide (v3 < v2) then bif inRange v3 v1.length then bif decide (v8.length + (List.take ((↑(8 : Nat) : Int) - (0 : Int)).toNat (List.drop (Int.toNat (0 : Int)) (v1.getD v3.toNat (T89.mk (0 : Int) (0 : Int) (List.replicate (32 : Nat) (0 : Int)) (0 : Int) [] (0 : Int) (List.replicate (8 : Nat) (0 : Int)))).7)).length ≤ roomMost) then again (v0, v1, v2, IntKind.i64.wrap (v3 + (1 : Int)), v4, v5, v6, v7, v8 ++ List.take ((↑(8 : Nat) : Int) - (0 : Int)).toNat (List.drop (Int.toNat (0 : Int)) (v1.getD v3.toNat (T89.mk (0 : Int) (0 : Int) (List.replicate (32 : Nat) (0 : Int)) (0 : Int) [] (0 : Int) (List.replicate (8 : Nat) (0 : Int)))).7)) else none else none else some (v0, v4, v5, v6, v7, v8)
def L51_7 (k n : Nat) (x : List T89 × List T89 × Int × Int × Int × Int × Int × Int × List Int) : Option (List T89 × Int × Int × Int × Int × List Int) := iterR (R51_7 k) n x
noncomputable def ls51_7 : Nat → Option (LSum Ty) := addL 7 (LSum.of of51_7 ab51_7 L51_7 oe51_7 on51_7) noL
def of51_16 : List T89 × List Int × List T89 × Int × Int → NSt Ty := fun x => ⟨[.slice 90 (x.1), .slice 3 (x.2.1), .slice 90 (x.2.2.1), .int .i64 (x.2.2.2.1), .int .i64 (x.2.2.2.2)], []⟩
def ab51_16 : (n : NSt Ty) → Option {x : List T89 × List Int × List T89 × Int × Int // of51_16 x = n}
  | ⟨[.slice 90 v0, .slice 3 v1, .slice 90 v2, .int .i64 v3, .int .i64 v4], []⟩ => some ⟨(v0, v1, v2, v3, v4), rfl⟩
  | _ => none
def on51_16a : Int × List Int × List Int → NSt Ty := fun x => ⟨[.row 100000, .int .i64 (x.1), .slice 3 (x.2.1)], [.row 3 (x.2.2)]⟩
def on51_16b : List Int → NSt Ty := fun x => ⟨[.undef, .undef, .slice 3 (x)], []⟩
def oa51_16 : (e : Ex) → (n : NSt Ty) → Option {y : (Int × List Int × List Int) ⊕ (List Int) // oe2 .ret (.exit 2) y = e ∧ on2 on51_16a on51_16b y = n}
  | .ret, ⟨[.row 100000, .int .i64 v0, .slice 3 v1], [.row 3 v2]⟩ => some ⟨.inl (v0, v1, v2), rfl, rfl⟩
  | .exit 2, ⟨[.undef, .undef, .slice 3 v0], []⟩ => some ⟨.inr v0, rfl, rfl⟩
  | _, _ => none
/-- a round of the loop 16 of function 51 -/
def R51_16 (k : Nat) (again : List T89 × List Int × List T89 × Int × Int → Option ((Int × List Int × List Int) ⊕ (List Int))) (x : List T89 × List Int × List T89 × Int × Int) : Option ((Int × List Int × List Int) ⊕ (List Int)) :=
  match x with
  | (v0, v1, v2, v3, v4) => bif decide (v4 < v3) then bif inRange v4 v2.length then bif inRange v4 v0.length then (F84 k (T89.mk (v2.getD v4.toNat (T89.mk (0 : Int) (0 : Int) (List.replicate (32 : Nat) (0 : Int)) (0 : Int) [] (0 : Int) (List.replicate (8 : Nat) (0 : Int)))).1 (v2.getD v4.toNat (T89.mk (0 : Int) (0 : Int) (List.replicate (32 : Nat) (0 : Int)) (0 : Int) [] (0 : Int) (List.replicate (8 : Nat) (0 : Int)))).2 (v2.getD v4.toNat (T89.mk (0 : Int) (0 : Int) (List.replicate (32 : Nat) (0 : Int)) (0 : Int) [] (0 : Int) (List.replicate (8 : Nat) (0 : Int)))).3 (v2.getD v4.toNat (T89.mk (0 : Int) (0 : Int) (List.replicate (32 : Nat) (0 : Int)) (0 : Int) [] (0 : Int) (List.replicate (8 : Nat) (0 : Int)))).4 (v2.getD v4.toNat (T89.mk (0 : Int) (0 : Int) (List.replicate (32 : Nat) (0 : Int)) (0 : Int) [] (0 : Int) (List.replicate (8 : Nat) (0 : Int)))).5 (v2.getD v4.toNat (T89.mk (0 : Int) (0 : Int) (List.replicate (32 : Nat) (0 : Int)) (0 : Int) [] (0 : Int) (List.replicate (8 : Nat) (0 : Int)))).6 (v2.getD v4.toNat (T89.mk (0 : Int) (0 : Int) (List.replicate (32 : Nat) (0 : Int)) (0 : Int) [] (0 : Int) (List.replicate (8 : Nat) (0 : Int)))).7, T89.mk (v0.getD v4.toNat (T89.mk (0 : Int) (0 : Int) (List.replicate (32 : Nat) (0 : Int)) (0 : Int) [] (0 : Int) (List.replicate (8 : Nat) (0 : Int)))).1 (v0.getD v4.toNat (T89.mk (0 : Int) (0 : Int) (List.replicate (32 : Nat) (0 : Int)) (0 : Int) [] (0 : Int) (List.replicate (8 : Nat) (0 : Int)))).2 (v0.getD v4.toNat (T89.mk (0 : Int) (0 : Int) (List.replicate (32 : Nat) (0 : Int)) (0 : Int) [] (0 : Int) (List.replicate (8 : Nat) (0 : Int)))).3 (v0.getD v4.toNat (T89.mk (0 : Int) (0 : Int) (List.replicate (32 : Nat) (0 : Int)) (0 : Int) [] (0 : Int) (List.replicate (8 : Nat) (0 : Int)))).4 (v0.getD v4.toNat (T89.mk (0 : Int) (0 : Int) (List.replicate (32 : Nat) (0 : Int)) (0 : Int) [] (0 : Int) (List.replicate (8 : Nat) (0 : Int)))).5 (v0.getD v4.toNat (T89.mk (0 : Int) (0 : Int) (List.replicate (32 : Nat) (0 : Int)) (0 : Int) [] (0 : Int) (List.replicate (8 : Nat) (0 : Int)))).6 (v0.getD v4.toNat (T89.mk (0 : Int) (0 : Int) (List.replicate (32 : Nat) (0 : Int)) (0 : Int) [] (0 : Int) (List.replicate (8 : Nat) (0 : Int)))).7, ())).bind fun r => bif !r then some (Sum.inl ((11 : Int), v1, [])) else again (v0, v1, v2, v3, IntKind.i64.wrap (v4 + (1 : Int))) else none else none else some (Sum.inr v1)
def L51_16 (k n : Nat) (x : List T89 × List Int × List T89 × Int × Int) : Option ((Int × List Int × List Int) ⊕ (List Int)) := iterR (R51_16 k) n x
noncomputable def ls51_16 : Nat → Option (LSum Ty) := addL 16 (lsum2 of51_16 ab51_16 L51_16 .ret on51_16a (.exit 2) on51_16b) ls51_7
def kp51 : Nat → Keep := fun i => cond (i == 7) ⟨[1, 2, 6, 21, 22, 23], [1, 2, 6]⟩ (cond (i == 16) ⟨[1, 6, 44, 45, 46], [4, 5, 6]⟩ (⟨[], []⟩))
/-- "silt/mappage.Join" -/
def F51 (k : Nat) (x : T64 × (List T89) × Unit) : Option ((List Int) × Int × Unit) :=
  match x with
  | (a0, a1, ()) => (F82 k (T64.mk a0.1 a0.2 a0.3 a0.4, ())).bind fun r => bif !r then some ([], (1 : Int), ()) else (F83 k (T64.mk a0.1 a0.2 a0.3 a0.4, ())).bind fun r => bif (↑a1.length : Int) != r then some ([], (11 : Int), ()) else (L51_7 k k (a1, a1, (↑a1.length : Int), (0 : Int), a0.1, a0.2, a0.3, a0.4, [])).bind fun r => bif decide ((0 : Int) ≤ (0 : Int)) && decide ((0 : Int) ≤ r.snd.fst) && decide (r.snd.fst ≤ (↑r.snd.snd.snd.snd.snd.length : Int)) then (F50 k (T64.mk r.snd.fst r.snd.snd.fst r.snd.snd.snd.fst r.snd.snd.snd.snd.fst, List.drop (Int.toNat (0 : Int)) (List.take r.snd.fst.toNat r.snd.snd.snd.snd.snd), ())).bind fun r_1 => bif r_1.snd.fst != (0 : Int) then some ([], (11 : Int), ()) else (L51_16 k k (r.fst, List.drop (Int.toNat (0 : Int)) (List.take r.snd.fst.toNat r.snd.snd.snd.snd.snd), r_1.fst, (↑r_1.fst.length : Int), (0 : Int))).bind fun r => sumK r (fun a => some (a.snd.snd, a.fst, ())) fun b => some (b, (0 : Int), ()) else none
noncomputable def sp51 : FSpec Ty := spec ag51 rs51 F51
theorem bo51 : Tryd.f51.body = some (bodyOf Tryd.f51) := by kernel_rfl
theorem nd51 : nodupB ((loopsIn (bodyOf Tryd.f51)).map firstRegion) = true := by kernel_rfl
theorem lo51_7 : LSOK fs84 kp51 tab Tryd.f51 ls51_7 := lsum_ok bo51 nd51 (LSOK.none) oa51_7 (R := R51_7) fun k again x => by kernel_rfl
theorem lo51_16 : LSOK fs84 kp51 tab Tryd.f51 ls51_16 := lsum2_ok bo51 nd51 (lo51_7) oa51_16 (R := R51_16) fun k again x => by kernel_rfl
theorem ok51 : FOK Tryd.prog tab 51 sp51 := spec_ok (keeps := kp51) tabOK fs84OK Tryd.func51 bo51 (by kernel_rfl) nd51 (lo51_16) (F := F51) fun k x => by kernel_rfl
noncomputable def fs51 : Nat → Option (FSpec Ty) := addF 51 sp51 fs84
theorem fs51OK : SpecsOK Tryd.prog tab fs51 := fs84OK.add ok51 Tryd.call51
def ag49 : Args Ty (Int × Unit) := V.arg (tab.den 3) (noArgs)
def rs49 : Res Ty tab (Int × Int × Unit) false := V.manyRes (V.part (tab.den 3) (ent 3).ids (ent 3).plain (fun x _ => (ent 3).flat x rfl) (V.part (tab.den 3) (ent 3).ids (ent 3).plain (fun x _ => (ent 3).flat x rfl) (noParts)))
def kp49 : Nat → Keep := fun i => ⟨[], []⟩
/-- "silt/mappage.Of" -/
def F49 (k : Nat) (x : Int × Unit) : Option (Int × Int × Unit) :=
  match x with
  | (a0, ()) => bif decide (a0 < (0 : Int)) then some ((-1 : Int), (-1 : Int), ()) else bif decide (a0 ≥ (64 : Int)) then some ((-1 : Int), (-1 : Int), ()) else some (IntKind.i64.wrap (a0.tdiv (8 : Int)), a0.tmod (8 : Int), ())
noncomputable def sp49 : FSpec Ty := spec ag49 rs49 F49
theorem bo49 : Tryd.f49.body = some (bodyOf Tryd.f49) := by kernel_rfl
theorem nd49 : nodupB ((loopsIn (bodyOf Tryd.f49)).map firstRegion) = true := by kernel_rfl
theorem ok49 : FOK Tryd.prog tab 49 sp49 := spec_ok (keeps := kp49) tabOK fs51OK Tryd.func49 bo49 (by kernel_rfl) nd49 (LSOK.none) (F := F49) fun k x => by kernel_rfl
noncomputable def fs49 : Nat → Option (FSpec Ty) := addF 49 sp49 fs51
theorem fs49OK : SpecsOK Tryd.prog tab fs49 := fs51OK.add ok49 Tryd.call49
def ag52 : Args Ty ((List Int) × (List Int) × Unit) := V.arg (tab.den 97) (V.arg (tab.den 97) (noArgs))
def rs52 : Res Ty tab (Bool) false := V.oneRes (tab.den 4) (ent 4).ids (ent 4).plain (fun x _ => (ent 4).flat x rfl)
def of52_4 : List Int × List Int × Int → NSt Ty := fun x => ⟨[.slice 3 (x.1), .slice 3 (x.2.1), .int .i64 (x.2.2)], []⟩
def ab52_4 : (n : NSt Ty) → Option {x : List Int × List Int × Int // of52_4 x = n}
  | ⟨[.slice 3 v0, .slice 3 v1, .int .i64 v2], []⟩ => some ⟨(v0, v1, v2), rfl⟩
  | _ => none
def on52_4a : Bool → NSt Ty := fun x => ⟨[.bool (x)], []⟩
def on52_4b : Unit → NSt Ty := fun x => ⟨[.undef], []⟩
def oa52_4 : (e : Ex) → (n : NSt Ty) → Option {y : (Bool) ⊕ (Unit) // oe2 .ret (.exit 0) y = e ∧ on2 on52_4a on52_4b y = n}
  | .ret, ⟨[.bool v0], []⟩ => some ⟨.inl v0, rfl, rfl⟩
  | .exit 0, ⟨[.undef], []⟩ => some ⟨.inr (), rfl, rfl⟩
  | _, _ => none
/-- a round of the loop 4 of function 52 -/
def R52_4 (k : Nat) (again : List Int × List Int × Int → Option ((Bool) ⊕ (Unit))) (x : List Int × List Int × Int) : Option ((Bool) ⊕ (Unit)) :=
  match x with
  | (v0, v1, v2) => bif decide (v2 < (↑v0.length : Int)) then bif inRange v2 v0.length then bif inRange v2 v1.length then bif v0.getD v2.toNat (0 : Int) != v1.getD v2.toNat (0 : Int) then some (Sum.inl false) else again (v0, v1, IntKind.i64.wrap (v2 + (1 : Int))) else none else none else some (Sum.inr ())
def L52_4 (k n : Nat) (x : List Int × List Int × Int) : Option ((Bool) ⊕ (Unit)) := iterR (R52_4 k) n x
noncomputable def ls52_4 : Nat → Option (LSum Ty) := addL 4 (lsum2 of52_4 ab52_4 L52_4 .ret on52_4a (.exit 0) on52_4b) noL
def kp52 : Nat → Keep := fun i => cond (i == 4) ⟨[0, 1, 5], [4]⟩ (⟨[], []⟩)
/-- "silt/siltkeep.Ints" -/
def F52 (k : Nat) (x : (List Int) × (List Int) × Unit) : Option (Bool) :=
  match x with
  | (a0, a1, ()) => bif (↑a0.length : Int) != (↑a1.length : Int) then some false else (L52_4 k k (a0, a1, (0 : Int))).bind fun r => sumK r (fun a => some a) fun b => some true
noncomputable def sp52 : FSpec Ty := spec ag52 rs52 F52
theorem bo52 : Tryd.f52.body = some (bodyOf Tryd.f52) := by kernel_rfl
theorem nd52 : nodupB ((loopsIn (bodyOf Tryd.f52)).map firstRegion) = true := by kernel_rfl
theorem lo52_4 : LSOK fs49 kp52 tab Tryd.f52 ls52_4 := lsum2_ok bo52 nd52 (LSOK.none) oa52_4 (R := R52_4) fun k again x => by kernel_rfl
theorem ok52 : FOK Tryd.prog tab 52 sp52 := spec_ok (keeps := kp52) tabOK fs49OK Tryd.func52 bo52 (by kernel_rfl) nd52 (lo52_4) (F := F52) fun k x => by kernel_rfl
noncomputable def fs52 : Nat → Option (FSpec Ty) := addF 52 sp52 fs49
theorem fs52OK : SpecsOK Tryd.prog tab fs52 := fs49OK.add ok52 Tryd.call52
def ag48 : Args Ty (Unit) := noArgs
def rs48 : Res Ty tab (Bool) false := V.oneRes (tab.den 4) (ent 4).ids (ent 4).plain (fun x _ => (ent 4).flat x rfl)
def kp48 : Nat → Keep := fun i => ⟨[], []⟩
/-- "silt/siltlaw10.wakes" -/
def F48 (k : Nat) (x : Unit) : Option (Bool) :=
  match x with
  | () => (F71 k ()).bind fun r => (F50 k (T64.mk r.1 r.2 r.3 r.4, (List.replicate (Int.toNat (16 : Int)) (0 : Int)).set (Int.toNat (9 : Int)) (30 : Int), ())).bind fun r => (F71 k ()).bind fun r_1 => (F51 k (T64.mk r_1.1 r_1.2 r_1.3 r_1.4, r.fst, ())).bind fun r_2 => (F49 k ((9 : Int), ())).bind fun r_3 => (F49 k ((64 : Int), ())).bind fun r_4 => bif r.snd.fst == (0 : Int) then bif (↑r.fst.length : Int) == (2 : Int) then bif inRange (1 : Int) r.fst.length then bif (r.fst.getD (Int.toNat (1 : Int)) (T89.mk (0 : Int) (0 : Int) (List.replicate (32 : Nat) (0 : Int)) (0 : Int) [] (0 : Int) (List.replicate (8 : Nat) (0 : Int)))).1 == (3 : Int) then bif inRange (1 : Int) r.fst.length then bif (r.fst.getD (Int.toNat (1 : Int)) (T89.mk (0 : Int) (0 : Int) (List.replicate (32 : Nat) (0 : Int)) (0 : Int) [] (0 : Int) (List.replicate (8 : Nat) (0 : Int)))).2 == (1 : Int) then bif inRange (1 : Int) r.fst.length then bif (r.fst.getD (Int.toNat (1 : Int)) (T89.mk (0 : Int) (0 : Int) (List.replicate (32 : Nat) (0 : Int)) (0 : Int) [] (0 : Int) (List.replicate (8 : Nat) (0 : Int)))).7.getD (Int.toNat (1 : Int)) (0 : Int) == (30 : Int) then bif r_2.snd.fst == (0 : Int) then (F52 k (r_2.fst, (List.replicate (Int.toNat (16 : Int)) (0 : Int)).set (Int.toNat (9 : Int)) (30 : Int), ())).bind fun r => bif r then bif r_3.fst == (1 : Int) then bif r_3.snd.fst == (1 : Int) then bif r_4.fst == (-1 : Int) then some (r_4.snd.fst == (-1 : Int)) else some false else some false else some false else some false else some false else some false else none else some false else none else some false else none else some false else some false
noncomputable def sp48 : FSpec Ty := spec ag48 rs48 F48
theorem bo48 : Tryd.f48.body = some (bodyOf Tryd.f48) := by kernel_rfl
theorem nd48 : nodupB ((loopsIn (bodyOf Tryd.f48)).map firstRegion) = true := by kernel_rfl
theorem ok48 : FOK Tryd.prog tab 48 sp48 := spec_ok (keeps := kp48) tabOK fs52OK Tryd.func48 bo48 (by kernel_rfl) nd48 (LSOK.none) (F := F48) fun k x => by kernel_rfl
noncomputable def fs48 : Nat → Option (FSpec Ty) := addF 48 sp48 fs52
theorem fs48OK : SpecsOK Tryd.prog tab fs48 := fs52OK.add ok48 Tryd.call48
def ag69 : Args Ty (T64 × Unit) := V.arg (tab.den 65) (noArgs)
def rs69 : Res Ty tab (Bool) false := V.oneRes (tab.den 4) (ent 4).ids (ent 4).plain (fun x _ => (ent 4).flat x rfl)
def kp69 : Nat → Keep := fun i => ⟨[], []⟩
/-- "silt/siltref03.Good" -/
def F69 (k : Nat) (x : T64 × Unit) : Option (Bool) :=
  match x with
  | (a0, ()) => bif decide (a0.1 ≥ (1 : Int)) then bif decide (a0.1 ≤ (64 : Int)) then bif decide (a0.2 ≥ (6 : Int)) then bif decide (a0.2 ≤ (16 : Int)) then bif decide (a0.3 ≥ (24 : Int)) then bif decide (a0.3 ≤ (32 : Int)) then bif decide (a0.4 ≥ (2 : Int)) then some (decide (a0.4 ≤ (16 : Int))) else some false else some false else some false else some false else some false else some false else some false
noncomputable def sp69 : FSpec Ty := spec ag69 rs69 F69
theorem bo69 : Tryd.f69.body = some (bodyOf Tryd.f69) := by kernel_rfl
theorem nd69 : nodupB ((loopsIn (bodyOf Tryd.f69)).map firstRegion) = true := by kernel_rfl
theorem ok69 : FOK Tryd.prog tab 69 sp69 := spec_ok (keeps := kp69) tabOK fs48OK Tryd.func69 bo69 (by kernel_rfl) nd69 (LSOK.none) (F := F69) fun k x => by kernel_rfl
noncomputable def fs69 : Nat → Option (FSpec Ty) := addF 69 sp69 fs48
theorem fs69OK : SpecsOK Tryd.prog tab fs69 := fs48OK.add ok69 Tryd.call69
def ag53 : Args Ty (T64 × Unit) := V.arg (tab.den 65) (noArgs)
def rs53 : Res Ty tab (T106) false := V.oneRes (tab.den 107) (ent 107).ids (ent 107).plain (fun x _ => (ent 107).flat x rfl)
def kp53 : Nat → Keep := fun i => ⟨[], []⟩
/-- "silt/siltref03.Of" -/
def F53 (k : Nat) (x : T64 × Unit) : Option (T106) :=
  match x with
  | (a0, ()) => (F69 k (T64.mk a0.1 a0.2 a0.3 a0.4, ())).bind fun r => bif !r then some (T106.mk (0 : Int) (0 : Int) (0 : Int)) else some (T106.mk (IntKind.i64.wrap ((IntKind.i64.wrap (a0.1 + (7 : Int))).tdiv (8 : Int))) (IntKind.i64.wrap ((4 : Int) + IntKind.i64.wrap (a0.2 * a0.3))) (if (if IntKind.i64.wrap ((IntKind.i64.wrap (IntKind.i64.wrap ((4 : Int) * IntKind.i64.wrap (a0.2 - (4 : Int))) - IntKind.i64.wrap ((IntKind.i64.wrap (a0.1 + (7 : Int))).tdiv (8 : Int)))).tdiv (3 : Int)) < a0.1 then IntKind.i64.wrap ((IntKind.i64.wrap (IntKind.i64.wrap ((4 : Int) * IntKind.i64.wrap (a0.2 - (4 : Int))) - IntKind.i64.wrap ((IntKind.i64.wrap (a0.1 + (7 : Int))).tdiv (8 : Int)))).tdiv (3 : Int)) else a0.1) > (0 : Int) then if IntKind.i64.wrap ((IntKind.i64.wrap (IntKind.i64.wrap ((4 : Int) * IntKind.i64.wrap (a0.2 - (4 : Int))) - IntKind.i64.wrap ((IntKind.i64.wrap (a0.1 + (7 : Int))).tdiv (8 : Int)))).tdiv (3 : Int)) < a0.1 then IntKind.i64.wrap ((IntKind.i64.wrap (IntKind.i64.wrap ((4 : Int) * IntKind.i64.wrap (a0.2 - (4 : Int))) - IntKind.i64.wrap ((IntKind.i64.wrap (a0.1 + (7 : Int))).tdiv (8 : Int)))).tdiv (3 : Int)) else a0.1 else (0 : Int)))
noncomputable def sp53 : FSpec Ty := spec ag53 rs53 F53
theorem bo53 : Tryd.f53.body = some (bodyOf Tryd.f53) := by kernel_rfl
theorem nd53 : nodupB ((loopsIn (bodyOf Tryd.f53)).map firstRegion) = true := by kernel_rfl
theorem ok53 : FOK Tryd.prog tab 53 sp53 := spec_ok (keeps := kp53) tabOK fs69OK Tryd.func53 bo53 (by kernel_rfl) nd53 (LSOK.none) (F := F53) fun k x => by kernel_rfl
noncomputable def fs53 : Nat → Option (FSpec Ty) := addF 53 sp53 fs69
theorem fs53OK : SpecsOK Tryd.prog tab fs53 := fs69OK.add ok53 Tryd.call53
def ag16 : Args Ty (T64 × (List Int) × Int × Unit) := V.arg (tab.den 65) (V.arg (tab.den 97) (V.arg (tab.den 3) (noArgs)))
def rs16 : Res Ty tab (Bool) false := V.oneRes (tab.den 4) (ent 4).ids (ent 4).plain (fun x _ => (ent 4).flat x rfl)
def of16_27 : Int × Int × List T89 × List T89 × Int × Int → NSt Ty := fun x => ⟨[.int .i64 (x.1), .int .i64 (x.2.1), .slice 90 (x.2.2.1), .slice 90 (x.2.2.2.1), .int .i64 (x.2.2.2.2.1), .int .i64 (x.2.2.2.2.2)], []⟩
def ab16_27 : (n : NSt Ty) → Option {x : Int × Int × List T89 × List T89 × Int × Int // of16_27 x = n}
  | ⟨[.int .i64 v0, .int .i64 v1, .slice 90 v2, .slice 90 v3, .int .i64 v4, .int .i64 v5], []⟩ => some ⟨(v0, v1, v2, v3, v4, v5), rfl⟩
  | _ => none
def on16_27a : Bool × Int × Int × List T89 × List T89 × Int → NSt Ty := fun x => ⟨[.bool (x.1), .int .i64 (x.2.1), .int .i64 (x.2.2.1), .slice 90 (x.2.2.2.1), .slice 90 (x.2.2.2.2.1), .int .i64 (x.2.2.2.2.2)], []⟩
def on16_27b : Int × Int × List T89 × List T89 × Int → NSt Ty := fun x => ⟨[.undef, .int .i64 (x.1), .int .i64 (x.2.1), .slice 90 (x.2.2.1), .slice 90 (x.2.2.2.1), .int .i64 (x.2.2.2.2)], []⟩
def oa16_27 : (e : Ex) → (n : NSt Ty) → Option {y : (Bool × Int × Int × List T89 × List T89 × Int) ⊕ (Int × Int × List T89 × List T89 × Int) // oe2 .ret (.exit 2) y = e ∧ on2 on16_27a on16_27b y = n}
  | .ret, ⟨[.bool v0, .int .i64 v1, .int .i64 v2, .slice 90 v3, .slice 90 v4, .int .i64 v5], []⟩ => some ⟨.inl (v0, v1, v2, v3, v4, v5), rfl, rfl⟩
  | .exit 2, ⟨[.undef, .int .i64 v0, .int .i64 v1, .slice 90 v2, .slice 90 v3, .int .i64 v4], []⟩ => some ⟨.inr (v0, v1, v2, v3, v4), rfl, rfl⟩
  | _, _ => none
/-- a round of the loop 27 of function 16 -/
def R16_27 (k : Nat) (again : Int × Int × List T89 × List T89 × Int × Int → Option ((Bool × Int × Int × List T89 × List T89 × Int) ⊕ (Int × Int × List T89 × List T89 × Int))) (x : Int × Int × List T89 × List T89 × Int × Int) : Option ((Bool × Int × Int × List T89 × List T89 × Int) ⊕ (Int × Int × List T89 × List T89 × Int)) :=
  match x with
  | (v0, v1, v2, v3, v4, v5) => bif decide (v5 < (8 : Int)) then bif v4 != v0 then bif inRange v4 v2.length then bif inRange v5 (8 : Nat) then bif inRange v4 v3.length then bif inRange v5 (8 : Nat) then bif (v2.getD v4.toNat (T89.mk (0 : Int) (0 : Int) (List.replicate (32 : Nat) (0 : Int)) (0 : Int) [] (0 : Int) (List.replicate (8 : Nat) (0 : Int)))).7.getD v5.toNat (0 : Int) != (v3.getD v4.toNat (T89.mk (0 : Int) (0 : Int) (List.replicate (32 : Nat) (0 : Int)) (0 : Int) [] (0 : Int) (List.replicate (8 : Nat) (0 : Int)))).7.getD v5.toNat (0 : Int) then some (Sum.inl (false, v0, v1, v2, v3, v4)) else again (v0, v1, v2, v3, v4, IntKind.i64.wrap (v5 + (1 : Int))) else none else none else none else none else bif v5 != v1 then bif inRange v4 v2.length then bif inRange v5 (8 : Nat) then bif inRange v4 v3.length then bif inRange v5 (8 : Nat) then bif (v2.getD v4.toNat (T89.mk (0 : Int) (0 : Int) (List.replicate (32 : Nat) (0 : Int)) (0 : Int) [] (0 : Int) (List.replicate (8 : Nat) (0 : Int)))).7.getD v5.toNat (0 : Int) != (v3.getD v4.toNat (T89.mk (0 : Int) (0 : Int) (List.replicate (32 : Nat) (0 : Int)) (0 : Int) [] (0 : Int) (List.replicate (8 : Nat) (0 : Int)))).7.getD v5.toNat (0 : Int) then some (Sum.inl (false, v0, v1, v2, v3, v4)) else again (v0, v1, v2, v3, v4, IntKind.i64.wrap (v5 + (1 : Int))) else none else none else none else none else again (v0, v1, v2, v3, v4, IntKind.i64.wrap (v5 + (1 : Int))) else some (Sum.inr (v0, v1, v2, v3, v4))
def L16_27 (k n : Nat) (x : Int × Int × List T89 × List T89 × Int × Int) : Option ((Bool × Int × Int × List T89 × List T89 × Int) ⊕ (Int × Int × List T89 × List T89 × Int)) := iterR (R16_27 k) n x
noncomputable def ls16_27 : Nat → Option (LSum Ty) := addL 27 (lsum2 of16_27 ab16_27 L16_27 .ret on16_27a (.exit 2) on16_27b) noL
def of16_24 : Int × Int × List T89 × List T89 × Int → NSt Ty := fun x => ⟨[.int .i64 (x.1), .int .i64 (x.2.1), .slice 90 (x.2.2.1), .slice 90 (x.2.2.2.1), .int .i64 (x.2.2.2.2)], []⟩
def ab16_24 : (n : NSt Ty) → Option {x : Int × Int × List T89 × List T89 × Int // of16_24 x = n}
  | ⟨[.int .i64 v0, .int .i64 v1, .slice 90 v2, .slice 90 v3, .int .i64 v4], []⟩ => some ⟨(v0, v1, v2, v3, v4), rfl⟩
  | _ => none
def on16_24a : Bool × Int × Int × List T89 → NSt Ty := fun x => ⟨[.bool (x.1), .int .i64 (x.2.1), .int .i64 (x.2.2.1), .slice 90 (x.2.2.2)], []⟩
def on16_24b : Int × Int × List T89 → NSt Ty := fun x => ⟨[.undef, .int .i64 (x.1), .int .i64 (x.2.1), .slice 90 (x.2.2)], []⟩
def oa16_24 : (e : Ex) → (n : NSt Ty) → Option {y : (Bool × Int × Int × List T89) ⊕ (Int × Int × List T89) // oe2 .ret (.exit 0) y = e ∧ on2 on16_24a on16_24b y = n}
  | .ret, ⟨[.bool v0, .int .i64 v1, .int .i64 v2, .slice 90 v3], []⟩ => some ⟨.inl (v0, v1, v2, v3), rfl, rfl⟩
  | .exit 0, ⟨[.undef, .int .i64 v0, .int .i64 v1, .slice 90 v2], []⟩ => some ⟨.inr (v0, v1, v2), rfl, rfl⟩
  | _, _ => none
/-- a round of the loop 24 of function 16 -/
def R16_24 (k : Nat) (again : Int × Int × List T89 × List T89 × Int → Option ((Bool × Int × Int × List T89) ⊕ (Int × Int × List T89))) (x : Int × Int × List T89 × List T89 × Int) : Option ((Bool × Int × Int × List T89) ⊕ (Int × Int × List T89)) :=
  match x with
  | (v0, v1, v2, v3, v4) => bif decide (v4 < (↑v2.length : Int)) then (L16_27 k k (v0, v1, v2, v3, v4, (0 : Int))).bind fun r => sumK r (fun a => some (Sum.inl (a.fst, a.snd.fst, a.snd.snd.fst, a.snd.snd.snd.snd.fst))) fun b => again (b.fst, b.snd.fst, b.snd.snd.fst, b.snd.snd.snd.fst, IntKind.i64.wrap (b.snd.snd.snd.snd + (1 : Int))) else some (Sum.inr (v0, v1, v3))
def L16_24 (k n : Nat) (x : Int × Int × List T89 × List T89 × Int) : Option ((Bool × Int × Int × List T89) ⊕ (Int × Int × List T89)) := iterR (R16_24 k) n x
noncomputable def ls16_24 : Nat → Option (LSum Ty) := addL 24 (lsum2 of16_24 ab16_24 L16_24 .ret on16_24a (.exit 0) on16_24b) ls16_27
def kp16 : Nat → Keep := fun i => cond (i == 24) ⟨[7, 8, 9, 14, 16], [6, 7, 8, 14]⟩ (cond (i == 27) ⟨[7, 8, 9, 14, 16, 17], [6, 7, 8, 9, 14, 16]⟩ (⟨[], []⟩))
/-- "silt/siltlaw10.MapBack" -/
def F16 (k : Nat) (x : T64 × (List Int) × Int × Unit) : Option (Bool) :=
  match x with
  | (a0, a1, a2, ()) => bif decide ((↑a1.length : Int) > (100 : Int)) then (F48 k ()).bind fun r => some r else (F49 k (a2, ())).bind fun r => bif decide (a2 < (0 : Int)) then bif r.fst == (-1 : Int) then bif r.snd.fst == (-1 : Int) then (F48 k ()).bind fun r => some r else some false else some false else bif decide (a2 ≥ (64 : Int)) then bif r.fst == (-1 : Int) then bif r.snd.fst == (-1 : Int) then (F48 k ()).bind fun r => some r else some false else some false else bif r.fst != IntKind.i64.wrap (a2.tdiv (8 : Int)) then some false else bif r.snd.fst != a2.tmod (8 : Int) then some false else (F50 k (T64.mk a0.1 a0.2 a0.3 a0.4, a1, ())).bind fun r_1 => bif r_1.snd.fst != (0 : Int) then bif (↑r_1.fst.length : Int) == (0 : Int) then bif r_1.snd.fst == (1 : Int) then (F48 k ()).bind fun r => some r else some false else some false else (F51 k (T64.mk a0.1 a0.2 a0.3 a0.4, r_1.fst, ())).bind fun r_2 => bif r_2.snd.fst != (0 : Int) then some false else (F52 k (r_2.fst, a1, ())).bind fun r_3 => bif !r_3 then some false else (F53 k (T64.mk a0.1 a0.2 a0.3 a0.4, ())).bind fun r_4 => bif (↑r_1.fst.length : Int) != r_4.1 then some false else bif decide (a2 ≥ a0.1) then (F48 k ()).bind fun r => some r else bif decide (r.fst ≥ (↑r_1.fst.length : Int)) then some false else bif inRange r.fst r_1.fst.length then bif inRange r.snd.fst (8 : Nat) then bif inRange a2 a1.length then bif (r_1.fst.getD r.fst.toNat (T89.mk (0 : Int) (0 : Int) (List.replicate (32 : Nat) (0 : Int)) (0 : Int) [] (0 : Int) (List.replicate (8 : Nat) (0 : Int)))).7.getD r.snd.fst.toNat (0 : Int) != a1.getD a2.toNat (0 : Int) then some false else bif decide ((List.replicate (0 : Nat) (0 : Int)).length + a1.length ≤ roomMost) then bif inRange a2 (List.replicate (0 : Nat) (0 : Int) ++ a1).length then (F50 k (T64.mk a0.1 a0.2 a0.3 a0.4, (List.replicate (0 : Nat) (0 : Int) ++ a1).set a2.toNat (1000 : Int), ())).bind fun r_5 => bif r_5.snd.fst != (0 : Int) then some false else bif (↑r_5.fst.length : Int) != (↑r_1.fst.length : Int) then some false else (L16_24 k k (r.fst, r.snd.fst, r_1.fst, r_5.fst, (0 : Int))).bind fun r => sumK r (fun a => some a.fst) fun b => bif inRange b.fst b.snd.snd.length then bif inRange b.snd.fst (8 : Nat) then bif (b.snd.snd.getD b.fst.toNat (T89.mk (0 : Int) (0 : Int) (List.replicate (32 : Nat) (0 : Int)) (0 : Int) [] (0 : Int) (List.replicate (8 : Nat) (0 : Int)))).7.getD b.snd.fst.toNat (0 : Int) == (1000 : Int) then (F48 k ()).bind fun r => some r else some false else none else none else none else none else none else none else none
noncomputable def sp16 : FSpec Ty := spec ag16 rs16 F16
theorem bo16 : Tryd.f16.body = some (bodyOf Tryd.f16) := by kernel_rfl
theorem nd16 : nodupB ((loopsIn (bodyOf Tryd.f16)).map firstRegion) = true := by kernel_rfl
theorem lo16_27 : LSOK fs53 kp16 tab Tryd.f16 ls16_27 := lsum2_ok bo16 nd16 (LSOK.none) oa16_27 (R := R16_27) fun k again x => by kernel_rfl
theorem lo16_24 : LSOK fs53 kp16 tab Tryd.f16 ls16_24 := lsum2_ok bo16 nd16 (lo16_27) oa16_24 (R := R16_24) fun k again x => by kernel_rfl
theorem ok16 : FOK Tryd.prog tab 16 sp16 := spec_ok (keeps := kp16) tabOK fs53OK Tryd.func16 bo16 (by kernel_rfl) nd16 (lo16_24) (F := F16) fun k x => by kernel_rfl
noncomputable def fs16 : Nat → Option (FSpec Ty) := addF 16 sp16 fs53
theorem fs16OK : SpecsOK Tryd.prog tab fs16 := fs53OK.add ok16 Tryd.call16
def ag27 : Args Ty ((List Int) × (List Int) × Unit) := V.arg (tab.den 24) (V.arg (tab.den 24) (noArgs))
def rs27 : Res Ty tab (Bool) false := V.oneRes (tab.den 4) (ent 4).ids (ent 4).plain (fun x _ => (ent 4).flat x rfl)
def kp27 : Nat → Keep := fun i => ⟨[], []⟩
/-- "silt/siltkeep.Bytes" -/
def F27 (k : Nat) (x : (List Int) × (List Int) × Unit) : Option (Bool) :=
  match x with
  | (a0, a1, ()) => some ((bytesStr (List.map (fun x => x) a0)).toList == (bytesStr (List.map (fun x => x) a1)).toList)
noncomputable def sp27 : FSpec Ty := spec ag27 rs27 F27
theorem bo27 : Tryd.f27.body = some (bodyOf Tryd.f27) := by kernel_rfl
theorem nd27 : nodupB ((loopsIn (bodyOf Tryd.f27)).map firstRegion) = true := by kernel_rfl
theorem ok27 : FOK Tryd.prog tab 27 sp27 := spec_ok (keeps := kp27) tabOK fs16OK Tryd.func27 bo27 (by kernel_rfl) nd27 (LSOK.none) (F := F27) fun k x => by kernel_rfl
noncomputable def fs27 : Nat → Option (FSpec Ty) := addF 27 sp27 fs16
theorem fs27OK : SpecsOK Tryd.prog tab fs27 := fs16OK.add ok27 Tryd.call27
def ag54 : Args Ty (T89 × T89 × Unit) := V.arg (tab.den 90) (V.arg (tab.den 90) (noArgs))
def rs54 : Res Ty tab (Bool) false := V.oneRes (tab.den 4) (ent 4).ids (ent 4).plain (fun x _ => (ent 4).flat x rfl)
def kp54 : Nat → Keep := fun i => ⟨[], []⟩
/-- "silt/siltkeep.Block" -/
def F54 (k : Nat) (x : T89 × T89 × Unit) : Option (Bool) :=
  match x with
  | (a0, a1, ()) => bif a0.1 == a1.1 then bif a0.2 == a1.2 then bif decide (a0.3 = a1.3) then bif a0.4 == a1.4 then (F27 k (a0.5, a1.5, ())).bind fun r => bif r then bif a0.6 == a1.6 then some (decide (a0.7 = a1.7)) else some false else some false else some false else some false else some false else some false
noncomputable def sp54 : FSpec Ty := spec ag54 rs54 F54
theorem bo54 : Tryd.f54.body = some (bodyOf Tryd.f54) := by kernel_rfl
theorem nd54 : nodupB ((loopsIn (bodyOf Tryd.f54)).map firstRegion) = true := by kernel_rfl
theorem ok54 : FOK Tryd.prog tab 54 sp54 := spec_ok (keeps := kp54) tabOK fs27OK Tryd.func54 bo54 (by kernel_rfl) nd54 (LSOK.none) (F := F54) fun k x => by kernel_rfl
noncomputable def fs54 : Nat → Option (FSpec Ty) := addF 54 sp54 fs27
theorem fs54OK : SpecsOK Tryd.prog tab fs54 := fs27OK.add ok54 Tryd.call54
def ag17 : Args Ty (T64 × (List Int) × (List Int) × Unit) := V.arg (tab.den 65) (V.arg (tab.den 97) (V.arg (tab.den 97) (noArgs)))
def rs17 : Res Ty tab (Bool) false := V.oneRes (tab.den 4) (ent 4).ids (ent 4).plain (fun x _ => (ent 4).flat x rfl)
def of17_14 : List Int × List Int × List T89 × List T89 × Int × Bool × Int × Int × Int × Int × Int → NSt Ty := fun x => ⟨[.slice 3 (x.1), .slice 3 (x.2.1), .ptr 100000 [], .slice 90 (x.2.2.1), .slice 90 (x.2.2.2.1), .int .i64 (x.2.2.2.2.1), .bool (x.2.2.2.2.2.1), .int .i64 (x.2.2.2.2.2.2.1)], [.var (.cons (.int .i64 (x.2.2.2.2.2.2.2.1)) (.cons (.int .i64 (x.2.2.2.2.2.2.2.2.1)) (.cons (.int .i64 (x.2.2.2.2.2.2.2.2.2.1)) (.cons (.int .i64 (x.2.2.2.2.2.2.2.2.2.2)) (.nil)))))]⟩
def ab17_14 : (n : NSt Ty) → Option {x : List Int × List Int × List T89 × List T89 × Int × Bool × Int × Int × Int × Int × Int // of17_14 x = n}
  | ⟨[.slice 3 v0, .slice 3 v1, .ptr 100000 [], .slice 90 v2, .slice 90 v3, .int .i64 v4, .bool v5, .int .i64 v6], [.var (.cons (.int .i64 v7) (.cons (.int .i64 v8) (.cons (.int .i64 v9) (.cons (.int .i64 v10) (.nil)))))]⟩ => some ⟨(v0, v1, v2, v3, v4, v5, v6, v7, v8, v9, v10), rfl⟩
  | _ => none
def on17_14a : List Int × List Int × Bool × List T89 × List T89 × Int × Bool × Int × Int × Int × Int → NSt Ty := fun x => ⟨[.slice 3 (x.1), .slice 3 (x.2.1), .ptr 100000 [], .bool (x.2.2.1), .slice 90 (x.2.2.2.1), .slice 90 (x.2.2.2.2.1), .int .i64 (x.2.2.2.2.2.1), .bool (x.2.2.2.2.2.2.1)], [.var (.cons (.int .i64 (x.2.2.2.2.2.2.2.1)) (.cons (.int .i64 (x.2.2.2.2.2.2.2.2.1)) (.cons (.int .i64 (x.2.2.2.2.2.2.2.2.2.1)) (.cons (.int .i64 (x.2.2.2.2.2.2.2.2.2.2)) (.nil)))))]⟩
def on17_14b : List Int × List Int × List T89 × List T89 × Int × Bool × Int × Int × Int × Int → NSt Ty := fun x => ⟨[.slice 3 (x.1), .slice 3 (x.2.1), .ptr 100000 [], .undef, .slice 90 (x.2.2.1), .slice 90 (x.2.2.2.1), .int .i64 (x.2.2.2.2.1), .bool (x.2.2.2.2.2.1)], [.var (.cons (.int .i64 (x.2.2.2.2.2.2.1)) (.cons (.int .i64 (x.2.2.2.2.2.2.2.1)) (.cons (.int .i64 (x.2.2.2.2.2.2.2.2.1)) (.cons (.int .i64 (x.2.2.2.2.2.2.2.2.2)) (.nil)))))]⟩
def oa17_14 : (e : Ex) → (n : NSt Ty) → Option {y : (List Int × List Int × Bool × List T89 × List T89 × Int × Bool × Int × Int × Int × Int) ⊕ (List Int × List Int × List T89 × List T89 × Int × Bool × Int × Int × Int × Int) // oe2 .ret (.exit 2) y = e ∧ on2 on17_14a on17_14b y = n}
  | .ret, ⟨[.slice 3 v0, .slice 3 v1, .ptr 100000 [], .bool v2, .slice 90 v3, .slice 90 v4, .int .i64 v5, .bool v6], [.var (.cons (.int .i64 v7) (.cons (.int .i64 v8) (.cons (.int .i64 v9) (.cons (.int .i64 v10) (.nil)))))]⟩ => some ⟨.inl (v0, v1, v2, v3, v4, v5, v6, v7, v8, v9, v10), rfl, rfl⟩
  | .exit 2, ⟨[.slice 3 v0, .slice 3 v1, .ptr 100000 [], .undef, .slice 90 v2, .slice 90 v3, .int .i64 v4, .bool v5], [.var (.cons (.int .i64 v6) (.cons (.int .i64 v7) (.cons (.int .i64 v8) (.cons (.int .i64 v9) (.nil)))))]⟩ => some ⟨.inr (v0, v1, v2, v3, v4, v5, v6, v7, v8, v9), rfl, rfl⟩
  | _, _ => none
/-- a round of the loop 14 of function 17 -/
def R17_14 (k : Nat) (again : List Int × List Int × List T89 × List T89 × Int × Bool × Int × Int × Int × Int × Int → Option ((List Int × List Int × Bool × List T89 × List T89 × Int × Bool × Int × Int × Int × Int) ⊕ (List Int × List Int × List T89 × List T89 × Int × Bool × Int × Int × Int × Int))) (x : List Int × List Int × List T89 × List T89 × Int × Bool × Int × Int × Int × Int × Int) : Option ((List Int × List Int × Bool × List T89 × List T89 × Int × Bool × Int × Int × Int × Int) ⊕ (List Int × List Int × List T89 × List T89 × Int × Bool × Int × Int × Int × Int)) :=
  match x with
  | (v0, v1, v2, v3, v4, v5, v6, v7, v8, v9, v10) => bif decide (v6 < (8 : Int)) then bif decide (IntKind.i64.wrap (IntKind.i64.wrap ((8 : Int) * v4) + v6) < v7) then bif v5 then bif inRange (IntKind.i64.wrap (IntKind.i64.wrap ((8 : Int) * v4) + v6)) v0.length then bif inRange (IntKind.i64.wrap (IntKind.i64.wrap ((8 : Int) * v4) + v6)) v1.length then again (v0, v1, v2, v3, v4, v0.getD (IntKind.i64.wrap (IntKind.i64.wrap ((8 : Int) * v4) + v6)).toNat (0 : Int) == v1.getD (IntKind.i64.wrap (IntKind.i64.wrap ((8 : Int) * v4) + v6)).toNat (0 : Int), IntKind.i64.wrap (v6 + (1 : Int)), v7, v8, v9, v10) else none else none else again (v0, v1, v2, v3, v4, false, IntKind.i64.wrap (v6 + (1 : Int)), v7, v8, v9, v10) else bif inRange v4 v2.length then bif inRange v6 (8 : Nat) then bif (v2.getD v4.toNat (T89.mk (0 : Int) (0 : Int) (List.replicate (32 : Nat) (0 : Int)) (0 : Int) [] (0 : Int) (List.replicate (8 : Nat) (0 : Int)))).7.getD v6.toNat (0 : Int) != (0 : Int) then some (Sum.inl (v0, v1, false, v2, v3, v4, v5, v7, v8, v9, v10)) else again (v0, v1, v2, v3, v4, v5, IntKind.i64.wrap (v6 + (1 : Int)), v7, v8, v9, v10) else none else none else some (Sum.inr (v0, v1, v2, v3, v4, v5, v7, v8, v9, v10))
def L17_14 (k n : Nat) (x : List Int × List Int × List T89 × List T89 × Int × Bool × Int × Int × Int × Int × Int) : Option ((List Int × List Int × Bool × List T89 × List T89 × Int × Bool × Int × Int × Int × Int) ⊕ (List Int × List Int × List T89 × List T89 × Int × Bool × Int × Int × Int × Int)) := iterR (R17_14 k) n x
noncomputable def ls17_14 : Nat → Option (LSum Ty) := addL 14 (lsum2 of17_14 ab17_14 L17_14 .ret on17_14a (.exit 2) on17_14b) noL
def of17_10 : List Int × List Int × List T89 × List T89 × Int × Int × Int × Int × Int → NSt Ty := fun x => ⟨[.slice 3 (x.1), .slice 3 (x.2.1), .ptr 100000 [], .slice 90 (x.2.2.1), .slice 90 (x.2.2.2.1), .int .i64 (x.2.2.2.2.1)], [.var (.cons (.int .i64 (x.2.2.2.2.2.1)) (.cons (.int .i64 (x.2.2.2.2.2.2.1)) (.cons (.int .i64 (x.2.2.2.2.2.2.2.1)) (.cons (.int .i64 (x.2.2.2.2.2.2.2.2)) (.nil)))))]⟩
def ab17_10 : (n : NSt Ty) → Option {x : List Int × List Int × List T89 × List T89 × Int × Int × Int × Int × Int // of17_10 x = n}
  | ⟨[.slice 3 v0, .slice 3 v1, .ptr 100000 [], .slice 90 v2, .slice 90 v3, .int .i64 v4], [.var (.cons (.int .i64 v5) (.cons (.int .i64 v6) (.cons (.int .i64 v7) (.cons (.int .i64 v8) (.nil)))))]⟩ => some ⟨(v0, v1, v2, v3, v4, v5, v6, v7, v8), rfl⟩
  | _ => none
def on17_10a : Bool → NSt Ty := fun x => ⟨[.bool (x)], []⟩
def on17_10b : Unit → NSt Ty := fun x => ⟨[.undef], []⟩
def oa17_10 : (e : Ex) → (n : NSt Ty) → Option {y : (Bool) ⊕ (Unit) // oe2 .ret (.exit 0) y = e ∧ on2 on17_10a on17_10b y = n}
  | .ret, ⟨[.bool v0], []⟩ => some ⟨.inl v0, rfl, rfl⟩
  | .exit 0, ⟨[.undef], []⟩ => some ⟨.inr (), rfl, rfl⟩
  | _, _ => none
/-- a round of the loop 10 of function 17 -/
def R17_10 (k : Nat) (again : List Int × List Int × List T89 × List T89 × Int × Int × Int × Int × Int → Option ((Bool) ⊕ (Unit))) (x : List Int × List Int × List T89 × List T89 × Int × Int × Int × Int × Int) : Option ((Bool) ⊕ (Unit)) :=
  match x with
  | (v0, v1, v2, v3, v4, v5, v6, v7, v8) => bif decide (v4 < (↑v2.length : Int)) then (L17_14 k k (v0, v1, v2, v3, v4, true, (0 : Int), v5, v6, v7, v8)).bind fun r => sumK r (fun a => some (Sum.inl a.snd.snd.fst)) fun b => bif inRange b.snd.snd.snd.snd.fst b.snd.snd.fst.length then bif inRange b.snd.snd.snd.snd.fst b.snd.snd.snd.fst.length then (F54 k (T89.mk (b.snd.snd.fst.getD b.snd.snd.snd.snd.fst.toNat (T89.mk (0 : Int) (0 : Int) (List.replicate (32 : Nat) (0 : Int)) (0 : Int) [] (0 : Int) (List.replicate (8 : Nat) (0 : Int)))).1 (b.snd.snd.fst.getD b.snd.snd.snd.snd.fst.toNat (T89.mk (0 : Int) (0 : Int) (List.replicate (32 : Nat) (0 : Int)) (0 : Int) [] (0 : Int) (List.replicate (8 : Nat) (0 : Int)))).2 (b.snd.snd.fst.getD b.snd.snd.snd.snd.fst.toNat (T89.mk (0 : Int) (0 : Int) (List.replicate (32 : Nat) (0 : Int)) (0 : Int) [] (0 : Int) (List.replicate (8 : Nat) (0 : Int)))).3 (b.snd.snd.fst.getD b.snd.snd.snd.snd.fst.toNat (T89.mk (0 : Int) (0 : Int) (List.replicate (32 : Nat) (0 : Int)) (0 : Int) [] (0 : Int) (List.replicate (8 : Nat) (0 : Int)))).4 (b.snd.snd.fst.getD b.snd.snd.snd.snd.fst.toNat (T89.mk (0 : Int) (0 : Int) (List.replicate (32 : Nat) (0 : Int)) (0 : Int) [] (0 : Int) (List.replicate (8 : Nat) (0 : Int)))).5 (b.snd.snd.fst.getD b.snd.snd.snd.snd.fst.toNat (T89.mk (0 : Int) (0 : Int) (List.replicate (32 : Nat) (0 : Int)) (0 : Int) [] (0 : Int) (List.replicate (8 : Nat) (0 : Int)))).6 (b.snd.snd.fst.getD b.snd.snd.snd.snd.fst.toNat (T89.mk (0 : Int) (0 : Int) (List.replicate (32 : Nat) (0 : Int)) (0 : Int) [] (0 : Int) (List.replicate (8 : Nat) (0 : Int)))).7, T89.mk (b.snd.snd.snd.fst.getD b.snd.snd.snd.snd.fst.toNat (T89.mk (0 : Int) (0 : Int) (List.replicate (32 : Nat) (0 : Int)) (0 : Int) [] (0 : Int) (List.replicate (8 : Nat) (0 : Int)))).1 (b.snd.snd.snd.fst.getD b.snd.snd.snd.snd.fst.toNat (T89.mk (0 : Int) (0 : Int) (List.replicate (32 : Nat) (0 : Int)) (0 : Int) [] (0 : Int) (List.replicate (8 : Nat) (0 : Int)))).2 (b.snd.snd.snd.fst.getD b.snd.snd.snd.snd.fst.toNat (T89.mk (0 : Int) (0 : Int) (List.replicate (32 : Nat) (0 : Int)) (0 : Int) [] (0 : Int) (List.replicate (8 : Nat) (0 : Int)))).3 (b.snd.snd.snd.fst.getD b.snd.snd.snd.snd.fst.toNat (T89.mk (0 : Int) (0 : Int) (List.replicate (32 : Nat) (0 : Int)) (0 : Int) [] (0 : Int) (List.replicate (8 : Nat) (0 : Int)))).4 (b.snd.snd.snd.fst.getD b.snd.snd.snd.snd.fst.toNat (T89.mk (0 : Int) (0 : Int) (List.replicate (32 : Nat) (0 : Int)) (0 : Int) [] (0 : Int) (List.replicate (8 : Nat) (0 : Int)))).5 (b.snd.snd.snd.fst.getD b.snd.snd.snd.snd.fst.toNat (T89.mk (0 : Int) (0 : Int) (List.replicate (32 : Nat) (0 : Int)) (0 : Int) [] (0 : Int) (List.replicate (8 : Nat) (0 : Int)))).6 (b.snd.snd.snd.fst.getD b.snd.snd.snd.snd.fst.toNat (T89.mk (0 : Int) (0 : Int) (List.replicate (32 : Nat) (0 : Int)) (0 : Int) [] (0 : Int) (List.replicate (8 : Nat) (0 : Int)))).7, ())).bind fun r => bif !b.snd.snd.snd.snd.snd.fst == r then some (Sum.inl false) else bif inRange b.snd.snd.snd.snd.fst b.snd.snd.fst.length then bif (b.snd.snd.fst.getD b.snd.snd.snd.snd.fst.toNat (T89.mk (0 : Int) (0 : Int) (List.replicate (32 : Nat) (0 : Int)) (0 : Int) [] (0 : Int) (List.replicate (8 : Nat) (0 : Int)))).1 != (3 : Int) then some (Sum.inl false) else bif inRange b.snd.snd.snd.snd.fst b.snd.snd.fst.length then bif (b.snd.snd.fst.getD b.snd.snd.snd.snd.fst.toNat (T89.mk (0 : Int) (0 : Int) (List.replicate (32 : Nat) (0 : Int)) (0 : Int) [] (0 : Int) (List.replicate (8 : Nat) (0 : Int)))).2 != b.snd.snd.snd.snd.fst then some (Sum.inl false) else again (b.fst, b.snd.fst, b.snd.snd.fst, b.snd.snd.snd.fst, IntKind.i64.wrap (b.snd.snd.snd.snd.fst + (1 : Int)), b.snd.snd.snd.snd.snd.snd.fst, b.snd.snd.snd.snd.snd.snd.snd.fst, b.snd.snd.snd.snd.snd.snd.snd.snd.fst, b.snd.snd.snd.snd.snd.snd.snd.snd.snd) else none else none else none else none else some (Sum.inr ())
def L17_10 (k n : Nat) (x : List Int × List Int × List T89 × List T89 × Int × Int × Int × Int × Int) : Option ((Bool) ⊕ (Unit)) := iterR (R17_10 k) n x
noncomputable def ls17_10 : Nat → Option (LSum Ty) := addL 10 (lsum2 of17_10 ab17_10 L17_10 .ret on17_10a (.exit 0) on17_10b) ls17_14
def kp17 : Nat → Keep := fun i => cond (i == 10) ⟨[1, 2, 3, 7, 9, 11], [6]⟩ (cond (i == 14) ⟨[1, 2, 3, 7, 9, 11, 12, 13], [1, 2, 3, 6, 7, 9, 11, 12]⟩ (⟨[], []⟩))
/-- "silt/siltlaw10.MapPages" -/
def F17 (k : Nat) (x : T64 × (List Int) × (List Int) × Unit) : Option (Bool) :=
  match x with
  | (a0, a1, a2, ()) => bif decide ((↑a1.length : Int) > (100 : Int)) then (F48 k ()).bind fun r => some r else bif decide ((↑a2.length : Int) > (100 : Int)) then (F48 k ()).bind fun r => some r else (F50 k (T64.mk a0.1 a0.2 a0.3 a0.4, a1, ())).bind fun r => (F50 k (T64.mk a0.1 a0.2 a0.3 a0.4, a2, ())).bind fun r_1 => bif r.snd.fst != (0 : Int) then bif IntKind.i64.wrap ((↑r.fst.length : Int) * (↑r_1.fst.length : Int)) == (0 : Int) then (F48 k ()).bind fun r => some r else some false else bif r_1.snd.fst != (0 : Int) then bif IntKind.i64.wrap ((↑r.fst.length : Int) * (↑r_1.fst.length : Int)) == (0 : Int) then (F48 k ()).bind fun r => some r else some false else bif (↑r.fst.length : Int) != (↑r_1.fst.length : Int) then some false else bif (↑a1.length : Int) != a0.1 then some false else bif (↑a2.length : Int) != a0.1 then some false else (L17_10 k k (a1, a2, r.fst, r_1.fst, (0 : Int), a0.1, a0.2, a0.3, a0.4)).bind fun r => sumK r (fun a => some a) fun b => (F48 k ()).bind fun r => some r
noncomputable def sp17 : FSpec Ty := spec ag17 rs17 F17
theorem bo17 : Tryd.f17.body = some (bodyOf Tryd.f17) := by kernel_rfl
theorem nd17 : nodupB ((loopsIn (bodyOf Tryd.f17)).map firstRegion) = true := by kernel_rfl
theorem lo17_14 : LSOK fs54 kp17 tab Tryd.f17 ls17_14 := lsum2_ok bo17 nd17 (LSOK.none) oa17_14 (R := R17_14) fun k again x => by kernel_rfl
theorem lo17_10 : LSOK fs54 kp17 tab Tryd.f17 ls17_10 := lsum2_ok bo17 nd17 (lo17_14) oa17_10 (R := R17_10) fun k again x => by kernel_rfl
theorem ok17 : FOK Tryd.prog tab 17 sp17 := spec_ok (keeps := kp17) tabOK fs54OK Tryd.func17 bo17 (by kernel_rfl) nd17 (lo17_10) (F := F17) fun k x => by kernel_rfl
noncomputable def fs17 : Nat → Option (FSpec Ty) := addF 17 sp17 fs54
theorem fs17OK : SpecsOK Tryd.prog tab fs17 := fs54OK.add ok17 Tryd.call17
end Go.Proofs.YtpnnmpdjgnbkhaaDoor.W
