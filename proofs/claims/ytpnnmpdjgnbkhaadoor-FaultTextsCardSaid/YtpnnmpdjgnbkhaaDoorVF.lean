/-
  The functions that the statement reaches, as typed functions, and that the program computes them. No conditions. Printed by program.
-/
import Derived.Test.YtpnnmpdjgnbkhaaDoorVH
set_option linter.unusedVariables false
namespace Go.Proofs.YtpnnmpdjgnbkhaaDoor.W
open Go Go.Proofs V
theorem noFOK : SpecsOK Tryd.prog tab noF := SpecsOK.none cmpOK asOK
def ag28 : Args Ty ((List ByteArray) × Unit) := V.arg (tab.den 45) (noArgs)
def rs28 : Res Ty tab (Bool) false := V.oneRes (tab.den 4) (ent 4).ids (ent 4).plain (fun x _ => (ent 4).flat x rfl)
def of28_3 : List ByteArray × Int × Int → NSt Ty := fun x => ⟨[.slice 9 (x.1), .int .i64 (x.2.1), .int .i64 (x.2.2)], []⟩
def ab28_3 : (n : NSt Ty) → Option {x : List ByteArray × Int × Int // of28_3 x = n}
  | ⟨[.slice 9 v0, .int .i64 v1, .int .i64 v2], []⟩ => some ⟨(v0, v1, v2), rfl⟩
  | _ => none
def on28_3a : List ByteArray × Bool → NSt Ty := fun x => ⟨[.slice 9 (x.1), .bool (x.2)], []⟩
def on28_3b : List ByteArray → NSt Ty := fun x => ⟨[.slice 9 (x), .undef], []⟩
def oa28_3 : (e : Ex) → (n : NSt Ty) → Option {y : (List ByteArray × Bool) ⊕ (List ByteArray) // oe2 .ret (.exit 0) y = e ∧ on2 on28_3a on28_3b y = n}
  | .ret, ⟨[.slice 9 v0, .bool v1], []⟩ => some ⟨.inl (v0, v1), rfl, rfl⟩
  | .exit 0, ⟨[.slice 9 v0, .undef], []⟩ => some ⟨.inr v0, rfl, rfl⟩
  | _, _ => none
/-- a round of the loop 3 of function 28 -/
def R28_3 (k : Nat) (again : List ByteArray × Int × Int → Option ((List ByteArray × Bool) ⊕ (List ByteArray))) (x : List ByteArray × Int × Int) : Option ((List ByteArray × Bool) ⊕ (List ByteArray)) :=
  match x with
  | (v0, v1, v2) => bif decide (v2 < (↑v0.length : Int)) then bif inRange v2 v0.length then bif decide (IntKind.i64.wrap (v1 + if (2001 : Int) < (↑(ByteArray.size (v0.getD v2.toNat ByteArray.empty)) : Int) then (2001 : Int) else (↑(ByteArray.size (v0.getD v2.toNat ByteArray.empty)) : Int)) > (2000 : Int)) then some (Sum.inl (v0, false)) else again (v0, IntKind.i64.wrap (v1 + if (2001 : Int) < (↑(ByteArray.size (v0.getD v2.toNat ByteArray.empty)) : Int) then (2001 : Int) else (↑(ByteArray.size (v0.getD v2.toNat ByteArray.empty)) : Int)), IntKind.i64.wrap (v2 + (1 : Int))) else none else some (Sum.inr v0)
def L28_3 (k n : Nat) (x : List ByteArray × Int × Int) : Option ((List ByteArray × Bool) ⊕ (List ByteArray)) := iterR (R28_3 k) n x
noncomputable def ls28_3 : Nat → Option (LSum Ty) := addL 3 (lsum2 of28_3 ab28_3 L28_3 .ret on28_3a (.exit 0) on28_3b) noL
def kp28 : Nat → Keep := fun i => cond (i == 3) ⟨[0, 3, 4], [0, 2], 0⟩ (⟨[], [], 0⟩)
/-- "silt/siltlaw01.Fair" -/
def F28 (k : Nat) (x : (List ByteArray) × Unit) : Option (Bool) :=
  match x with
  | (a0, ()) => (L28_3 k k (a0, (0 : Int), (0 : Int))).bind fun r => sumK r (fun a => some a.snd) fun b => some (decide ((↑b.length : Int) ≤ (50 : Int)))
noncomputable def sp28 : FSpec Ty := spec ag28 rs28 F28
theorem bo28 : Tryd.f28.body = some (bodyOf Tryd.f28) := by kernel_rfl
theorem nd28 : nodupB ((loopsIn (bodyOf Tryd.f28)).map firstRegion) = true := by kernel_rfl
theorem lo28_3 : LSOK noF kp28 tab Tryd.f28 ls28_3 := lsum2_ok bo28 nd28 (LSOK.none) oa28_3 (R := R28_3) fun k again x => by kernel_rfl
theorem ok28 : FOK Tryd.prog tab 28 sp28 := spec_ok (keeps := kp28) tabOK noFOK Tryd.func28 bo28 (by kernel_rfl) nd28 (lo28_3) (F := F28) fun k x => by kernel_rfl
noncomputable def fs28 : Nat → Option (FSpec Ty) := addF 28 sp28 noF
theorem fs28OK : SpecsOK Tryd.prog tab fs28 := noFOK.add ok28 Tryd.call28
def ag30 : Args Ty (Int × ByteArray × Unit) := V.arg (tab.den 33) (V.arg (tab.den 9) (noArgs))
def rs30 : Res Ty tab (GErr) true := V.oneRes (tab.den 48) (ent 48).ids (ent 48).plain (fun _ h => by cases h)
def kp30 : Nat → Keep := fun i => ⟨[], [], 0⟩
/-- "silt/fault.New" -/
def F30 (k : Nat) (x : Int × ByteArray × Unit) : Option (GErr) :=
  match x with
  | (a0, a1, ()) => bif a0 == (0 : Int) then some GErr.nil else some (GErr.flt a1 (GErr.num a0) false)
noncomputable def sp30 : FSpec Ty := spec ag30 rs30 F30
theorem bo30 : Tryd.f30.body = some (bodyOf Tryd.f30) := by kernel_rfl
theorem nd30 : nodupB ((loopsIn (bodyOf Tryd.f30)).map firstRegion) = true := by kernel_rfl
theorem ok30 : FOK Tryd.prog tab 30 sp30 := spec_ok (keeps := kp30) tabOK fs28OK Tryd.func30 bo30 (by kernel_rfl) nd30 (LSOK.none) (F := F30) fun k x => by kernel_rfl
noncomputable def fs30 : Nat → Option (FSpec Ty) := addF 30 sp30 fs28
theorem fs30OK : SpecsOK Tryd.prog tab fs30 := fs28OK.add ok30 Tryd.call30
def ag34 : Args Ty (GErr × ByteArray × Unit) := V.arg (tab.den 48) (V.arg (tab.den 9) (noArgs))
def rs34 : Res Ty tab (GErr) true := V.oneRes (tab.den 48) (ent 48).ids (ent 48).plain (fun _ h => by cases h)
def kp34 : Nat → Keep := fun i => ⟨[], [], 0⟩
/-- "silt/fault.Wrap" -/
def F34 (k : Nat) (x : GErr × ByteArray × Unit) : Option (GErr) :=
  match x with
  | (a0, a1, ()) => bif a0.isNil then some GErr.nil else some (GErr.flt a1 a0 true)
noncomputable def sp34 : FSpec Ty := spec ag34 rs34 F34
theorem bo34 : Tryd.f34.body = some (bodyOf Tryd.f34) := by kernel_rfl
theorem nd34 : nodupB ((loopsIn (bodyOf Tryd.f34)).map firstRegion) = true := by kernel_rfl
theorem ok34 : FOK Tryd.prog tab 34 sp34 := spec_ok (keeps := kp34) tabOK fs30OK Tryd.func34 bo34 (by kernel_rfl) nd34 (LSOK.none) (F := F34) fun k x => by kernel_rfl
noncomputable def fs34 : Nat → Option (FSpec Ty) := addF 34 sp34 fs30
theorem fs34OK : SpecsOK Tryd.prog tab fs34 := fs30OK.add ok34 Tryd.call34
def ag32 : Args Ty (GErr × Unit) := V.arg (tab.den 48) (noArgs)
def rs32 : Res Ty tab (ByteArray) false := V.oneRes (tab.den 9) (ent 9).ids (ent 9).plain (fun x _ => (ent 9).flat x rfl)
/-- by hand -/
def F32 : Nat → (GErr × Unit) → Option (ByteArray) := textF
noncomputable def sp32 : FSpec Ty := spec ag32 rs32 F32
theorem ok32 : FOK Tryd.prog tab 32 sp32 := textOK
noncomputable def fs32 : Nat → Option (FSpec Ty) := addF 32 sp32 fs34
theorem fs32OK : SpecsOK Tryd.prog tab fs32 := fs34OK.add ok32 Tryd.call32
def ag35 : Args Ty (GErr × Unit) := V.arg (tab.den 48) (noArgs)
def rs35 : Res Ty tab (Int) false := V.oneRes (tab.den 33) (ent 33).ids (ent 33).plain (fun x _ => (ent 33).flat x rfl)
def kp35 : Nat → Keep := fun i => ⟨[], [], 0⟩
/-- "silt/fault.Of" -/
def F35 (k : Nat) (x : GErr × Unit) : Option (Int) :=
  match x with
  | (a0, ()) => bif a0.isNil then some (0 : Int) else bif a0.first.isSome then some (a0.first.getD (0 : Int)) else some (1 : Int)
noncomputable def sp35 : FSpec Ty := spec ag35 rs35 F35
theorem bo35 : Tryd.f35.body = some (bodyOf Tryd.f35) := by kernel_rfl
theorem nd35 : nodupB ((loopsIn (bodyOf Tryd.f35)).map firstRegion) = true := by kernel_rfl
theorem ok35 : FOK Tryd.prog tab 35 sp35 := spec_ok (keeps := kp35) tabOK fs32OK Tryd.func35 bo35 (by kernel_rfl) nd35 (LSOK.none) (F := F35) fun k x => by kernel_rfl
noncomputable def fs35 : Nat → Option (FSpec Ty) := addF 35 sp35 fs32
theorem fs35OK : SpecsOK Tryd.prog tab fs35 := fs32OK.add ok35 Tryd.call35
def ag61 : Args Ty (GErr × GErr × Unit) := V.arg (tab.den 48) (V.arg (tab.den 48) noArgs)
def rs61 : Res Ty tab Bool false := V.oneRes (tab.den 4) (ent 4).ids (ent 4).plain (fun x _ => (ent 4).flat x rfl)
/-- errors.Is -/
def F61 : Nat → (GErr × GErr × Unit) → Option Bool := errIsF
noncomputable def sp61 : FSpec Ty := spec ag61 rs61 F61
theorem ok61 : FOK Tryd.prog tab 61 sp61 := errIs_ok (A := ag61) (B := rs61) (fun _ _ => rfl) (fun _ => rfl) (fun _ _ n e x h => is_calls n e x h)
noncomputable def fs61 : Nat → Option (FSpec Ty) := addF 61 sp61 fs35
theorem fs61OK : SpecsOK Tryd.prog tab fs61 := fs35OK.add ok61 Tryd.call61
def ag36 : Args Ty (GErr × Int × Unit) := V.arg (tab.den 48) (V.arg (tab.den 33) (noArgs))
def rs36 : Res Ty tab (Bool) false := V.oneRes (tab.den 4) (ent 4).ids (ent 4).plain (fun x _ => (ent 4).flat x rfl)
def kp36 : Nat → Keep := fun i => ⟨[], [], 0⟩
/-- "silt/fault.Is" -/
def F36 (k : Nat) (x : GErr × Int × Unit) : Option (Bool) :=
  match x with
  | (a0, a1, ()) => bif a0.isNil then some (a1 == (0 : Int)) else (F61 k (a0, GErr.num a1, ())).bind fun r => some r
noncomputable def sp36 : FSpec Ty := spec ag36 rs36 F36
theorem bo36 : Tryd.f36.body = some (bodyOf Tryd.f36) := by kernel_rfl
theorem nd36 : nodupB ((loopsIn (bodyOf Tryd.f36)).map firstRegion) = true := by kernel_rfl
theorem ok36 : FOK Tryd.prog tab 36 sp36 := spec_ok (keeps := kp36) tabOK fs61OK Tryd.func36 bo36 (by kernel_rfl) nd36 (LSOK.none) (F := F36) fun k x => by kernel_rfl
noncomputable def fs36 : Nat → Option (FSpec Ty) := addF 36 sp36 fs61
theorem fs36OK : SpecsOK Tryd.prog tab fs36 := fs61OK.add ok36 Tryd.call36
def ag33 : Args Ty (GErr × Unit) := V.arg (tab.den 48) (noArgs)
def rs33 : Res Ty tab (Int) false := V.oneRes (tab.den 3) (ent 3).ids (ent 3).plain (fun x _ => (ent 3).flat x rfl)
/-- by hand -/
def F33 : Nat → (GErr × Unit) → Option (Int) := deepF
noncomputable def sp33 : FSpec Ty := spec ag33 rs33 F33
theorem ok33 : FOK Tryd.prog tab 33 sp33 := deepOK
noncomputable def fs33 : Nat → Option (FSpec Ty) := addF 33 sp33 fs36
theorem fs33OK : SpecsOK Tryd.prog tab fs33 := fs36OK.add ok33 Tryd.call33
def ag29 : Args Ty (Unit) := noArgs
def rs29 : Res Ty tab (Bool) false := V.oneRes (tab.den 4) (ent 4).ids (ent 4).plain (fun x _ => (ent 4).flat x rfl)
def kp29 : Nat → Keep := fun i => ⟨[], [], 0⟩
/-- "silt/siltlaw01.wakes" -/
def F29 (k : Nat) (x : Unit) : Option (Bool) :=
  match x with
  | () => (F30 k ((14 : Int), ByteArray.mk (Array.mk [(102 : UInt8), (117 : UInt8), (108 : UInt8), (108 : UInt8)]), ())).bind fun r => (F34 k (r, ByteArray.mk (Array.mk [(112 : UInt8), (117 : UInt8), (116 : UInt8)]), ())).bind fun r => (F32 k (r, ())).bind fun r_1 => bif r_1.toList == (ByteArray.mk #[(112 : UInt8), (117 : UInt8), (116 : UInt8), (58 : UInt8), (32 : UInt8), (102 : UInt8), (117 : UInt8), (108 : UInt8), (108 : UInt8), (58 : UInt8), (32 : UInt8), (101 : UInt8), (114 : UInt8), (114 : UInt8), (111 : UInt8), (114 : UInt8), (32 : UInt8), (49 : UInt8), (52 : UInt8)]).toList then (F35 k (r, ())).bind fun r_2 => bif r_2 == (14 : Int) then (F36 k (r, (14 : Int), ())).bind fun r_3 => bif r_3 then (F36 k (r, (11 : Int), ())).bind fun r_4 => bif !r_4 then (F33 k (r, ())).bind fun r => bif r == (1 : Int) then (F30 k ((0 : Int), ByteArray.mk (Array.mk [(120 : UInt8)]), ())).bind fun r => bif r.isNil then (F35 k (GErr.nil, ())).bind fun r => some (r == (0 : Int)) else some false else some false else some false else some false else some false else some false
noncomputable def sp29 : FSpec Ty := spec ag29 rs29 F29
theorem bo29 : Tryd.f29.body = some (bodyOf Tryd.f29) := by kernel_rfl
theorem nd29 : nodupB ((loopsIn (bodyOf Tryd.f29)).map firstRegion) = true := by kernel_rfl
theorem ok29 : FOK Tryd.prog tab 29 sp29 := spec_ok (keeps := kp29) tabOK fs33OK Tryd.func29 bo29 (by kernel_rfl) nd29 (LSOK.none) (F := F29) fun k x => by kernel_rfl
noncomputable def fs29 : Nat → Option (FSpec Ty) := addF 29 sp29 fs33
theorem fs29OK : SpecsOK Tryd.prog tab fs29 := fs33OK.add ok29 Tryd.call29
def ag31 : Args Ty (Int × Unit) := V.arg (tab.den 33) (noArgs)
def rs31 : Res Ty tab (ByteArray) false := V.oneRes (tab.den 9) (ent 9).ids (ent 9).plain (fun x _ => (ent 9).flat x rfl)
def of31_3 : Int × ByteArray → NSt Ty := fun x => ⟨[.int .i64 (x.1), .str (x.2)], []⟩
def ab31_3 : (n : NSt Ty) → Option {x : Int × ByteArray // of31_3 x = n}
  | ⟨[.int .i64 v0, .str v1], []⟩ => some ⟨(v0, v1), rfl⟩
  | _ => none
def oe31_3 : ByteArray → Ex := fun _ => .ret
def on31_3 : ByteArray → NSt Ty := fun x => ⟨[.str (x)], []⟩
def oa31_3 : (e : Ex) → (n : NSt Ty) → Option {y : ByteArray // oe31_3 y = e ∧ on31_3 y = n}
  | .ret, ⟨[.str v0], []⟩ => some ⟨v0, rfl, rfl⟩
  | _, _ => none
/-- a round of the loop 3 of function 31 -/
def R31_3 (k : Nat) (again : Int × ByteArray → Option (ByteArray)) (x : Int × ByteArray) : Option (ByteArray) :=
  match x with
  | (v0, v1) => bif ((bytesStr (List.map (fun x => x) ((List.replicate (1 : Nat) (0 : Int)).set (0 : Nat) (IntKind.u8.wrap ((48 : Int) + IntKind.u8.wrap (v0.tmod (10 : Int))))))).size + v1.size).ble (4294967296 : Nat) then bif IntKind.i64.wrap (v0.tdiv (10 : Int)) == (0 : Int) then some (ByteArray.mk (Array.mk ([].concat (UInt8.ofNat (IntKind.u8.wrap ((48 : Int) + IntKind.u8.wrap (v0.tmod (10 : Int)))).toNat) ++ v1.data.toList))) else again (IntKind.i64.wrap (v0.tdiv (10 : Int)), ByteArray.mk (Array.mk ([].concat (UInt8.ofNat (IntKind.u8.wrap ((48 : Int) + IntKind.u8.wrap (v0.tmod (10 : Int)))).toNat) ++ v1.data.toList))) else none
def L31_3 (k n : Nat) (x : Int × ByteArray) : Option (ByteArray) := iterR (R31_3 k) n x
noncomputable def ls31_3 : Nat → Option (LSum Ty) := addL 3 (LSum.of of31_3 ab31_3 L31_3 oe31_3 on31_3) noL
def kp31 : Nat → Keep := fun i => cond (i == 3) ⟨[3, 4], [2], 0⟩ (⟨[], [], 0⟩)
/-- "silt/siltlaw01.dec" -/
def F31 (k : Nat) (x : Int × Unit) : Option (ByteArray) :=
  match x with
  | (a0, ()) => (L31_3 k k (a0, ByteArray.mk (Array.mk []))).bind fun r => some r
noncomputable def sp31 : FSpec Ty := spec ag31 rs31 F31
theorem bo31 : Tryd.f31.body = some (bodyOf Tryd.f31) := by kernel_rfl
theorem nd31 : nodupB ((loopsIn (bodyOf Tryd.f31)).map firstRegion) = true := by kernel_rfl
theorem lo31_3 : LSOK fs29 kp31 tab Tryd.f31 ls31_3 := lsum_ok bo31 nd31 (LSOK.none) oa31_3 (R := R31_3) fun k again x => by kernel_rfl
theorem ok31 : FOK Tryd.prog tab 31 sp31 := spec_ok (keeps := kp31) tabOK fs29OK Tryd.func31 bo31 (by kernel_rfl) nd31 (lo31_3) (F := F31) fun k x => by kernel_rfl
noncomputable def fs31 : Nat → Option (FSpec Ty) := addF 31 sp31 fs29
theorem fs31OK : SpecsOK Tryd.prog tab fs31 := fs29OK.add ok31 Tryd.call31
def ag7 : Args Ty (Int × ByteArray × (List ByteArray) × Unit) := V.arg (tab.den 44) (V.arg (tab.den 9) (V.arg (tab.den 45) (noArgs)))
def rs7 : Res Ty tab (Bool) false := V.oneRes (tab.den 4) (ent 4).ids (ent 4).plain (fun x _ => (ent 4).flat x rfl)
def of7_7 : List ByteArray × Int × GErr × ByteArray × Int → NSt Ty := fun x => ⟨[.slice 9 (x.1), .int .i64 (x.2.1), .err (x.2.2.1), .str (x.2.2.2.1), .int .i64 (x.2.2.2.2)], []⟩
def ab7_7 : (n : NSt Ty) → Option {x : List ByteArray × Int × GErr × ByteArray × Int // of7_7 x = n}
  | ⟨[.slice 9 v0, .int .i64 v1, .err v2, .str v3, .int .i64 v4], []⟩ => some ⟨(v0, v1, v2, v3, v4), rfl⟩
  | _ => none
def on7_7a : List ByteArray × Bool × Int × GErr × ByteArray → NSt Ty := fun x => ⟨[.slice 9 (x.1), .bool (x.2.1), .int .i64 (x.2.2.1), .err (x.2.2.2.1), .str (x.2.2.2.2)], []⟩
def on7_7b : List ByteArray × Int × GErr × ByteArray → NSt Ty := fun x => ⟨[.slice 9 (x.1), .undef, .int .i64 (x.2.1), .err (x.2.2.1), .str (x.2.2.2)], []⟩
def oa7_7 : (e : Ex) → (n : NSt Ty) → Option {y : (List ByteArray × Bool × Int × GErr × ByteArray) ⊕ (List ByteArray × Int × GErr × ByteArray) // oe2 .ret (.exit 0) y = e ∧ on2 on7_7a on7_7b y = n}
  | .ret, ⟨[.slice 9 v0, .bool v1, .int .i64 v2, .err v3, .str v4], []⟩ => some ⟨.inl (v0, v1, v2, v3, v4), rfl, rfl⟩
  | .exit 0, ⟨[.slice 9 v0, .undef, .int .i64 v1, .err v2, .str v3], []⟩ => some ⟨.inr (v0, v1, v2, v3), rfl, rfl⟩
  | _, _ => none
/-- a round of the loop 7 of function 7 -/
def R7_7 (k : Nat) (again : List ByteArray × Int × GErr × ByteArray × Int → Option ((List ByteArray × Bool × Int × GErr × ByteArray) ⊕ (List ByteArray × Int × GErr × ByteArray))) (x : List ByteArray × Int × GErr × ByteArray × Int) : Option ((List ByteArray × Bool × Int × GErr × ByteArray) ⊕ (List ByteArray × Int × GErr × ByteArray)) :=
  match x with
  | (v0, v1, v2, v3, v4) => bif decide (v4 < (↑v0.length : Int)) then bif v2.isNil then some (Sum.inl (v0, false, v1, v2, v3)) else (F32 k (v2, ())).bind fun r => bif !r.toList == v3.toList then some (Sum.inl (v0, false, v1, v2, v3)) else (F33 k (v2, ())).bind fun r => bif r != v4 then some (Sum.inl (v0, false, v1, v2, v3)) else bif inRange v4 v0.length then (F34 k (v2, v0.getD v4.toNat ByteArray.empty, ())).bind fun r => bif inRange v4 v0.length then bif (ByteArray.size (v0.getD v4.toNat ByteArray.empty) + (ByteArray.mk #[(58 : UInt8), (32 : UInt8)]).size).ble (4294967296 : Nat) then bif ((v0.getD v4.toNat ByteArray.empty ++ ByteArray.mk #[(58 : UInt8), (32 : UInt8)]).size + v3.size).ble (4294967296 : Nat) then again (v0, v1, r, ByteArray.mk (Array.mk ((v0.getD v4.toNat ByteArray.empty).data.toList ++ [(58 : UInt8), (32 : UInt8)] ++ v3.data.toList)), IntKind.i64.wrap (v4 + (1 : Int))) else none else none else none else none else some (Sum.inr (v0, v1, v2, v3))
def L7_7 (k n : Nat) (x : List ByteArray × Int × GErr × ByteArray × Int) : Option ((List ByteArray × Bool × Int × GErr × ByteArray) ⊕ (List ByteArray × Int × GErr × ByteArray)) := iterR (R7_7 k) n x
noncomputable def ls7_7 : Nat → Option (LSum Ty) := addL 7 (lsum2 of7_7 ab7_7 L7_7 .ret on7_7a (.exit 0) on7_7b) noL
def kp7 : Nat → Keep := fun i => cond (i == 7) ⟨[2, 7, 8, 9, 10], [2, 6, 7, 8, 9], 0⟩ (⟨[], [], 0⟩)
/-- "silt/siltlaw01.FaultKeeps" -/
def F7 (k : Nat) (x : Int × ByteArray × (List ByteArray) × Unit) : Option (Bool) :=
  match x with
  | (a0, a1, a2, ()) => (F28 k (a2, ())).bind fun r => bif !r then (F29 k ()).bind fun r => some r else bif decide ((↑a1.size : Int) > (500 : Int)) then (F29 k ()).bind fun r => some r else (F30 k (IntKind.i64.wrap ((1 : Int) + IntKind.i64.wrap a0), a1, ())).bind fun r => bif (a1.size + (ByteArray.mk #[(58 : UInt8), (32 : UInt8), (101 : UInt8), (114 : UInt8), (114 : UInt8), (111 : UInt8), (114 : UInt8), (32 : UInt8)]).size).ble (4294967296 : Nat) then (F31 k (IntKind.i64.wrap ((1 : Int) + IntKind.i64.wrap a0), ())).bind fun r_1 => bif ((a1 ++ ByteArray.mk #[(58 : UInt8), (32 : UInt8), (101 : UInt8), (114 : UInt8), (114 : UInt8), (111 : UInt8), (114 : UInt8), (32 : UInt8)]).size + r_1.size).ble (4294967296 : Nat) then (L7_7 k k (a2, IntKind.i64.wrap ((1 : Int) + IntKind.i64.wrap a0), r, ByteArray.mk (Array.mk (a1.data.toList ++ [(58 : UInt8), (32 : UInt8), (101 : UInt8), (114 : UInt8), (114 : UInt8), (111 : UInt8), (114 : UInt8), (32 : UInt8)] ++ r_1.data.toList)), (0 : Int))).bind fun r => sumK r (fun a => some a.snd.fst) fun b => bif !b.snd.snd.fst.isNil then (F32 k (b.snd.snd.fst, ())).bind fun r => bif r.toList == b.snd.snd.snd.toList then (F35 k (b.snd.snd.fst, ())).bind fun r => bif r == b.snd.fst then (F36 k (b.snd.snd.fst, b.snd.fst, ())).bind fun r => bif r then (F36 k (b.snd.snd.fst, IntKind.i64.wrap (b.snd.fst + (1 : Int)), ())).bind fun r => bif !r then (F36 k (b.snd.snd.fst, (0 : Int), ())).bind fun r => bif !r then (F33 k (b.snd.snd.fst, ())).bind fun r => bif r == (↑b.fst.length : Int) then (F29 k ()).bind fun r => some r else some false else some false else some false else some false else some false else some false else some false else none else none
noncomputable def sp7 : FSpec Ty := spec ag7 rs7 F7
theorem bo7 : Tryd.f7.body = some (bodyOf Tryd.f7) := by kernel_rfl
theorem nd7 : nodupB ((loopsIn (bodyOf Tryd.f7)).map firstRegion) = true := by kernel_rfl
theorem lo7_7 : LSOK fs31 kp7 tab Tryd.f7 ls7_7 := lsum2_ok bo7 nd7 (LSOK.none) oa7_7 (R := R7_7) fun k again x => by kernel_rfl
theorem ok7 : FOK Tryd.prog tab 7 sp7 := spec_ok (keeps := kp7) tabOK fs31OK Tryd.func7 bo7 (by kernel_rfl) nd7 (lo7_7) (F := F7) fun k x => by kernel_rfl
noncomputable def fs7 : Nat → Option (FSpec Ty) := addF 7 sp7 fs31
theorem fs7OK : SpecsOK Tryd.prog tab fs7 := fs31OK.add ok7 Tryd.call7
def ag8 : Args Ty (ByteArray × (List ByteArray) × Unit) := V.arg (tab.den 9) (V.arg (tab.den 45) (noArgs))
def rs8 : Res Ty tab (Bool) false := V.oneRes (tab.den 4) (ent 4).ids (ent 4).plain (fun x _ => (ent 4).flat x rfl)
def of8_5 : List ByteArray × GErr × Int → NSt Ty := fun x => ⟨[.slice 9 (x.1), .err (x.2.1), .int .i64 (x.2.2)], []⟩
def ab8_5 : (n : NSt Ty) → Option {x : List ByteArray × GErr × Int // of8_5 x = n}
  | ⟨[.slice 9 v0, .err v1, .int .i64 v2], []⟩ => some ⟨(v0, v1, v2), rfl⟩
  | _ => none
def oe8_5 : GErr → Ex := fun _ => .exit 0
def on8_5 : GErr → NSt Ty := fun x => ⟨[.err (x)], []⟩
def oa8_5 : (e : Ex) → (n : NSt Ty) → Option {y : GErr // oe8_5 y = e ∧ on8_5 y = n}
  | .exit 0, ⟨[.err v0], []⟩ => some ⟨v0, rfl, rfl⟩
  | _, _ => none
/-- a round of the loop 5 of function 8 -/
def R8_5 (k : Nat) (again : List ByteArray × GErr × Int → Option (GErr)) (x : List ByteArray × GErr × Int) : Option (GErr) :=
  match x with
  | (v0, v1, v2) => bif decide (v2 < (↑v0.length : Int)) then bif inRange v2 v0.length then (F34 k (v1, v0.getD v2.toNat ByteArray.empty, ())).bind fun r => again (v0, r, IntKind.i64.wrap (v2 + (1 : Int))) else none else some v1
def L8_5 (k n : Nat) (x : List ByteArray × GErr × Int) : Option (GErr) := iterR (R8_5 k) n x
noncomputable def ls8_5 : Nat → Option (LSum Ty) := addL 5 (LSum.of of8_5 ab8_5 L8_5 oe8_5 on8_5) noL
def kp8 : Nat → Keep := fun i => cond (i == 5) ⟨[1, 5, 6], [5], 0⟩ (⟨[], [], 0⟩)
/-- "silt/siltlaw01.FaultNone" -/
def F8 (k : Nat) (x : ByteArray × (List ByteArray) × Unit) : Option (Bool) :=
  match x with
  | (a0, a1, ()) => (F28 k (a1, ())).bind fun r => bif !r then (F29 k ()).bind fun r => some r else bif decide ((↑a0.size : Int) > (500 : Int)) then (F29 k ()).bind fun r => some r else (F30 k ((0 : Int), a0, ())).bind fun r => (L8_5 k k (a1, r, (0 : Int))).bind fun r => bif r.isNil then (F32 k (r, ())).bind fun r_1 => bif r_1.toList == (ByteArray.mk #[]).toList then (F35 k (r, ())).bind fun r_2 => bif r_2 == (0 : Int) then (F36 k (r, (0 : Int), ())).bind fun r_3 => bif r_3 then (F36 k (r, (1 : Int), ())).bind fun r_4 => bif !r_4 then (F33 k (r, ())).bind fun r => bif r == (0 : Int) then (F29 k ()).bind fun r => some r else some false else some false else some false else some false else some false else some false
noncomputable def sp8 : FSpec Ty := spec ag8 rs8 F8
theorem bo8 : Tryd.f8.body = some (bodyOf Tryd.f8) := by kernel_rfl
theorem nd8 : nodupB ((loopsIn (bodyOf Tryd.f8)).map firstRegion) = true := by kernel_rfl
theorem lo8_5 : LSOK fs7 kp8 tab Tryd.f8 ls8_5 := lsum_ok bo8 nd8 (LSOK.none) oa8_5 (R := R8_5) fun k again x => by kernel_rfl
theorem ok8 : FOK Tryd.prog tab 8 sp8 := spec_ok (keeps := kp8) tabOK fs7OK Tryd.func8 bo8 (by kernel_rfl) nd8 (lo8_5) (F := F8) fun k x => by kernel_rfl
noncomputable def fs8 : Nat → Option (FSpec Ty) := addF 8 sp8 fs7
theorem fs8OK : SpecsOK Tryd.prog tab fs8 := fs7OK.add ok8 Tryd.call8
def ag37 : Args Ty (Int × Int × Unit) := V.arg (tab.den 3) (V.arg (tab.den 3) (noArgs))
def rs37 : Res Ty tab (Int) false := V.oneRes (tab.den 3) (ent 3).ids (ent 3).plain (fun x _ => (ent 3).flat x rfl)
def kp37 : Nat → Keep := fun i => ⟨[], [], 0⟩
/-- "silt/siltkeep.Mod" -/
def F37 (k : Nat) (x : Int × Int × Unit) : Option (Int) :=
  match x with
  | (a0, a1, ()) => bif decide (a1 < (1 : Int)) then some (0 : Int) else bif a1 != (0 : Int) then bif a1 != (0 : Int) then some ((IntKind.i64.wrap (a0.tmod a1 + a1)).tmod a1) else none else none
noncomputable def sp37 : FSpec Ty := spec ag37 rs37 F37
theorem bo37 : Tryd.f37.body = some (bodyOf Tryd.f37) := by kernel_rfl
theorem nd37 : nodupB ((loopsIn (bodyOf Tryd.f37)).map firstRegion) = true := by kernel_rfl
theorem ok37 : FOK Tryd.prog tab 37 sp37 := spec_ok (keeps := kp37) tabOK fs8OK Tryd.func37 bo37 (by kernel_rfl) nd37 (LSOK.none) (F := F37) fun k x => by kernel_rfl
noncomputable def fs37 : Nat → Option (FSpec Ty) := addF 37 sp37 fs8
theorem fs37OK : SpecsOK Tryd.prog tab fs37 := fs8OK.add ok37 Tryd.call37
def ag9 : Args Ty ((List Int) × ByteArray × ByteArray × Unit) := V.arg (tab.den 58) (V.arg (tab.den 9) (V.arg (tab.den 9) (noArgs)))
def rs9 : Res Ty tab (Bool) false := V.oneRes (tab.den 4) (ent 4).ids (ent 4).plain (fun x _ => (ent 4).flat x rfl)
def kp9 : Nat → Keep := fun i => ⟨[], [], 0⟩
/-- "silt/siltlaw01.FaultTwo" -/
def F9 (k : Nat) (x : (List Int) × ByteArray × ByteArray × Unit) : Option (Bool) :=
  match x with
  | (a0, a1, a2, ()) => bif decide ((↑a1.size : Int) > (500 : Int)) then (F29 k ()).bind fun r => some r else bif decide ((↑a2.size : Int) > (500 : Int)) then (F29 k ()).bind fun r => some r else (F30 k (IntKind.i64.wrap ((1 : Int) + IntKind.i64.wrap (a0.getD (Int.toNat (0 : Int)) (0 : Int))), a1, ())).bind fun r => (F34 k (r, a2, ())).bind fun r => (F30 k (IntKind.i64.wrap ((1 : Int) + IntKind.i64.wrap (a0.getD (Int.toNat (1 : Int)) (0 : Int))), a2, ())).bind fun r_1 => (F34 k (r_1, a1, ())).bind fun r_2 => bif r.isNil then some false else bif r_2.isNil then some false else (F35 k (r, ())).bind fun r_3 => bif r_3 == IntKind.i64.wrap ((1 : Int) + IntKind.i64.wrap (a0.getD (Int.toNat (0 : Int)) (0 : Int))) then (F35 k (r_2, ())).bind fun r_4 => bif r_4 == IntKind.i64.wrap ((1 : Int) + IntKind.i64.wrap (a0.getD (Int.toNat (1 : Int)) (0 : Int))) then (F36 k (r, IntKind.i64.wrap ((1 : Int) + IntKind.i64.wrap (a0.getD (Int.toNat (1 : Int)) (0 : Int))), ())).bind fun r_5 => bif r_5 == (IntKind.i64.wrap ((1 : Int) + IntKind.i64.wrap (a0.getD (Int.toNat (0 : Int)) (0 : Int))) == IntKind.i64.wrap ((1 : Int) + IntKind.i64.wrap (a0.getD (Int.toNat (1 : Int)) (0 : Int)))) then (F32 k (r, ())).bind fun r_6 => bif (a2.size + (ByteArray.mk #[(58 : UInt8), (32 : UInt8)]).size).ble (4294967296 : Nat) then bif ((a2 ++ ByteArray.mk #[(58 : UInt8), (32 : UInt8)]).size + a1.size).ble (4294967296 : Nat) then bif ((a2 ++ ByteArray.mk #[(58 : UInt8), (32 : UInt8)] ++ a1).size + (ByteArray.mk #[(58 : UInt8), (32 : UInt8), (101 : UInt8), (114 : UInt8), (114 : UInt8), (111 : UInt8), (114 : UInt8), (32 : UInt8)]).size).ble (4294967296 : Nat) then (F31 k (IntKind.i64.wrap ((1 : Int) + IntKind.i64.wrap (a0.getD (Int.toNat (0 : Int)) (0 : Int))), ())).bind fun r_7 => bif ((a2 ++ ByteArray.mk #[(58 : UInt8), (32 : UInt8)] ++ a1 ++ ByteArray.mk #[(58 : UInt8), (32 : UInt8), (101 : UInt8), (114 : UInt8), (114 : UInt8), (111 : UInt8), (114 : UInt8), (32 : UInt8)]).size + r_7.size).ble (4294967296 : Nat) then bif r_6.toList == (a2 ++ ByteArray.mk #[(58 : UInt8), (32 : UInt8)] ++ a1 ++ ByteArray.mk #[(58 : UInt8), (32 : UInt8), (101 : UInt8), (114 : UInt8), (114 : UInt8), (111 : UInt8), (114 : UInt8), (32 : UInt8)] ++ r_7).toList then (F32 k (r_2, ())).bind fun r_8 => bif (a1.size + (ByteArray.mk #[(58 : UInt8), (32 : UInt8)]).size).ble (4294967296 : Nat) then bif ((a1 ++ ByteArray.mk #[(58 : UInt8), (32 : UInt8)]).size + a2.size).ble (4294967296 : Nat) then bif ((a1 ++ ByteArray.mk #[(58 : UInt8), (32 : UInt8)] ++ a2).size + (ByteArray.mk #[(58 : UInt8), (32 : UInt8), (101 : UInt8), (114 : UInt8), (114 : UInt8), (111 : UInt8), (114 : UInt8), (32 : UInt8)]).size).ble (4294967296 : Nat) then (F31 k (IntKind.i64.wrap ((1 : Int) + IntKind.i64.wrap (a0.getD (Int.toNat (1 : Int)) (0 : Int))), ())).bind fun r_9 => bif ((a1 ++ ByteArray.mk #[(58 : UInt8), (32 : UInt8)] ++ a2 ++ ByteArray.mk #[(58 : UInt8), (32 : UInt8), (101 : UInt8), (114 : UInt8), (114 : UInt8), (111 : UInt8), (114 : UInt8), (32 : UInt8)]).size + r_9.size).ble (4294967296 : Nat) then bif r_8.toList == (a1 ++ ByteArray.mk #[(58 : UInt8), (32 : UInt8)] ++ a2 ++ ByteArray.mk #[(58 : UInt8), (32 : UInt8), (101 : UInt8), (114 : UInt8), (114 : UInt8), (111 : UInt8), (114 : UInt8), (32 : UInt8)] ++ r_9).toList then (F33 k (r, ())).bind fun r => (F37 k (r, (9 : Int), ())).bind fun r => bif r == (1 : Int) then (F29 k ()).bind fun r => some r else some false else some false else none else none else none else none else some false else none else none else none else none else some false else some false else some false
noncomputable def sp9 : FSpec Ty := spec ag9 rs9 F9
theorem bo9 : Tryd.f9.body = some (bodyOf Tryd.f9) := by kernel_rfl
theorem nd9 : nodupB ((loopsIn (bodyOf Tryd.f9)).map firstRegion) = true := by kernel_rfl
theorem ok9 : FOK Tryd.prog tab 9 sp9 := spec_ok (keeps := kp9) tabOK fs37OK Tryd.func9 bo9 (by kernel_rfl) nd9 (LSOK.none) (F := F9) fun k x => by kernel_rfl
noncomputable def fs9 : Nat → Option (FSpec Ty) := addF 9 sp9 fs37
theorem fs9OK : SpecsOK Tryd.prog tab fs9 := fs37OK.add ok9 Tryd.call9
def ag10 : Args Ty ((List Int) × ByteArray × Int × Unit) := V.arg (tab.den 61) (V.arg (tab.den 9) (V.arg (tab.den 5) (noArgs)))
def rs10 : Res Ty tab (Bool) false := V.oneRes (tab.den 4) (ent 4).ids (ent 4).plain (fun x _ => (ent 4).flat x rfl)
def of10_8 : ByteArray × Int × Int × Int × GErr × GErr × Int × Int → NSt Ty := fun x => ⟨[.str (x.1), .int .i64 (x.2.1), .int .i64 (x.2.2.1), .int .i64 (x.2.2.2.1), .err (x.2.2.2.2.1), .err (x.2.2.2.2.2.1), .int .i64 (x.2.2.2.2.2.2.1), .int .i64 (x.2.2.2.2.2.2.2)], []⟩
def ab10_8 : (n : NSt Ty) → Option {x : ByteArray × Int × Int × Int × GErr × GErr × Int × Int // of10_8 x = n}
  | ⟨[.str v0, .int .i64 v1, .int .i64 v2, .int .i64 v3, .err v4, .err v5, .int .i64 v6, .int .i64 v7], []⟩ => some ⟨(v0, v1, v2, v3, v4, v5, v6, v7), rfl⟩
  | _ => none
def oe10_8 : ByteArray × Int × Int × Int × GErr × GErr × Int → Ex := fun _ => .exit 0
def on10_8 : ByteArray × Int × Int × Int × GErr × GErr × Int → NSt Ty := fun x => ⟨[.str (x.1), .int .i64 (x.2.1), .int .i64 (x.2.2.1), .int .i64 (x.2.2.2.1), .err (x.2.2.2.2.1), .err (x.2.2.2.2.2.1), .int .i64 (x.2.2.2.2.2.2)], []⟩
def oa10_8 : (e : Ex) → (n : NSt Ty) → Option {y : ByteArray × Int × Int × Int × GErr × GErr × Int // oe10_8 y = e ∧ on10_8 y = n}
  | .exit 0, ⟨[.str v0, .int .i64 v1, .int .i64 v2, .int .i64 v3, .err v4, .err v5, .int .i64 v6], []⟩ => some ⟨(v0, v1, v2, v3, v4, v5, v6), rfl, rfl⟩
  | _, _ => none
/-- a round of the loop 8 of function 10 -/
def R10_8 (k : Nat) (again : ByteArray × Int × Int × Int × GErr × GErr × Int × Int → Option (ByteArray × Int × Int × Int × GErr × GErr × Int)) (x : ByteArray × Int × Int × Int × GErr × GErr × Int × Int) : Option (ByteArray × Int × Int × Int × GErr × GErr × Int) :=
  match x with
  | (v0, v1, v2, v3, v4, v5, v6, v7) => bif decide (v7 < v1) then (F34 k (v4, ByteArray.mk (Array.mk [(105 : UInt8), (110 : UInt8)]), ())).bind fun r => (F34 k (v5, ByteArray.mk (Array.mk [(105 : UInt8), (110 : UInt8)]), ())).bind fun r_1 => again (v0, v1, v2, v3, r, r_1, v6, IntKind.i64.wrap (v7 + (1 : Int))) else some (v0, v1, v2, v3, v4, v5, v6)
def L10_8 (k n : Nat) (x : ByteArray × Int × Int × Int × GErr × GErr × Int × Int) : Option (ByteArray × Int × Int × Int × GErr × GErr × Int) := iterR (R10_8 k) n x
noncomputable def ls10_8 : Nat → Option (LSum Ty) := addL 8 (LSum.of of10_8 ab10_8 L10_8 oe10_8 on10_8) noL
def kp10 : Nat → Keep := fun i => cond (i == 8) ⟨[1, 7, 8, 9, 10, 11, 12, 13], [1, 7, 8, 9, 10, 11, 12], 0⟩ (⟨[], [], 0⟩)
/-- "silt/siltlaw01.FaultTexts" -/
def F10 (k : Nat) (x : (List Int) × ByteArray × Int × Unit) : Option (Bool) :=
  match x with
  | (a0, a1, a2, ()) => bif decide ((↑a1.size : Int) > (200 : Int)) then (F29 k ()).bind fun r => some r else (F30 k (IntKind.i64.wrap ((1 : Int) + IntKind.i64.wrap (a0.getD (Int.toNat (0 : Int)) (0 : Int))), a1, ())).bind fun r => (F30 k (IntKind.i64.wrap ((1 : Int) + IntKind.i64.wrap (a0.getD (Int.toNat (1 : Int)) (0 : Int))), a1, ())).bind fun r_1 => (F32 k (r, ())).bind fun r_2 => (L10_8 k k (a1, (IntKind.i64.wrap a2).tmod (20 : Int), IntKind.i64.wrap ((1 : Int) + IntKind.i64.wrap (a0.getD (Int.toNat (0 : Int)) (0 : Int))), IntKind.i64.wrap ((1 : Int) + IntKind.i64.wrap (a0.getD (Int.toNat (1 : Int)) (0 : Int))), r, r_1, (↑r_2.size : Int), (0 : Int))).bind fun r => bif r.snd.snd.snd.snd.fst.isNil then some false else bif r.snd.snd.snd.snd.snd.fst.isNil then some false else (F32 k (r.snd.snd.snd.snd.fst, ())).bind fun r_3 => bif (↑r_3.size : Int) == IntKind.i64.wrap (r.snd.snd.snd.snd.snd.snd + IntKind.i64.wrap ((4 : Int) * r.snd.fst)) then (F32 k (r.snd.snd.snd.snd.fst, ())).bind fun r_4 => (F32 k (r.snd.snd.snd.snd.snd.fst, ())).bind fun r_5 => bif (r_4.toList == r_5.toList) == (r.snd.snd.fst == r.snd.snd.snd.fst) then (F33 k (r.snd.snd.snd.snd.fst, ())).bind fun r_6 => bif r_6 == r.snd.fst then (F31 k (r.snd.snd.fst, ())).bind fun r_7 => bif r.snd.snd.snd.snd.snd.snd == IntKind.i64.wrap (IntKind.i64.wrap ((↑r.fst.size : Int) + (8 : Int)) + (↑r_7.size : Int)) then (F29 k ()).bind fun r => some r else some false else some false else some false else some false
noncomputable def sp10 : FSpec Ty := spec ag10 rs10 F10
theorem bo10 : Tryd.f10.body = some (bodyOf Tryd.f10) := by kernel_rfl
theorem nd10 : nodupB ((loopsIn (bodyOf Tryd.f10)).map firstRegion) = true := by kernel_rfl
theorem lo10_8 : LSOK fs9 kp10 tab Tryd.f10 ls10_8 := lsum_ok bo10 nd10 (LSOK.none) oa10_8 (R := R10_8) fun k again x => by kernel_rfl
theorem ok10 : FOK Tryd.prog tab 10 sp10 := spec_ok (keeps := kp10) tabOK fs9OK Tryd.func10 bo10 (by kernel_rfl) nd10 (lo10_8) (F := F10) fun k x => by kernel_rfl
noncomputable def fs10 : Nat → Option (FSpec Ty) := addF 10 sp10 fs9
theorem fs10OK : SpecsOK Tryd.prog tab fs10 := fs9OK.add ok10 Tryd.call10
end Go.Proofs.YtpnnmpdjgnbkhaaDoor.W
