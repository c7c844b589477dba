/-
  The functions that the statement reaches, as typed functions, and that the program computes them. No conditions. Printed by program.
-/
import Derived.Test.YtbhnkjnjeifdhaaVT
set_option linter.unusedVariables false
namespace Go.Proofs.Ytbhnkjnjeifdhaa.W
open Go Go.Proofs V
theorem noFOK : SpecsOK Try.prog tab noF := SpecsOK.none cmpOK asOK
def ag63 : Args Ty ((List T128) × Unit) := V.arg (tab.den 106) (noArgs)
def rs63 : Res Ty tab (Bool) false := V.oneRes (tab.den 4) (ent 4).ids (ent 4).plain (fun x _ => (ent 4).flat x rfl)
def of63_2 : List T128 × Int → NSt Ty := fun x => ⟨[.slice 129 (x.1), .int .i64 (x.2)], []⟩
def ab63_2 : (n : NSt Ty) → Option {x : List T128 × Int // of63_2 x = n}
  | ⟨[.slice 129 v0, .int .i64 v1], []⟩ => some ⟨(v0, v1), rfl⟩
  | _ => none
def on63_2a : List T128 × Bool → NSt Ty := fun x => ⟨[.slice 129 (x.1), .bool (x.2)], []⟩
def on63_2b : List T128 → NSt Ty := fun x => ⟨[.slice 129 (x), .undef], []⟩
def oa63_2 : (e : Ex) → (n : NSt Ty) → Option {y : (List T128 × Bool) ⊕ (List T128) // oe2 .ret (.exit 0) y = e ∧ on2 on63_2a on63_2b y = n}
  | .ret, ⟨[.slice 129 v0, .bool v1], []⟩ => some ⟨.inl (v0, v1), rfl, rfl⟩
  | .exit 0, ⟨[.slice 129 v0, .undef], []⟩ => some ⟨.inr v0, rfl, rfl⟩
  | _, _ => none
/-- a round of the loop 2 of function 63 -/
def R63_2 (k : Nat) (again : List T128 × Int → Option ((List T128 × Bool) ⊕ (List T128))) (x : List T128 × Int) : Option ((List T128 × Bool) ⊕ (List T128)) :=
  match x with
  | (v0, v1) => bif decide (v1 < (↑v0.length : Int)) then bif inRange v1 v0.length then bif decide ((↑(v0.getD v1.toNat (T128.mk (T46.mk (0 : Int) (0 : Int)) (T87.mk (0 : Int) (0 : Int) (List.replicate (32 : Nat) (0 : Int)) (0 : Int) [] (0 : Int) (List.replicate (8 : Nat) (0 : Int))))).2.5.length : Int) > (300 : Int)) then some (Sum.inl (v0, false)) else again (v0, IntKind.i64.wrap (v1 + (1 : Int))) else none else some (Sum.inr v0)
def L63_2 (k n : Nat) (x : List T128 × Int) : Option ((List T128 × Bool) ⊕ (List T128)) := iterR (R63_2 k) n x
noncomputable def ls63_2 : Nat → Option (LSum Ty) := addL 2 (lsum2 of63_2 ab63_2 L63_2 .ret on63_2a (.exit 0) on63_2b) noL
def kp63 : Nat → Keep := fun i => cond (i == 2) ⟨[0, 3], [0, 2], 0⟩ (⟨[], [], 0⟩)
/-- "silt/siltlaw13.Fair" -/
def F63 (k : Nat) (x : (List T128) × Unit) : Option (Bool) :=
  match x with
  | (a0, ()) => (L63_2 k k (a0, (0 : Int))).bind fun r => sumK r (fun a => some a.snd) fun b => some (decide ((↑b.length : Int) ≤ (100 : Int)))
noncomputable def sp63 : FSpec Ty := spec ag63 rs63 F63
theorem bo63 : Try.f63.body = some (bodyOf Try.f63) := by kernel_rfl
theorem nd63 : nodupB ((loopsIn (bodyOf Try.f63)).map firstRegion) = true := by kernel_rfl
theorem lo63_2 : LSOK noF kp63 tab Try.f63 ls63_2 := lsum2_ok bo63 nd63 (LSOK.none) oa63_2 (R := R63_2) fun k again x => by kernel_rfl
theorem ok63 : FOK Try.prog tab 63 sp63 := spec_ok (keeps := kp63) tabOK noFOK Try.func63 bo63 (by kernel_rfl) nd63 (lo63_2) (F := F63) fun k x => by kernel_rfl
noncomputable def fs63 : Nat → Option (FSpec Ty) := addF 63 sp63 noF
theorem fs63OK : SpecsOK Try.prog tab fs63 := noFOK.add ok63 Try.call63
def ag101 : Args Ty (Int × Unit) := V.arg (tab.den 5) (noArgs)
def rs101 : Res Ty tab ((List Int)) false := V.oneRes (tab.den 85) (ent 85).ids (ent 85).plain (fun x _ => (ent 85).flat x rfl)
def of101_3 : Int × Int × List Int × List Int → NSt Ty := fun x => ⟨[.int .u8 (x.1), .ptr 100000 [], .ptr 100001 [], .int .i64 (x.2.1)], [.var (.arr 5 32 (x.2.2.1)), .var (.arr 5 32 (x.2.2.2))]⟩
def ab101_3 : (n : NSt Ty) → Option {x : Int × Int × List Int × List Int // of101_3 x = n}
  | ⟨[.int .u8 v0, .ptr 100000 [], .ptr 100001 [], .int .i64 v1], [.var (.arr 5 32 v2), .var (.arr 5 32 v3)]⟩ => some ⟨(v0, v1, v2, v3), rfl⟩
  | _ => none
def oe101_3 : List Int × List Int → Ex := fun _ => .exit 0
def on101_3 : List Int × List Int → NSt Ty := fun x => ⟨[.ptr 100000 [], .ptr 100001 []], [.var (.arr 5 32 (x.1)), .var (.arr 5 32 (x.2))]⟩
def oa101_3 : (e : Ex) → (n : NSt Ty) → Option {y : List Int × List Int // oe101_3 y = e ∧ on101_3 y = n}
  | .exit 0, ⟨[.ptr 100000 [], .ptr 100001 []], [.var (.arr 5 32 v0), .var (.arr 5 32 v1)]⟩ => some ⟨(v0, v1), rfl, rfl⟩
  | _, _ => none
/-- a round of the loop 3 of function 101 -/
def R101_3 (k : Nat) (again : Int × Int × List Int × List Int → Option (List Int × List Int)) (x : Int × Int × List Int × List Int) : Option (List Int × List Int) :=
  match x with
  | (v0, v1, v2, v3) => bif decide (v1 < (32 : Int)) then bif inRange v1 (32 : Nat) then again (v0, IntKind.i64.wrap (v1 + (1 : Int)), v2, v3.set v1.toNat v0) else none else some (v2, v3)
def L101_3 (k n : Nat) (x : Int × Int × List Int × List Int) : Option (List Int × List Int) := iterR (R101_3 k) n x
noncomputable def ls101_3 : Nat → Option (LSum Ty) := addL 3 (LSum.of of101_3 ab101_3 L101_3 oe101_3 on101_3) noL
def kp101 : Nat → Keep := fun i => cond (i == 3) ⟨[0, 2, 3, 4], [2, 3], 0⟩ (⟨[], [], 0⟩)
/-- "silt/siltkeep.Leaf" -/
def F101 (k : Nat) (x : Int × Unit) : Option ((List Int)) :=
  match x with
  | (a0, ()) => (L101_3 k k (a0, (0 : Int), List.replicate (32 : Nat) (0 : Int), List.replicate (32 : Nat) (0 : Int))).bind fun r => some r.snd
noncomputable def sp101 : FSpec Ty := spec ag101 rs101 F101
theorem bo101 : Try.f101.body = some (bodyOf Try.f101) := by kernel_rfl
theorem nd101 : nodupB ((loopsIn (bodyOf Try.f101)).map firstRegion) = true := by kernel_rfl
theorem lo101_3 : LSOK fs63 kp101 tab Try.f101 ls101_3 := lsum_ok bo101 nd101 (LSOK.none) oa101_3 (R := R101_3) fun k again x => by kernel_rfl
theorem ok101 : FOK Try.prog tab 101 sp101 := spec_ok (keeps := kp101) tabOK fs63OK Try.func101 bo101 (by kernel_rfl) nd101 (lo101_3) (F := F101) fun k x => by kernel_rfl
noncomputable def fs101 : Nat → Option (FSpec Ty) := addF 101 sp101 fs63
theorem fs101OK : SpecsOK Try.prog tab fs101 := fs63OK.add ok101 Try.call101
def ag77 : Args Ty (Int × Int × Unit) := V.arg (tab.den 3) (V.arg (tab.den 5) (noArgs))
def rs77 : Res Ty tab (T128) true := V.oneRes (tab.den 129) (ent 129).ids (ent 129).plain (fun _ h => by cases h)
def kp77 : Nat → Keep := fun i => ⟨[], [], 0⟩
/-- "silt/siltlaw13.Image" -/
def F77 (k : Nat) (x : Int × Int × Unit) : Option (T128) :=
  match x with
  | (a0, a1, ()) => (F101 k (a1, ())).bind fun r => some (T128.mk (T46.mk (1 : Int) a0) (T87.mk (1 : Int) a0 r (0 : Int) [] (0 : Int) (List.replicate (8 : Nat) (0 : Int))))
noncomputable def sp77 : FSpec Ty := spec ag77 rs77 F77
theorem bo77 : Try.f77.body = some (bodyOf Try.f77) := by kernel_rfl
theorem nd77 : nodupB ((loopsIn (bodyOf Try.f77)).map firstRegion) = true := by kernel_rfl
theorem ok77 : FOK Try.prog tab 77 sp77 := spec_ok (keeps := kp77) tabOK fs101OK Try.func77 bo77 (by kernel_rfl) nd77 (LSOK.none) (F := F77) fun k x => by kernel_rfl
noncomputable def fs77 : Nat → Option (FSpec Ty) := addF 77 sp77 fs101
theorem fs77OK : SpecsOK Try.prog tab fs77 := fs101OK.add ok77 Try.call77
def ag103 : Args Ty (T46 × Unit) := V.arg (tab.den 47) (noArgs)
def rs103 : Res Ty tab (Int) false := V.oneRes (tab.den 3) (ent 3).ids (ent 3).plain (fun x _ => (ent 3).flat x rfl)
def kp103 : Nat → Keep := fun i => ⟨[], [], 0⟩
/-- "silt/group.key" -/
def F103 (k : Nat) (x : T46 × Unit) : Option (Int) :=
  match x with
  | (a0, ()) => bif a0.1 == (3 : Int) then some (IntKind.i64.wrap ((64 : Int) + a0.2)) else some a0.2
noncomputable def sp103 : FSpec Ty := spec ag103 rs103 F103
theorem bo103 : Try.f103.body = some (bodyOf Try.f103) := by kernel_rfl
theorem nd103 : nodupB ((loopsIn (bodyOf Try.f103)).map firstRegion) = true := by kernel_rfl
theorem ok103 : FOK Try.prog tab 103 sp103 := spec_ok (keeps := kp103) tabOK fs77OK Try.func103 bo103 (by kernel_rfl) nd103 (LSOK.none) (F := F103) fun k x => by kernel_rfl
noncomputable def fs103 : Nat → Option (FSpec Ty) := addF 103 sp103 fs77
theorem fs103OK : SpecsOK Try.prog tab fs103 := fs77OK.add ok103 Try.call103
def ag105 : Args Ty (Int × Unit) := V.arg (tab.den 3) (noArgs)
def rs105 : Res Ty tab (Bool) false := V.oneRes (tab.den 4) (ent 4).ids (ent 4).plain (fun x _ => (ent 4).flat x rfl)
def kp105 : Nat → Keep := fun i => ⟨[], [], 0⟩
/-- "silt/group.blocked" -/
def F105 (k : Nat) (x : Int × Unit) : Option (Bool) :=
  match x with
  | (a0, ()) => bif a0 == (1 : Int) then some true else bif a0 == (2 : Int) then some true else bif a0 == (3 : Int) then some true else some false
noncomputable def sp105 : FSpec Ty := spec ag105 rs105 F105
theorem bo105 : Try.f105.body = some (bodyOf Try.f105) := by kernel_rfl
theorem nd105 : nodupB ((loopsIn (bodyOf Try.f105)).map firstRegion) = true := by kernel_rfl
theorem ok105 : FOK Try.prog tab 105 sp105 := spec_ok (keeps := kp105) tabOK fs103OK Try.func105 bo105 (by kernel_rfl) nd105 (LSOK.none) (F := F105) fun k x => by kernel_rfl
noncomputable def fs105 : Nat → Option (FSpec Ty) := addF 105 sp105 fs103
theorem fs105OK : SpecsOK Try.prog tab fs105 := fs103OK.add ok105 Try.call105
def ag106 : Args Ty (T87 × Unit) := V.arg (tab.den 88) (noArgs)
def rs106 : Res Ty tab (Bool) false := V.oneRes (tab.den 4) (ent 4).ids (ent 4).plain (fun x _ => (ent 4).flat x rfl)
def kp106 : Nat → Keep := fun i => ⟨[], [], 0⟩
/-- "silt/group.empty" -/
def F106 (k : Nat) (x : T87 × Unit) : Option (Bool) :=
  match x with
  | (a0, ()) => bif a0.1 == (0 : Int) then bif a0.2 == (0 : Int) then bif decide (a0.3 = List.replicate (32 : Nat) (0 : Int)) then bif a0.4 == (0 : Int) then bif (↑a0.5.length : Int) == (0 : Int) then bif a0.6 == (0 : Int) then some (decide (a0.7 = List.replicate (8 : Nat) (0 : Int))) else some false else some false else some false else some false else some false else some false
noncomputable def sp106 : FSpec Ty := spec ag106 rs106 F106
theorem bo106 : Try.f106.body = some (bodyOf Try.f106) := by kernel_rfl
theorem nd106 : nodupB ((loopsIn (bodyOf Try.f106)).map firstRegion) = true := by kernel_rfl
theorem ok106 : FOK Try.prog tab 106 sp106 := spec_ok (keeps := kp106) tabOK fs105OK Try.func106 bo106 (by kernel_rfl) nd106 (LSOK.none) (F := F106) fun k x => by kernel_rfl
noncomputable def fs106 : Nat → Option (FSpec Ty) := addF 106 sp106 fs105
theorem fs106OK : SpecsOK Try.prog tab fs106 := fs105OK.add ok106 Try.call106
def ag90 : Args Ty (T87 × Unit) := V.arg (tab.den 88) (noArgs)
def rs90 : Res Ty tab (Bool) false := V.oneRes (tab.den 4) (ent 4).ids (ent 4).plain (fun x _ => (ent 4).flat x rfl)
def kp90 : Nat → Keep := fun i => ⟨[], [], 0⟩
/-- "silt/block.plain" -/
def F90 (k : Nat) (x : T87 × Unit) : Option (Bool) :=
  match x with
  | (a0, ()) => bif a0.4 == (0 : Int) then bif (↑a0.5.length : Int) == (0 : Int) then bif a0.1 == (1 : Int) then bif decide (a0.7 = List.replicate (8 : Nat) (0 : Int)) then some (a0.6 == (0 : Int)) else some false else bif a0.1 == (2 : Int) then bif decide (a0.7 = List.replicate (8 : Nat) (0 : Int)) then some (decide (a0.3 = List.replicate (32 : Nat) (0 : Int))) else some false else bif decide (a0.3 = List.replicate (32 : Nat) (0 : Int)) then some (a0.6 == (0 : Int)) else some false else bif a0.1 == (1 : Int) then bif decide (a0.7 = List.replicate (8 : Nat) (0 : Int)) then some false else some false else bif a0.1 == (2 : Int) then bif decide (a0.7 = List.replicate (8 : Nat) (0 : Int)) then some (decide (a0.3 = List.replicate (32 : Nat) (0 : Int))) else some false else bif decide (a0.3 = List.replicate (32 : Nat) (0 : Int)) then some false else some false else bif a0.1 == (1 : Int) then bif decide (a0.7 = List.replicate (8 : Nat) (0 : Int)) then some false else some false else bif a0.1 == (2 : Int) then bif decide (a0.7 = List.replicate (8 : Nat) (0 : Int)) then some (decide (a0.3 = List.replicate (32 : Nat) (0 : Int))) else some false else bif decide (a0.3 = List.replicate (32 : Nat) (0 : Int)) then some false else some false
noncomputable def sp90 : FSpec Ty := spec ag90 rs90 F90
theorem bo90 : Try.f90.body = some (bodyOf Try.f90) := by kernel_rfl
theorem nd90 : nodupB ((loopsIn (bodyOf Try.f90)).map firstRegion) = true := by kernel_rfl
theorem ok90 : FOK Try.prog tab 90 sp90 := spec_ok (keeps := kp90) tabOK fs106OK Try.func90 bo90 (by kernel_rfl) nd90 (LSOK.none) (F := F90) fun k x => by kernel_rfl
noncomputable def fs90 : Nat → Option (FSpec Ty) := addF 90 sp90 fs106
theorem fs90OK : SpecsOK Try.prog tab fs90 := fs106OK.add ok90 Try.call90
def ag91 : Args Ty (Int × Unit) := V.arg (tab.den 3) (noArgs)
def rs91 : Res Ty tab (Bool) false := V.oneRes (tab.den 4) (ent 4).ids (ent 4).plain (fun x _ => (ent 4).flat x rfl)
def kp91 : Nat → Keep := fun i => ⟨[], [], 0⟩
/-- "silt/block.head" -/
def F91 (k : Nat) (x : Int × Unit) : Option (Bool) :=
  match x with
  | (a0, ()) => bif a0 == (0 : Int) then some true else bif a0 == (1 : Int) then some true else bif decide (a0 ≥ (4 : Int)) then some (decide (a0 ≤ (1023 : Int))) else some false
noncomputable def sp91 : FSpec Ty := spec ag91 rs91 F91
theorem bo91 : Try.f91.body = some (bodyOf Try.f91) := by kernel_rfl
theorem nd91 : nodupB ((loopsIn (bodyOf Try.f91)).map firstRegion) = true := by kernel_rfl
theorem ok91 : FOK Try.prog tab 91 sp91 := spec_ok (keeps := kp91) tabOK fs90OK Try.func91 bo91 (by kernel_rfl) nd91 (LSOK.none) (F := F91) fun k x => by kernel_rfl
noncomputable def fs91 : Nat → Option (FSpec Ty) := addF 91 sp91 fs90
theorem fs91OK : SpecsOK Try.prog tab fs91 := fs90OK.add ok91 Try.call91
def ag93 : Args Ty (Int × Unit) := V.arg (tab.den 3) (noArgs)
def rs93 : Res Ty tab (Bool) false := V.oneRes (tab.den 4) (ent 4).ids (ent 4).plain (fun x _ => (ent 4).flat x rfl)
def kp93 : Nat → Keep := fun i => ⟨[], [], 0⟩
/-- "silt/block.Good$1" -/
def F93 (k : Nat) (x : Int × Unit) : Option (Bool) :=
  match x with
  | (a0, ()) => (F91 k (a0, ())).bind fun r => some !r
noncomputable def sp93 : FSpec Ty := spec ag93 rs93 F93
theorem bo93 : Try.f93.body = some (bodyOf Try.f93) := by kernel_rfl
theorem nd93 : nodupB ((loopsIn (bodyOf Try.f93)).map firstRegion) = true := by kernel_rfl
theorem ok93 : FOK Try.prog tab 93 sp93 := spec_ok (keeps := kp93) tabOK fs91OK Try.func93 bo93 (by kernel_rfl) nd93 (LSOK.none) (F := F93) fun k x => by kernel_rfl
noncomputable def fs93 : Nat → Option (FSpec Ty) := addF 93 sp93 fs91
theorem fs93OK : SpecsOK Try.prog tab fs93 := fs91OK.add ok93 Try.call93
def ag102 : Args Ty ((List Int) × Unit × Unit) := V.arg (tab.den 109) (V.arg (tab.den 142) (noArgs))
def rs102 : Res Ty tab (Int) false := V.oneRes (tab.den 3) (ent 3).ids (ent 3).plain (fun x _ => (ent 3).flat x rfl)
def of102_2 : List Int × Int × Int → NSt Ty := fun x => ⟨[.slice 3 (x.1), .func 93, .int .i64 (x.2.1), .int .i64 (x.2.2)], []⟩
def ab102_2 : (n : NSt Ty) → Option {x : List Int × Int × Int // of102_2 x = n}
  | ⟨[.slice 3 v0, .func 93, .int .i64 v1, .int .i64 v2], []⟩ => some ⟨(v0, v1, v2), rfl⟩
  | _ => none
def on102_2a : Int → NSt Ty := fun x => ⟨[.int .i64 (x)], []⟩
def on102_2b : Unit → NSt Ty := fun x => ⟨[.undef], []⟩
def oa102_2 : (e : Ex) → (n : NSt Ty) → Option {y : (Int) ⊕ (Unit) // oe2 .ret (.exit 0) y = e ∧ on2 on102_2a on102_2b y = n}
  | .ret, ⟨[.int .i64 v0], []⟩ => some ⟨.inl v0, rfl, rfl⟩
  | .exit 0, ⟨[.undef], []⟩ => some ⟨.inr (), rfl, rfl⟩
  | _, _ => none
/-- a round of the loop 2 of function 102 -/
def R102_2 (k : Nat) (again : List Int × Int × Int → Option ((Int) ⊕ (Unit))) (x : List Int × Int × Int) : Option ((Int) ⊕ (Unit)) :=
  match x with
  | (v0, v1, v2) => bif decide (v2 < v1) then bif inRange v2 v0.length then (F93 k (v0.getD v2.toNat (0 : Int), ())).bind fun r => bif r then some (Sum.inl v2) else again (v0, v1, IntKind.i64.wrap (v2 + (1 : Int))) else none else some (Sum.inr ())
def L102_2 (k n : Nat) (x : List Int × Int × Int) : Option ((Int) ⊕ (Unit)) := iterR (R102_2 k) n x
noncomputable def ls102_2 : Nat → Option (LSum Ty) := addL 2 (lsum2 of102_2 ab102_2 L102_2 .ret on102_2a (.exit 0) on102_2b) noL
def kp102 : Nat → Keep := fun i => cond (i == 2) ⟨[0, 1, 7, 8], [4], 0⟩ (⟨[], [], 0⟩)
/-- "slices.IndexFunc[[]int,int]" -/
def F102 (k : Nat) (x : (List Int) × Unit × Unit) : Option (Int) :=
  match x with
  | (a0, a1, ()) => (L102_2 k k (a0, (↑a0.length : Int), (0 : Int))).bind fun r => sumK r (fun a => some a) fun b => some (-1 : Int)
noncomputable def sp102 : FSpec Ty := spec ag102 rs102 F102
theorem bo102 : Try.f102.body = some (bodyOf Try.f102) := by kernel_rfl
theorem nd102 : nodupB ((loopsIn (bodyOf Try.f102)).map firstRegion) = true := by kernel_rfl
theorem lo102_2 : LSOK fs93 kp102 tab Try.f102 ls102_2 := lsum2_ok bo102 nd102 (LSOK.none) oa102_2 (R := R102_2) fun k again x => by kernel_rfl
theorem ok102 : FOK Try.prog tab 102 sp102 := spec_ok (keeps := kp102) tabOK fs93OK Try.func102 bo102 (by kernel_rfl) nd102 (lo102_2) (F := F102) fun k x => by kernel_rfl
noncomputable def fs102 : Nat → Option (FSpec Ty) := addF 102 sp102 fs93
theorem fs102OK : SpecsOK Try.prog tab fs102 := fs93OK.add ok102 Try.call102
def ag92 : Args Ty ((List Int) × Unit × Unit) := V.arg (tab.den 109) (V.arg (tab.den 142) (noArgs))
def rs92 : Res Ty tab (Bool) false := V.oneRes (tab.den 4) (ent 4).ids (ent 4).plain (fun x _ => (ent 4).flat x rfl)
def kp92 : Nat → Keep := fun i => ⟨[], [], 0⟩
/-- "slices.ContainsFunc[[]int,int]" -/
def F92 (k : Nat) (x : (List Int) × Unit × Unit) : Option (Bool) :=
  match x with
  | (a0, a1, ()) => (F102 k (a0, (), ())).bind fun r => some (decide (r ≥ (0 : Int)))
noncomputable def sp92 : FSpec Ty := spec ag92 rs92 F92
theorem bo92 : Try.f92.body = some (bodyOf Try.f92) := by kernel_rfl
theorem nd92 : nodupB ((loopsIn (bodyOf Try.f92)).map firstRegion) = true := by kernel_rfl
theorem ok92 : FOK Try.prog tab 92 sp92 := spec_ok (keeps := kp92) tabOK fs102OK Try.func92 bo92 (by kernel_rfl) nd92 (LSOK.none) (F := F92) fun k x => by kernel_rfl
noncomputable def fs92 : Nat → Option (FSpec Ty) := addF 92 sp92 fs102
theorem fs92OK : SpecsOK Try.prog tab fs92 := fs102OK.add ok92 Try.call92
def ag59 : Args Ty (T87 × Unit) := V.arg (tab.den 88) (noArgs)
def rs59 : Res Ty tab (Bool) false := V.oneRes (tab.den 4) (ent 4).ids (ent 4).plain (fun x _ => (ent 4).flat x rfl)
def kp59 : Nat → Keep := fun i => ⟨[], [], 0⟩
/-- "silt/block.Good" -/
def F59 (k : Nat) (x : T87 × Unit) : Option (Bool) :=
  match x with
  | (a0, ()) => bif decide (a0.2 < (0 : Int)) then some false else (F90 k (T87.mk a0.1 a0.2 a0.3 a0.4 a0.5 a0.6 a0.7, ())).bind fun r => bif !r then some false else bif a0.1 == (2 : Int) then bif decide (a0.4 < (0 : Int)) then some false else bif decide ((↑a0.5.length : Int) < (1 : Int)) then some false else bif decide ((↑a0.5.length : Int) > (16 : Int)) then some false else bif decide (a0.4 > IntKind.i64.wrap ((32 : Int) - (↑a0.5.length : Int))) then some false else bif a0.6 == (0 : Int) then some false else (F91 k (a0.6, ())).bind fun r => bif !r then some false else some (decide (a0.2 < (64 : Int))) else bif a0.1 == (1 : Int) then some (decide (a0.2 < (64 : Int))) else bif a0.1 == (3 : Int) then bif decide (a0.2 < (8 : Int)) then (F92 k (List.take ((↑(8 : Nat) : Int) - (0 : Int)).toNat (List.drop (Int.toNat (0 : Int)) a0.7), (), ())).bind fun r => some !r else some false else some false
noncomputable def sp59 : FSpec Ty := spec ag59 rs59 F59
theorem bo59 : Try.f59.body = some (bodyOf Try.f59) := by kernel_rfl
theorem nd59 : nodupB ((loopsIn (bodyOf Try.f59)).map firstRegion) = true := by kernel_rfl
theorem ok59 : FOK Try.prog tab 59 sp59 := spec_ok (keeps := kp59) tabOK fs92OK Try.func59 bo59 (by kernel_rfl) nd59 (LSOK.none) (F := F59) fun k x => by kernel_rfl
noncomputable def fs59 : Nat → Option (FSpec Ty) := addF 59 sp59 fs92
theorem fs59OK : SpecsOK Try.prog tab fs59 := fs92OK.add ok59 Try.call59
def ag104 : Args Ty (T128 × Unit) := V.arg (tab.den 129) (noArgs)
def rs104 : Res Ty tab (Bool) false := V.oneRes (tab.den 4) (ent 4).ids (ent 4).plain (fun x _ => (ent 4).flat x rfl)
def kp104 : Nat → Keep := fun i => ⟨[], [], 0⟩
/-- "silt/group.fits" -/
def F104 (k : Nat) (x : T128 × Unit) : Option (Bool) :=
  match x with
  | (a0, ()) => (F105 k (a0.1.1, ())).bind fun r => bif !r then (F106 k (T87.mk a0.2.1 a0.2.2 a0.2.3 a0.2.4 a0.2.5 a0.2.6 a0.2.7, ())).bind fun r => some r else bif a0.2.1 == a0.1.1 then bif a0.2.2 == a0.1.2 then (F59 k (T87.mk a0.2.1 a0.2.2 a0.2.3 a0.2.4 a0.2.5 a0.2.6 a0.2.7, ())).bind fun r => some r else some false else some false
noncomputable def sp104 : FSpec Ty := spec ag104 rs104 F104
theorem bo104 : Try.f104.body = some (bodyOf Try.f104) := by kernel_rfl
theorem nd104 : nodupB ((loopsIn (bodyOf Try.f104)).map firstRegion) = true := by kernel_rfl
theorem ok104 : FOK Try.prog tab 104 sp104 := spec_ok (keeps := kp104) tabOK fs59OK Try.func104 bo104 (by kernel_rfl) nd104 (LSOK.none) (F := F104) fun k x => by kernel_rfl
noncomputable def fs104 : Nat → Option (FSpec Ty) := addF 104 sp104 fs59
theorem fs104OK : SpecsOK Try.prog tab fs104 := fs59OK.add ok104 Try.call104
def ag78 : Args Ty (T46 × Unit) := V.arg (tab.den 47) (noArgs)
def rs78 : Res Ty tab (Bool) false := V.oneRes (tab.den 4) (ent 4).ids (ent 4).plain (fun x _ => (ent 4).flat x rfl)
def kp78 : Nat → Keep := fun i => ⟨[], [], 0⟩
/-- "silt/summary.good" -/
def F78 (k : Nat) (x : T46 × Unit) : Option (Bool) :=
  match x with
  | (a0, ()) => bif a0.1 == (3 : Int) then bif decide (a0.2 ≥ (0 : Int)) then some (decide (a0.2 < (8 : Int))) else some false else bif a0.1 == (1 : Int) then bif decide (a0.2 ≥ (0 : Int)) then some (decide (a0.2 < (64 : Int))) else some false else bif a0.1 == (2 : Int) then bif decide (a0.2 ≥ (0 : Int)) then some (decide (a0.2 < (64 : Int))) else some false else bif a0.1 == (4 : Int) then bif decide (a0.2 ≥ (0 : Int)) then some (decide (a0.2 < (64 : Int))) else some false else bif a0.1 == (5 : Int) then bif decide (a0.2 ≥ (0 : Int)) then some (decide (a0.2 < (64 : Int))) else some false else some false
noncomputable def sp78 : FSpec Ty := spec ag78 rs78 F78
theorem bo78 : Try.f78.body = some (bodyOf Try.f78) := by kernel_rfl
theorem nd78 : nodupB ((loopsIn (bodyOf Try.f78)).map firstRegion) = true := by kernel_rfl
theorem ok78 : FOK Try.prog tab 78 sp78 := spec_ok (keeps := kp78) tabOK fs104OK Try.func78 bo78 (by kernel_rfl) nd78 (LSOK.none) (F := F78) fun k x => by kernel_rfl
noncomputable def fs78 : Nat → Option (FSpec Ty) := addF 78 sp78 fs104
theorem fs78OK : SpecsOK Try.prog tab fs78 := fs104OK.add ok78 Try.call78
def ag26 : Args Ty (T24 × Unit) := V.arg (tab.den 25) (noArgs)
def rs26 : Res Ty tab ((List Int) × Int × Unit) false := V.manyRes (V.part (tab.den 27) (ent 27).ids (ent 27).plain (fun x _ => (ent 27).flat x rfl) (V.part (tab.den 29) (ent 29).ids (ent 29).plain (fun x _ => (ent 29).flat x rfl) (noParts)))
def of26_7 : List T46 × Int × Int × List Int × List Int → NSt Ty := fun x => ⟨[.ptr 100000 [], .ptr 100001 [], .slice 47 (x.1), .int .i64 (x.2.1), .int .i64 (x.2.2.1)], [.var (.arr 5 64 (x.2.2.2.1)), .var (.arr 5 64 (x.2.2.2.2))]⟩
def ab26_7 : (n : NSt Ty) → Option {x : List T46 × Int × Int × List Int × List Int // of26_7 x = n}
  | ⟨[.ptr 100000 [], .ptr 100001 [], .slice 47 v0, .int .i64 v1, .int .i64 v2], [.var (.arr 5 64 v3), .var (.arr 5 64 v4)]⟩ => some ⟨(v0, v1, v2, v3, v4), rfl⟩
  | _ => none
def on26_7a : Int × List Int × List Int → NSt Ty := fun x => ⟨[.ptr 100000 [], .int .i64 (x.1), .ptr 100001 []], [.var (.arr 5 64 (x.2.1)), .var (.arr 5 64 (x.2.2))]⟩
def on26_7b : List Int × List Int → NSt Ty := fun x => ⟨[.ptr 100000 [], .undef, .ptr 100001 []], [.var (.arr 5 64 (x.1)), .var (.arr 5 64 (x.2))]⟩
def oa26_7 : (e : Ex) → (n : NSt Ty) → Option {y : (Int × List Int × List Int) ⊕ (List Int × List Int) // oe2 .ret (.exit 0) y = e ∧ on2 on26_7a on26_7b y = n}
  | .ret, ⟨[.ptr 100000 [], .int .i64 v0, .ptr 100001 []], [.var (.arr 5 64 v1), .var (.arr 5 64 v2)]⟩ => some ⟨.inl (v0, v1, v2), rfl, rfl⟩
  | .exit 0, ⟨[.ptr 100000 [], .undef, .ptr 100001 []], [.var (.arr 5 64 v0), .var (.arr 5 64 v1)]⟩ => some ⟨.inr (v0, v1), rfl, rfl⟩
  | _, _ => none
/-- a round of the loop 7 of function 26 -/
def R26_7 (k : Nat) (again : List T46 × Int × Int × List Int × List Int → Option ((Int × List Int × List Int) ⊕ (List Int × List Int))) (x : List T46 × Int × Int × List Int × List Int) : Option ((Int × List Int × List Int) ⊕ (List Int × List Int)) :=
  match x with
  | (v0, v1, v2, v3, v4) => bif decide (v2 < v1) then bif inRange v2 v0.length then (F78 k (T46.mk (v0.getD v2.toNat (T46.mk (0 : Int) (0 : Int))).1 (v0.getD v2.toNat (T46.mk (0 : Int) (0 : Int))).2, ())).bind fun r => bif !r then some (Sum.inl ((11 : Int), List.replicate (64 : Nat) (0 : Int), v4)) else bif inRange (IntKind.i64.wrap ((7 : Int) + IntKind.i64.wrap ((2 : Int) * v2))) (64 : Nat) then bif inRange (IntKind.i64.wrap (IntKind.i64.wrap ((7 : Int) + IntKind.i64.wrap ((2 : Int) * v2)) + (1 : Int))) (64 : Nat) then again (v0, v1, IntKind.i64.wrap (v2 + (1 : Int)), v3, (v4.set (IntKind.i64.wrap ((7 : Int) + IntKind.i64.wrap ((2 : Int) * v2))).toNat (IntKind.u8.wrap (v0.getD v2.toNat (T46.mk (0 : Int) (0 : Int))).1)).set (IntKind.i64.wrap (IntKind.i64.wrap ((7 : Int) + IntKind.i64.wrap ((2 : Int) * v2)) + (1 : Int))).toNat (IntKind.u8.wrap (v0.getD v2.toNat (T46.mk (0 : Int) (0 : Int))).2)) else none else none else none else some (Sum.inr (v3, v4))
def L26_7 (k n : Nat) (x : List T46 × Int × Int × List Int × List Int) : Option ((Int × List Int × List Int) ⊕ (List Int × List Int)) := iterR (R26_7 k) n x
noncomputable def ls26_7 : Nat → Option (LSum Ty) := addL 7 (lsum2 of26_7 ab26_7 L26_7 .ret on26_7a (.exit 0) on26_7b) noL
def kp26 : Nat → Keep := fun i => cond (i == 7) ⟨[2, 4, 42, 43, 44], [2, 3, 4], 0⟩ (⟨[], [], 0⟩)
/-- "silt/summary.Encode" -/
def F26 (k : Nat) (x : T24 × Unit) : Option ((List Int) × Int × Unit) :=
  match x with
  | (a0, ()) => bif decide ((↑a0.3.length : Int) < (1 : Int)) then some (List.replicate (64 : Nat) (0 : Int), (11 : Int), ()) else bif decide ((↑a0.3.length : Int) > (24 : Int)) then some (List.replicate (64 : Nat) (0 : Int), (11 : Int), ()) else bif a0.2 then (L26_7 k k (a0.3, (↑a0.3.length : Int), (0 : Int), List.replicate (64 : Nat) (0 : Int), ((((((((List.replicate (64 : Nat) (0 : Int)).set (0 : Nat) (83 : Int)).set (1 : Nat) (0 : Int)).set (2 : Nat) (IntKind.u8.wrap a0.1)).set (3 : Nat) (IntKind.u8.wrap (a0.1.fdiv ((2 : Int) ^ min (Int.toNat (8 : Int)) IntKind.u32.bits)))).set (4 : Nat) (IntKind.u8.wrap (a0.1.fdiv ((2 : Int) ^ min (Int.toNat (16 : Int)) IntKind.u32.bits)))).set (5 : Nat) (IntKind.u8.wrap (a0.1.fdiv ((2 : Int) ^ min (Int.toNat (24 : Int)) IntKind.u32.bits)))).set (6 : Nat) (IntKind.u8.wrap (↑a0.3.length : Int))).set (Int.toNat (1 : Int)) (1 : Int))).bind fun r => sumK r (fun a => some (a.snd.fst, a.fst, ())) fun b => some (b.snd, (0 : Int), ()) else (L26_7 k k (a0.3, (↑a0.3.length : Int), (0 : Int), List.replicate (64 : Nat) (0 : Int), (((((((List.replicate (64 : Nat) (0 : Int)).set (0 : Nat) (83 : Int)).set (1 : Nat) (0 : Int)).set (2 : Nat) (IntKind.u8.wrap a0.1)).set (3 : Nat) (IntKind.u8.wrap (a0.1.fdiv ((2 : Int) ^ min (Int.toNat (8 : Int)) IntKind.u32.bits)))).set (4 : Nat) (IntKind.u8.wrap (a0.1.fdiv ((2 : Int) ^ min (Int.toNat (16 : Int)) IntKind.u32.bits)))).set (5 : Nat) (IntKind.u8.wrap (a0.1.fdiv ((2 : Int) ^ min (Int.toNat (24 : Int)) IntKind.u32.bits)))).set (6 : Nat) (IntKind.u8.wrap (↑a0.3.length : Int)))).bind fun r => sumK r (fun a => some (a.snd.fst, a.fst, ())) fun b => some (b.snd, (0 : Int), ())
noncomputable def sp26 : FSpec Ty := spec ag26 rs26 F26
theorem bo26 : Try.f26.body = some (bodyOf Try.f26) := by kernel_rfl
theorem nd26 : nodupB ((loopsIn (bodyOf Try.f26)).map firstRegion) = true := by kernel_rfl
theorem lo26_7 : LSOK fs78 kp26 tab Try.f26 ls26_7 := lsum2_ok bo26 nd26 (LSOK.none) oa26_7 (R := R26_7) fun k again x => by kernel_rfl
theorem ok26 : FOK Try.prog tab 26 sp26 := spec_ok (keeps := kp26) tabOK fs78OK Try.func26 bo26 (by kernel_rfl) nd26 (lo26_7) (F := F26) fun k x => by kernel_rfl
noncomputable def fs26 : Nat → Option (FSpec Ty) := addF 26 sp26 fs78
theorem fs26OK : SpecsOK Try.prog tab fs26 := fs78OK.add ok26 Try.call26
def ag96 : Args Ty ((List T128) × Unit) := V.arg (tab.den 106) (noArgs)
def rs96 : Res Ty tab (Bool) false := V.oneRes (tab.den 4) (ent 4).ids (ent 4).plain (fun x _ => (ent 4).flat x rfl)
def of96_5 : List T128 × Int × Int × List Int → NSt Ty := fun x => ⟨[.mapp 100000, .slice 129 (x.1), .int .i64 (x.2.1), .int .i64 (x.2.2.1)], [.map (x.2.2.2)]⟩
def ab96_5 : (n : NSt Ty) → Option {x : List T128 × Int × Int × List Int // of96_5 x = n}
  | ⟨[.mapp 100000, .slice 129 v0, .int .i64 v1, .int .i64 v2], [.map v3]⟩ => some ⟨(v0, v1, v2, v3), rfl⟩
  | _ => none
def on96_5a : Bool → NSt Ty := fun x => ⟨[.bool (x)], []⟩
def on96_5b : Unit → NSt Ty := fun x => ⟨[.undef], []⟩
def oa96_5 : (e : Ex) → (n : NSt Ty) → Option {y : (Bool) ⊕ (Unit) // oe2 .ret (.exit 0) y = e ∧ on2 on96_5a on96_5b y = n}
  | .ret, ⟨[.bool v0], []⟩ => some ⟨.inl v0, rfl, rfl⟩
  | .exit 0, ⟨[.undef], []⟩ => some ⟨.inr (), rfl, rfl⟩
  | _, _ => none
/-- a round of the loop 5 of function 96 -/
def R96_5 (k : Nat) (again : List T128 × Int × Int × List Int → Option ((Bool) ⊕ (Unit))) (x : List T128 × Int × Int × List Int) : Option ((Bool) ⊕ (Unit)) :=
  match x with
  | (v0, v1, v2, v3) => bif decide (v2 < v1) then bif inRange v2 v0.length then (F103 k (T46.mk (v0.getD v2.toNat (T128.mk (T46.mk (0 : Int) (0 : Int)) (T87.mk (0 : Int) (0 : Int) (List.replicate (32 : Nat) (0 : Int)) (0 : Int) [] (0 : Int) (List.replicate (8 : Nat) (0 : Int))))).1.1 (v0.getD v2.toNat (T128.mk (T46.mk (0 : Int) (0 : Int)) (T87.mk (0 : Int) (0 : Int) (List.replicate (32 : Nat) (0 : Int)) (0 : Int) [] (0 : Int) (List.replicate (8 : Nat) (0 : Int))))).1.2, ())).bind fun r => bif v3.contains r then some (Sum.inl false) else (F104 k (T128.mk (T46.mk (v0.getD v2.toNat (T128.mk (T46.mk (0 : Int) (0 : Int)) (T87.mk (0 : Int) (0 : Int) (List.replicate (32 : Nat) (0 : Int)) (0 : Int) [] (0 : Int) (List.replicate (8 : Nat) (0 : Int))))).1.1 (v0.getD v2.toNat (T128.mk (T46.mk (0 : Int) (0 : Int)) (T87.mk (0 : Int) (0 : Int) (List.replicate (32 : Nat) (0 : Int)) (0 : Int) [] (0 : Int) (List.replicate (8 : Nat) (0 : Int))))).1.2) (T87.mk (v0.getD v2.toNat (T128.mk (T46.mk (0 : Int) (0 : Int)) (T87.mk (0 : Int) (0 : Int) (List.replicate (32 : Nat) (0 : Int)) (0 : Int) [] (0 : Int) (List.replicate (8 : Nat) (0 : Int))))).2.1 (v0.getD v2.toNat (T128.mk (T46.mk (0 : Int) (0 : Int)) (T87.mk (0 : Int) (0 : Int) (List.replicate (32 : Nat) (0 : Int)) (0 : Int) [] (0 : Int) (List.replicate (8 : Nat) (0 : Int))))).2.2 (v0.getD v2.toNat (T128.mk (T46.mk (0 : Int) (0 : Int)) (T87.mk (0 : Int) (0 : Int) (List.replicate (32 : Nat) (0 : Int)) (0 : Int) [] (0 : Int) (List.replicate (8 : Nat) (0 : Int))))).2.3 (v0.getD v2.toNat (T128.mk (T46.mk (0 : Int) (0 : Int)) (T87.mk (0 : Int) (0 : Int) (List.replicate (32 : Nat) (0 : Int)) (0 : Int) [] (0 : Int) (List.replicate (8 : Nat) (0 : Int))))).2.4 (v0.getD v2.toNat (T128.mk (T46.mk (0 : Int) (0 : Int)) (T87.mk (0 : Int) (0 : Int) (List.replicate (32 : Nat) (0 : Int)) (0 : Int) [] (0 : Int) (List.replicate (8 : Nat) (0 : Int))))).2.5 (v0.getD v2.toNat (T128.mk (T46.mk (0 : Int) (0 : Int)) (T87.mk (0 : Int) (0 : Int) (List.replicate (32 : Nat) (0 : Int)) (0 : Int) [] (0 : Int) (List.replicate (8 : Nat) (0 : Int))))).2.6 (v0.getD v2.toNat (T128.mk (T46.mk (0 : Int) (0 : Int)) (T87.mk (0 : Int) (0 : Int) (List.replicate (32 : Nat) (0 : Int)) (0 : Int) [] (0 : Int) (List.replicate (8 : Nat) (0 : Int))))).2.7), ())).bind fun r => bif !r then some (Sum.inl false) else (F103 k (T46.mk (v0.getD v2.toNat (T128.mk (T46.mk (0 : Int) (0 : Int)) (T87.mk (0 : Int) (0 : Int) (List.replicate (32 : Nat) (0 : Int)) (0 : Int) [] (0 : Int) (List.replicate (8 : Nat) (0 : Int))))).1.1 (v0.getD v2.toNat (T128.mk (T46.mk (0 : Int) (0 : Int)) (T87.mk (0 : Int) (0 : Int) (List.replicate (32 : Nat) (0 : Int)) (0 : Int) [] (0 : Int) (List.replicate (8 : Nat) (0 : Int))))).1.2, ())).bind fun r => (F26 k (T24.mk (0 : Int) false ((List.replicate (1 : Nat) (T46.mk (0 : Int) (0 : Int))).set (0 : Nat) (T46.mk (v0.getD v2.toNat (T128.mk (T46.mk (0 : Int) (0 : Int)) (T87.mk (0 : Int) (0 : Int) (List.replicate (32 : Nat) (0 : Int)) (0 : Int) [] (0 : Int) (List.replicate (8 : Nat) (0 : Int))))).1.1 (v0.getD v2.toNat (T128.mk (T46.mk (0 : Int) (0 : Int)) (T87.mk (0 : Int) (0 : Int) (List.replicate (32 : Nat) (0 : Int)) (0 : Int) [] (0 : Int) (List.replicate (8 : Nat) (0 : Int))))).1.2)), ())).bind fun r_1 => bif r_1.snd.fst != (0 : Int) then some (Sum.inl false) else again (v0, v1, IntKind.i64.wrap (v2 + (1 : Int)), bif v3.contains r then v3 else v3 ++ [r]) else none else some (Sum.inr ())
def L96_5 (k n : Nat) (x : List T128 × Int × Int × List Int) : Option ((Bool) ⊕ (Unit)) := iterR (R96_5 k) n x
noncomputable def ls96_5 : Nat → Option (LSum Ty) := addL 5 (lsum2 of96_5 ab96_5 L96_5 .ret on96_5a (.exit 0) on96_5b) noL
def kp96 : Nat → Keep := fun i => cond (i == 5) ⟨[3, 19, 20, 21], [2], 0⟩ (⟨[], [], 0⟩)
/-- "silt/group.good" -/
def F96 (k : Nat) (x : (List T128) × Unit) : Option (Bool) :=
  match x with
  | (a0, ()) => bif decide ((↑a0.length : Int) < (1 : Int)) then some false else bif decide ((↑a0.length : Int) > (64 : Int)) then some false else (L96_5 k k (a0, (↑a0.length : Int), (0 : Int), [])).bind fun r => sumK r (fun a => some a) fun b => some true
noncomputable def sp96 : FSpec Ty := spec ag96 rs96 F96
theorem bo96 : Try.f96.body = some (bodyOf Try.f96) := by kernel_rfl
theorem nd96 : nodupB ((loopsIn (bodyOf Try.f96)).map firstRegion) = true := by kernel_rfl
theorem lo96_5 : LSOK fs26 kp96 tab Try.f96 ls96_5 := lsum2_ok bo96 nd96 (LSOK.none) oa96_5 (R := R96_5) fun k again x => by kernel_rfl
theorem ok96 : FOK Try.prog tab 96 sp96 := spec_ok (keeps := kp96) tabOK fs26OK Try.func96 bo96 (by kernel_rfl) nd96 (lo96_5) (F := F96) fun k x => by kernel_rfl
noncomputable def fs96 : Nat → Option (FSpec Ty) := addF 96 sp96 fs26
theorem fs96OK : SpecsOK Try.prog tab fs96 := fs26OK.add ok96 Try.call96
def ag100 : Args Ty ((List T128) × Unit) := V.arg (tab.den 106) (noArgs)
def rs100 : Res Ty tab ((List T46)) true := V.oneRes (tab.den 23) (ent 23).ids (ent 23).plain (fun _ h => by cases h)
def of100_3 : List T128 × Int × Int × List T46 → NSt Ty := fun x => ⟨[.row 100000, .slice 129 (x.1), .int .i64 (x.2.1), .int .i64 (x.2.2.1)], [.row 47 (x.2.2.2)]⟩
def ab100_3 : (n : NSt Ty) → Option {x : List T128 × Int × Int × List T46 // of100_3 x = n}
  | ⟨[.row 100000, .slice 129 v0, .int .i64 v1, .int .i64 v2], [.row 47 v3]⟩ => some ⟨(v0, v1, v2, v3), rfl⟩
  | _ => none
def oe100_3 : List T46 → Ex := fun _ => .exit 0
def on100_3 : List T46 → NSt Ty := fun x => ⟨[.row 100000], [.row 47 (x)]⟩
def oa100_3 : (e : Ex) → (n : NSt Ty) → Option {y : List T46 // oe100_3 y = e ∧ on100_3 y = n}
  | .exit 0, ⟨[.row 100000], [.row 47 v0]⟩ => some ⟨v0, rfl, rfl⟩
  | _, _ => none
/-- a round of the loop 3 of function 100 -/
def R100_3 (k : Nat) (again : List T128 × Int × Int × List T46 → Option (List T46)) (x : List T128 × Int × Int × List T46) : Option (List T46) :=
  match x with
  | (v0, v1, v2, v3) => bif decide (v2 < v1) then bif inRange v2 v0.length then bif decide (v3.length + ((List.replicate (1 : Nat) (T46.mk (0 : Int) (0 : Int))).set (0 : Nat) (T46.mk (v0.getD v2.toNat (T128.mk (T46.mk (0 : Int) (0 : Int)) (T87.mk (0 : Int) (0 : Int) (List.replicate (32 : Nat) (0 : Int)) (0 : Int) [] (0 : Int) (List.replicate (8 : Nat) (0 : Int))))).1.1 (v0.getD v2.toNat (T128.mk (T46.mk (0 : Int) (0 : Int)) (T87.mk (0 : Int) (0 : Int) (List.replicate (32 : Nat) (0 : Int)) (0 : Int) [] (0 : Int) (List.replicate (8 : Nat) (0 : Int))))).1.2)).length ≤ roomMost) then again (v0, v1, IntKind.i64.wrap (v2 + (1 : Int)), v3 ++ (List.replicate (1 : Nat) (T46.mk (0 : Int) (0 : Int))).set (0 : Nat) (T46.mk (v0.getD v2.toNat (T128.mk (T46.mk (0 : Int) (0 : Int)) (T87.mk (0 : Int) (0 : Int) (List.replicate (32 : Nat) (0 : Int)) (0 : Int) [] (0 : Int) (List.replicate (8 : Nat) (0 : Int))))).1.1 (v0.getD v2.toNat (T128.mk (T46.mk (0 : Int) (0 : Int)) (T87.mk (0 : Int) (0 : Int) (List.replicate (32 : Nat) (0 : Int)) (0 : Int) [] (0 : Int) (List.replicate (8 : Nat) (0 : Int))))).1.2)) else none else none else some v3
def L100_3 (k n : Nat) (x : List T128 × Int × Int × List T46) : Option (List T46) := iterR (R100_3 k) n x
noncomputable def ls100_3 : Nat → Option (LSum Ty) := addL 3 (LSum.of of100_3 ab100_3 L100_3 oe100_3 on100_3) noL
def kp100 : Nat → Keep := fun i => cond (i == 3) ⟨[3, 6, 7, 8], [3], 0⟩ (⟨[], [], 0⟩)
/-- "silt/group.marks" -/
def F100 (k : Nat) (x : (List T128) × Unit) : Option ((List T46)) :=
  match x with
  | (a0, ()) => (L100_3 k k (a0, (↑a0.length : Int), (0 : Int), [])).bind fun r => some r
noncomputable def sp100 : FSpec Ty := spec ag100 rs100 F100
theorem bo100 : Try.f100.body = some (bodyOf Try.f100) := by kernel_rfl
theorem nd100 : nodupB ((loopsIn (bodyOf Try.f100)).map firstRegion) = true := by kernel_rfl
theorem lo100_3 : LSOK fs96 kp100 tab Try.f100 ls100_3 := lsum_ok bo100 nd100 (LSOK.none) oa100_3 (R := R100_3) fun k again x => by kernel_rfl
theorem ok100 : FOK Try.prog tab 100 sp100 := spec_ok (keeps := kp100) tabOK fs96OK Try.func100 bo100 (by kernel_rfl) nd100 (lo100_3) (F := F100) fun k x => by kernel_rfl
noncomputable def fs100 : Nat → Option (FSpec Ty) := addF 100 sp100 fs96
theorem fs100OK : SpecsOK Try.prog tab fs100 := fs96OK.add ok100 Try.call100
def ag55 : Args Ty (T87 × Int × Unit) := V.arg (tab.den 88) (V.arg (tab.den 22) (noArgs))
def rs55 : Res Ty tab ((List Int) × Int × Unit) false := V.manyRes (V.part (tab.den 27) (ent 27).ids (ent 27).plain (fun x _ => (ent 27).flat x rfl) (V.part (tab.den 29) (ent 29).ids (ent 29).plain (fun x _ => (ent 29).flat x rfl) (noParts)))
def of55_13 : List Int × Int × List Int × List Int → NSt Ty := fun x => ⟨[.ptr 100000 [], .ptr 100001 [], .arr 3 8 (x.1), .int .i64 (x.2.1)], [.var (.arr 5 64 (x.2.2.1)), .var (.arr 5 64 (x.2.2.2))]⟩
def ab55_13 : (n : NSt Ty) → Option {x : List Int × Int × List Int × List Int // of55_13 x = n}
  | ⟨[.ptr 100000 [], .ptr 100001 [], .arr 3 8 v0, .int .i64 v1], [.var (.arr 5 64 v2), .var (.arr 5 64 v3)]⟩ => some ⟨(v0, v1, v2, v3), rfl⟩
  | _ => none
def oe55_13 : List Int × List Int → Ex := fun _ => .exit 1
def on55_13 : List Int × List Int → NSt Ty := fun x => ⟨[.ptr 100000 [], .ptr 100001 []], [.var (.arr 5 64 (x.1)), .var (.arr 5 64 (x.2))]⟩
def oa55_13 : (e : Ex) → (n : NSt Ty) → Option {y : List Int × List Int // oe55_13 y = e ∧ on55_13 y = n}
  | .exit 1, ⟨[.ptr 100000 [], .ptr 100001 []], [.var (.arr 5 64 v0), .var (.arr 5 64 v1)]⟩ => some ⟨(v0, v1), rfl, rfl⟩
  | _, _ => none
/-- a round of the loop 13 of function 55 -/
def R55_13 (k : Nat) (again : List Int × Int × List Int × List Int → Option (List Int × List Int)) (x : List Int × Int × List Int × List Int) : Option (List Int × List Int) :=
  match x with
  | (v0, v1, v2, v3) => bif decide (v1 < (8 : Int)) then bif inRange v1 (8 : Nat) then bif inRange (IntKind.i64.wrap ((6 : Int) + IntKind.i64.wrap ((2 : Int) * v1))) (64 : Nat) then bif inRange (IntKind.i64.wrap (IntKind.i64.wrap ((6 : Int) + IntKind.i64.wrap ((2 : Int) * v1)) + (1 : Int))) (64 : Nat) then again (v0, IntKind.i64.wrap (v1 + (1 : Int)), v2, (v3.set (IntKind.i64.wrap ((6 : Int) + IntKind.i64.wrap ((2 : Int) * v1))).toNat (IntKind.u8.wrap (v0.getD v1.toNat (0 : Int)))).set (IntKind.i64.wrap (IntKind.i64.wrap ((6 : Int) + IntKind.i64.wrap ((2 : Int) * v1)) + (1 : Int))).toNat (IntKind.u8.wrap (Int.fdiv (v0.getD v1.toNat (0 : Int)) ((2 : Int) ^ min (Int.toNat (8 : Int)) IntKind.i64.bits)))) else none else none else none else some (v2, v3)
def L55_13 (k n : Nat) (x : List Int × Int × List Int × List Int) : Option (List Int × List Int) := iterR (R55_13 k) n x
noncomputable def ls55_13 : Nat → Option (LSum Ty) := addL 13 (LSum.of of55_13 ab55_13 L55_13 oe55_13 on55_13) noL
def kp55 : Nat → Keep := fun i => cond (i == 13) ⟨[4, 6, 66, 67], [4, 6], 0⟩ (⟨[], [], 0⟩)
/-- "silt/block.Encode" -/
def F55 (k : Nat) (x : T87 × Int × Unit) : Option ((List Int) × Int × Unit) :=
  match x with
  | (a0, a1, ()) => (F59 k (T87.mk a0.1 a0.2 a0.3 a0.4 a0.5 a0.6 a0.7, ())).bind fun r => bif !r then some (List.replicate (64 : Nat) (0 : Int), (11 : Int), ()) else bif a0.1 == (1 : Int) then some (splice (((((((List.replicate (64 : Nat) (0 : Int)).set (0 : Nat) (IntKind.u8.wrap a0.1)).set (1 : Nat) (IntKind.u8.wrap a0.2)).set (2 : Nat) (IntKind.u8.wrap a1)).set (3 : Nat) (IntKind.u8.wrap (a1.fdiv ((2 : Int) ^ min (Int.toNat (8 : Int)) IntKind.u32.bits)))).set (4 : Nat) (IntKind.u8.wrap (a1.fdiv ((2 : Int) ^ min (Int.toNat (16 : Int)) IntKind.u32.bits)))).set (5 : Nat) (IntKind.u8.wrap (a1.fdiv ((2 : Int) ^ min (Int.toNat (24 : Int)) IntKind.u32.bits)))) (List.take ((↑(32 : Nat) : Int) - (0 : Int)).toNat (List.drop (Int.toNat (0 : Int)) a0.3)) (Int.toNat (6 : Int)) (min (List.take ((↑(32 : Nat) : Int) - (0 : Int)).toNat (List.drop (Int.toNat (0 : Int)) a0.3)).length ((↑(64 : Nat) : Int) - (6 : Int)).toNat), (0 : Int), ()) else bif a0.1 == (2 : Int) then some (((splice (((((((((List.replicate (64 : Nat) (0 : Int)).set (0 : Nat) (IntKind.u8.wrap a0.1)).set (1 : Nat) (IntKind.u8.wrap a0.2)).set (2 : Nat) (IntKind.u8.wrap a1)).set (3 : Nat) (IntKind.u8.wrap (a1.fdiv ((2 : Int) ^ min (Int.toNat (8 : Int)) IntKind.u32.bits)))).set (4 : Nat) (IntKind.u8.wrap (a1.fdiv ((2 : Int) ^ min (Int.toNat (16 : Int)) IntKind.u32.bits)))).set (5 : Nat) (IntKind.u8.wrap (a1.fdiv ((2 : Int) ^ min (Int.toNat (24 : Int)) IntKind.u32.bits)))).set (Int.toNat (6 : Int)) (IntKind.u8.wrap a0.4)).set (Int.toNat (7 : Int)) (IntKind.u8.wrap (↑a0.5.length : Int))) a0.5 (Int.toNat (8 : Int)) (min a0.5.length ((↑(64 : Nat) : Int) - (8 : Int)).toNat)).set (Int.toNat (24 : Int)) (IntKind.u8.wrap a0.6)).set (Int.toNat (25 : Int)) (IntKind.u8.wrap (a0.6.fdiv ((2 : Int) ^ min (Int.toNat (8 : Int)) IntKind.i64.bits))), (0 : Int), ()) else bif a0.1 == (3 : Int) then (L55_13 k k (a0.7, (0 : Int), List.replicate (64 : Nat) (0 : Int), ((((((List.replicate (64 : Nat) (0 : Int)).set (0 : Nat) (IntKind.u8.wrap a0.1)).set (1 : Nat) (IntKind.u8.wrap a0.2)).set (2 : Nat) (IntKind.u8.wrap a1)).set (3 : Nat) (IntKind.u8.wrap (a1.fdiv ((2 : Int) ^ min (Int.toNat (8 : Int)) IntKind.u32.bits)))).set (4 : Nat) (IntKind.u8.wrap (a1.fdiv ((2 : Int) ^ min (Int.toNat (16 : Int)) IntKind.u32.bits)))).set (5 : Nat) (IntKind.u8.wrap (a1.fdiv ((2 : Int) ^ min (Int.toNat (24 : Int)) IntKind.u32.bits))))).bind fun r => some (r.snd, (0 : Int), ()) else some (((((((List.replicate (64 : Nat) (0 : Int)).set (0 : Nat) (IntKind.u8.wrap a0.1)).set (1 : Nat) (IntKind.u8.wrap a0.2)).set (2 : Nat) (IntKind.u8.wrap a1)).set (3 : Nat) (IntKind.u8.wrap (a1.fdiv ((2 : Int) ^ min (Int.toNat (8 : Int)) IntKind.u32.bits)))).set (4 : Nat) (IntKind.u8.wrap (a1.fdiv ((2 : Int) ^ min (Int.toNat (16 : Int)) IntKind.u32.bits)))).set (5 : Nat) (IntKind.u8.wrap (a1.fdiv ((2 : Int) ^ min (Int.toNat (24 : Int)) IntKind.u32.bits))), (0 : Int), ())
noncomputable def sp55 : FSpec Ty := spec ag55 rs55 F55
theorem bo55 : Try.f55.body = some (bodyOf Try.f55) := by kernel_rfl
theorem nd55 : nodupB ((loopsIn (bodyOf Try.f55)).map firstRegion) = true := by kernel_rfl
theorem lo55_13 : LSOK fs100 kp55 tab Try.f55 ls55_13 := lsum_ok bo55 nd55 (LSOK.none) oa55_13 (R := R55_13) fun k again x => by kernel_rfl
theorem ok55 : FOK Try.prog tab 55 sp55 := spec_ok (keeps := kp55) tabOK fs100OK Try.func55 bo55 (by kernel_rfl) nd55 (lo55_13) (F := F55) fun k x => by kernel_rfl
noncomputable def fs55 : Nat → Option (FSpec Ty) := addF 55 sp55 fs100
theorem fs55OK : SpecsOK Try.prog tab fs55 := fs100OK.add ok55 Try.call55
def ag97 : Args Ty (Int × Bool × (List T128) × Unit) := V.arg (tab.den 22) (V.arg (tab.den 4) (V.arg (tab.den 106) (noArgs)))
def rs97 : Res Ty tab ((List (List Int)) × (List Int) × Int × Unit) true := V.manyRes (V.part (tab.den 70) (ent 70).ids (ent 70).plain (fun _ h => by cases h) (V.part (tab.den 109) (ent 109).ids (ent 109).plain (fun _ h => by cases h) (V.part (tab.den 29) (ent 29).ids (ent 29).plain (fun _ h => by cases h) (noParts))))
def of97_7 : Int × List T128 × Int × Int × List (List Int) × List Int → NSt Ty := fun x => ⟨[.int .u32 (x.1), .row 100000, .row 100001, .slice 129 (x.2.1), .int .i64 (x.2.2.1), .int .i64 (x.2.2.2.1)], [.row 27 (x.2.2.2.2.1), .row 3 (x.2.2.2.2.2)]⟩
def ab97_7 : (n : NSt Ty) → Option {x : Int × List T128 × Int × Int × List (List Int) × List Int // of97_7 x = n}
  | ⟨[.int .u32 v0, .row 100000, .row 100001, .slice 129 v1, .int .i64 v2, .int .i64 v3], [.row 27 v4, .row 3 v5]⟩ => some ⟨(v0, v1, v2, v3, v4, v5), rfl⟩
  | _ => none
def on97_7a : Int × List (List Int) × List Int × List (List Int) × List Int → NSt Ty := fun x => ⟨[.row 100000, .row 100001, .int .i64 (x.1), .row 100002, .row 100003], [.row 27 (x.2.1), .row 3 (x.2.2.1), .row 27 (x.2.2.2.1), .row 3 (x.2.2.2.2)]⟩
def on97_7b : List (List Int) × List Int → NSt Ty := fun x => ⟨[.undef, .undef, .undef, .row 100000, .row 100001], [.row 27 (x.1), .row 3 (x.2)]⟩
def oa97_7 : (e : Ex) → (n : NSt Ty) → Option {y : (Int × List (List Int) × List Int × List (List Int) × List Int) ⊕ (List (List Int) × List Int) // oe2 .ret (.exit 0) y = e ∧ on2 on97_7a on97_7b y = n}
  | .ret, ⟨[.row 100000, .row 100001, .int .i64 v0, .row 100002, .row 100003], [.row 27 v1, .row 3 v2, .row 27 v3, .row 3 v4]⟩ => some ⟨.inl (v0, v1, v2, v3, v4), rfl, rfl⟩
  | .exit 0, ⟨[.undef, .undef, .undef, .row 100000, .row 100001], [.row 27 v0, .row 3 v1]⟩ => some ⟨.inr (v0, v1), rfl, rfl⟩
  | _, _ => none
/-- a round of the loop 7 of function 97 -/
def R97_7 (k : Nat) (again : Int × List T128 × Int × Int × List (List Int) × List Int → Option ((Int × List (List Int) × List Int × List (List Int) × List Int) ⊕ (List (List Int) × List Int))) (x : Int × List T128 × Int × Int × List (List Int) × List Int) : Option ((Int × List (List Int) × List Int × List (List Int) × List Int) ⊕ (List (List Int) × List Int)) :=
  match x with
  | (v0, v1, v2, v3, v4, v5) => bif decide (v3 < v2) then bif inRange v3 v1.length then (F105 k ((v1.getD v3.toNat (T128.mk (T46.mk (0 : Int) (0 : Int)) (T87.mk (0 : Int) (0 : Int) (List.replicate (32 : Nat) (0 : Int)) (0 : Int) [] (0 : Int) (List.replicate (8 : Nat) (0 : Int))))).1.1, ())).bind fun r => bif !r then bif decide (v5.length + ((List.replicate (1 : Nat) (0 : Int)).set (0 : Nat) (-1 : Int)).length ≤ roomMost) then again (v0, v1, v2, IntKind.i64.wrap (v3 + (1 : Int)), v4, v5 ++ (List.replicate (1 : Nat) (0 : Int)).set (0 : Nat) (-1 : Int)) else none else (F55 k (T87.mk (v1.getD v3.toNat (T128.mk (T46.mk (0 : Int) (0 : Int)) (T87.mk (0 : Int) (0 : Int) (List.replicate (32 : Nat) (0 : Int)) (0 : Int) [] (0 : Int) (List.replicate (8 : Nat) (0 : Int))))).2.1 (v1.getD v3.toNat (T128.mk (T46.mk (0 : Int) (0 : Int)) (T87.mk (0 : Int) (0 : Int) (List.replicate (32 : Nat) (0 : Int)) (0 : Int) [] (0 : Int) (List.replicate (8 : Nat) (0 : Int))))).2.2 (v1.getD v3.toNat (T128.mk (T46.mk (0 : Int) (0 : Int)) (T87.mk (0 : Int) (0 : Int) (List.replicate (32 : Nat) (0 : Int)) (0 : Int) [] (0 : Int) (List.replicate (8 : Nat) (0 : Int))))).2.3 (v1.getD v3.toNat (T128.mk (T46.mk (0 : Int) (0 : Int)) (T87.mk (0 : Int) (0 : Int) (List.replicate (32 : Nat) (0 : Int)) (0 : Int) [] (0 : Int) (List.replicate (8 : Nat) (0 : Int))))).2.4 (v1.getD v3.toNat (T128.mk (T46.mk (0 : Int) (0 : Int)) (T87.mk (0 : Int) (0 : Int) (List.replicate (32 : Nat) (0 : Int)) (0 : Int) [] (0 : Int) (List.replicate (8 : Nat) (0 : Int))))).2.5 (v1.getD v3.toNat (T128.mk (T46.mk (0 : Int) (0 : Int)) (T87.mk (0 : Int) (0 : Int) (List.replicate (32 : Nat) (0 : Int)) (0 : Int) [] (0 : Int) (List.replicate (8 : Nat) (0 : Int))))).2.6 (v1.getD v3.toNat (T128.mk (T46.mk (0 : Int) (0 : Int)) (T87.mk (0 : Int) (0 : Int) (List.replicate (32 : Nat) (0 : Int)) (0 : Int) [] (0 : Int) (List.replicate (8 : Nat) (0 : Int))))).2.7, v0, ())).bind fun r => bif r.snd.fst != (0 : Int) then some (Sum.inl (r.snd.fst, [], [], v4, v5)) else bif decide (v5.length + ((List.replicate (1 : Nat) (0 : Int)).set (0 : Nat) (↑v4.length : Int)).length ≤ roomMost) then bif decide (v4.length + ((List.replicate (1 : Nat) (List.replicate (64 : Nat) (0 : Int))).set (0 : Nat) r.fst).length ≤ roomMost) then again (v0, v1, v2, IntKind.i64.wrap (v3 + (1 : Int)), v4 ++ (List.replicate (1 : Nat) (List.replicate (64 : Nat) (0 : Int))).set (0 : Nat) r.fst, v5 ++ (List.replicate (1 : Nat) (0 : Int)).set (0 : Nat) (↑v4.length : Int)) else none else none else none else some (Sum.inr (v4, v5))
def L97_7 (k n : Nat) (x : Int × List T128 × Int × Int × List (List Int) × List Int) : Option ((Int × List (List Int) × List Int × List (List Int) × List Int) ⊕ (List (List Int) × List Int)) := iterR (R97_7 k) n x
noncomputable def ls97_7 : Nat → Option (LSum Ty) := addL 7 (lsum2 of97_7 ab97_7 L97_7 .ret on97_7a (.exit 0) on97_7b) noL
def kp97 : Nat → Keep := fun i => cond (i == 7) ⟨[0, 11, 12, 31, 32, 33], [6, 7, 8, 11, 12], 0⟩ (⟨[], [], 0⟩)
/-- "silt/group.part" -/
def F97 (k : Nat) (x : Int × Bool × (List T128) × Unit) : Option ((List (List Int)) × (List Int) × Int × Unit) :=
  match x with
  | (a0, a1, a2, ()) => (F100 k (a2, ())).bind fun r => (F26 k (T24.mk a0 a1 r, ())).bind fun r => bif r.snd.fst != (0 : Int) then some ([], [], r.snd.fst, ()) else (L97_7 k k (a0, a2, (↑a2.length : Int), (0 : Int), (List.replicate (1 : Nat) (List.replicate (64 : Nat) (0 : Int))).set (0 : Nat) r.fst, [])).bind fun r => sumK r (fun a => some (a.snd.fst, a.snd.snd.fst, a.fst, ())) fun b => some (b.fst, b.snd, (0 : Int), ())
noncomputable def sp97 : FSpec Ty := spec ag97 rs97 F97
theorem bo97 : Try.f97.body = some (bodyOf Try.f97) := by kernel_rfl
theorem nd97 : nodupB ((loopsIn (bodyOf Try.f97)).map firstRegion) = true := by kernel_rfl
theorem lo97_7 : LSOK fs55 kp97 tab Try.f97 ls97_7 := lsum2_ok bo97 nd97 (LSOK.none) oa97_7 (R := R97_7) fun k again x => by kernel_rfl
theorem ok97 : FOK Try.prog tab 97 sp97 := spec_ok (keeps := kp97) tabOK fs55OK Try.func97 bo97 (by kernel_rfl) nd97 (lo97_7) (F := F97) fun k x => by kernel_rfl
noncomputable def fs97 : Nat → Option (FSpec Ty) := addF 97 sp97 fs55
theorem fs97OK : SpecsOK Try.prog tab fs97 := fs55OK.add ok97 Try.call97
theorem bo66 : Try.f66.body = some (bodyOf Try.f66) := by kernel_rfl
theorem nd66 : nodupB ((loopsIn (bodyOf Try.f66)).map firstRegion) = true := by kernel_rfl
def of66 : Int × List T128 → NSt Ty := fun x => ⟨[.int .u32 (x.1), .slice 129 (x.2)], []⟩
def ab66 : (n : NSt Ty) → Option {x : Int × List T128 // of66 x = n}
  | ⟨[.int .u32 v0, .slice 129 v1], []⟩ => some ⟨(v0, v1), rfl⟩
  | _ => none
def of66_11 : Int × List T128 × Int × List (List Int) × List Int × Int × Int × List (List Int) × List Int → NSt Ty := fun x => ⟨[.int .u32 (x.1), .slice 129 (x.2.1), .row 100000, .row 100001, .int .i64 (x.2.2.1), .slice 27 (x.2.2.2.1), .slice 3 (x.2.2.2.2.1), .int .i64 (x.2.2.2.2.2.1), .int .i64 (x.2.2.2.2.2.2.1)], [.row 27 (x.2.2.2.2.2.2.2.1), .row 3 (x.2.2.2.2.2.2.2.2)]⟩
def ab66_11 : (n : NSt Ty) → Option {x : Int × List T128 × Int × List (List Int) × List Int × Int × Int × List (List Int) × List Int // of66_11 x = n}
  | ⟨[.int .u32 v0, .slice 129 v1, .row 100000, .row 100001, .int .i64 v2, .slice 27 v3, .slice 3 v4, .int .i64 v5, .int .i64 v6], [.row 27 v7, .row 3 v8]⟩ => some ⟨(v0, v1, v2, v3, v4, v5, v6, v7, v8), rfl⟩
  | _ => none
def oe66_11 : Int × List T128 × Int × List (List Int) × List (List Int) × List Int → Ex := fun _ => .exit 2
def on66_11 : Int × List T128 × Int × List (List Int) × List (List Int) × List Int → NSt Ty := fun x => ⟨[.int .u32 (x.1), .slice 129 (x.2.1), .row 100000, .row 100001, .int .i64 (x.2.2.1), .slice 27 (x.2.2.2.1)], [.row 27 (x.2.2.2.2.1), .row 3 (x.2.2.2.2.2)]⟩
def oa66_11 : (e : Ex) → (n : NSt Ty) → Option {y : Int × List T128 × Int × List (List Int) × List (List Int) × List Int // oe66_11 y = e ∧ on66_11 y = n}
  | .exit 2, ⟨[.int .u32 v0, .slice 129 v1, .row 100000, .row 100001, .int .i64 v2, .slice 27 v3], [.row 27 v4, .row 3 v5]⟩ => some ⟨(v0, v1, v2, v3, v4, v5), rfl, rfl⟩
  | _, _ => none
/-- a round of the loop 11 of function 66 -/
def R66_11 (k : Nat) (again : Int × List T128 × Int × List (List Int) × List Int × Int × Int × List (List Int) × List Int → Option (Int × List T128 × Int × List (List Int) × List (List Int) × List Int)) (x : Int × List T128 × Int × List (List Int) × List Int × Int × Int × List (List Int) × List Int) : Option (Int × List T128 × Int × List (List Int) × List (List Int) × List Int) :=
  match x with
  | (v0, v1, v2, v3, v4, v5, v6, v7, v8) => bif decide (v6 < v5) then bif inRange v6 v4.length then bif decide (v4.getD v6.toNat (0 : Int) ≥ (0 : Int)) then bif decide (v8.length + ((List.replicate (1 : Nat) (0 : Int)).set (0 : Nat) (IntKind.i64.wrap (v4.getD v6.toNat (0 : Int) + (↑v7.length : Int)))).length ≤ roomMost) then again (v0, v1, v2, v3, v4, v5, IntKind.i64.wrap (v6 + (1 : Int)), v7, v8 ++ (List.replicate (1 : Nat) (0 : Int)).set (0 : Nat) (IntKind.i64.wrap (v4.getD v6.toNat (0 : Int) + (↑v7.length : Int)))) else none else bif decide (v8.length + ((List.replicate (1 : Nat) (0 : Int)).set (0 : Nat) (v4.getD v6.toNat (0 : Int))).length ≤ roomMost) then again (v0, v1, v2, v3, v4, v5, IntKind.i64.wrap (v6 + (1 : Int)), v7, v8 ++ (List.replicate (1 : Nat) (0 : Int)).set (0 : Nat) (v4.getD v6.toNat (0 : Int))) else none else none else some (v0, v1, v2, v3, v7, v8)
def L66_11 (k n : Nat) (x : Int × List T128 × Int × List (List Int) × List Int × Int × Int × List (List Int) × List Int) : Option (Int × List T128 × Int × List (List Int) × List (List Int) × List Int) := iterR (R66_11 k) n x
noncomputable def ls66_11 : Nat → Option (LSum Ty) := addL 11 (LSum.of of66_11 ab66_11 L66_11 oe66_11 on66_11) noL
def of66_5 : Int × List T128 × List (List Int) × List Int → NSt Ty := fun x => ⟨[.int .u32 (x.1), .slice 129 (x.2.1), .row 100000, .row 100001], [.row 27 (x.2.2.1), .row 3 (x.2.2.2)]⟩
def ab66_5 : (n : NSt Ty) → Option {x : Int × List T128 × List (List Int) × List Int // of66_5 x = n}
  | ⟨[.int .u32 v0, .slice 129 v1, .row 100000, .row 100001], [.row 27 v2, .row 3 v3]⟩ => some ⟨(v0, v1, v2, v3), rfl⟩
  | _ => none
def on66_5a : Int × List (List Int) × List Int × List (List Int) × List Int → NSt Ty := fun x => ⟨[.row 100000, .row 100001, .int .i64 (x.1), .row 100002, .row 100003], [.row 27 (x.2.1), .row 3 (x.2.2.1), .row 27 (x.2.2.2.1), .row 3 (x.2.2.2.2)]⟩
def on66_5b : List (List Int) × List Int → NSt Ty := fun x => ⟨[.undef, .undef, .undef, .row 100000, .row 100001], [.row 27 (x.1), .row 3 (x.2)]⟩
def oa66_5 : (e : Ex) → (n : NSt Ty) → Option {y : (Int × List (List Int) × List Int × List (List Int) × List Int) ⊕ (List (List Int) × List Int) // oe2 .ret (.exit 0) y = e ∧ on2 on66_5a on66_5b y = n}
  | .ret, ⟨[.row 100000, .row 100001, .int .i64 v0, .row 100002, .row 100003], [.row 27 v1, .row 3 v2, .row 27 v3, .row 3 v4]⟩ => some ⟨.inl (v0, v1, v2, v3, v4), rfl, rfl⟩
  | .exit 0, ⟨[.undef, .undef, .undef, .row 100000, .row 100001], [.row 27 v0, .row 3 v1]⟩ => some ⟨.inr (v0, v1), rfl, rfl⟩
  | _, _ => none
/-- a round of the loop 5 of function 66 -/
def R66_5 (k : Nat) (again : Int × List T128 × List (List Int) × List Int → Option ((Int × List (List Int) × List Int × List (List Int) × List Int) ⊕ (List (List Int) × List Int))) (x : Int × List T128 × List (List Int) × List Int) : Option ((Int × List (List Int) × List Int × List (List Int) × List Int) ⊕ (List (List Int) × List Int)) :=
  match x with
  | (v0, v1, v2, v3) => bif decide ((↑v1.length : Int) > (0 : Int)) then bif decide ((0 : Int) ≤ (0 : Int)) && decide ((0 : Int) ≤ if (24 : Int) < (↑v1.length : Int) then (24 : Int) else (↑v1.length : Int)) && decide ((if (24 : Int) < (↑v1.length : Int) then (24 : Int) else (↑v1.length : Int)) ≤ (↑v1.length : Int)) then (F97 k (v0, decide ((if (24 : Int) < (↑v1.length : Int) then (24 : Int) else (↑v1.length : Int)) < (↑v1.length : Int)), List.drop (Int.toNat (0 : Int)) (List.take (if (24 : Int) < (↑v1.length : Int) then (24 : Int) else (↑v1.length : Int)).toNat v1), ())).bind fun r => bif r.snd.snd.fst != (0 : Int) then some (Sum.inl ((1 : Int), [], [], v2, v3)) else (L66_11 k k (v0, v1, if (24 : Int) < (↑v1.length : Int) then (24 : Int) else (↑v1.length : Int), r.fst, r.snd.fst, (↑r.snd.fst.length : Int), (0 : Int), v2, v3)).bind fun r => bif decide (r.snd.snd.snd.snd.fst.length + r.snd.snd.snd.fst.length ≤ roomMost) then bif decide ((0 : Int) ≤ r.snd.snd.fst) && decide (r.snd.snd.fst ≤ (↑r.snd.fst.length : Int)) && decide ((↑r.snd.fst.length : Int) ≤ (↑r.snd.fst.length : Int)) then again (IntKind.u32.wrap (r.fst + (1 : Int)), List.drop r.snd.snd.fst.toNat (List.take (↑r.snd.fst.length : Int).toNat r.snd.fst), r.snd.snd.snd.snd.fst ++ r.snd.snd.snd.fst, r.snd.snd.snd.snd.snd) else none else none else none else some (Sum.inr (v2, v3))
def L66_5 (k n : Nat) (x : Int × List T128 × List (List Int) × List Int) : Option ((Int × List (List Int) × List Int × List (List Int) × List Int) ⊕ (List (List Int) × List Int)) := iterR (R66_5 k) n x
noncomputable def ls66_5 : Nat → Option (LSum Ty) := addL 5 (lsum2 of66_5 ab66_5 L66_5 .ret on66_5a (.exit 0) on66_5b) ls66_11
def kp66 : Nat → Keep := pinned 0 fun i => cond (i == 5) ⟨[0, 1, 7, 8], [4, 5, 6, 7, 8], 0⟩ (cond (i == 11) ⟨[0, 1, 7, 8, 9, 10, 39, 40, 41], [0, 1, 7, 8, 9, 10], 0⟩ (⟨[], [], 0⟩))
def on66 : Int × List (List Int) × List Int → NSt Ty := fun x => ⟨[.tup (.cons (.row 100000) (.cons (.row 100001) (.cons (.int .i64 (x.1)) (.nil))))], [.row 27 (x.2.1), .row 3 (x.2.2)]⟩
def oa66 : (n : NSt Ty) → Option {y : Int × List (List Int) × List Int // on66 y = n}
  | ⟨[.tup (.cons (.row 100000) (.cons (.row 100001) (.cons (.int .i64 v0) (.nil))))], [.row 27 v1, .row 3 v2]⟩ => some ⟨(v0, v1, v2), rfl⟩
  | _ => none
/-- "silt/group.Lay"  -/
def F66 (k : Nat) (x : Int × List T128) : Option (Int × List (List Int) × List Int) :=
  match x with
  | (v0, v1) => (F96 k (v1, ())).bind fun r => bif !r then some ((1 : Int), [], []) else (L66_5 k k (v0, v1, [], [])).bind fun r => sumK r (fun a => some (a.fst, a.snd.fst, a.snd.snd.fst)) fun b => some ((0 : Int), b.fst, b.snd)
noncomputable def sp66 : FSpec Ty := addH 0 ab66 F66 on66 noH
theorem lo66_11 : LSOK fs97 kp66 tab Try.f66 ls66_11 := lsum_ok bo66 nd66 (LSOK.none) oa66_11 (R := R66_11) fun k again x => by kernel_rfl
theorem lo66_5 : LSOK fs97 kp66 tab Try.f66 ls66_5 := lsum2_ok bo66 nd66 (lo66_11) oa66_5 (R := R66_5) fun k again x => by kernel_rfl
theorem ok66 : FOK Try.prog tab 66 sp66 := addH_ok (keeps := kp66) tabOK fs97OK Try.func66 bo66 (by kernel_rfl) nd66 (lo66_5) oa66 (F := F66) (fun k x => by kernel_rfl) (pinned_le (Nat.le_refl _) _) FOK.none rfl
noncomputable def fs66 : Nat → Option (FSpec Ty) := addF 66 sp66 fs97
theorem fs66OK : SpecsOK Try.prog tab fs66 := fs97OK.add ok66 Try.call66
def ag29 : Args Ty ((List Int) × Unit) := V.arg (tab.den 27) (noArgs)
def rs29 : Res Ty tab (T24 × Int × Unit) true := V.manyRes (V.part (tab.den 25) (ent 25).ids (ent 25).plain (fun _ h => by cases h) (V.part (tab.den 29) (ent 29).ids (ent 29).plain (fun _ h => by cases h) (noParts)))
def of29_3 : Int × List Int × Int × Bool × Int × Bool × List T46 × List T46 → NSt Ty := fun x => ⟨[.ptr 100000 [], .ptr 100001 [], .ptr 100002 [], .int .i64 (x.1)], [.var (.arr 5 64 (x.2.1)), .var (.cons (.int .u32 (x.2.2.1)) (.cons (.bool (x.2.2.2.1)) (.cons (.row 100003) (.nil)))), .var (.cons (.int .u32 (x.2.2.2.2.1)) (.cons (.bool (x.2.2.2.2.2.1)) (.cons (.row 100004) (.nil)))), .row 47 (x.2.2.2.2.2.2.1), .row 47 (x.2.2.2.2.2.2.2)]⟩
def ab29_3 : (n : NSt Ty) → Option {x : Int × List Int × Int × Bool × Int × Bool × List T46 × List T46 // of29_3 x = n}
  | ⟨[.ptr 100000 [], .ptr 100001 [], .ptr 100002 [], .int .i64 v0], [.var (.arr 5 64 v1), .var (.cons (.int .u32 v2) (.cons (.bool v3) (.cons (.row 100003) (.nil)))), .var (.cons (.int .u32 v4) (.cons (.bool v5) (.cons (.row 100004) (.nil)))), .row 47 v6, .row 47 v7]⟩ => some ⟨(v0, v1, v2, v3, v4, v5, v6, v7), rfl⟩
  | _ => none
def oe29_3 : List Int × Int × Bool × Int × Bool × List T46 × List T46 → Ex := fun _ => .exit 0
def on29_3 : List Int × Int × Bool × Int × Bool × List T46 × List T46 → NSt Ty := fun x => ⟨[.ptr 100000 [], .ptr 100001 [], .ptr 100002 []], [.var (.arr 5 64 (x.1)), .var (.cons (.int .u32 (x.2.1)) (.cons (.bool (x.2.2.1)) (.cons (.row 100003) (.nil)))), .var (.cons (.int .u32 (x.2.2.2.1)) (.cons (.bool (x.2.2.2.2.1)) (.cons (.row 100004) (.nil)))), .row 47 (x.2.2.2.2.2.1), .row 47 (x.2.2.2.2.2.2)]⟩
def oa29_3 : (e : Ex) → (n : NSt Ty) → Option {y : List Int × Int × Bool × Int × Bool × List T46 × List T46 // oe29_3 y = e ∧ on29_3 y = n}
  | .exit 0, ⟨[.ptr 100000 [], .ptr 100001 [], .ptr 100002 []], [.var (.arr 5 64 v0), .var (.cons (.int .u32 v1) (.cons (.bool v2) (.cons (.row 100003) (.nil)))), .var (.cons (.int .u32 v3) (.cons (.bool v4) (.cons (.row 100004) (.nil)))), .row 47 v5, .row 47 v6]⟩ => some ⟨(v0, v1, v2, v3, v4, v5, v6), rfl, rfl⟩
  | _, _ => none
/-- a round of the loop 3 of function 29 -/
def R29_3 (k : Nat) (again : Int × List Int × Int × Bool × Int × Bool × List T46 × List T46 → Option (List Int × Int × Bool × Int × Bool × List T46 × List T46)) (x : Int × List Int × Int × Bool × Int × Bool × List T46 × List T46) : Option (List Int × Int × Bool × Int × Bool × List T46 × List T46) :=
  match x with
  | (v0, v1, v2, v3, v4, v5, v6, v7) => bif decide (v0 < (4 : Int)) then bif inRange (IntKind.i64.wrap ((2 : Int) + v0)) (64 : Nat) then bif decide ((0 : Int) ≤ IntKind.i64.wrap ((8 : Int) * v0)) then again (IntKind.i64.wrap (v0 + (1 : Int)), v1, v2, v3, IntKind.u32.wrap (↑(BitVec.ofInt IntKind.u32.bits v4 ||| BitVec.ofInt IntKind.u32.bits (IntKind.u32.wrap (IntKind.u32.wrap (v1.getD (IntKind.i64.wrap ((2 : Int) + v0)).toNat (0 : Int)) * (2 : Int) ^ min (IntKind.i64.wrap ((8 : Int) * v0)).toNat IntKind.u32.bits))).toNat : Int), v5, v6, v7) else none else none else some (v1, v2, v3, v4, v5, v6, v7)
def L29_3 (k n : Nat) (x : Int × List Int × Int × Bool × Int × Bool × List T46 × List T46) : Option (List Int × Int × Bool × Int × Bool × List T46 × List T46) := iterR (R29_3 k) n x
noncomputable def ls29_3 : Nat → Option (LSum Ty) := addL 3 (LSum.of of29_3 ab29_3 L29_3 oe29_3 on29_3) noL
def of29_8 : Int × Int × List Int × Int × Bool × Int × Bool × List T46 × List T46 → NSt Ty := fun x => ⟨[.ptr 100000 [], .ptr 100001 [], .ptr 100002 [], .int .i64 (x.1), .int .i64 (x.2.1)], [.var (.arr 5 64 (x.2.2.1)), .var (.cons (.int .u32 (x.2.2.2.1)) (.cons (.bool (x.2.2.2.2.1)) (.cons (.row 100003) (.nil)))), .var (.cons (.int .u32 (x.2.2.2.2.2.1)) (.cons (.bool (x.2.2.2.2.2.2.1)) (.cons (.row 100004) (.nil)))), .row 47 (x.2.2.2.2.2.2.2.1), .row 47 (x.2.2.2.2.2.2.2.2)]⟩
def ab29_8 : (n : NSt Ty) → Option {x : Int × Int × List Int × Int × Bool × Int × Bool × List T46 × List T46 // of29_8 x = n}
  | ⟨[.ptr 100000 [], .ptr 100001 [], .ptr 100002 [], .int .i64 v0, .int .i64 v1], [.var (.arr 5 64 v2), .var (.cons (.int .u32 v3) (.cons (.bool v4) (.cons (.row 100003) (.nil)))), .var (.cons (.int .u32 v5) (.cons (.bool v6) (.cons (.row 100004) (.nil)))), .row 47 v7, .row 47 v8]⟩ => some ⟨(v0, v1, v2, v3, v4, v5, v6, v7, v8), rfl⟩
  | _ => none
def oe29_8 : List Int × Int × Bool × Int × Bool × List T46 × List T46 → Ex := fun _ => .exit 2
def on29_8 : List Int × Int × Bool × Int × Bool × List T46 × List T46 → NSt Ty := fun x => ⟨[.ptr 100000 [], .ptr 100001 [], .ptr 100002 []], [.var (.arr 5 64 (x.1)), .var (.cons (.int .u32 (x.2.1)) (.cons (.bool (x.2.2.1)) (.cons (.row 100003) (.nil)))), .var (.cons (.int .u32 (x.2.2.2.1)) (.cons (.bool (x.2.2.2.2.1)) (.cons (.row 100004) (.nil)))), .row 47 (x.2.2.2.2.2.1), .row 47 (x.2.2.2.2.2.2)]⟩
def oa29_8 : (e : Ex) → (n : NSt Ty) → Option {y : List Int × Int × Bool × Int × Bool × List T46 × List T46 // oe29_8 y = e ∧ on29_8 y = n}
  | .exit 2, ⟨[.ptr 100000 [], .ptr 100001 [], .ptr 100002 []], [.var (.arr 5 64 v0), .var (.cons (.int .u32 v1) (.cons (.bool v2) (.cons (.row 100003) (.nil)))), .var (.cons (.int .u32 v3) (.cons (.bool v4) (.cons (.row 100004) (.nil)))), .row 47 v5, .row 47 v6]⟩ => some ⟨(v0, v1, v2, v3, v4, v5, v6), rfl, rfl⟩
  | _, _ => none
/-- a round of the loop 8 of function 29 -/
def R29_8 (k : Nat) (again : Int × Int × List Int × Int × Bool × Int × Bool × List T46 × List T46 → Option (List Int × Int × Bool × Int × Bool × List T46 × List T46)) (x : Int × Int × List Int × Int × Bool × Int × Bool × List T46 × List T46) : Option (List Int × Int × Bool × Int × Bool × List T46 × List T46) :=
  match x with
  | (v0, v1, v2, v3, v4, v5, v6, v7, v8) => bif decide (v1 < v0) then bif inRange (IntKind.i64.wrap ((7 : Int) + IntKind.i64.wrap ((2 : Int) * v1))) (64 : Nat) then bif inRange (IntKind.i64.wrap (IntKind.i64.wrap ((7 : Int) + IntKind.i64.wrap ((2 : Int) * v1)) + (1 : Int))) (64 : Nat) then bif decide (v8.length + ((List.replicate (1 : Nat) (T46.mk (0 : Int) (0 : Int))).set (0 : Nat) (T46.mk (IntKind.i64.wrap (v2.getD (IntKind.i64.wrap ((7 : Int) + IntKind.i64.wrap ((2 : Int) * v1))).toNat (0 : Int))) (IntKind.i64.wrap (v2.getD (IntKind.i64.wrap (IntKind.i64.wrap ((7 : Int) + IntKind.i64.wrap ((2 : Int) * v1)) + (1 : Int))).toNat (0 : Int))))).length ≤ roomMost) then again (v0, IntKind.i64.wrap (v1 + (1 : Int)), v2, v3, v4, v5, v6, v7, v8 ++ (List.replicate (1 : Nat) (T46.mk (0 : Int) (0 : Int))).set (0 : Nat) (T46.mk (IntKind.i64.wrap (v2.getD (IntKind.i64.wrap ((7 : Int) + IntKind.i64.wrap ((2 : Int) * v1))).toNat (0 : Int))) (IntKind.i64.wrap (v2.getD (IntKind.i64.wrap (IntKind.i64.wrap ((7 : Int) + IntKind.i64.wrap ((2 : Int) * v1)) + (1 : Int))).toNat (0 : Int))))) else none else none else none else some (v2, v3, v4, v5, v6, v7, v8)
def L29_8 (k n : Nat) (x : Int × Int × List Int × Int × Bool × Int × Bool × List T46 × List T46) : Option (List Int × Int × Bool × Int × Bool × List T46 × List T46) := iterR (R29_8 k) n x
noncomputable def ls29_8 : Nat → Option (LSum Ty) := addL 8 (LSum.of of29_8 ab29_8 L29_8 oe29_8 on29_8) ls29_3
def kp29 : Nat → Keep := fun i => cond (i == 3) ⟨[1, 2, 4, 13], [1, 2, 4], 0⟩ (cond (i == 8) ⟨[1, 2, 4, 32, 33], [1, 2, 4], 0⟩ (⟨[], [], 0⟩))
/-- "silt/summary.Decode" -/
def F29 (k : Nat) (x : (List Int) × Unit) : Option (T24 × Int × Unit) :=
  match x with
  | (a0, ()) => (L29_3 k k ((0 : Int), a0, (0 : Int), false, (0 : Int), a0.getD (Int.toNat (1 : Int)) (0 : Int) == (1 : Int), [], [])).bind fun r => (L29_8 k k (if (24 : Int) < IntKind.i64.wrap (r.fst.getD (Int.toNat (6 : Int)) (0 : Int)) then (24 : Int) else IntKind.i64.wrap (r.fst.getD (Int.toNat (6 : Int)) (0 : Int)), (0 : Int), r.fst, r.snd.fst, r.snd.snd.fst, r.snd.snd.snd.fst, r.snd.snd.snd.snd.fst, r.snd.snd.snd.snd.snd.fst, r.snd.snd.snd.snd.snd.snd)).bind fun r => (F26 k (T24.mk r.snd.snd.snd.fst r.snd.snd.snd.snd.fst r.snd.snd.snd.snd.snd.snd, ())).bind fun r_1 => bif r_1.snd.fst != (0 : Int) then some (T24.mk (0 : Int) false [], (11 : Int), ()) else bif !decide (r_1.fst = r.fst) then some (T24.mk (0 : Int) false [], (11 : Int), ()) else some (T24.mk r.snd.snd.snd.fst r.snd.snd.snd.snd.fst r.snd.snd.snd.snd.snd.snd, (0 : Int), ())
noncomputable def sp29 : FSpec Ty := spec ag29 rs29 F29
theorem bo29 : Try.f29.body = some (bodyOf Try.f29) := by kernel_rfl
theorem nd29 : nodupB ((loopsIn (bodyOf Try.f29)).map firstRegion) = true := by kernel_rfl
theorem lo29_3 : LSOK fs66 kp29 tab Try.f29 ls29_3 := lsum_ok bo29 nd29 (LSOK.none) oa29_3 (R := R29_3) fun k again x => by kernel_rfl
theorem lo29_8 : LSOK fs66 kp29 tab Try.f29 ls29_8 := lsum_ok bo29 nd29 (lo29_3) oa29_8 (R := R29_8) fun k again x => by kernel_rfl
theorem ok29 : FOK Try.prog tab 29 sp29 := spec_ok (keeps := kp29) tabOK fs66OK Try.func29 bo29 (by kernel_rfl) nd29 (lo29_8) (F := F29) fun k x => by kernel_rfl
noncomputable def fs29 : Nat → Option (FSpec Ty) := addF 29 sp29 fs66
theorem fs29OK : SpecsOK Try.prog tab fs29 := fs66OK.add ok29 Try.call29
def ag88 : Args Ty ((List Int) × Unit) := V.arg (tab.den 58) (noArgs)
def rs88 : Res Ty tab (Int) false := V.oneRes (tab.den 3) (ent 3).ids (ent 3).plain (fun x _ => (ent 3).flat x rfl)
def kp88 : Nat → Keep := fun i => ⟨[], [], 0⟩
/-- "silt/block.two" -/
def F88 (k : Nat) (x : (List Int) × Unit) : Option (Int) :=
  match x with
  | (a0, ()) => bif inRange (0 : Int) a0.length then bif inRange (1 : Int) a0.length then some (IntKind.i64.wrap (↑(BitVec.ofInt IntKind.i64.bits (IntKind.i64.wrap (a0.getD (Int.toNat (0 : Int)) (0 : Int))) ||| BitVec.ofInt IntKind.i64.bits (IntKind.i64.wrap (IntKind.i64.wrap (a0.getD (Int.toNat (1 : Int)) (0 : Int)) * (2 : Int) ^ min (Int.toNat (8 : Int)) IntKind.i64.bits))).toNat : Int)) else none else none
noncomputable def sp88 : FSpec Ty := spec ag88 rs88 F88
theorem bo88 : Try.f88.body = some (bodyOf Try.f88) := by kernel_rfl
theorem nd88 : nodupB ((loopsIn (bodyOf Try.f88)).map firstRegion) = true := by kernel_rfl
theorem ok88 : FOK Try.prog tab 88 sp88 := spec_ok (keeps := kp88) tabOK fs29OK Try.func88 bo88 (by kernel_rfl) nd88 (LSOK.none) (F := F88) fun k x => by kernel_rfl
noncomputable def fs88 : Nat → Option (FSpec Ty) := addF 88 sp88 fs29
theorem fs88OK : SpecsOK Try.prog tab fs88 := fs29OK.add ok88 Try.call88
def ag89 : Args Ty ((List Int) × Unit) := V.arg (tab.den 58) noArgs
def rs89 : Res Ty tab ((List Int)) true := V.oneRes (tab.den 58) (ent 58).ids (ent 58).plain (fun _ h => by cases h)
/-- slices.Clone -/
def F89 : Nat → ((List Int) × Unit) → Option ((List Int)) := cloneF
noncomputable def sp89 : FSpec Ty := spec ag89 rs89 F89
theorem bo89 : Try.f89.body = some (bodyOf Try.f89) := by kernel_rfl
theorem nd89 : nodupB ((loopsIn (bodyOf Try.f89)).map firstRegion) = true := by kernel_rfl
theorem ok89 : FOK Try.prog tab 89 sp89 := clone_ok (e := 5) (A := ag89) (B := rs89) tabOK noFOK Try.func89 bo89 (by kernel_rfl) nd89 (fun _ => rfl) (fun _ => rfl) (by kernel_rfl) (fun xs => by kernel_rfl)
noncomputable def fs89 : Nat → Option (FSpec Ty) := addF 89 sp89 fs88
theorem fs89OK : SpecsOK Try.prog tab fs89 := fs88OK.add ok89 Try.call89
def ag57 : Args Ty ((List Int) × Unit) := V.arg (tab.den 27) (noArgs)
def rs57 : Res Ty tab (T87 × Int × Int × Unit) true := V.manyRes (V.part (tab.den 88) (ent 88).ids (ent 88).plain (fun _ h => by cases h) (V.part (tab.den 22) (ent 22).ids (ent 22).plain (fun _ h => by cases h) (V.part (tab.den 29) (ent 29).ids (ent 29).plain (fun _ h => by cases h) (noParts))))
def of57_11 : Int × Int × List Int × Int × Int × List Int × Int × Int × List Int × Int × Int × List Int × Int × Int × List Int × List Int × List Int → NSt Ty := fun x => ⟨[.ptr 100000 [], .ptr 100001 [], .ptr 100002 [], .int .u32 (x.1), .int .i64 (x.2.1)], [.var (.arr 5 64 (x.2.2.1)), .var (.cons (.int .i64 (x.2.2.2.1)) (.cons (.int .i64 (x.2.2.2.2.1)) (.cons (.arr 5 32 (x.2.2.2.2.2.1)) (.cons (.int .i64 (x.2.2.2.2.2.2.1)) (.cons (.row 100003) (.cons (.int .i64 (x.2.2.2.2.2.2.2.1)) (.cons (.arr 3 8 (x.2.2.2.2.2.2.2.2.1)) (.nil)))))))), .var (.cons (.int .i64 (x.2.2.2.2.2.2.2.2.2.1)) (.cons (.int .i64 (x.2.2.2.2.2.2.2.2.2.2.1)) (.cons (.arr 5 32 (x.2.2.2.2.2.2.2.2.2.2.2.1)) (.cons (.int .i64 (x.2.2.2.2.2.2.2.2.2.2.2.2.1)) (.cons (.row 100004) (.cons (.int .i64 (x.2.2.2.2.2.2.2.2.2.2.2.2.2.1)) (.cons (.arr 3 8 (x.2.2.2.2.2.2.2.2.2.2.2.2.2.2.1)) (.nil)))))))), .row 5 (x.2.2.2.2.2.2.2.2.2.2.2.2.2.2.2.1), .row 5 (x.2.2.2.2.2.2.2.2.2.2.2.2.2.2.2.2)]⟩
def ab57_11 : (n : NSt Ty) → Option {x : Int × Int × List Int × Int × Int × List Int × Int × Int × List Int × Int × Int × List Int × Int × Int × List Int × List Int × List Int // of57_11 x = n}
  | ⟨[.ptr 100000 [], .ptr 100001 [], .ptr 100002 [], .int .u32 v0, .int .i64 v1], [.var (.arr 5 64 v2), .var (.cons (.int .i64 v3) (.cons (.int .i64 v4) (.cons (.arr 5 32 v5) (.cons (.int .i64 v6) (.cons (.row 100003) (.cons (.int .i64 v7) (.cons (.arr 3 8 v8) (.nil)))))))), .var (.cons (.int .i64 v9) (.cons (.int .i64 v10) (.cons (.arr 5 32 v11) (.cons (.int .i64 v12) (.cons (.row 100004) (.cons (.int .i64 v13) (.cons (.arr 3 8 v14) (.nil)))))))), .row 5 v15, .row 5 v16]⟩ => some ⟨(v0, v1, v2, v3, v4, v5, v6, v7, v8, v9, v10, v11, v12, v13, v14, v15, v16), rfl⟩
  | _ => none
def oe57_11 : Int × List Int × Int × Int × List Int × Int × Int × List Int × Int × Int × List Int × Int × Int × List Int × List Int × List Int → Ex := fun _ => .exit 1
def on57_11 : Int × List Int × Int × Int × List Int × Int × Int × List Int × Int × Int × List Int × Int × Int × List Int × List Int × List Int → NSt Ty := fun x => ⟨[.ptr 100000 [], .ptr 100001 [], .ptr 100002 [], .int .u32 (x.1)], [.var (.arr 5 64 (x.2.1)), .var (.cons (.int .i64 (x.2.2.1)) (.cons (.int .i64 (x.2.2.2.1)) (.cons (.arr 5 32 (x.2.2.2.2.1)) (.cons (.int .i64 (x.2.2.2.2.2.1)) (.cons (.row 100003) (.cons (.int .i64 (x.2.2.2.2.2.2.1)) (.cons (.arr 3 8 (x.2.2.2.2.2.2.2.1)) (.nil)))))))), .var (.cons (.int .i64 (x.2.2.2.2.2.2.2.2.1)) (.cons (.int .i64 (x.2.2.2.2.2.2.2.2.2.1)) (.cons (.arr 5 32 (x.2.2.2.2.2.2.2.2.2.2.1)) (.cons (.int .i64 (x.2.2.2.2.2.2.2.2.2.2.2.1)) (.cons (.row 100004) (.cons (.int .i64 (x.2.2.2.2.2.2.2.2.2.2.2.2.1)) (.cons (.arr 3 8 (x.2.2.2.2.2.2.2.2.2.2.2.2.2.1)) (.nil)))))))), .row 5 (x.2.2.2.2.2.2.2.2.2.2.2.2.2.2.1), .row 5 (x.2.2.2.2.2.2.2.2.2.2.2.2.2.2.2)]⟩
def oa57_11 : (e : Ex) → (n : NSt Ty) → Option {y : Int × List Int × Int × Int × List Int × Int × Int × List Int × Int × Int × List Int × Int × Int × List Int × List Int × List Int // oe57_11 y = e ∧ on57_11 y = n}
  | .exit 1, ⟨[.ptr 100000 [], .ptr 100001 [], .ptr 100002 [], .int .u32 v0], [.var (.arr 5 64 v1), .var (.cons (.int .i64 v2) (.cons (.int .i64 v3) (.cons (.arr 5 32 v4) (.cons (.int .i64 v5) (.cons (.row 100003) (.cons (.int .i64 v6) (.cons (.arr 3 8 v7) (.nil)))))))), .var (.cons (.int .i64 v8) (.cons (.int .i64 v9) (.cons (.arr 5 32 v10) (.cons (.int .i64 v11) (.cons (.row 100004) (.cons (.int .i64 v12) (.cons (.arr 3 8 v13) (.nil)))))))), .row 5 v14, .row 5 v15]⟩ => some ⟨(v0, v1, v2, v3, v4, v5, v6, v7, v8, v9, v10, v11, v12, v13, v14, v15), rfl, rfl⟩
  | _, _ => none
/-- a round of the loop 11 of function 57 -/
def R57_11 (k : Nat) (again : Int × Int × List Int × Int × Int × List Int × Int × Int × List Int × Int × Int × List Int × Int × Int × List Int × List Int × List Int → Option (Int × List Int × Int × Int × List Int × Int × Int × List Int × Int × Int × List Int × Int × Int × List Int × List Int × List Int)) (x : Int × Int × List Int × Int × Int × List Int × Int × Int × List Int × Int × Int × List Int × Int × Int × List Int × List Int × List Int) : Option (Int × List Int × Int × Int × List Int × Int × Int × List Int × Int × Int × List Int × Int × Int × List Int × List Int × List Int) :=
  match x with
  | (v0, v1, v2, v3, v4, v5, v6, v7, v8, v9, v10, v11, v12, v13, v14, v15, v16) => bif decide (v1 < (8 : Int)) then bif decide ((0 : Int) ≤ IntKind.i64.wrap ((6 : Int) + IntKind.i64.wrap ((2 : Int) * v1))) && decide (IntKind.i64.wrap ((6 : Int) + IntKind.i64.wrap ((2 : Int) * v1)) ≤ (↑(64 : Nat) : Int)) && decide ((↑(64 : Nat) : Int) ≤ (↑(64 : Nat) : Int)) then (F88 k (List.take ((↑(64 : Nat) : Int) - IntKind.i64.wrap ((6 : Int) + IntKind.i64.wrap ((2 : Int) * v1))).toNat (List.drop (IntKind.i64.wrap ((6 : Int) + IntKind.i64.wrap ((2 : Int) * v1))).toNat v2), ())).bind fun r => bif inRange v1 (8 : Nat) then again (v0, IntKind.i64.wrap (v1 + (1 : Int)), v2, v3, v4, v5, v6, v7, v8, v9, v10, v11, v12, v13, v14.set v1.toNat r, v15, v16) else none else none else some (v0, v2, v3, v4, v5, v6, v7, v8, v9, v10, v11, v12, v13, v14, v15, v16)
def L57_11 (k n : Nat) (x : Int × Int × List Int × Int × Int × List Int × Int × Int × List Int × Int × Int × List Int × Int × Int × List Int × List Int × List Int) : Option (Int × List Int × Int × Int × List Int × Int × Int × List Int × Int × Int × List Int × Int × Int × List Int × List Int × List Int) := iterR (R57_11 k) n x
noncomputable def ls57_11 : Nat → Option (LSum Ty) := addL 11 (LSum.of of57_11 ab57_11 L57_11 oe57_11 on57_11) noL
def kp57 : Nat → Keep := fun i => cond (i == 11) ⟨[1, 2, 5, 6, 52], [1, 2, 5, 6], 0⟩ (⟨[], [], 0⟩)
/-- "silt/block.Decode" -/
def F57 (k : Nat) (x : (List Int) × Unit) : Option (T87 × Int × Int × Unit) :=
  match x with
  | (a0, ()) => (F88 k (List.take ((↑(64 : Nat) : Int) - (2 : Int)).toNat (List.drop (Int.toNat (2 : Int)) a0), ())).bind fun r => (F88 k (List.take ((↑(64 : Nat) : Int) - (4 : Int)).toNat (List.drop (Int.toNat (4 : Int)) a0), ())).bind fun r_1 => bif IntKind.i64.wrap (a0.getD (Int.toNat (0 : Int)) (0 : Int)) == (1 : Int) then bif Nat.blt (0 : Nat) (32 : Nat) && Nat.ble (32 : Nat) (List.take ((38 : Int) - (6 : Int)).toNat (List.drop (Int.toNat (6 : Int)) a0)).length then (F55 k (T87.mk (IntKind.i64.wrap (a0.getD (Int.toNat (0 : Int)) (0 : Int))) (IntKind.i64.wrap (a0.getD (Int.toNat (1 : Int)) (0 : Int))) (List.take (32 : Nat) (List.take ((38 : Int) - (6 : Int)).toNat (List.drop (Int.toNat (6 : Int)) a0))) (0 : Int) [] (0 : Int) (List.replicate (8 : Nat) (0 : Int)), IntKind.u32.wrap (↑(BitVec.ofInt IntKind.u32.bits (IntKind.u32.wrap r) ||| BitVec.ofInt IntKind.u32.bits (IntKind.u32.wrap (IntKind.u32.wrap r_1 * (2 : Int) ^ min (Int.toNat (16 : Int)) IntKind.u32.bits))).toNat : Int), ())).bind fun r_2 => bif r_2.snd.fst != (0 : Int) then some (T87.mk (0 : Int) (0 : Int) (List.replicate (32 : Nat) (0 : Int)) (0 : Int) [] (0 : Int) (List.replicate (8 : Nat) (0 : Int)), (0 : Int), (11 : Int), ()) else bif !decide (r_2.fst = a0) then some (T87.mk (0 : Int) (0 : Int) (List.replicate (32 : Nat) (0 : Int)) (0 : Int) [] (0 : Int) (List.replicate (8 : Nat) (0 : Int)), (0 : Int), (11 : Int), ()) else some (T87.mk (IntKind.i64.wrap (a0.getD (Int.toNat (0 : Int)) (0 : Int))) (IntKind.i64.wrap (a0.getD (Int.toNat (1 : Int)) (0 : Int))) (List.take (32 : Nat) (List.take ((38 : Int) - (6 : Int)).toNat (List.drop (Int.toNat (6 : Int)) a0))) (0 : Int) [] (0 : Int) (List.replicate (8 : Nat) (0 : Int)), IntKind.u32.wrap (↑(BitVec.ofInt IntKind.u32.bits (IntKind.u32.wrap r) ||| BitVec.ofInt IntKind.u32.bits (IntKind.u32.wrap (IntKind.u32.wrap r_1 * (2 : Int) ^ min (Int.toNat (16 : Int)) IntKind.u32.bits))).toNat : Int), (0 : Int), ()) else none else bif IntKind.i64.wrap (a0.getD (Int.toNat (0 : Int)) (0 : Int)) == (2 : Int) then (F88 k (List.take ((↑(64 : Nat) : Int) - (24 : Int)).toNat (List.drop (Int.toNat (24 : Int)) a0), ())).bind fun r_2 => bif decide ((0 : Int) ≤ (8 : Int)) && decide ((8 : Int) ≤ IntKind.i64.wrap ((8 : Int) + if (16 : Int) < IntKind.i64.wrap (a0.getD (Int.toNat (7 : Int)) (0 : Int)) then (16 : Int) else IntKind.i64.wrap (a0.getD (Int.toNat (7 : Int)) (0 : Int)))) && decide (IntKind.i64.wrap ((8 : Int) + if (16 : Int) < IntKind.i64.wrap (a0.getD (Int.toNat (7 : Int)) (0 : Int)) then (16 : Int) else IntKind.i64.wrap (a0.getD (Int.toNat (7 : Int)) (0 : Int))) ≤ (↑(64 : Nat) : Int)) then (F89 k (List.take (IntKind.i64.wrap ((8 : Int) + if (16 : Int) < IntKind.i64.wrap (a0.getD (Int.toNat (7 : Int)) (0 : Int)) then (16 : Int) else IntKind.i64.wrap (a0.getD (Int.toNat (7 : Int)) (0 : Int))) - (8 : Int)).toNat (List.drop (Int.toNat (8 : Int)) a0), ())).bind fun r_3 => (F55 k (T87.mk (IntKind.i64.wrap (a0.getD (Int.toNat (0 : Int)) (0 : Int))) (IntKind.i64.wrap (a0.getD (Int.toNat (1 : Int)) (0 : Int))) (List.replicate (32 : Nat) (0 : Int)) (IntKind.i64.wrap (a0.getD (Int.toNat (6 : Int)) (0 : Int))) r_3 r_2 (List.replicate (8 : Nat) (0 : Int)), IntKind.u32.wrap (↑(BitVec.ofInt IntKind.u32.bits (IntKind.u32.wrap r) ||| BitVec.ofInt IntKind.u32.bits (IntKind.u32.wrap (IntKind.u32.wrap r_1 * (2 : Int) ^ min (Int.toNat (16 : Int)) IntKind.u32.bits))).toNat : Int), ())).bind fun r_4 => bif r_4.snd.fst != (0 : Int) then some (T87.mk (0 : Int) (0 : Int) (List.replicate (32 : Nat) (0 : Int)) (0 : Int) [] (0 : Int) (List.replicate (8 : Nat) (0 : Int)), (0 : Int), (11 : Int), ()) else bif !decide (r_4.fst = a0) then some (T87.mk (0 : Int) (0 : Int) (List.replicate (32 : Nat) (0 : Int)) (0 : Int) [] (0 : Int) (List.replicate (8 : Nat) (0 : Int)), (0 : Int), (11 : Int), ()) else some (T87.mk (IntKind.i64.wrap (a0.getD (Int.toNat (0 : Int)) (0 : Int))) (IntKind.i64.wrap (a0.getD (Int.toNat (1 : Int)) (0 : Int))) (List.replicate (32 : Nat) (0 : Int)) (IntKind.i64.wrap (a0.getD (Int.toNat (6 : Int)) (0 : Int))) r_3 r_2 (List.replicate (8 : Nat) (0 : Int)), IntKind.u32.wrap (↑(BitVec.ofInt IntKind.u32.bits (IntKind.u32.wrap r) ||| BitVec.ofInt IntKind.u32.bits (IntKind.u32.wrap (IntKind.u32.wrap r_1 * (2 : Int) ^ min (Int.toNat (16 : Int)) IntKind.u32.bits))).toNat : Int), (0 : Int), ()) else none else bif IntKind.i64.wrap (a0.getD (Int.toNat (0 : Int)) (0 : Int)) == (3 : Int) then (L57_11 k k (IntKind.u32.wrap (↑(BitVec.ofInt IntKind.u32.bits (IntKind.u32.wrap r) ||| BitVec.ofInt IntKind.u32.bits (IntKind.u32.wrap (IntKind.u32.wrap r_1 * (2 : Int) ^ min (Int.toNat (16 : Int)) IntKind.u32.bits))).toNat : Int), (0 : Int), a0, (0 : Int), (0 : Int), List.replicate (32 : Nat) (0 : Int), (0 : Int), (0 : Int), List.replicate (8 : Nat) (0 : Int), IntKind.i64.wrap (a0.getD (Int.toNat (0 : Int)) (0 : Int)), IntKind.i64.wrap (a0.getD (Int.toNat (1 : Int)) (0 : Int)), List.replicate (32 : Nat) (0 : Int), (0 : Int), (0 : Int), List.replicate (8 : Nat) (0 : Int), [], [])).bind fun r => (F55 k (T87.mk r.snd.snd.snd.snd.snd.snd.snd.snd.fst r.snd.snd.snd.snd.snd.snd.snd.snd.snd.fst r.snd.snd.snd.snd.snd.snd.snd.snd.snd.snd.fst r.snd.snd.snd.snd.snd.snd.snd.snd.snd.snd.snd.fst r.snd.snd.snd.snd.snd.snd.snd.snd.snd.snd.snd.snd.snd.snd.snd r.snd.snd.snd.snd.snd.snd.snd.snd.snd.snd.snd.snd.fst r.snd.snd.snd.snd.snd.snd.snd.snd.snd.snd.snd.snd.snd.fst, r.fst, ())).bind fun r_2 => bif r_2.snd.fst != (0 : Int) then some (T87.mk (0 : Int) (0 : Int) (List.replicate (32 : Nat) (0 : Int)) (0 : Int) [] (0 : Int) (List.replicate (8 : Nat) (0 : Int)), (0 : Int), (11 : Int), ()) else bif !decide (r_2.fst = r.snd.fst) then some (T87.mk (0 : Int) (0 : Int) (List.replicate (32 : Nat) (0 : Int)) (0 : Int) [] (0 : Int) (List.replicate (8 : Nat) (0 : Int)), (0 : Int), (11 : Int), ()) else some (T87.mk r.snd.snd.snd.snd.snd.snd.snd.snd.fst r.snd.snd.snd.snd.snd.snd.snd.snd.snd.fst r.snd.snd.snd.snd.snd.snd.snd.snd.snd.snd.fst r.snd.snd.snd.snd.snd.snd.snd.snd.snd.snd.snd.fst r.snd.snd.snd.snd.snd.snd.snd.snd.snd.snd.snd.snd.snd.snd.snd r.snd.snd.snd.snd.snd.snd.snd.snd.snd.snd.snd.snd.fst r.snd.snd.snd.snd.snd.snd.snd.snd.snd.snd.snd.snd.snd.fst, r.fst, (0 : Int), ()) else (F55 k (T87.mk (IntKind.i64.wrap (a0.getD (Int.toNat (0 : Int)) (0 : Int))) (IntKind.i64.wrap (a0.getD (Int.toNat (1 : Int)) (0 : Int))) (List.replicate (32 : Nat) (0 : Int)) (0 : Int) [] (0 : Int) (List.replicate (8 : Nat) (0 : Int)), IntKind.u32.wrap (↑(BitVec.ofInt IntKind.u32.bits (IntKind.u32.wrap r) ||| BitVec.ofInt IntKind.u32.bits (IntKind.u32.wrap (IntKind.u32.wrap r_1 * (2 : Int) ^ min (Int.toNat (16 : Int)) IntKind.u32.bits))).toNat : Int), ())).bind fun r_2 => bif r_2.snd.fst != (0 : Int) then some (T87.mk (0 : Int) (0 : Int) (List.replicate (32 : Nat) (0 : Int)) (0 : Int) [] (0 : Int) (List.replicate (8 : Nat) (0 : Int)), (0 : Int), (11 : Int), ()) else bif !decide (r_2.fst = a0) then some (T87.mk (0 : Int) (0 : Int) (List.replicate (32 : Nat) (0 : Int)) (0 : Int) [] (0 : Int) (List.replicate (8 : Nat) (0 : Int)), (0 : Int), (11 : Int), ()) else some (T87.mk (IntKind.i64.wrap (a0.getD (Int.toNat (0 : Int)) (0 : Int))) (IntKind.i64.wrap (a0.getD (Int.toNat (1 : Int)) (0 : Int))) (List.replicate (32 : Nat) (0 : Int)) (0 : Int) [] (0 : Int) (List.replicate (8 : Nat) (0 : Int)), IntKind.u32.wrap (↑(BitVec.ofInt IntKind.u32.bits (IntKind.u32.wrap r) ||| BitVec.ofInt IntKind.u32.bits (IntKind.u32.wrap (IntKind.u32.wrap r_1 * (2 : Int) ^ min (Int.toNat (16 : Int)) IntKind.u32.bits))).toNat : Int), (0 : Int), ())
noncomputable def sp57 : FSpec Ty := spec ag57 rs57 F57
theorem bo57 : Try.f57.body = some (bodyOf Try.f57) := by kernel_rfl
theorem nd57 : nodupB ((loopsIn (bodyOf Try.f57)).map firstRegion) = true := by kernel_rfl
theorem lo57_11 : LSOK fs89 kp57 tab Try.f57 ls57_11 := lsum_ok bo57 nd57 (LSOK.none) oa57_11 (R := R57_11) fun k again x => by kernel_rfl
theorem ok57 : FOK Try.prog tab 57 sp57 := spec_ok (keeps := kp57) tabOK fs89OK Try.func57 bo57 (by kernel_rfl) nd57 (lo57_11) (F := F57) fun k x => by kernel_rfl
noncomputable def fs57 : Nat → Option (FSpec Ty) := addF 57 sp57 fs89
theorem fs57OK : SpecsOK Try.prog tab fs57 := fs89OK.add ok57 Try.call57
def ag99 : Args Ty (Int × (List (List Int)) × Unit) := V.arg (tab.den 22) (V.arg (tab.den 70) (noArgs))
def rs99 : Res Ty tab ((List T128) × Int × Bool × Bool × Unit) true := V.manyRes (V.part (tab.den 106) (ent 106).ids (ent 106).plain (fun _ h => by cases h) (V.part (tab.den 3) (ent 3).ids (ent 3).plain (fun _ h => by cases h) (V.part (tab.den 4) (ent 4).ids (ent 4).plain (fun _ h => by cases h) (V.part (tab.den 4) (ent 4).ids (ent 4).plain (fun _ h => by cases h) (noParts)))))
def of99_8 : Int × List (List Int) × Int × List T46 × Int × Int × List T128 × Int × Bool × List T46 → NSt Ty := fun x => ⟨[.int .u32 (x.1), .slice 27 (x.2.1), .row 100000, .int .i64 (x.2.2.1), .ptr 100001 [], .slice 47 (x.2.2.2.1), .int .i64 (x.2.2.2.2.1), .int .i64 (x.2.2.2.2.2.1)], [.row 129 (x.2.2.2.2.2.2.1), .var (.cons (.int .u32 (x.2.2.2.2.2.2.2.1)) (.cons (.bool (x.2.2.2.2.2.2.2.2.1)) (.cons (.slice 47 (x.2.2.2.2.2.2.2.2.2)) (.nil))))]⟩
def ab99_8 : (n : NSt Ty) → Option {x : Int × List (List Int) × Int × List T46 × Int × Int × List T128 × Int × Bool × List T46 // of99_8 x = n}
  | ⟨[.int .u32 v0, .slice 27 v1, .row 100000, .int .i64 v2, .ptr 100001 [], .slice 47 v3, .int .i64 v4, .int .i64 v5], [.row 129 v6, .var (.cons (.int .u32 v7) (.cons (.bool v8) (.cons (.slice 47 v9) (.nil))))]⟩ => some ⟨(v0, v1, v2, v3, v4, v5, v6, v7, v8, v9), rfl⟩
  | _ => none
def on99_8a : Int × Bool × Bool × List T128 × Int × Bool × List T46 → NSt Ty := fun x => ⟨[.row 100000, .int .i64 (x.1), .bool (x.2.1), .bool (x.2.2.1), .ptr 100001 []], [.row 129 (x.2.2.2.1), .var (.cons (.int .u32 (x.2.2.2.2.1)) (.cons (.bool (x.2.2.2.2.2.1)) (.cons (.slice 47 (x.2.2.2.2.2.2)) (.nil))))]⟩
def on99_8b : Int × List T128 × Int × Bool × List T46 → NSt Ty := fun x => ⟨[.row 100000, .int .i64 (x.1), .undef, .undef, .ptr 100001 []], [.row 129 (x.2.1), .var (.cons (.int .u32 (x.2.2.1)) (.cons (.bool (x.2.2.2.1)) (.cons (.slice 47 (x.2.2.2.2)) (.nil))))]⟩
def oa99_8 : (e : Ex) → (n : NSt Ty) → Option {y : (Int × Bool × Bool × List T128 × Int × Bool × List T46) ⊕ (Int × List T128 × Int × Bool × List T46) // oe2 .ret (.exit 0) y = e ∧ on2 on99_8a on99_8b y = n}
  | .ret, ⟨[.row 100000, .int .i64 v0, .bool v1, .bool v2, .ptr 100001 []], [.row 129 v3, .var (.cons (.int .u32 v4) (.cons (.bool v5) (.cons (.slice 47 v6) (.nil))))]⟩ => some ⟨.inl (v0, v1, v2, v3, v4, v5, v6), rfl, rfl⟩
  | .exit 0, ⟨[.row 100000, .int .i64 v0, .undef, .undef, .ptr 100001 []], [.row 129 v1, .var (.cons (.int .u32 v2) (.cons (.bool v3) (.cons (.slice 47 v4) (.nil))))]⟩ => some ⟨.inr (v0, v1, v2, v3, v4), rfl, rfl⟩
  | _, _ => none
/-- a round of the loop 8 of function 99 -/
def R99_8 (k : Nat) (again : Int × List (List Int) × Int × List T46 × Int × Int × List T128 × Int × Bool × List T46 → Option ((Int × Bool × Bool × List T128 × Int × Bool × List T46) ⊕ (Int × List T128 × Int × Bool × List T46))) (x : Int × List (List Int) × Int × List T46 × Int × Int × List T128 × Int × Bool × List T46) : Option ((Int × Bool × Bool × List T128 × Int × Bool × List T46) ⊕ (Int × List T128 × Int × Bool × List T46)) :=
  match x with
  | (v0, v1, v2, v3, v4, v5, v6, v7, v8, v9) => bif decide (v5 < v4) then bif inRange v5 v3.length then (F105 k ((v3.getD v5.toNat (T46.mk (0 : Int) (0 : Int))).1, ())).bind fun r => bif r then bif decide (v2 ≥ (↑v1.length : Int)) then some (Sum.inl ((0 : Int), false, false, [], v7, v8, v9)) else bif inRange v2 v1.length then (F57 k (v1.getD v2.toNat (List.replicate (64 : Nat) (0 : Int)), ())).bind fun r => bif r.snd.snd.fst != (0 : Int) then some (Sum.inl ((0 : Int), false, false, [], v7, v8, v9)) else bif r.snd.fst != v0 then some (Sum.inl ((0 : Int), false, false, [], v7, v8, v9)) else bif decide (v6.length + ((List.replicate (1 : Nat) (T128.mk (T46.mk (0 : Int) (0 : Int)) (T87.mk (0 : Int) (0 : Int) (List.replicate (32 : Nat) (0 : Int)) (0 : Int) [] (0 : Int) (List.replicate (8 : Nat) (0 : Int))))).set (0 : Nat) (T128.mk (T46.mk (v3.getD v5.toNat (T46.mk (0 : Int) (0 : Int))).1 (v3.getD v5.toNat (T46.mk (0 : Int) (0 : Int))).2) (T87.mk r.fst.1 r.fst.2 r.fst.3 r.fst.4 r.fst.5 r.fst.6 r.fst.7))).length ≤ roomMost) then again (v0, v1, IntKind.i64.wrap (v2 + (1 : Int)), v3, v4, IntKind.i64.wrap (v5 + (1 : Int)), v6 ++ (List.replicate (1 : Nat) (T128.mk (T46.mk (0 : Int) (0 : Int)) (T87.mk (0 : Int) (0 : Int) (List.replicate (32 : Nat) (0 : Int)) (0 : Int) [] (0 : Int) (List.replicate (8 : Nat) (0 : Int))))).set (0 : Nat) (T128.mk (T46.mk (v3.getD v5.toNat (T46.mk (0 : Int) (0 : Int))).1 (v3.getD v5.toNat (T46.mk (0 : Int) (0 : Int))).2) (T87.mk r.fst.1 r.fst.2 r.fst.3 r.fst.4 r.fst.5 r.fst.6 r.fst.7)), v7, v8, v9) else none else none else bif decide (v6.length + ((List.replicate (1 : Nat) (T128.mk (T46.mk (0 : Int) (0 : Int)) (T87.mk (0 : Int) (0 : Int) (List.replicate (32 : Nat) (0 : Int)) (0 : Int) [] (0 : Int) (List.replicate (8 : Nat) (0 : Int))))).set (0 : Nat) (T128.mk (T46.mk (v3.getD v5.toNat (T46.mk (0 : Int) (0 : Int))).1 (v3.getD v5.toNat (T46.mk (0 : Int) (0 : Int))).2) (T87.mk (0 : Int) (0 : Int) (List.replicate (32 : Nat) (0 : Int)) (0 : Int) [] (0 : Int) (List.replicate (8 : Nat) (0 : Int))))).length ≤ roomMost) then again (v0, v1, v2, v3, v4, IntKind.i64.wrap (v5 + (1 : Int)), v6 ++ (List.replicate (1 : Nat) (T128.mk (T46.mk (0 : Int) (0 : Int)) (T87.mk (0 : Int) (0 : Int) (List.replicate (32 : Nat) (0 : Int)) (0 : Int) [] (0 : Int) (List.replicate (8 : Nat) (0 : Int))))).set (0 : Nat) (T128.mk (T46.mk (v3.getD v5.toNat (T46.mk (0 : Int) (0 : Int))).1 (v3.getD v5.toNat (T46.mk (0 : Int) (0 : Int))).2) (T87.mk (0 : Int) (0 : Int) (List.replicate (32 : Nat) (0 : Int)) (0 : Int) [] (0 : Int) (List.replicate (8 : Nat) (0 : Int)))), v7, v8, v9) else none else none else some (Sum.inr (v2, v6, v7, v8, v9))
def L99_8 (k n : Nat) (x : Int × List (List Int) × Int × List T46 × Int × Int × List T128 × Int × Bool × List T46) : Option ((Int × Bool × Bool × List T128 × Int × Bool × List T46) ⊕ (Int × List T128 × Int × Bool × List T46)) := iterR (R99_8 k) n x
noncomputable def ls99_8 : Nat → Option (LSum Ty) := addL 8 (lsum2 of99_8 ab99_8 L99_8 .ret on99_8a (.exit 0) on99_8b) noL
def kp99 : Nat → Keep := fun i => cond (i == 8) ⟨[0, 1, 4, 5, 8, 35, 36, 37], [4, 5, 6, 7, 8], 0⟩ (⟨[], [], 0⟩)
/-- "silt/group.items" -/
def F99 (k : Nat) (x : Int × (List (List Int)) × Unit) : Option ((List T128) × Int × Bool × Bool × Unit) :=
  match x with
  | (a0, a1, ()) => bif (↑a1.length : Int) == (0 : Int) then some ([], (0 : Int), false, false, ()) else bif inRange (0 : Int) a1.length then (F29 k (a1.getD (Int.toNat (0 : Int)) (List.replicate (64 : Nat) (0 : Int)), ())).bind fun r => bif r.snd.fst != (0 : Int) then some ([], (0 : Int), false, false, ()) else bif r.fst.1 != a0 then some ([], (0 : Int), false, false, ()) else (L99_8 k k (a0, a1, (1 : Int), r.fst.3, (↑r.fst.3.length : Int), (0 : Int), [], r.fst.1, r.fst.2, r.fst.3)).bind fun r => sumK r (fun a => some (a.snd.snd.snd.fst, a.fst, a.snd.fst, a.snd.snd.fst, ())) fun b => some (b.snd.fst, b.fst, b.snd.snd.snd.fst, true, ()) else none
noncomputable def sp99 : FSpec Ty := spec ag99 rs99 F99
theorem bo99 : Try.f99.body = some (bodyOf Try.f99) := by kernel_rfl
theorem nd99 : nodupB ((loopsIn (bodyOf Try.f99)).map firstRegion) = true := by kernel_rfl
theorem lo99_8 : LSOK fs57 kp99 tab Try.f99 ls99_8 := lsum2_ok bo99 nd99 (LSOK.none) oa99_8 (R := R99_8) fun k again x => by kernel_rfl
theorem ok99 : FOK Try.prog tab 99 sp99 := spec_ok (keeps := kp99) tabOK fs57OK Try.func99 bo99 (by kernel_rfl) nd99 (lo99_8) (F := F99) fun k x => by kernel_rfl
noncomputable def fs99 : Nat → Option (FSpec Ty) := addF 99 sp99 fs57
theorem fs99OK : SpecsOK Try.prog tab fs99 := fs57OK.add ok99 Try.call99
def ag68 : Args Ty (Int × (List (List Int)) × Unit) := V.arg (tab.den 22) (V.arg (tab.den 70) (noArgs))
def rs68 : Res Ty tab (T115 × Bool × Unit) true := V.manyRes (V.part (tab.den 116) (ent 116).ids (ent 116).plain (fun _ h => by cases h) (V.part (tab.den 4) (ent 4).ids (ent 4).plain (fun _ h => by cases h) (noParts)))
def of68_3 : Int × List (List Int) × Bool × Int × Int × Int × Int × List T128 × List Int × List T128 × List Int → NSt Ty := fun x => ⟨[.int .u32 (x.1), .slice 27 (x.2.1), .ptr 100000 [], .ptr 100001 [], .bool (x.2.2.1)], [.var (.cons (.row 100002) (.cons (.row 100003) (.cons (.int .i64 (x.2.2.2.1)) (.cons (.int .i64 (x.2.2.2.2.1)) (.nil))))), .var (.cons (.row 100004) (.cons (.row 100005) (.cons (.int .i64 (x.2.2.2.2.2.1)) (.cons (.int .i64 (x.2.2.2.2.2.2.1)) (.nil))))), .row 129 (x.2.2.2.2.2.2.2.1), .row 3 (x.2.2.2.2.2.2.2.2.1), .row 129 (x.2.2.2.2.2.2.2.2.2.1), .row 3 (x.2.2.2.2.2.2.2.2.2.2)]⟩
def ab68_3 : (n : NSt Ty) → Option {x : Int × List (List Int) × Bool × Int × Int × Int × Int × List T128 × List Int × List T128 × List Int // of68_3 x = n}
  | ⟨[.int .u32 v0, .slice 27 v1, .ptr 100000 [], .ptr 100001 [], .bool v2], [.var (.cons (.row 100002) (.cons (.row 100003) (.cons (.int .i64 v3) (.cons (.int .i64 v4) (.nil))))), .var (.cons (.row 100004) (.cons (.row 100005) (.cons (.int .i64 v5) (.cons (.int .i64 v6) (.nil))))), .row 129 v7, .row 3 v8, .row 129 v9, .row 3 v10]⟩ => some ⟨(v0, v1, v2, v3, v4, v5, v6, v7, v8, v9, v10), rfl⟩
  | _ => none
def on68_3a : Int × List (List Int) × Bool × Int × Int × Int × Int × List T128 × List Int × List T128 × List Int → NSt Ty := fun x => ⟨[.int .u32 (x.1), .slice 27 (x.2.1), .ptr 100000 [], .bool (x.2.2.1), .ptr 100001 []], [.var (.cons (.row 100002) (.cons (.row 100003) (.cons (.int .i64 (x.2.2.2.1)) (.cons (.int .i64 (x.2.2.2.2.1)) (.nil))))), .var (.cons (.row 100004) (.cons (.row 100005) (.cons (.int .i64 (x.2.2.2.2.2.1)) (.cons (.int .i64 (x.2.2.2.2.2.2.1)) (.nil))))), .row 129 (x.2.2.2.2.2.2.2.1), .row 3 (x.2.2.2.2.2.2.2.2.1), .row 129 (x.2.2.2.2.2.2.2.2.2.1), .row 3 (x.2.2.2.2.2.2.2.2.2.2)]⟩
def on68_3b : Int × List (List Int) × Int × Int × Int × Int × List T128 × List Int × List T128 × List Int → NSt Ty := fun x => ⟨[.int .u32 (x.1), .slice 27 (x.2.1), .ptr 100000 [], .undef, .ptr 100001 []], [.var (.cons (.row 100002) (.cons (.row 100003) (.cons (.int .i64 (x.2.2.1)) (.cons (.int .i64 (x.2.2.2.1)) (.nil))))), .var (.cons (.row 100004) (.cons (.row 100005) (.cons (.int .i64 (x.2.2.2.2.1)) (.cons (.int .i64 (x.2.2.2.2.2.1)) (.nil))))), .row 129 (x.2.2.2.2.2.2.1), .row 3 (x.2.2.2.2.2.2.2.1), .row 129 (x.2.2.2.2.2.2.2.2.1), .row 3 (x.2.2.2.2.2.2.2.2.2)]⟩
def oa68_3 : (e : Ex) → (n : NSt Ty) → Option {y : (Int × List (List Int) × Bool × Int × Int × Int × Int × List T128 × List Int × List T128 × List Int) ⊕ (Int × List (List Int) × Int × Int × Int × Int × List T128 × List Int × List T128 × List Int) // oe2 .ret (.exit 0) y = e ∧ on2 on68_3a on68_3b y = n}
  | .ret, ⟨[.int .u32 v0, .slice 27 v1, .ptr 100000 [], .bool v2, .ptr 100001 []], [.var (.cons (.row 100002) (.cons (.row 100003) (.cons (.int .i64 v3) (.cons (.int .i64 v4) (.nil))))), .var (.cons (.row 100004) (.cons (.row 100005) (.cons (.int .i64 v5) (.cons (.int .i64 v6) (.nil))))), .row 129 v7, .row 3 v8, .row 129 v9, .row 3 v10]⟩ => some ⟨.inl (v0, v1, v2, v3, v4, v5, v6, v7, v8, v9, v10), rfl, rfl⟩
  | .exit 0, ⟨[.int .u32 v0, .slice 27 v1, .ptr 100000 [], .undef, .ptr 100001 []], [.var (.cons (.row 100002) (.cons (.row 100003) (.cons (.int .i64 v2) (.cons (.int .i64 v3) (.nil))))), .var (.cons (.row 100004) (.cons (.row 100005) (.cons (.int .i64 v4) (.cons (.int .i64 v5) (.nil))))), .row 129 v6, .row 3 v7, .row 129 v8, .row 3 v9]⟩ => some ⟨.inr (v0, v1, v2, v3, v4, v5, v6, v7, v8, v9), rfl, rfl⟩
  | _, _ => none
/-- a round of the loop 3 of function 68 -/
def R68_3 (k : Nat) (again : Int × List (List Int) × Bool × Int × Int × Int × Int × List T128 × List Int × List T128 × List Int → Option ((Int × List (List Int) × Bool × Int × Int × Int × Int × List T128 × List Int × List T128 × List Int) ⊕ (Int × List (List Int) × Int × Int × Int × Int × List T128 × List Int × List T128 × List Int))) (x : Int × List (List Int) × Bool × Int × Int × Int × Int × List T128 × List Int × List T128 × List Int) : Option ((Int × List (List Int) × Bool × Int × Int × Int × Int × List T128 × List Int × List T128 × List Int) ⊕ (Int × List (List Int) × Int × Int × Int × Int × List T128 × List Int × List T128 × List Int)) :=
  match x with
  | (v0, v1, v2, v3, v4, v5, v6, v7, v8, v9, v10) => bif v2 then bif decide ((0 : Int) ≤ v5) && decide (v5 ≤ (↑v1.length : Int)) && decide ((↑v1.length : Int) ≤ (↑v1.length : Int)) then (F99 k (IntKind.u32.wrap (v0 + IntKind.u32.wrap v6), List.drop v5.toNat (List.take (↑v1.length : Int).toNat v1), ())).bind fun r => bif !r.snd.snd.snd.fst then some (Sum.inl (v0, v1, false, (0 : Int), (0 : Int), v5, v6, [], [], v9, v10)) else bif decide ((↑r.fst.length : Int) > IntKind.i64.wrap ((64 : Int) - (↑v9.length : Int))) then some (Sum.inl (v0, v1, false, (0 : Int), (0 : Int), v5, v6, [], [], v9, v10)) else bif decide (v9.length + r.fst.length ≤ roomMost) then again (v0, v1, r.snd.snd.fst, v3, v4, IntKind.i64.wrap (v5 + r.snd.fst), IntKind.i64.wrap (v6 + (1 : Int)), v7, v8, v9 ++ r.fst, v10) else none else none else some (Sum.inr (v0, v1, v3, v4, v5, v6, v7, v8, v9, v10))
def L68_3 (k n : Nat) (x : Int × List (List Int) × Bool × Int × Int × Int × Int × List T128 × List Int × List T128 × List Int) : Option ((Int × List (List Int) × Bool × Int × Int × Int × Int × List T128 × List Int × List T128 × List Int) ⊕ (Int × List (List Int) × Int × Int × Int × Int × List T128 × List Int × List T128 × List Int)) := iterR (R68_3 k) n x
noncomputable def ls68_3 : Nat → Option (LSum Ty) := addL 3 (lsum2 of68_3 ab68_3 L68_3 .ret on68_3a (.exit 0) on68_3b) noL
def of68_15 : List (List Int) × Int × Int × Int × Int × Int × Int × List Int × List (List Int) × List T128 × List Int × List T128 × List Int → NSt Ty := fun x => ⟨[.slice 27 (x.1), .ptr 100000 [], .ptr 100001 [], .row 100002, .row 100003, .int .i64 (x.2.1), .int .i64 (x.2.2.1)], [.var (.cons (.row 100004) (.cons (.row 100005) (.cons (.int .i64 (x.2.2.2.1)) (.cons (.int .i64 (x.2.2.2.2.1)) (.nil))))), .var (.cons (.row 100006) (.cons (.row 100007) (.cons (.int .i64 (x.2.2.2.2.2.1)) (.cons (.int .i64 (x.2.2.2.2.2.2.1)) (.nil))))), .row 3 (x.2.2.2.2.2.2.2.1), .row 27 (x.2.2.2.2.2.2.2.2.1), .row 129 (x.2.2.2.2.2.2.2.2.2.1), .row 3 (x.2.2.2.2.2.2.2.2.2.2.1), .frow 129 (x.2.2.2.2.2.2.2.2.2.2.2.1), .row 3 (x.2.2.2.2.2.2.2.2.2.2.2.2)]⟩
def ab68_15 : (n : NSt Ty) → Option {x : List (List Int) × Int × Int × Int × Int × Int × Int × List Int × List (List Int) × List T128 × List Int × List T128 × List Int // of68_15 x = n}
  | ⟨[.slice 27 v0, .ptr 100000 [], .ptr 100001 [], .row 100002, .row 100003, .int .i64 v1, .int .i64 v2], [.var (.cons (.row 100004) (.cons (.row 100005) (.cons (.int .i64 v3) (.cons (.int .i64 v4) (.nil))))), .var (.cons (.row 100006) (.cons (.row 100007) (.cons (.int .i64 v5) (.cons (.int .i64 v6) (.nil))))), .row 3 v7, .row 27 v8, .row 129 v9, .row 3 v10, .frow 129 v11, .row 3 v12]⟩ => some ⟨(v0, v1, v2, v3, v4, v5, v6, v7, v8, v9, v10, v11, v12), rfl⟩
  | _ => none
def on68_15a : Bool × Int × Int × Int × Int × List Int × List T128 × List Int × List T128 × List Int → NSt Ty := fun x => ⟨[.ptr 100000 [], .bool (x.1), .ptr 100001 [], .row 100002], [.var (.cons (.row 100003) (.cons (.row 100004) (.cons (.int .i64 (x.2.1)) (.cons (.int .i64 (x.2.2.1)) (.nil))))), .var (.cons (.row 100005) (.cons (.row 100006) (.cons (.int .i64 (x.2.2.2.1)) (.cons (.int .i64 (x.2.2.2.2.1)) (.nil))))), .row 3 (x.2.2.2.2.2.1), .row 129 (x.2.2.2.2.2.2.1), .row 3 (x.2.2.2.2.2.2.2.1), .frow 129 (x.2.2.2.2.2.2.2.2.1), .row 3 (x.2.2.2.2.2.2.2.2.2)]⟩
def on68_15b : Int × Int × Int × Int × List Int × List T128 × List Int × List T128 × List Int → NSt Ty := fun x => ⟨[.ptr 100000 [], .undef, .ptr 100001 [], .row 100002], [.var (.cons (.row 100003) (.cons (.row 100004) (.cons (.int .i64 (x.1)) (.cons (.int .i64 (x.2.1)) (.nil))))), .var (.cons (.row 100005) (.cons (.row 100006) (.cons (.int .i64 (x.2.2.1)) (.cons (.int .i64 (x.2.2.2.1)) (.nil))))), .row 3 (x.2.2.2.2.1), .row 129 (x.2.2.2.2.2.1), .row 3 (x.2.2.2.2.2.2.1), .frow 129 (x.2.2.2.2.2.2.2.1), .row 3 (x.2.2.2.2.2.2.2.2)]⟩
def oa68_15 : (e : Ex) → (n : NSt Ty) → Option {y : (Bool × Int × Int × Int × Int × List Int × List T128 × List Int × List T128 × List Int) ⊕ (Int × Int × Int × Int × List Int × List T128 × List Int × List T128 × List Int) // oe2 .ret (.exit 2) y = e ∧ on2 on68_15a on68_15b y = n}
  | .ret, ⟨[.ptr 100000 [], .bool v0, .ptr 100001 [], .row 100002], [.var (.cons (.row 100003) (.cons (.row 100004) (.cons (.int .i64 v1) (.cons (.int .i64 v2) (.nil))))), .var (.cons (.row 100005) (.cons (.row 100006) (.cons (.int .i64 v3) (.cons (.int .i64 v4) (.nil))))), .row 3 v5, .row 129 v6, .row 3 v7, .frow 129 v8, .row 3 v9]⟩ => some ⟨.inl (v0, v1, v2, v3, v4, v5, v6, v7, v8, v9), rfl, rfl⟩
  | .exit 2, ⟨[.ptr 100000 [], .undef, .ptr 100001 [], .row 100002], [.var (.cons (.row 100003) (.cons (.row 100004) (.cons (.int .i64 v0) (.cons (.int .i64 v1) (.nil))))), .var (.cons (.row 100005) (.cons (.row 100006) (.cons (.int .i64 v2) (.cons (.int .i64 v3) (.nil))))), .row 3 v4, .row 129 v5, .row 3 v6, .frow 129 v7, .row 3 v8]⟩ => some ⟨.inr (v0, v1, v2, v3, v4, v5, v6, v7, v8), rfl, rfl⟩
  | _, _ => none
/-- a round of the loop 15 of function 68 -/
def R68_15 (k : Nat) (again : List (List Int) × Int × Int × Int × Int × Int × Int × List Int × List (List Int) × List T128 × List Int × List T128 × List Int → Option ((Bool × Int × Int × Int × Int × List Int × List T128 × List Int × List T128 × List Int) ⊕ (Int × Int × Int × Int × List Int × List T128 × List Int × List T128 × List Int))) (x : List (List Int) × Int × Int × Int × Int × Int × Int × List Int × List (List Int) × List T128 × List Int × List T128 × List Int) : Option ((Bool × Int × Int × Int × Int × List Int × List T128 × List Int × List T128 × List Int) ⊕ (Int × Int × Int × Int × List Int × List T128 × List Int × List T128 × List Int)) :=
  match x with
  | (v0, v1, v2, v3, v4, v5, v6, v7, v8, v9, v10, v11, v12) => bif decide (v2 < v1) then bif inRange v2 v8.length then bif inRange v2 v0.length then bif !decide (v8.getD v2.toNat (List.replicate (64 : Nat) (0 : Int)) = v0.getD v2.toNat (List.replicate (64 : Nat) (0 : Int))) then some (Sum.inl (false, (0 : Int), (0 : Int), v5, v6, v7, [], [], v11, v12)) else again (v0, v1, IntKind.i64.wrap (v2 + (1 : Int)), v3, v4, v5, v6, v7, v8, v9, v10, v11, v12) else none else none else some (Sum.inr (v3, v4, v5, v6, v7, v9, v10, v11, v12))
def L68_15 (k n : Nat) (x : List (List Int) × Int × Int × Int × Int × Int × Int × List Int × List (List Int) × List T128 × List Int × List T128 × List Int) : Option ((Bool × Int × Int × Int × Int × List Int × List T128 × List Int × List T128 × List Int) ⊕ (Int × Int × Int × Int × List Int × List T128 × List Int × List T128 × List Int)) := iterR (R68_15 k) n x
noncomputable def ls68_15 : Nat → Option (LSum Ty) := addL 15 (lsum2 of68_15 ab68_15 L68_15 .ret on68_15a (.exit 2) on68_15b) ls68_3
def kp68 : Nat → Keep := fun i => cond (i == 3) ⟨[0, 1, 4, 6, 7], [0, 1, 4, 5, 6], 0⟩ (cond (i == 15) ⟨[1, 4, 6, 13, 78, 79, 80], [4, 5, 6, 13], 0⟩ (⟨[], [], 0⟩))
/-- "silt/group.Read" -/
def F68 (k : Nat) (x : Int × (List (List Int)) × Unit) : Option (T115 × Bool × Unit) :=
  match x with
  | (a0, a1, ()) => (L68_3 k k (a0, a1, true, (0 : Int), (0 : Int), (0 : Int), (0 : Int), [], [], [], [])).bind fun r => sumK r (fun a => some (T115.mk a.snd.snd.snd.snd.snd.snd.snd.fst a.snd.snd.snd.snd.snd.snd.snd.snd.fst a.snd.snd.snd.fst a.snd.snd.snd.snd.fst, a.snd.snd.fst, ())) fun b => (F66 k (b.fst, b.snd.snd.snd.snd.snd.snd.snd.snd.fst)).bind fun r => bif r.fst != (0 : Int) then some (T115.mk [] [] (0 : Int) (0 : Int), false, ()) else bif (↑r.snd.fst.length : Int) != b.snd.snd.snd.snd.fst then some (T115.mk [] [] (0 : Int) (0 : Int), false, ()) else (L68_15 k k (b.snd.fst, (↑r.snd.fst.length : Int), (0 : Int), b.snd.snd.fst, b.snd.snd.snd.fst, b.snd.snd.snd.snd.fst, b.snd.snd.snd.snd.snd.fst, r.snd.snd, r.snd.fst, b.snd.snd.snd.snd.snd.snd.fst, b.snd.snd.snd.snd.snd.snd.snd.fst, b.snd.snd.snd.snd.snd.snd.snd.snd.fst, b.snd.snd.snd.snd.snd.snd.snd.snd.snd)).bind fun r => sumK r (fun a => some (T115.mk a.snd.snd.snd.snd.snd.snd.fst a.snd.snd.snd.snd.snd.snd.snd.fst a.snd.fst a.snd.snd.fst, a.fst, ())) fun b => some (T115.mk b.snd.snd.snd.snd.snd.snd.snd.fst b.snd.snd.snd.snd.fst b.snd.snd.fst b.snd.snd.snd.fst, true, ())
noncomputable def sp68 : FSpec Ty := spec ag68 rs68 F68
theorem bo68 : Try.f68.body = some (bodyOf Try.f68) := by kernel_rfl
theorem nd68 : nodupB ((loopsIn (bodyOf Try.f68)).map firstRegion) = true := by kernel_rfl
theorem lo68_3 : LSOK fs99 kp68 tab Try.f68 ls68_3 := lsum2_ok bo68 nd68 (LSOK.none) oa68_3 (R := R68_3) fun k again x => by kernel_rfl
theorem lo68_15 : LSOK fs99 kp68 tab Try.f68 ls68_15 := lsum2_ok bo68 nd68 (lo68_3) oa68_15 (R := R68_15) fun k again x => by kernel_rfl
theorem ok68 : FOK Try.prog tab 68 sp68 := spec_ok (keeps := kp68) tabOK fs99OK Try.func68 bo68 (by kernel_rfl) nd68 (lo68_15) (F := F68) fun k x => by kernel_rfl
noncomputable def fs68 : Nat → Option (FSpec Ty) := addF 68 sp68 fs99
theorem fs68OK : SpecsOK Try.prog tab fs68 := fs99OK.add ok68 Try.call68
def ag75 : Args Ty ((List Int) × (List Int) × Unit) := V.arg (tab.den 109) (V.arg (tab.den 109) (noArgs))
def rs75 : Res Ty tab (Bool) false := V.oneRes (tab.den 4) (ent 4).ids (ent 4).plain (fun x _ => (ent 4).flat x rfl)
def of75_4 : List Int × List Int × Int → NSt Ty := fun x => ⟨[.slice 3 (x.1), .slice 3 (x.2.1), .int .i64 (x.2.2)], []⟩
def ab75_4 : (n : NSt Ty) → Option {x : List Int × List Int × Int // of75_4 x = n}
  | ⟨[.slice 3 v0, .slice 3 v1, .int .i64 v2], []⟩ => some ⟨(v0, v1, v2), rfl⟩
  | _ => none
def on75_4a : Bool → NSt Ty := fun x => ⟨[.bool (x)], []⟩
def on75_4b : Unit → NSt Ty := fun x => ⟨[.undef], []⟩
def oa75_4 : (e : Ex) → (n : NSt Ty) → Option {y : (Bool) ⊕ (Unit) // oe2 .ret (.exit 0) y = e ∧ on2 on75_4a on75_4b y = n}
  | .ret, ⟨[.bool v0], []⟩ => some ⟨.inl v0, rfl, rfl⟩
  | .exit 0, ⟨[.undef], []⟩ => some ⟨.inr (), rfl, rfl⟩
  | _, _ => none
/-- a round of the loop 4 of function 75 -/
def R75_4 (k : Nat) (again : List Int × List Int × Int → Option ((Bool) ⊕ (Unit))) (x : List Int × List Int × Int) : Option ((Bool) ⊕ (Unit)) :=
  match x with
  | (v0, v1, v2) => bif decide (v2 < (↑v0.length : Int)) then bif inRange v2 v0.length then bif inRange v2 v1.length then bif v0.getD v2.toNat (0 : Int) != v1.getD v2.toNat (0 : Int) then some (Sum.inl false) else again (v0, v1, IntKind.i64.wrap (v2 + (1 : Int))) else none else none else some (Sum.inr ())
def L75_4 (k n : Nat) (x : List Int × List Int × Int) : Option ((Bool) ⊕ (Unit)) := iterR (R75_4 k) n x
noncomputable def ls75_4 : Nat → Option (LSum Ty) := addL 4 (lsum2 of75_4 ab75_4 L75_4 .ret on75_4a (.exit 0) on75_4b) noL
def kp75 : Nat → Keep := fun i => cond (i == 4) ⟨[0, 1, 5], [4], 0⟩ (⟨[], [], 0⟩)
/-- "silt/siltkeep.Ints" -/
def F75 (k : Nat) (x : (List Int) × (List Int) × Unit) : Option (Bool) :=
  match x with
  | (a0, a1, ()) => bif (↑a0.length : Int) != (↑a1.length : Int) then some false else (L75_4 k k (a0, a1, (0 : Int))).bind fun r => sumK r (fun a => some a) fun b => some true
noncomputable def sp75 : FSpec Ty := spec ag75 rs75 F75
theorem bo75 : Try.f75.body = some (bodyOf Try.f75) := by kernel_rfl
theorem nd75 : nodupB ((loopsIn (bodyOf Try.f75)).map firstRegion) = true := by kernel_rfl
theorem lo75_4 : LSOK fs68 kp75 tab Try.f75 ls75_4 := lsum2_ok bo75 nd75 (LSOK.none) oa75_4 (R := R75_4) fun k again x => by kernel_rfl
theorem ok75 : FOK Try.prog tab 75 sp75 := spec_ok (keeps := kp75) tabOK fs68OK Try.func75 bo75 (by kernel_rfl) nd75 (lo75_4) (F := F75) fun k x => by kernel_rfl
noncomputable def fs75 : Nat → Option (FSpec Ty) := addF 75 sp75 fs68
theorem fs75OK : SpecsOK Try.prog tab fs75 := fs68OK.add ok75 Try.call75
def ag62 : Args Ty ((List Int) × (List Int) × Unit) := V.arg (tab.den 58) (V.arg (tab.den 58) (noArgs))
def rs62 : Res Ty tab (Bool) false := V.oneRes (tab.den 4) (ent 4).ids (ent 4).plain (fun x _ => (ent 4).flat x rfl)
def kp62 : Nat → Keep := fun i => ⟨[], [], 0⟩
/-- "silt/siltkeep.Bytes" -/
def F62 (k : Nat) (x : (List Int) × (List Int) × Unit) : Option (Bool) :=
  match x with
  | (a0, a1, ()) => some ((bytesStr (List.map (fun x => x) a0)).toList == (bytesStr (List.map (fun x => x) a1)).toList)
noncomputable def sp62 : FSpec Ty := spec ag62 rs62 F62
theorem bo62 : Try.f62.body = some (bodyOf Try.f62) := by kernel_rfl
theorem nd62 : nodupB ((loopsIn (bodyOf Try.f62)).map firstRegion) = true := by kernel_rfl
theorem ok62 : FOK Try.prog tab 62 sp62 := spec_ok (keeps := kp62) tabOK fs75OK Try.func62 bo62 (by kernel_rfl) nd62 (LSOK.none) (F := F62) fun k x => by kernel_rfl
noncomputable def fs62 : Nat → Option (FSpec Ty) := addF 62 sp62 fs75
theorem fs62OK : SpecsOK Try.prog tab fs62 := fs75OK.add ok62 Try.call62
def ag61 : Args Ty (T87 × T87 × Unit) := V.arg (tab.den 88) (V.arg (tab.den 88) (noArgs))
def rs61 : Res Ty tab (Bool) false := V.oneRes (tab.den 4) (ent 4).ids (ent 4).plain (fun x _ => (ent 4).flat x rfl)
def kp61 : Nat → Keep := fun i => ⟨[], [], 0⟩
/-- "silt/siltkeep.Block" -/
def F61 (k : Nat) (x : T87 × T87 × Unit) : Option (Bool) :=
  match x with
  | (a0, a1, ()) => bif a0.1 == a1.1 then bif a0.2 == a1.2 then bif decide (a0.3 = a1.3) then bif a0.4 == a1.4 then (F62 k (a0.5, a1.5, ())).bind fun r => bif r then bif a0.6 == a1.6 then some (decide (a0.7 = a1.7)) else some false else some false else some false else some false else some false else some false
noncomputable def sp61 : FSpec Ty := spec ag61 rs61 F61
theorem bo61 : Try.f61.body = some (bodyOf Try.f61) := by kernel_rfl
theorem nd61 : nodupB ((loopsIn (bodyOf Try.f61)).map firstRegion) = true := by kernel_rfl
theorem ok61 : FOK Try.prog tab 61 sp61 := spec_ok (keeps := kp61) tabOK fs62OK Try.func61 bo61 (by kernel_rfl) nd61 (LSOK.none) (F := F61) fun k x => by kernel_rfl
noncomputable def fs61 : Nat → Option (FSpec Ty) := addF 61 sp61 fs62
theorem fs61OK : SpecsOK Try.prog tab fs61 := fs62OK.add ok61 Try.call61
def ag76 : Args Ty ((List T128) × (List T128) × Unit) := V.arg (tab.den 106) (V.arg (tab.den 106) (noArgs))
def rs76 : Res Ty tab (Bool) false := V.oneRes (tab.den 4) (ent 4).ids (ent 4).plain (fun x _ => (ent 4).flat x rfl)
def of76_4 : List T128 × List T128 × Int → NSt Ty := fun x => ⟨[.slice 129 (x.1), .slice 129 (x.2.1), .int .i64 (x.2.2)], []⟩
def ab76_4 : (n : NSt Ty) → Option {x : List T128 × List T128 × Int // of76_4 x = n}
  | ⟨[.slice 129 v0, .slice 129 v1, .int .i64 v2], []⟩ => some ⟨(v0, v1, v2), rfl⟩
  | _ => none
def on76_4a : Bool → NSt Ty := fun x => ⟨[.bool (x)], []⟩
def on76_4b : Unit → NSt Ty := fun x => ⟨[.undef], []⟩
def oa76_4 : (e : Ex) → (n : NSt Ty) → Option {y : (Bool) ⊕ (Unit) // oe2 .ret (.exit 0) y = e ∧ on2 on76_4a on76_4b y = n}
  | .ret, ⟨[.bool v0], []⟩ => some ⟨.inl v0, rfl, rfl⟩
  | .exit 0, ⟨[.undef], []⟩ => some ⟨.inr (), rfl, rfl⟩
  | _, _ => none
/-- a round of the loop 4 of function 76 -/
def R76_4 (k : Nat) (again : List T128 × List T128 × Int → Option ((Bool) ⊕ (Unit))) (x : List T128 × List T128 × Int) : Option ((Bool) ⊕ (Unit)) :=
  match x with
  | (v0, v1, v2) => bif decide (v2 < (↑v0.length : Int)) then bif inRange v2 v0.length then bif inRange v2 v1.length then bif !((v0.getD v2.toNat (T128.mk (T46.mk (0 : Int) (0 : Int)) (T87.mk (0 : Int) (0 : Int) (List.replicate (32 : Nat) (0 : Int)) (0 : Int) [] (0 : Int) (List.replicate (8 : Nat) (0 : Int))))).1.1 == (v1.getD v2.toNat (T128.mk (T46.mk (0 : Int) (0 : Int)) (T87.mk (0 : Int) (0 : Int) (List.replicate (32 : Nat) (0 : Int)) (0 : Int) [] (0 : Int) (List.replicate (8 : Nat) (0 : Int))))).1.1 && ((v0.getD v2.toNat (T128.mk (T46.mk (0 : Int) (0 : Int)) (T87.mk (0 : Int) (0 : Int) (List.replicate (32 : Nat) (0 : Int)) (0 : Int) [] (0 : Int) (List.replicate (8 : Nat) (0 : Int))))).1.2 == (v1.getD v2.toNat (T128.mk (T46.mk (0 : Int) (0 : Int)) (T87.mk (0 : Int) (0 : Int) (List.replicate (32 : Nat) (0 : Int)) (0 : Int) [] (0 : Int) (List.replicate (8 : Nat) (0 : Int))))).1.2 && true)) then some (Sum.inl false) else bif inRange v2 v0.length then bif inRange v2 v1.length then (F61 k (T87.mk (v0.getD v2.toNat (T128.mk (T46.mk (0 : Int) (0 : Int)) (T87.mk (0 : Int) (0 : Int) (List.replicate (32 : Nat) (0 : Int)) (0 : Int) [] (0 : Int) (List.replicate (8 : Nat) (0 : Int))))).2.1 (v0.getD v2.toNat (T128.mk (T46.mk (0 : Int) (0 : Int)) (T87.mk (0 : Int) (0 : Int) (List.replicate (32 : Nat) (0 : Int)) (0 : Int) [] (0 : Int) (List.replicate (8 : Nat) (0 : Int))))).2.2 (v0.getD v2.toNat (T128.mk (T46.mk (0 : Int) (0 : Int)) (T87.mk (0 : Int) (0 : Int) (List.replicate (32 : Nat) (0 : Int)) (0 : Int) [] (0 : Int) (List.replicate (8 : Nat) (0 : Int))))).2.3 (v0.getD v2.toNat (T128.mk (T46.mk (0 : Int) (0 : Int)) (T87.mk (0 : Int) (0 : Int) (List.replicate (32 : Nat) (0 : Int)) (0 : Int) [] (0 : Int) (List.replicate (8 : Nat) (0 : Int))))).2.4 (v0.getD v2.toNat (T128.mk (T46.mk (0 : Int) (0 : Int)) (T87.mk (0 : Int) (0 : Int) (List.replicate (32 : Nat) (0 : Int)) (0 : Int) [] (0 : Int) (List.replicate (8 : Nat) (0 : Int))))).2.5 (v0.getD v2.toNat (T128.mk (T46.mk (0 : Int) (0 : Int)) (T87.mk (0 : Int) (0 : Int) (List.replicate (32 : Nat) (0 : Int)) (0 : Int) [] (0 : Int) (List.replicate (8 : Nat) (0 : Int))))).2.6 (v0.getD v2.toNat (T128.mk (T46.mk (0 : Int) (0 : Int)) (T87.mk (0 : Int) (0 : Int) (List.replicate (32 : Nat) (0 : Int)) (0 : Int) [] (0 : Int) (List.replicate (8 : Nat) (0 : Int))))).2.7, T87.mk (v1.getD v2.toNat (T128.mk (T46.mk (0 : Int) (0 : Int)) (T87.mk (0 : Int) (0 : Int) (List.replicate (32 : Nat) (0 : Int)) (0 : Int) [] (0 : Int) (List.replicate (8 : Nat) (0 : Int))))).2.1 (v1.getD v2.toNat (T128.mk (T46.mk (0 : Int) (0 : Int)) (T87.mk (0 : Int) (0 : Int) (List.replicate (32 : Nat) (0 : Int)) (0 : Int) [] (0 : Int) (List.replicate (8 : Nat) (0 : Int))))).2.2 (v1.getD v2.toNat (T128.mk (T46.mk (0 : Int) (0 : Int)) (T87.mk (0 : Int) (0 : Int) (List.replicate (32 : Nat) (0 : Int)) (0 : Int) [] (0 : Int) (List.replicate (8 : Nat) (0 : Int))))).2.3 (v1.getD v2.toNat (T128.mk (T46.mk (0 : Int) (0 : Int)) (T87.mk (0 : Int) (0 : Int) (List.replicate (32 : Nat) (0 : Int)) (0 : Int) [] (0 : Int) (List.replicate (8 : Nat) (0 : Int))))).2.4 (v1.getD v2.toNat (T128.mk (T46.mk (0 : Int) (0 : Int)) (T87.mk (0 : Int) (0 : Int) (List.replicate (32 : Nat) (0 : Int)) (0 : Int) [] (0 : Int) (List.replicate (8 : Nat) (0 : Int))))).2.5 (v1.getD v2.toNat (T128.mk (T46.mk (0 : Int) (0 : Int)) (T87.mk (0 : Int) (0 : Int) (List.replicate (32 : Nat) (0 : Int)) (0 : Int) [] (0 : Int) (List.replicate (8 : Nat) (0 : Int))))).2.6 (v1.getD v2.toNat (T128.mk (T46.mk (0 : Int) (0 : Int)) (T87.mk (0 : Int) (0 : Int) (List.replicate (32 : Nat) (0 : Int)) (0 : Int) [] (0 : Int) (List.replicate (8 : Nat) (0 : Int))))).2.7, ())).bind fun r => bif !r then some (Sum.inl false) else again (v0, v1, IntKind.i64.wrap (v2 + (1 : Int))) else none else none else none else none else some (Sum.inr ())
def L76_4 (k n : Nat) (x : List T128 × List T128 × Int) : Option ((Bool) ⊕ (Unit)) := iterR (R76_4 k) n x
noncomputable def ls76_4 : Nat → Option (LSum Ty) := addL 4 (lsum2 of76_4 ab76_4 L76_4 .ret on76_4a (.exit 0) on76_4b) noL
def kp76 : Nat → Keep := fun i => cond (i == 4) ⟨[0, 1, 5], [4], 0⟩ (⟨[], [], 0⟩)
/-- "silt/siltkeep.Items" -/
def F76 (k : Nat) (x : (List T128) × (List T128) × Unit) : Option (Bool) :=
  match x with
  | (a0, a1, ()) => bif (↑a0.length : Int) != (↑a1.length : Int) then some false else (L76_4 k k (a0, a1, (0 : Int))).bind fun r => sumK r (fun a => some a) fun b => some true
noncomputable def sp76 : FSpec Ty := spec ag76 rs76 F76
theorem bo76 : Try.f76.body = some (bodyOf Try.f76) := by kernel_rfl
theorem nd76 : nodupB ((loopsIn (bodyOf Try.f76)).map firstRegion) = true := by kernel_rfl
theorem lo76_4 : LSOK fs61 kp76 tab Try.f76 ls76_4 := lsum2_ok bo76 nd76 (LSOK.none) oa76_4 (R := R76_4) fun k again x => by kernel_rfl
theorem ok76 : FOK Try.prog tab 76 sp76 := spec_ok (keeps := kp76) tabOK fs61OK Try.func76 bo76 (by kernel_rfl) nd76 (lo76_4) (F := F76) fun k x => by kernel_rfl
noncomputable def fs76 : Nat → Option (FSpec Ty) := addF 76 sp76 fs61
theorem fs76OK : SpecsOK Try.prog tab fs76 := fs61OK.add ok76 Try.call76
def ag72 : Args Ty ((List T128) × Unit) := V.arg (tab.den 106) (noArgs)
def rs72 : Res Ty tab (Int) false := V.oneRes (tab.den 3) (ent 3).ids (ent 3).plain (fun x _ => (ent 3).flat x rfl)
def kp72 : Nat → Keep := fun i => ⟨[], [], 0⟩
/-- "silt/group.Parts" -/
def F72 (k : Nat) (x : (List T128) × Unit) : Option (Int) :=
  match x with
  | (a0, ()) => (F96 k (a0, ())).bind fun r => bif !r then some (0 : Int) else some (IntKind.i64.wrap (IntKind.i64.wrap ((IntKind.i64.wrap ((↑a0.length : Int) - (1 : Int))).tdiv (24 : Int)) + (1 : Int)))
noncomputable def sp72 : FSpec Ty := spec ag72 rs72 F72
theorem bo72 : Try.f72.body = some (bodyOf Try.f72) := by kernel_rfl
theorem nd72 : nodupB ((loopsIn (bodyOf Try.f72)).map firstRegion) = true := by kernel_rfl
theorem ok72 : FOK Try.prog tab 72 sp72 := spec_ok (keeps := kp72) tabOK fs76OK Try.func72 bo72 (by kernel_rfl) nd72 (LSOK.none) (F := F72) fun k x => by kernel_rfl
noncomputable def fs72 : Nat → Option (FSpec Ty) := addF 72 sp72 fs76
theorem fs72OK : SpecsOK Try.prog tab fs72 := fs76OK.add ok72 Try.call72
def ag32 : Args Ty ((List T46) × Unit) := V.arg (tab.den 23) (noArgs)
def rs32 : Res Ty tab (Int) false := V.oneRes (tab.den 3) (ent 3).ids (ent 3).plain (fun x _ => (ent 3).flat x rfl)
def of32_3 : Int × List T46 × Int × Int → NSt Ty := fun x => ⟨[.int .i64 (x.1), .slice 47 (x.2.1), .int .i64 (x.2.2.1), .int .i64 (x.2.2.2)], []⟩
def ab32_3 : (n : NSt Ty) → Option {x : Int × List T46 × Int × Int // of32_3 x = n}
  | ⟨[.int .i64 v0, .slice 47 v1, .int .i64 v2, .int .i64 v3], []⟩ => some ⟨(v0, v1, v2, v3), rfl⟩
  | _ => none
def oe32_3 : Int → Ex := fun _ => .exit 0
def on32_3 : Int → NSt Ty := fun x => ⟨[.int .i64 (x)], []⟩
def oa32_3 : (e : Ex) → (n : NSt Ty) → Option {y : Int // oe32_3 y = e ∧ on32_3 y = n}
  | .exit 0, ⟨[.int .i64 v0], []⟩ => some ⟨v0, rfl, rfl⟩
  | _, _ => none
/-- a round of the loop 3 of function 32 -/
def R32_3 (k : Nat) (again : Int × List T46 × Int × Int → Option (Int)) (x : Int × List T46 × Int × Int) : Option (Int) :=
  match x with
  | (v0, v1, v2, v3) => bif decide (v3 < v2) then bif inRange v3 v1.length then bif (v1.getD v3.toNat (T46.mk (0 : Int) (0 : Int))).1 == (1 : Int) then again (IntKind.i64.wrap (v0 + (1 : Int)), v1, v2, IntKind.i64.wrap (v3 + (1 : Int))) else bif (v1.getD v3.toNat (T46.mk (0 : Int) (0 : Int))).1 == (2 : Int) then again (IntKind.i64.wrap (v0 + (1 : Int)), v1, v2, IntKind.i64.wrap (v3 + (1 : Int))) else bif (v1.getD v3.toNat (T46.mk (0 : Int) (0 : Int))).1 == (3 : Int) then again (IntKind.i64.wrap (v0 + (1 : Int)), v1, v2, IntKind.i64.wrap (v3 + (1 : Int))) else again (v0, v1, v2, IntKind.i64.wrap (v3 + (1 : Int))) else none else some v0
def L32_3 (k n : Nat) (x : Int × List T46 × Int × Int) : Option (Int) := iterR (R32_3 k) n x
noncomputable def ls32_3 : Nat → Option (LSum Ty) := addL 3 (LSum.of of32_3 ab32_3 L32_3 oe32_3 on32_3) noL
def kp32 : Nat → Keep := fun i => cond (i == 3) ⟨[3, 6, 7, 8], [3], 0⟩ (⟨[], [], 0⟩)
/-- "silt/summary.Blocks" -/
def F32 (k : Nat) (x : (List T46) × Unit) : Option (Int) :=
  match x with
  | (a0, ()) => (L32_3 k k ((0 : Int), a0, (↑a0.length : Int), (0 : Int))).bind fun r => some r
noncomputable def sp32 : FSpec Ty := spec ag32 rs32 F32
theorem bo32 : Try.f32.body = some (bodyOf Try.f32) := by kernel_rfl
theorem nd32 : nodupB ((loopsIn (bodyOf Try.f32)).map firstRegion) = true := by kernel_rfl
theorem lo32_3 : LSOK fs72 kp32 tab Try.f32 ls32_3 := lsum_ok bo32 nd32 (LSOK.none) oa32_3 (R := R32_3) fun k again x => by kernel_rfl
theorem ok32 : FOK Try.prog tab 32 sp32 := spec_ok (keeps := kp32) tabOK fs72OK Try.func32 bo32 (by kernel_rfl) nd32 (lo32_3) (F := F32) fun k x => by kernel_rfl
noncomputable def fs32 : Nat → Option (FSpec Ty) := addF 32 sp32 fs72
theorem fs32OK : SpecsOK Try.prog tab fs32 := fs72OK.add ok32 Try.call32
def ag70 : Args Ty ((List T128) × Unit) := V.arg (tab.den 106) (noArgs)
def rs70 : Res Ty tab (Int) false := V.oneRes (tab.den 3) (ent 3).ids (ent 3).plain (fun x _ => (ent 3).flat x rfl)
def kp70 : Nat → Keep := fun i => ⟨[], [], 0⟩
/-- "silt/group.Size" -/
def F70 (k : Nat) (x : (List T128) × Unit) : Option (Int) :=
  match x with
  | (a0, ()) => (F96 k (a0, ())).bind fun r => bif !r then some (0 : Int) else (F72 k (a0, ())).bind fun r => (F100 k (a0, ())).bind fun r_1 => (F32 k (r_1, ())).bind fun r_2 => some (IntKind.i64.wrap (r + r_2))
noncomputable def sp70 : FSpec Ty := spec ag70 rs70 F70
theorem bo70 : Try.f70.body = some (bodyOf Try.f70) := by kernel_rfl
theorem nd70 : nodupB ((loopsIn (bodyOf Try.f70)).map firstRegion) = true := by kernel_rfl
theorem ok70 : FOK Try.prog tab 70 sp70 := spec_ok (keeps := kp70) tabOK fs32OK Try.func70 bo70 (by kernel_rfl) nd70 (LSOK.none) (F := F70) fun k x => by kernel_rfl
noncomputable def fs70 : Nat → Option (FSpec Ty) := addF 70 sp70 fs32
theorem fs70OK : SpecsOK Try.prog tab fs70 := fs32OK.add ok70 Try.call70
def ag64 : Args Ty (Unit) := noArgs
def rs64 : Res Ty tab (Bool) false := V.oneRes (tab.den 4) (ent 4).ids (ent 4).plain (fun x _ => (ent 4).flat x rfl)
def kp64 : Nat → Keep := fun i => ⟨[], [], 0⟩
/-- "silt/siltlaw13.wakes" -/
def F64 (k : Nat) (x : Unit) : Option (Bool) :=
  match x with
  | () => (F77 k ((3 : Int), (7 : Int), ())).bind fun r => (F77 k ((9 : Int), (8 : Int), ())).bind fun r_1 => (F66 k ((258 : Int), (((List.replicate (3 : Nat) (T128.mk (T46.mk (0 : Int) (0 : Int)) (T87.mk (0 : Int) (0 : Int) (List.replicate (32 : Nat) (0 : Int)) (0 : Int) [] (0 : Int) (List.replicate (8 : Nat) (0 : Int))))).set (0 : Nat) (T128.mk (T46.mk r.1.1 r.1.2) (T87.mk r.2.1 r.2.2 r.2.3 r.2.4 r.2.5 r.2.6 r.2.7))).set (1 : Nat) (T128.mk (T46.mk (5 : Int) (5 : Int)) (T87.mk (0 : Int) (0 : Int) (List.replicate (32 : Nat) (0 : Int)) (0 : Int) [] (0 : Int) (List.replicate (8 : Nat) (0 : Int))))).set (2 : Nat) (T128.mk (T46.mk r_1.1.1 r_1.1.2) (T87.mk r_1.2.1 r_1.2.2 r_1.2.3 r_1.2.4 r_1.2.5 r_1.2.6 r_1.2.7)))).bind fun r_2 => bif decide (r_2.snd.fst.length + ((List.replicate (1 : Nat) (List.replicate (64 : Nat) (0 : Int))).set (0 : Nat) (List.replicate (64 : Nat) (0 : Int))).length ≤ roomMost) then (F68 k ((258 : Int), r_2.snd.fst ++ (List.replicate (1 : Nat) (List.replicate (64 : Nat) (0 : Int))).set (0 : Nat) (List.replicate (64 : Nat) (0 : Int)), ())).bind fun r_3 => (F68 k ((259 : Int), r_2.snd.fst, ())).bind fun r_4 => (F66 k ((1 : Int), ((List.replicate (2 : Nat) (T128.mk (T46.mk (0 : Int) (0 : Int)) (T87.mk (0 : Int) (0 : Int) (List.replicate (32 : Nat) (0 : Int)) (0 : Int) [] (0 : Int) (List.replicate (8 : Nat) (0 : Int))))).set (0 : Nat) (T128.mk (T46.mk r.1.1 r.1.2) (T87.mk r.2.1 r.2.2 r.2.3 r.2.4 r.2.5 r.2.6 r.2.7))).set (1 : Nat) (T128.mk (T46.mk r.1.1 r.1.2) (T87.mk r.2.1 r.2.2 r.2.3 r.2.4 r.2.5 r.2.6 r.2.7)))).bind fun r_5 => bif r_2.fst == (0 : Int) then bif (↑r_2.snd.fst.length : Int) == (3 : Int) then (F75 k (r_2.snd.snd, (((List.replicate (3 : Nat) (0 : Int)).set (0 : Nat) (1 : Int)).set (1 : Nat) (-1 : Int)).set (2 : Nat) (2 : Int), ())).bind fun r_6 => bif r_6 then bif inRange (1 : Int) r_2.snd.fst.length then bif List.getD (r_2.snd.fst.getD (Int.toNat (1 : Int)) (List.replicate (64 : Nat) (0 : Int))) (Int.toNat (2 : Int)) (0 : Int) == (2 : Int) then bif inRange (1 : Int) r_2.snd.fst.length then bif List.getD (r_2.snd.fst.getD (Int.toNat (1 : Int)) (List.replicate (64 : Nat) (0 : Int))) (Int.toNat (3 : Int)) (0 : Int) == (1 : Int) then bif r_3.snd.fst then bif r_3.fst.3 == (3 : Int) then bif r_3.fst.4 == (1 : Int) then (F76 k (r_3.fst.1, (((List.replicate (3 : Nat) (T128.mk (T46.mk (0 : Int) (0 : Int)) (T87.mk (0 : Int) (0 : Int) (List.replicate (32 : Nat) (0 : Int)) (0 : Int) [] (0 : Int) (List.replicate (8 : Nat) (0 : Int))))).set (0 : Nat) (T128.mk (T46.mk r.1.1 r.1.2) (T87.mk r.2.1 r.2.2 r.2.3 r.2.4 r.2.5 r.2.6 r.2.7))).set (1 : Nat) (T128.mk (T46.mk (5 : Int) (5 : Int)) (T87.mk (0 : Int) (0 : Int) (List.replicate (32 : Nat) (0 : Int)) (0 : Int) [] (0 : Int) (List.replicate (8 : Nat) (0 : Int))))).set (2 : Nat) (T128.mk (T46.mk r_1.1.1 r_1.1.2) (T87.mk r_1.2.1 r_1.2.2 r_1.2.3 r_1.2.4 r_1.2.5 r_1.2.6 r_1.2.7)), ())).bind fun r_7 => bif r_7 then (F75 k (r_3.fst.2, r_2.snd.snd, ())).bind fun r_8 => bif r_8 then bif !r_4.snd.fst then bif r_5.fst == (1 : Int) then (F70 k ((((List.replicate (3 : Nat) (T128.mk (T46.mk (0 : Int) (0 : Int)) (T87.mk (0 : Int) (0 : Int) (List.replicate (32 : Nat) (0 : Int)) (0 : Int) [] (0 : Int) (List.replicate (8 : Nat) (0 : Int))))).set (0 : Nat) (T128.mk (T46.mk r.1.1 r.1.2) (T87.mk r.2.1 r.2.2 r.2.3 r.2.4 r.2.5 r.2.6 r.2.7))).set (1 : Nat) (T128.mk (T46.mk (5 : Int) (5 : Int)) (T87.mk (0 : Int) (0 : Int) (List.replicate (32 : Nat) (0 : Int)) (0 : Int) [] (0 : Int) (List.replicate (8 : Nat) (0 : Int))))).set (2 : Nat) (T128.mk (T46.mk r_1.1.1 r_1.1.2) (T87.mk r_1.2.1 r_1.2.2 r_1.2.3 r_1.2.4 r_1.2.5 r_1.2.6 r_1.2.7)), ())).bind fun r_9 => bif r_9 == (3 : Int) then (F72 k ((((List.replicate (3 : Nat) (T128.mk (T46.mk (0 : Int) (0 : Int)) (T87.mk (0 : Int) (0 : Int) (List.replicate (32 : Nat) (0 : Int)) (0 : Int) [] (0 : Int) (List.replicate (8 : Nat) (0 : Int))))).set (0 : Nat) (T128.mk (T46.mk r.1.1 r.1.2) (T87.mk r.2.1 r.2.2 r.2.3 r.2.4 r.2.5 r.2.6 r.2.7))).set (1 : Nat) (T128.mk (T46.mk (5 : Int) (5 : Int)) (T87.mk (0 : Int) (0 : Int) (List.replicate (32 : Nat) (0 : Int)) (0 : Int) [] (0 : Int) (List.replicate (8 : Nat) (0 : Int))))).set (2 : Nat) (T128.mk (T46.mk r_1.1.1 r_1.1.2) (T87.mk r_1.2.1 r_1.2.2 r_1.2.3 r_1.2.4 r_1.2.5 r_1.2.6 r_1.2.7)), ())).bind fun r => some (r == (1 : Int)) else some false else some false else some false else some false else some false else some false else some false else some false else some false else none else some false else none else some false else some false else some false else none
noncomputable def sp64 : FSpec Ty := spec ag64 rs64 F64
theorem bo64 : Try.f64.body = some (bodyOf Try.f64) := by kernel_rfl
theorem nd64 : nodupB ((loopsIn (bodyOf Try.f64)).map firstRegion) = true := by kernel_rfl
theorem ok64 : FOK Try.prog tab 64 sp64 := spec_ok (keeps := kp64) tabOK fs70OK Try.func64 bo64 (by kernel_rfl) nd64 (LSOK.none) (F := F64) fun k x => by kernel_rfl
noncomputable def fs64 : Nat → Option (FSpec Ty) := addF 64 sp64 fs70
theorem fs64OK : SpecsOK Try.prog tab fs64 := fs70OK.add ok64 Try.call64
def ag95 : Args Ty (T128 × Unit) := V.arg (tab.den 129) (noArgs)
def rs95 : Res Ty tab (T128) true := V.oneRes (tab.den 129) (ent 129).ids (ent 129).plain (fun _ h => by cases h)
def kp95 : Nat → Keep := fun i => ⟨[], [], 0⟩
/-- "silt/siltkeep.Own" -/
def F95 (k : Nat) (x : T128 × Unit) : Option (T128) :=
  match x with
  | (a0, ()) => bif decide ((List.replicate (0 : Nat) (0 : Int)).length + a0.2.5.length ≤ roomMost) then some (T128.mk (T46.mk a0.1.1 a0.1.2) (T87.mk a0.2.1 a0.2.2 a0.2.3 a0.2.4 (List.replicate (0 : Nat) (0 : Int) ++ a0.2.5) a0.2.6 a0.2.7)) else none
noncomputable def sp95 : FSpec Ty := spec ag95 rs95 F95
theorem bo95 : Try.f95.body = some (bodyOf Try.f95) := by kernel_rfl
theorem nd95 : nodupB ((loopsIn (bodyOf Try.f95)).map firstRegion) = true := by kernel_rfl
theorem ok95 : FOK Try.prog tab 95 sp95 := spec_ok (keeps := kp95) tabOK fs64OK Try.func95 bo95 (by kernel_rfl) nd95 (LSOK.none) (F := F95) fun k x => by kernel_rfl
noncomputable def fs95 : Nat → Option (FSpec Ty) := addF 95 sp95 fs64
theorem fs95OK : SpecsOK Try.prog tab fs95 := fs64OK.add ok95 Try.call95
def ag65 : Args Ty ((List T128) × Unit) := V.arg (tab.den 106) (noArgs)
def rs65 : Res Ty tab ((List T128)) true := V.oneRes (tab.den 106) (ent 106).ids (ent 106).plain (fun _ h => by cases h)
def of65_3 : List T128 × Int × List T128 → NSt Ty := fun x => ⟨[.slice 129 (x.1), .row 100000, .int .i64 (x.2.1)], [.row 129 (x.2.2)]⟩
def ab65_3 : (n : NSt Ty) → Option {x : List T128 × Int × List T128 // of65_3 x = n}
  | ⟨[.slice 129 v0, .row 100000, .int .i64 v1], [.row 129 v2]⟩ => some ⟨(v0, v1, v2), rfl⟩
  | _ => none
def oe65_3 : List T128 → Ex := fun _ => .exit 0
def on65_3 : List T128 → NSt Ty := fun x => ⟨[.row 100000], [.row 129 (x)]⟩
def oa65_3 : (e : Ex) → (n : NSt Ty) → Option {y : List T128 // oe65_3 y = e ∧ on65_3 y = n}
  | .exit 0, ⟨[.row 100000], [.row 129 v0]⟩ => some ⟨v0, rfl, rfl⟩
  | _, _ => none
/-- a round of the loop 3 of function 65 -/
def R65_3 (k : Nat) (again : List T128 × Int × List T128 → Option (List T128)) (x : List T128 × Int × List T128) : Option (List T128) :=
  match x with
  | (v0, v1, v2) => bif decide (v1 < (↑v0.length : Int)) then bif inRange v1 v0.length then (F95 k (T128.mk (T46.mk (v0.getD v1.toNat (T128.mk (T46.mk (0 : Int) (0 : Int)) (T87.mk (0 : Int) (0 : Int) (List.replicate (32 : Nat) (0 : Int)) (0 : Int) [] (0 : Int) (List.replicate (8 : Nat) (0 : Int))))).1.1 (v0.getD v1.toNat (T128.mk (T46.mk (0 : Int) (0 : Int)) (T87.mk (0 : Int) (0 : Int) (List.replicate (32 : Nat) (0 : Int)) (0 : Int) [] (0 : Int) (List.replicate (8 : Nat) (0 : Int))))).1.2) (T87.mk (v0.getD v1.toNat (T128.mk (T46.mk (0 : Int) (0 : Int)) (T87.mk (0 : Int) (0 : Int) (List.replicate (32 : Nat) (0 : Int)) (0 : Int) [] (0 : Int) (List.replicate (8 : Nat) (0 : Int))))).2.1 (v0.getD v1.toNat (T128.mk (T46.mk (0 : Int) (0 : Int)) (T87.mk (0 : Int) (0 : Int) (List.replicate (32 : Nat) (0 : Int)) (0 : Int) [] (0 : Int) (List.replicate (8 : Nat) (0 : Int))))).2.2 (v0.getD v1.toNat (T128.mk (T46.mk (0 : Int) (0 : Int)) (T87.mk (0 : Int) (0 : Int) (List.replicate (32 : Nat) (0 : Int)) (0 : Int) [] (0 : Int) (List.replicate (8 : Nat) (0 : Int))))).2.3 (v0.getD v1.toNat (T128.mk (T46.mk (0 : Int) (0 : Int)) (T87.mk (0 : Int) (0 : Int) (List.replicate (32 : Nat) (0 : Int)) (0 : Int) [] (0 : Int) (List.replicate (8 : Nat) (0 : Int))))).2.4 (v0.getD v1.toNat (T128.mk (T46.mk (0 : Int) (0 : Int)) (T87.mk (0 : Int) (0 : Int) (List.replicate (32 : Nat) (0 : Int)) (0 : Int) [] (0 : Int) (List.replicate (8 : Nat) (0 : Int))))).2.5 (v0.getD v1.toNat (T128.mk (T46.mk (0 : Int) (0 : Int)) (T87.mk (0 : Int) (0 : Int) (List.replicate (32 : Nat) (0 : Int)) (0 : Int) [] (0 : Int) (List.replicate (8 : Nat) (0 : Int))))).2.6 (v0.getD v1.toNat (T128.mk (T46.mk (0 : Int) (0 : Int)) (T87.mk (0 : Int) (0 : Int) (List.replicate (32 : Nat) (0 : Int)) (0 : Int) [] (0 : Int) (List.replicate (8 : Nat) (0 : Int))))).2.7), ())).bind fun r => bif decide (v2.length + ((List.replicate (1 : Nat) (T128.mk (T46.mk (0 : Int) (0 : Int)) (T87.mk (0 : Int) (0 : Int) (List.replicate (32 : Nat) (0 : Int)) (0 : Int) [] (0 : Int) (List.replicate (8 : Nat) (0 : Int))))).set (0 : Nat) (T128.mk (T46.mk r.1.1 r.1.2) (T87.mk r.2.1 r.2.2 r.2.3 r.2.4 r.2.5 r.2.6 r.2.7))).length ≤ roomMost) then again (v0, IntKind.i64.wrap (v1 + (1 : Int)), v2 ++ (List.replicate (1 : Nat) (T128.mk (T46.mk (0 : Int) (0 : Int)) (T87.mk (0 : Int) (0 : Int) (List.replicate (32 : Nat) (0 : Int)) (0 : Int) [] (0 : Int) (List.replicate (8 : Nat) (0 : Int))))).set (0 : Nat) (T128.mk (T46.mk r.1.1 r.1.2) (T87.mk r.2.1 r.2.2 r.2.3 r.2.4 r.2.5 r.2.6 r.2.7))) else none else none else some v2
def L65_3 (k n : Nat) (x : List T128 × Int × List T128) : Option (List T128) := iterR (R65_3 k) n x
noncomputable def ls65_3 : Nat → Option (LSum Ty) := addL 3 (LSum.of of65_3 ab65_3 L65_3 oe65_3 on65_3) noL
def kp65 : Nat → Keep := fun i => cond (i == 3) ⟨[0, 3, 4], [3], 0⟩ (⟨[], [], 0⟩)
/-- "silt/siltlaw13.Own" -/
def F65 (k : Nat) (x : (List T128) × Unit) : Option ((List T128)) :=
  match x with
  | (a0, ()) => (L65_3 k k (a0, (0 : Int), [])).bind fun r => some r
noncomputable def sp65 : FSpec Ty := spec ag65 rs65 F65
theorem bo65 : Try.f65.body = some (bodyOf Try.f65) := by kernel_rfl
theorem nd65 : nodupB ((loopsIn (bodyOf Try.f65)).map firstRegion) = true := by kernel_rfl
theorem lo65_3 : LSOK fs95 kp65 tab Try.f65 ls65_3 := lsum_ok bo65 nd65 (LSOK.none) oa65_3 (R := R65_3) fun k again x => by kernel_rfl
theorem ok65 : FOK Try.prog tab 65 sp65 := spec_ok (keeps := kp65) tabOK fs95OK Try.func65 bo65 (by kernel_rfl) nd65 (lo65_3) (F := F65) fun k x => by kernel_rfl
noncomputable def fs65 : Nat → Option (FSpec Ty) := addF 65 sp65 fs95
theorem fs65OK : SpecsOK Try.prog tab fs65 := fs95OK.add ok65 Try.call65
def ag80 : Args Ty (T46 × Unit) := V.arg (tab.den 47) (noArgs)
def rs80 : Res Ty tab (Bool) false := V.oneRes (tab.den 4) (ent 4).ids (ent 4).plain (fun x _ => (ent 4).flat x rfl)
def kp80 : Nat → Keep := fun i => ⟨[], [], 0⟩
/-- "silt/siltref05.Mark" -/
def F80 (k : Nat) (x : T46 × Unit) : Option (Bool) :=
  match x with
  | (a0, ()) => bif decide (a0.1 < (1 : Int)) then some false else bif decide (a0.1 > (5 : Int)) then some false else bif decide (a0.2 < (0 : Int)) then some false else bif decide (a0.2 < (8 : Int)) then some true else bif a0.1 != (3 : Int) then some (decide (a0.2 < (64 : Int))) else some false
noncomputable def sp80 : FSpec Ty := spec ag80 rs80 F80
theorem bo80 : Try.f80.body = some (bodyOf Try.f80) := by kernel_rfl
theorem nd80 : nodupB ((loopsIn (bodyOf Try.f80)).map firstRegion) = true := by kernel_rfl
theorem ok80 : FOK Try.prog tab 80 sp80 := spec_ok (keeps := kp80) tabOK fs65OK Try.func80 bo80 (by kernel_rfl) nd80 (LSOK.none) (F := F80) fun k x => by kernel_rfl
noncomputable def fs80 : Nat → Option (FSpec Ty) := addF 80 sp80 fs65
theorem fs80OK : SpecsOK Try.prog tab fs80 := fs65OK.add ok80 Try.call80
def ag94 : Args Ty (Int × Unit) := V.arg (tab.den 3) (noArgs)
def rs94 : Res Ty tab (Bool) false := V.oneRes (tab.den 4) (ent 4).ids (ent 4).plain (fun x _ => (ent 4).flat x rfl)
def kp94 : Nat → Keep := fun i => ⟨[], [], 0⟩
/-- "silt/siltref04.Head" -/
def F94 (k : Nat) (x : Int × Unit) : Option (Bool) :=
  match x with
  | (a0, ()) => bif a0 == (0 : Int) then some true else bif a0 == (1 : Int) then some true else bif decide (a0 ≥ (4 : Int)) then some (decide (a0 ≤ (1023 : Int))) else some false
noncomputable def sp94 : FSpec Ty := spec ag94 rs94 F94
theorem bo94 : Try.f94.body = some (bodyOf Try.f94) := by kernel_rfl
theorem nd94 : nodupB ((loopsIn (bodyOf Try.f94)).map firstRegion) = true := by kernel_rfl
theorem ok94 : FOK Try.prog tab 94 sp94 := spec_ok (keeps := kp94) tabOK fs80OK Try.func94 bo94 (by kernel_rfl) nd94 (LSOK.none) (F := F94) fun k x => by kernel_rfl
noncomputable def fs94 : Nat → Option (FSpec Ty) := addF 94 sp94 fs80
theorem fs94OK : SpecsOK Try.prog tab fs94 := fs80OK.add ok94 Try.call94
def ag60 : Args Ty (T87 × Unit) := V.arg (tab.den 88) (noArgs)
def rs60 : Res Ty tab (Bool) false := V.oneRes (tab.den 4) (ent 4).ids (ent 4).plain (fun x _ => (ent 4).flat x rfl)
def of60_10 : Bool × Int × Int × Int × List Int × Int × List Int × Int × List Int → NSt Ty := fun x => ⟨[.ptr 100000 [], .bool (x.1), .int .i64 (x.2.1)], [.var (.cons (.int .i64 (x.2.2.1)) (.cons (.int .i64 (x.2.2.2.1)) (.cons (.arr 5 32 (x.2.2.2.2.1)) (.cons (.int .i64 (x.2.2.2.2.2.1)) (.cons (.slice 5 (x.2.2.2.2.2.2.1)) (.cons (.int .i64 (x.2.2.2.2.2.2.2.1)) (.cons (.arr 3 8 (x.2.2.2.2.2.2.2.2)) (.nil))))))))]⟩
def ab60_10 : (n : NSt Ty) → Option {x : Bool × Int × Int × Int × List Int × Int × List Int × Int × List Int // of60_10 x = n}
  | ⟨[.ptr 100000 [], .bool v0, .int .i64 v1], [.var (.cons (.int .i64 v2) (.cons (.int .i64 v3) (.cons (.arr 5 32 v4) (.cons (.int .i64 v5) (.cons (.slice 5 v6) (.cons (.int .i64 v7) (.cons (.arr 3 8 v8) (.nil))))))))]⟩ => some ⟨(v0, v1, v2, v3, v4, v5, v6, v7, v8), rfl⟩
  | _ => none
def on60_10a : Bool × Bool × Int × Int × List Int × Int × List Int × Int × List Int → NSt Ty := fun x => ⟨[.ptr 100000 [], .bool (x.1), .bool (x.2.1)], [.var (.cons (.int .i64 (x.2.2.1)) (.cons (.int .i64 (x.2.2.2.1)) (.cons (.arr 5 32 (x.2.2.2.2.1)) (.cons (.int .i64 (x.2.2.2.2.2.1)) (.cons (.slice 5 (x.2.2.2.2.2.2.1)) (.cons (.int .i64 (x.2.2.2.2.2.2.2.1)) (.cons (.arr 3 8 (x.2.2.2.2.2.2.2.2)) (.nil))))))))]⟩
def on60_10b : Bool × Int × Int × List Int × Int × List Int × Int × List Int → NSt Ty := fun x => ⟨[.ptr 100000 [], .undef, .bool (x.1)], [.var (.cons (.int .i64 (x.2.1)) (.cons (.int .i64 (x.2.2.1)) (.cons (.arr 5 32 (x.2.2.2.1)) (.cons (.int .i64 (x.2.2.2.2.1)) (.cons (.slice 5 (x.2.2.2.2.2.1)) (.cons (.int .i64 (x.2.2.2.2.2.2.1)) (.cons (.arr 3 8 (x.2.2.2.2.2.2.2)) (.nil))))))))]⟩
def oa60_10 : (e : Ex) → (n : NSt Ty) → Option {y : (Bool × Bool × Int × Int × List Int × Int × List Int × Int × List Int) ⊕ (Bool × Int × Int × List Int × Int × List Int × Int × List Int) // oe2 .ret (.exit 1) y = e ∧ on2 on60_10a on60_10b y = n}
  | .ret, ⟨[.ptr 100000 [], .bool v0, .bool v1], [.var (.cons (.int .i64 v2) (.cons (.int .i64 v3) (.cons (.arr 5 32 v4) (.cons (.int .i64 v5) (.cons (.slice 5 v6) (.cons (.int .i64 v7) (.cons (.arr 3 8 v8) (.nil))))))))]⟩ => some ⟨.inl (v0, v1, v2, v3, v4, v5, v6, v7, v8), rfl, rfl⟩
  | .exit 1, ⟨[.ptr 100000 [], .undef, .bool v0], [.var (.cons (.int .i64 v1) (.cons (.int .i64 v2) (.cons (.arr 5 32 v3) (.cons (.int .i64 v4) (.cons (.slice 5 v5) (.cons (.int .i64 v6) (.cons (.arr 3 8 v7) (.nil))))))))]⟩ => some ⟨.inr (v0, v1, v2, v3, v4, v5, v6, v7), rfl, rfl⟩
  | _, _ => none
/-- a round of the loop 10 of function 60 -/
def R60_10 (k : Nat) (again : Bool × Int × Int × Int × List Int × Int × List Int × Int × List Int → Option ((Bool × Bool × Int × Int × List Int × Int × List Int × Int × List Int) ⊕ (Bool × Int × Int × List Int × Int × List Int × Int × List Int))) (x : Bool × Int × Int × Int × List Int × Int × List Int × Int × List Int) : Option ((Bool × Bool × Int × Int × List Int × Int × List Int × Int × List Int) ⊕ (Bool × Int × Int × List Int × Int × List Int × Int × List Int)) :=
  match x with
  | (v0, v1, v2, v3, v4, v5, v6, v7, v8) => bif decide (v1 < (8 : Int)) then bif inRange v1 (8 : Nat) then (F94 k (v8.getD v1.toNat (0 : Int), ())).bind fun r => bif !r then some (Sum.inl (false, v0, v2, v3, v4, v5, v6, v7, v8)) else again (v0, IntKind.i64.wrap (v1 + (1 : Int)), v2, v3, v4, v5, v6, v7, v8) else none else some (Sum.inr (v0, v2, v3, v4, v5, v6, v7, v8))
def L60_10 (k n : Nat) (x : Bool × Int × Int × Int × List Int × Int × List Int × Int × List Int) : Option ((Bool × Bool × Int × Int × List Int × Int × List Int × Int × List Int) ⊕ (Bool × Int × Int × List Int × Int × List Int × Int × List Int)) := iterR (R60_10 k) n x
noncomputable def ls60_10 : Nat → Option (LSum Ty) := addL 10 (lsum2 of60_10 ab60_10 L60_10 .ret on60_10a (.exit 1) on60_10b) noL
def kp60 : Nat → Keep := fun i => cond (i == 10) ⟨[1, 3, 5], [1, 2, 3], 0⟩ (⟨[], [], 0⟩)
/-- "silt/siltref04.Good" -/
def F60 (k : Nat) (x : T87 × Unit) : Option (Bool) :=
  match x with
  | (a0, ()) => bif a0.4 == (0 : Int) then bif (↑a0.5.length : Int) == (0 : Int) then bif a0.1 == (1 : Int) then bif decide (a0.2 ≥ (0 : Int)) then bif decide (a0.2 < (64 : Int)) then bif a0.6 == (0 : Int) then some (decide (a0.7 = List.replicate (8 : Nat) (0 : Int))) else some false else some false else some false else bif a0.1 == (2 : Int) then bif decide (a0.2 ≥ (0 : Int)) then bif decide (a0.2 < (64 : Int)) then bif decide (a0.3 = List.replicate (32 : Nat) (0 : Int)) then bif decide (a0.7 = List.replicate (8 : Nat) (0 : Int)) then bif decide (a0.4 ≥ (0 : Int)) then bif decide (a0.4 < (32 : Int)) then bif decide ((↑a0.5.length : Int) ≥ (1 : Int)) then bif decide ((↑a0.5.length : Int) ≤ (16 : Int)) then bif decide ((↑a0.5.length : Int) ≤ IntKind.i64.wrap ((32 : Int) - a0.4)) then bif a0.6 != (0 : Int) then (F94 k (a0.6, ())).bind fun r => some r else some false else some false else some false else some false else some false else some false else some false else some false else some false else some false else bif a0.1 == (3 : Int) then (L60_10 k k (a0.6 == (0 : Int), (0 : Int), a0.1, a0.2, a0.3, a0.4, a0.5, a0.6, a0.7)).bind fun r => sumK r (fun a => some a.fst) fun b => bif decide (b.snd.snd.fst ≥ (0 : Int)) then bif decide (b.snd.snd.fst < (8 : Int)) then bif b.fst then some (decide (b.snd.snd.snd.fst = List.replicate (32 : Nat) (0 : Int))) else some false else some false else some false else some false else bif a0.1 == (1 : Int) then bif decide (a0.2 ≥ (0 : Int)) then bif decide (a0.2 < (64 : Int)) then some false else some false else some false else bif a0.1 == (2 : Int) then bif decide (a0.2 ≥ (0 : Int)) then bif decide (a0.2 < (64 : Int)) then bif decide (a0.3 = List.replicate (32 : Nat) (0 : Int)) then bif decide (a0.7 = List.replicate (8 : Nat) (0 : Int)) then bif decide (a0.4 ≥ (0 : Int)) then bif decide (a0.4 < (32 : Int)) then bif decide ((↑a0.5.length : Int) ≥ (1 : Int)) then bif decide ((↑a0.5.length : Int) ≤ (16 : Int)) then bif decide ((↑a0.5.length : Int) ≤ IntKind.i64.wrap ((32 : Int) - a0.4)) then bif a0.6 != (0 : Int) then (F94 k (a0.6, ())).bind fun r => some r else some false else some false else some false else some false else some false else some false else some false else some false else some false else some false else bif a0.1 == (3 : Int) then (L60_10 k k (false, (0 : Int), a0.1, a0.2, a0.3, a0.4, a0.5, a0.6, a0.7)).bind fun r => sumK r (fun a => some a.fst) fun b => bif decide (b.snd.snd.fst ≥ (0 : Int)) then bif decide (b.snd.snd.fst < (8 : Int)) then bif b.fst then some (decide (b.snd.snd.snd.fst = List.replicate (32 : Nat) (0 : Int))) else some false else some false else some false else some false else bif a0.1 == (1 : Int) then bif decide (a0.2 ≥ (0 : Int)) then bif decide (a0.2 < (64 : Int)) then some false else some false else some false else bif a0.1 == (2 : Int) then bif decide (a0.2 ≥ (0 : Int)) then bif decide (a0.2 < (64 : Int)) then bif decide (a0.3 = List.replicate (32 : Nat) (0 : Int)) then bif decide (a0.7 = List.replicate (8 : Nat) (0 : Int)) then bif decide (a0.4 ≥ (0 : Int)) then bif decide (a0.4 < (32 : Int)) then bif decide ((↑a0.5.length : Int) ≥ (1 : Int)) then bif decide ((↑a0.5.length : Int) ≤ (16 : Int)) then bif decide ((↑a0.5.length : Int) ≤ IntKind.i64.wrap ((32 : Int) - a0.4)) then bif a0.6 != (0 : Int) then (F94 k (a0.6, ())).bind fun r => some r else some false else some false else some false else some false else some false else some false else some false else some false else some false else some false else bif a0.1 == (3 : Int) then (L60_10 k k (false, (0 : Int), a0.1, a0.2, a0.3, a0.4, a0.5, a0.6, a0.7)).bind fun r => sumK r (fun a => some a.fst) fun b => bif decide (b.snd.snd.fst ≥ (0 : Int)) then bif decide (b.snd.snd.fst < (8 : Int)) then bif b.fst then some (decide (b.snd.snd.snd.fst = List.replicate (32 : Nat) (0 : Int))) else some false else some false else some false else some false
noncomputable def sp60 : FSpec Ty := spec ag60 rs60 F60
theorem bo60 : Try.f60.body = some (bodyOf Try.f60) := by kernel_rfl
theorem nd60 : nodupB ((loopsIn (bodyOf Try.f60)).map firstRegion) = true := by kernel_rfl
theorem lo60_10 : LSOK fs94 kp60 tab Try.f60 ls60_10 := lsum2_ok bo60 nd60 (LSOK.none) oa60_10 (R := R60_10) fun k again x => by kernel_rfl
theorem ok60 : FOK Try.prog tab 60 sp60 := spec_ok (keeps := kp60) tabOK fs94OK Try.func60 bo60 (by kernel_rfl) nd60 (lo60_10) (F := F60) fun k x => by kernel_rfl
noncomputable def fs60 : Nat → Option (FSpec Ty) := addF 60 sp60 fs94
theorem fs60OK : SpecsOK Try.prog tab fs60 := fs94OK.add ok60 Try.call60
def ag98 : Args Ty ((List T128) × Unit) := V.arg (tab.den 106) (noArgs)
def rs98 : Res Ty tab (Bool) false := V.oneRes (tab.den 4) (ent 4).ids (ent 4).plain (fun x _ => (ent 4).flat x rfl)
def of98_16 : List T128 × Int × Int × Int × Int × Int × Int × List Int × Int × List Int × Int × List Int → NSt Ty := fun x => ⟨[.slice 129 (x.1), .int .i64 (x.2.1), .ptr 100000 [], .int .i64 (x.2.2.1)], [.var (.cons (.cons (.int .i64 (x.2.2.2.1)) (.cons (.int .i64 (x.2.2.2.2.1)) (.nil))) (.cons (.cons (.int .i64 (x.2.2.2.2.2.1)) (.cons (.int .i64 (x.2.2.2.2.2.2.1)) (.cons (.arr 5 32 (x.2.2.2.2.2.2.2.1)) (.cons (.int .i64 (x.2.2.2.2.2.2.2.2.1)) (.cons (.slice 5 (x.2.2.2.2.2.2.2.2.2.1)) (.cons (.int .i64 (x.2.2.2.2.2.2.2.2.2.2.1)) (.cons (.arr 3 8 (x.2.2.2.2.2.2.2.2.2.2.2)) (.nil)))))))) (.nil)))]⟩
def ab98_16 : (n : NSt Ty) → Option {x : List T128 × Int × Int × Int × Int × Int × Int × List Int × Int × List Int × Int × List Int // of98_16 x = n}
  | ⟨[.slice 129 v0, .int .i64 v1, .ptr 100000 [], .int .i64 v2], [.var (.cons (.cons (.int .i64 v3) (.cons (.int .i64 v4) (.nil))) (.cons (.cons (.int .i64 v5) (.cons (.int .i64 v6) (.cons (.arr 5 32 v7) (.cons (.int .i64 v8) (.cons (.slice 5 v9) (.cons (.int .i64 v10) (.cons (.arr 3 8 v11) (.nil)))))))) (.nil)))]⟩ => some ⟨(v0, v1, v2, v3, v4, v5, v6, v7, v8, v9, v10, v11), rfl⟩
  | _ => none
def on98_16a : List T128 × Bool × Int → NSt Ty := fun x => ⟨[.slice 129 (x.1), .bool (x.2.1), .int .i64 (x.2.2)], []⟩
def on98_16b : List T128 × Int → NSt Ty := fun x => ⟨[.slice 129 (x.1), .undef, .int .i64 (x.2)], []⟩
def oa98_16 : (e : Ex) → (n : NSt Ty) → Option {y : (List T128 × Bool × Int) ⊕ (List T128 × Int) // oe2 .ret (.exit 2) y = e ∧ on2 on98_16a on98_16b y = n}
  | .ret, ⟨[.slice 129 v0, .bool v1, .int .i64 v2], []⟩ => some ⟨.inl (v0, v1, v2), rfl, rfl⟩
  | .exit 2, ⟨[.slice 129 v0, .undef, .int .i64 v1], []⟩ => some ⟨.inr (v0, v1), rfl, rfl⟩
  | _, _ => none
/-- a round of the loop 16 of function 98 -/
def R98_16 (k : Nat) (again : List T128 × Int × Int × Int × Int × Int × Int × List Int × Int × List Int × Int × List Int → Option ((List T128 × Bool × Int) ⊕ (List T128 × Int))) (x : List T128 × Int × Int × Int × Int × Int × Int × List Int × Int × List Int × Int × List Int) : Option ((List T128 × Bool × Int) ⊕ (List T128 × Int)) :=
  match x with
  | (v0, v1, v2, v3, v4, v5, v6, v7, v8, v9, v10, v11) => bif decide (v2 < v1) then bif inRange v2 v0.length then bif (v0.getD v2.toNat (T128.mk (T46.mk (0 : Int) (0 : Int)) (T87.mk (0 : Int) (0 : Int) (List.replicate (32 : Nat) (0 : Int)) (0 : Int) [] (0 : Int) (List.replicate (8 : Nat) (0 : Int))))).1.2 == v4 then bif inRange v2 v0.length then bif ((v0.getD v2.toNat (T128.mk (T46.mk (0 : Int) (0 : Int)) (T87.mk (0 : Int) (0 : Int) (List.replicate (32 : Nat) (0 : Int)) (0 : Int) [] (0 : Int) (List.replicate (8 : Nat) (0 : Int))))).1.1 == (3 : Int)) == (v3 == (3 : Int)) then some (Sum.inl (v0, false, v1)) else again (v0, v1, IntKind.i64.wrap (v2 + (1 : Int)), v3, v4, v5, v6, v7, v8, v9, v10, v11) else none else again (v0, v1, IntKind.i64.wrap (v2 + (1 : Int)), v3, v4, v5, v6, v7, v8, v9, v10, v11) else none else some (Sum.inr (v0, v1))
def L98_16 (k n : Nat) (x : List T128 × Int × Int × Int × Int × Int × Int × List Int × Int × List Int × Int × List Int) : Option ((List T128 × Bool × Int) ⊕ (List T128 × Int)) := iterR (R98_16 k) n x
noncomputable def ls98_16 : Nat → Option (LSum Ty) := addL 16 (lsum2 of98_16 ab98_16 L98_16 .ret on98_16a (.exit 2) on98_16b) noL
def of98_4 : List T128 × Int → NSt Ty := fun x => ⟨[.slice 129 (x.1), .int .i64 (x.2)], []⟩
def ab98_4 : (n : NSt Ty) → Option {x : List T128 × Int // of98_4 x = n}
  | ⟨[.slice 129 v0, .int .i64 v1], []⟩ => some ⟨(v0, v1), rfl⟩
  | _ => none
def on98_4a : Bool → NSt Ty := fun x => ⟨[.bool (x)], []⟩
def on98_4b : Unit → NSt Ty := fun x => ⟨[.undef], []⟩
def oa98_4 : (e : Ex) → (n : NSt Ty) → Option {y : (Bool) ⊕ (Unit) // oe2 .ret (.exit 0) y = e ∧ on2 on98_4a on98_4b y = n}
  | .ret, ⟨[.bool v0], []⟩ => some ⟨.inl v0, rfl, rfl⟩
  | .exit 0, ⟨[.undef], []⟩ => some ⟨.inr (), rfl, rfl⟩
  | _, _ => none
/-- a round of the loop 4 of function 98 -/
def R98_4 (k : Nat) (again : List T128 × Int → Option ((Bool) ⊕ (Unit))) (x : List T128 × Int) : Option ((Bool) ⊕ (Unit)) :=
  match x with
  | (v0, v1) => bif decide (v1 < (↑v0.length : Int)) then bif inRange v1 v0.length then (F80 k (T46.mk (v0.getD v1.toNat (T128.mk (T46.mk (0 : Int) (0 : Int)) (T87.mk (0 : Int) (0 : Int) (List.replicate (32 : Nat) (0 : Int)) (0 : Int) [] (0 : Int) (List.replicate (8 : Nat) (0 : Int))))).1.1 (v0.getD v1.toNat (T128.mk (T46.mk (0 : Int) (0 : Int)) (T87.mk (0 : Int) (0 : Int) (List.replicate (32 : Nat) (0 : Int)) (0 : Int) [] (0 : Int) (List.replicate (8 : Nat) (0 : Int))))).1.2, ())).bind fun r => bif !r then some (Sum.inl false) else bif decide ((v0.getD v1.toNat (T128.mk (T46.mk (0 : Int) (0 : Int)) (T87.mk (0 : Int) (0 : Int) (List.replicate (32 : Nat) (0 : Int)) (0 : Int) [] (0 : Int) (List.replicate (8 : Nat) (0 : Int))))).1.1 ≤ (3 : Int)) then (F60 k (T87.mk (v0.getD v1.toNat (T128.mk (T46.mk (0 : Int) (0 : Int)) (T87.mk (0 : Int) (0 : Int) (List.replicate (32 : Nat) (0 : Int)) (0 : Int) [] (0 : Int) (List.replicate (8 : Nat) (0 : Int))))).2.1 (v0.getD v1.toNat (T128.mk (T46.mk (0 : Int) (0 : Int)) (T87.mk (0 : Int) (0 : Int) (List.replicate (32 : Nat) (0 : Int)) (0 : Int) [] (0 : Int) (List.replicate (8 : Nat) (0 : Int))))).2.2 (v0.getD v1.toNat (T128.mk (T46.mk (0 : Int) (0 : Int)) (T87.mk (0 : Int) (0 : Int) (List.replicate (32 : Nat) (0 : Int)) (0 : Int) [] (0 : Int) (List.replicate (8 : Nat) (0 : Int))))).2.3 (v0.getD v1.toNat (T128.mk (T46.mk (0 : Int) (0 : Int)) (T87.mk (0 : Int) (0 : Int) (List.replicate (32 : Nat) (0 : Int)) (0 : Int) [] (0 : Int) (List.replicate (8 : Nat) (0 : Int))))).2.4 (v0.getD v1.toNat (T128.mk (T46.mk (0 : Int) (0 : Int)) (T87.mk (0 : Int) (0 : Int) (List.replicate (32 : Nat) (0 : Int)) (0 : Int) [] (0 : Int) (List.replicate (8 : Nat) (0 : Int))))).2.5 (v0.getD v1.toNat (T128.mk (T46.mk (0 : Int) (0 : Int)) (T87.mk (0 : Int) (0 : Int) (List.replicate (32 : Nat) (0 : Int)) (0 : Int) [] (0 : Int) (List.replicate (8 : Nat) (0 : Int))))).2.6 (v0.getD v1.toNat (T128.mk (T46.mk (0 : Int) (0 : Int)) (T87.mk (0 : Int) (0 : Int) (List.replicate (32 : Nat) (0 : Int)) (0 : Int) [] (0 : Int) (List.replicate (8 : Nat) (0 : Int))))).2.7, ())).bind fun r => bif !r then some (Sum.inl false) else bif (v0.getD v1.toNat (T128.mk (T46.mk (0 : Int) (0 : Int)) (T87.mk (0 : Int) (0 : Int) (List.replicate (32 : Nat) (0 : Int)) (0 : Int) [] (0 : Int) (List.replicate (8 : Nat) (0 : Int))))).2.1 != (v0.getD v1.toNat (T128.mk (T46.mk (0 : Int) (0 : Int)) (T87.mk (0 : Int) (0 : Int) (List.replicate (32 : Nat) (0 : Int)) (0 : Int) [] (0 : Int) (List.replicate (8 : Nat) (0 : Int))))).1.1 then some (Sum.inl false) else bif (v0.getD v1.toNat (T128.mk (T46.mk (0 : Int) (0 : Int)) (T87.mk (0 : Int) (0 : Int) (List.replicate (32 : Nat) (0 : Int)) (0 : Int) [] (0 : Int) (List.replicate (8 : Nat) (0 : Int))))).2.2 != (v0.getD v1.toNat (T128.mk (T46.mk (0 : Int) (0 : Int)) (T87.mk (0 : Int) (0 : Int) (List.replicate (32 : Nat) (0 : Int)) (0 : Int) [] (0 : Int) (List.replicate (8 : Nat) (0 : Int))))).1.2 then some (Sum.inl false) else (L98_16 k k (v0, v1, (0 : Int), (v0.getD v1.toNat (T128.mk (T46.mk (0 : Int) (0 : Int)) (T87.mk (0 : Int) (0 : Int) (List.replicate (32 : Nat) (0 : Int)) (0 : Int) [] (0 : Int) (List.replicate (8 : Nat) (0 : Int))))).1.1, (v0.getD v1.toNat (T128.mk (T46.mk (0 : Int) (0 : Int)) (T87.mk (0 : Int) (0 : Int) (List.replicate (32 : Nat) (0 : Int)) (0 : Int) [] (0 : Int) (List.replicate (8 : Nat) (0 : Int))))).1.2, (v0.getD v1.toNat (T128.mk (T46.mk (0 : Int) (0 : Int)) (T87.mk (0 : Int) (0 : Int) (List.replicate (32 : Nat) (0 : Int)) (0 : Int) [] (0 : Int) (List.replicate (8 : Nat) (0 : Int))))).2.1, (v0.getD v1.toNat (T128.mk (T46.mk (0 : Int) (0 : Int)) (T87.mk (0 : Int) (0 : Int) (List.replicate (32 : Nat) (0 : Int)) (0 : Int) [] (0 : Int) (List.replicate (8 : Nat) (0 : Int))))).2.2, (v0.getD v1.toNat (T128.mk (T46.mk (0 : Int) (0 : Int)) (T87.mk (0 : Int) (0 : Int) (List.replicate (32 : Nat) (0 : Int)) (0 : Int) [] (0 : Int) (List.replicate (8 : Nat) (0 : Int))))).2.3, (v0.getD v1.toNat (T128.mk (T46.mk (0 : Int) (0 : Int)) (T87.mk (0 : Int) (0 : Int) (List.replicate (32 : Nat) (0 : Int)) (0 : Int) [] (0 : Int) (List.replicate (8 : Nat) (0 : Int))))).2.4, (v0.getD v1.toNat (T128.mk (T46.mk (0 : Int) (0 : Int)) (T87.mk (0 : Int) (0 : Int) (List.replicate (32 : Nat) (0 : Int)) (0 : Int) [] (0 : Int) (List.replicate (8 : Nat) (0 : Int))))).2.5, (v0.getD v1.toNat (T128.mk (T46.mk (0 : Int) (0 : Int)) (T87.mk (0 : Int) (0 : Int) (List.replicate (32 : Nat) (0 : Int)) (0 : Int) [] (0 : Int) (List.replicate (8 : Nat) (0 : Int))))).2.6, (v0.getD v1.toNat (T128.mk (T46.mk (0 : Int) (0 : Int)) (T87.mk (0 : Int) (0 : Int) (List.replicate (32 : Nat) (0 : Int)) (0 : Int) [] (0 : Int) (List.replicate (8 : Nat) (0 : Int))))).2.7)).bind fun r => sumK r (fun a => some (Sum.inl a.snd.fst)) fun b => again (b.fst, IntKind.i64.wrap (b.snd + (1 : Int))) else bif (v0.getD v1.toNat (T128.mk (T46.mk (0 : Int) (0 : Int)) (T87.mk (0 : Int) (0 : Int) (List.replicate (32 : Nat) (0 : Int)) (0 : Int) [] (0 : Int) (List.replicate (8 : Nat) (0 : Int))))).2.1 != (0 : Int) then some (Sum.inl false) else bif (v0.getD v1.toNat (T128.mk (T46.mk (0 : Int) (0 : Int)) (T87.mk (0 : Int) (0 : Int) (List.replicate (32 : Nat) (0 : Int)) (0 : Int) [] (0 : Int) (List.replicate (8 : Nat) (0 : Int))))).2.2 != (0 : Int) then some (Sum.inl false) else bif (v0.getD v1.toNat (T128.mk (T46.mk (0 : Int) (0 : Int)) (T87.mk (0 : Int) (0 : Int) (List.replicate (32 : Nat) (0 : Int)) (0 : Int) [] (0 : Int) (List.replicate (8 : Nat) (0 : Int))))).2.4 != (0 : Int) then some (Sum.inl false) else bif (v0.getD v1.toNat (T128.mk (T46.mk (0 : Int) (0 : Int)) (T87.mk (0 : Int) (0 : Int) (List.replicate (32 : Nat) (0 : Int)) (0 : Int) [] (0 : Int) (List.replicate (8 : Nat) (0 : Int))))).2.6 != (0 : Int) then some (Sum.inl false) else bif (↑(v0.getD v1.toNat (T128.mk (T46.mk (0 : Int) (0 : Int)) (T87.mk (0 : Int) (0 : Int) (List.replicate (32 : Nat) (0 : Int)) (0 : Int) [] (0 : Int) (List.replicate (8 : Nat) (0 : Int))))).2.5.length : Int) != (0 : Int) then some (Sum.inl false) else bif !decide ((v0.getD v1.toNat (T128.mk (T46.mk (0 : Int) (0 : Int)) (T87.mk (0 : Int) (0 : Int) (List.replicate (32 : Nat) (0 : Int)) (0 : Int) [] (0 : Int) (List.replicate (8 : Nat) (0 : Int))))).2.3 = List.replicate (32 : Nat) (0 : Int)) then some (Sum.inl false) else bif !decide ((v0.getD v1.toNat (T128.mk (T46.mk (0 : Int) (0 : Int)) (T87.mk (0 : Int) (0 : Int) (List.replicate (32 : Nat) (0 : Int)) (0 : Int) [] (0 : Int) (List.replicate (8 : Nat) (0 : Int))))).2.7 = List.replicate (8 : Nat) (0 : Int)) then some (Sum.inl false) else (L98_16 k k (v0, v1, (0 : Int), (v0.getD v1.toNat (T128.mk (T46.mk (0 : Int) (0 : Int)) (T87.mk (0 : Int) (0 : Int) (List.replicate (32 : Nat) (0 : Int)) (0 : Int) [] (0 : Int) (List.replicate (8 : Nat) (0 : Int))))).1.1, (v0.getD v1.toNat (T128.mk (T46.mk (0 : Int) (0 : Int)) (T87.mk (0 : Int) (0 : Int) (List.replicate (32 : Nat) (0 : Int)) (0 : Int) [] (0 : Int) (List.replicate (8 : Nat) (0 : Int))))).1.2, (v0.getD v1.toNat (T128.mk (T46.mk (0 : Int) (0 : Int)) (T87.mk (0 : Int) (0 : Int) (List.replicate (32 : Nat) (0 : Int)) (0 : Int) [] (0 : Int) (List.replicate (8 : Nat) (0 : Int))))).2.1, (v0.getD v1.toNat (T128.mk (T46.mk (0 : Int) (0 : Int)) (T87.mk (0 : Int) (0 : Int) (List.replicate (32 : Nat) (0 : Int)) (0 : Int) [] (0 : Int) (List.replicate (8 : Nat) (0 : Int))))).2.2, (v0.getD v1.toNat (T128.mk (T46.mk (0 : Int) (0 : Int)) (T87.mk (0 : Int) (0 : Int) (List.replicate (32 : Nat) (0 : Int)) (0 : Int) [] (0 : Int) (List.replicate (8 : Nat) (0 : Int))))).2.3, (v0.getD v1.toNat (T128.mk (T46.mk (0 : Int) (0 : Int)) (T87.mk (0 : Int) (0 : Int) (List.replicate (32 : Nat) (0 : Int)) (0 : Int) [] (0 : Int) (List.replicate (8 : Nat) (0 : Int))))).2.4, (v0.getD v1.toNat (T128.mk (T46.mk (0 : Int) (0 : Int)) (T87.mk (0 : Int) (0 : Int) (List.replicate (32 : Nat) (0 : Int)) (0 : Int) [] (0 : Int) (List.replicate (8 : Nat) (0 : Int))))).2.5, (v0.getD v1.toNat (T128.mk (T46.mk (0 : Int) (0 : Int)) (T87.mk (0 : Int) (0 : Int) (List.replicate (32 : Nat) (0 : Int)) (0 : Int) [] (0 : Int) (List.replicate (8 : Nat) (0 : Int))))).2.6, (v0.getD v1.toNat (T128.mk (T46.mk (0 : Int) (0 : Int)) (T87.mk (0 : Int) (0 : Int) (List.replicate (32 : Nat) (0 : Int)) (0 : Int) [] (0 : Int) (List.replicate (8 : Nat) (0 : Int))))).2.7)).bind fun r => sumK r (fun a => some (Sum.inl a.snd.fst)) fun b => again (b.fst, IntKind.i64.wrap (b.snd + (1 : Int))) else none else some (Sum.inr ())
def L98_4 (k n : Nat) (x : List T128 × Int) : Option ((Bool) ⊕ (Unit)) := iterR (R98_4 k) n x
noncomputable def ls98_4 : Nat → Option (LSum Ty) := addL 4 (lsum2 of98_4 ab98_4 L98_4 .ret on98_4a (.exit 0) on98_4b) ls98_16
def kp98 : Nat → Keep := fun i => cond (i == 4) ⟨[0, 3], [2], 0⟩ (cond (i == 16) ⟨[0, 3, 4, 6], [0, 2, 3], 0⟩ (⟨[], [], 0⟩))
/-- "silt/siltref13.Good" -/
def F98 (k : Nat) (x : (List T128) × Unit) : Option (Bool) :=
  match x with
  | (a0, ()) => bif decide ((↑a0.length : Int) < (1 : Int)) then some false else bif decide ((↑a0.length : Int) > (64 : Int)) then some false else (L98_4 k k (a0, (0 : Int))).bind fun r => sumK r (fun a => some a) fun b => some true
noncomputable def sp98 : FSpec Ty := spec ag98 rs98 F98
theorem bo98 : Try.f98.body = some (bodyOf Try.f98) := by kernel_rfl
theorem nd98 : nodupB ((loopsIn (bodyOf Try.f98)).map firstRegion) = true := by kernel_rfl
theorem lo98_16 : LSOK fs60 kp98 tab Try.f98 ls98_16 := lsum2_ok bo98 nd98 (LSOK.none) oa98_16 (R := R98_16) fun k again x => by kernel_rfl
theorem lo98_4 : LSOK fs60 kp98 tab Try.f98 ls98_4 := lsum2_ok bo98 nd98 (lo98_16) oa98_4 (R := R98_4) fun k again x => by kernel_rfl
theorem ok98 : FOK Try.prog tab 98 sp98 := spec_ok (keeps := kp98) tabOK fs60OK Try.func98 bo98 (by kernel_rfl) nd98 (lo98_4) (F := F98) fun k x => by kernel_rfl
noncomputable def fs98 : Nat → Option (FSpec Ty) := addF 98 sp98 fs60
theorem fs98OK : SpecsOK Try.prog tab fs98 := fs60OK.add ok98 Try.call98
def ag79 : Args Ty (Int × Int × Unit) := V.arg (tab.den 22) (V.arg (tab.den 3) (noArgs))
def rs79 : Res Ty tab ((List Int)) true := V.oneRes (tab.den 58) (ent 58).ids (ent 58).plain (fun _ h => by cases h)
def of79_3 : Int × Int × Int × List Int → NSt Ty := fun x => ⟨[.int .u32 (x.1), .int .i64 (x.2.1), .row 100000, .int .i64 (x.2.2.1)], [.row 5 (x.2.2.2)]⟩
def ab79_3 : (n : NSt Ty) → Option {x : Int × Int × Int × List Int // of79_3 x = n}
  | ⟨[.int .u32 v0, .int .i64 v1, .row 100000, .int .i64 v2], [.row 5 v3]⟩ => some ⟨(v0, v1, v2, v3), rfl⟩
  | _ => none
def oe79_3 : List Int → Ex := fun _ => .exit 0
def on79_3 : List Int → NSt Ty := fun x => ⟨[.row 100000], [.row 5 (x)]⟩
def oa79_3 : (e : Ex) → (n : NSt Ty) → Option {y : List Int // oe79_3 y = e ∧ on79_3 y = n}
  | .exit 0, ⟨[.row 100000], [.row 5 v0]⟩ => some ⟨v0, rfl, rfl⟩
  | _, _ => none
/-- a round of the loop 3 of function 79 -/
def R79_3 (k : Nat) (again : Int × Int × Int × List Int → Option (List Int)) (x : Int × Int × Int × List Int) : Option (List Int) :=
  match x with
  | (v0, v1, v2, v3) => bif decide (v2 < v1) then bif decide ((0 : Int) ≤ IntKind.u64.wrap (IntKind.i64.wrap ((8 : Int) * v2))) then bif decide (v3.length + ((List.replicate (1 : Nat) (0 : Int)).set (0 : Nat) (IntKind.u8.wrap (v0.fdiv ((2 : Int) ^ min (IntKind.u64.wrap (IntKind.i64.wrap ((8 : Int) * v2))).toNat IntKind.u32.bits)))).length ≤ roomMost) then again (v0, v1, IntKind.i64.wrap (v2 + (1 : Int)), v3 ++ (List.replicate (1 : Nat) (0 : Int)).set (0 : Nat) (IntKind.u8.wrap (v0.fdiv ((2 : Int) ^ min (IntKind.u64.wrap (IntKind.i64.wrap ((8 : Int) * v2))).toNat IntKind.u32.bits)))) else none else none else some v3
def L79_3 (k n : Nat) (x : Int × Int × Int × List Int) : Option (List Int) := iterR (R79_3 k) n x
noncomputable def ls79_3 : Nat → Option (LSum Ty) := addL 3 (LSum.of of79_3 ab79_3 L79_3 oe79_3 on79_3) noL
def kp79 : Nat → Keep := fun i => cond (i == 3) ⟨[0, 1, 5, 6], [5], 0⟩ (⟨[], [], 0⟩)
/-- "silt/siltref04.Put" -/
def F79 (k : Nat) (x : Int × Int × Unit) : Option ((List Int)) :=
  match x with
  | (a0, a1, ()) => (L79_3 k k (a0, a1, (0 : Int), [])).bind fun r => some r
noncomputable def sp79 : FSpec Ty := spec ag79 rs79 F79
theorem bo79 : Try.f79.body = some (bodyOf Try.f79) := by kernel_rfl
theorem nd79 : nodupB ((loopsIn (bodyOf Try.f79)).map firstRegion) = true := by kernel_rfl
theorem lo79_3 : LSOK fs98 kp79 tab Try.f79 ls79_3 := lsum_ok bo79 nd79 (LSOK.none) oa79_3 (R := R79_3) fun k again x => by kernel_rfl
theorem ok79 : FOK Try.prog tab 79 sp79 := spec_ok (keeps := kp79) tabOK fs98OK Try.func79 bo79 (by kernel_rfl) nd79 (lo79_3) (F := F79) fun k x => by kernel_rfl
noncomputable def fs79 : Nat → Option (FSpec Ty) := addF 79 sp79 fs98
theorem fs79OK : SpecsOK Try.prog tab fs79 := fs98OK.add ok79 Try.call79
def ag81 : Args Ty ((List Int) × Unit) := V.arg (tab.den 58) (noArgs)
def rs81 : Res Ty tab ((List Int)) false := V.oneRes (tab.den 27) (ent 27).ids (ent 27).plain (fun x _ => (ent 27).flat x rfl)
def kp81 : Nat → Keep := fun i => ⟨[], [], 0⟩
/-- "silt/siltref04.Sector" -/
def F81 (k : Nat) (x : (List Int) × Unit) : Option ((List Int)) :=
  match x with
  | (a0, ()) => some (splice (List.replicate (64 : Nat) (0 : Int)) a0 (Int.toNat (0 : Int)) (min a0.length ((↑(64 : Nat) : Int) - (0 : Int)).toNat))
noncomputable def sp81 : FSpec Ty := spec ag81 rs81 F81
theorem bo81 : Try.f81.body = some (bodyOf Try.f81) := by kernel_rfl
theorem nd81 : nodupB ((loopsIn (bodyOf Try.f81)).map firstRegion) = true := by kernel_rfl
theorem ok81 : FOK Try.prog tab 81 sp81 := spec_ok (keeps := kp81) tabOK fs79OK Try.func81 bo81 (by kernel_rfl) nd81 (LSOK.none) (F := F81) fun k x => by kernel_rfl
noncomputable def fs81 : Nat → Option (FSpec Ty) := addF 81 sp81 fs79
theorem fs81OK : SpecsOK Try.prog tab fs81 := fs79OK.add ok81 Try.call81
def ag27 : Args Ty (T34 × Unit) := V.arg (tab.den 35) (noArgs)
def rs27 : Res Ty tab ((List Int) × Int × Unit) false := V.manyRes (V.part (tab.den 27) (ent 27).ids (ent 27).plain (fun x _ => (ent 27).flat x rfl) (V.part (tab.den 3) (ent 3).ids (ent 3).plain (fun x _ => (ent 3).flat x rfl) (noParts)))
def of27_8 : Int × Int × Bool × List T46 × Int × List Int × List Int → NSt Ty := fun x => ⟨[.ptr 100000 [], .ptr 100001 [], .row 100002, .int .i64 (x.1)], [.var (.cons (.int .u32 (x.2.1)) (.cons (.bool (x.2.2.1)) (.cons (.slice 47 (x.2.2.2.1)) (.cons (.int .i64 (x.2.2.2.2.1)) (.nil))))), .var (.arr 5 64 (x.2.2.2.2.2.1)), .row 5 (x.2.2.2.2.2.2)]⟩
def ab27_8 : (n : NSt Ty) → Option {x : Int × Int × Bool × List T46 × Int × List Int × List Int // of27_8 x = n}
  | ⟨[.ptr 100000 [], .ptr 100001 [], .row 100002, .int .i64 v0], [.var (.cons (.int .u32 v1) (.cons (.bool v2) (.cons (.slice 47 v3) (.cons (.int .i64 v4) (.nil))))), .var (.arr 5 64 v5), .row 5 v6]⟩ => some ⟨(v0, v1, v2, v3, v4, v5, v6), rfl⟩
  | _ => none
def on27_8a : Int × List Int × List Int → NSt Ty := fun x => ⟨[.ptr 100000 [], .int .i64 (x.1), .row 100001], [.var (.arr 5 64 (x.2.1)), .row 5 (x.2.2)]⟩
def on27_8b : List Int × List Int → NSt Ty := fun x => ⟨[.ptr 100000 [], .undef, .row 100001], [.var (.arr 5 64 (x.1)), .row 5 (x.2)]⟩
def oa27_8 : (e : Ex) → (n : NSt Ty) → Option {y : (Int × List Int × List Int) ⊕ (List Int × List Int) // oe2 .ret (.exit 0) y = e ∧ on2 on27_8a on27_8b y = n}
  | .ret, ⟨[.ptr 100000 [], .int .i64 v0, .row 100001], [.var (.arr 5 64 v1), .row 5 v2]⟩ => some ⟨.inl (v0, v1, v2), rfl, rfl⟩
  | .exit 0, ⟨[.ptr 100000 [], .undef, .row 100001], [.var (.arr 5 64 v0), .row 5 v1]⟩ => some ⟨.inr (v0, v1), rfl, rfl⟩
  | _, _ => none
/-- a round of the loop 8 of function 27 -/
def R27_8 (k : Nat) (again : Int × Int × Bool × List T46 × Int × List Int × List Int → Option ((Int × List Int × List Int) ⊕ (List Int × List Int))) (x : Int × Int × Bool × List T46 × Int × List Int × List Int) : Option ((Int × List Int × List Int) ⊕ (List Int × List Int)) :=
  match x with
  | (v0, v1, v2, v3, v4, v5, v6) => bif decide (v0 < (↑v3.length : Int)) then bif inRange v0 v3.length then (F80 k (T46.mk (v3.getD v0.toNat (T46.mk (0 : Int) (0 : Int))).1 (v3.getD v0.toNat (T46.mk (0 : Int) (0 : Int))).2, ())).bind fun r => bif !r then some (Sum.inl ((11 : Int), List.replicate (64 : Nat) (0 : Int), v6)) else bif inRange v0 v3.length then bif inRange v0 v3.length then bif decide (v6.length + (((List.replicate (2 : Nat) (0 : Int)).set (0 : Nat) (IntKind.u8.wrap (v3.getD v0.toNat (T46.mk (0 : Int) (0 : Int))).1)).set (1 : Nat) (IntKind.u8.wrap (v3.getD v0.toNat (T46.mk (0 : Int) (0 : Int))).2)).length ≤ roomMost) then again (IntKind.i64.wrap (v0 + (1 : Int)), v1, v2, v3, v4, v5, v6 ++ ((List.replicate (2 : Nat) (0 : Int)).set (0 : Nat) (IntKind.u8.wrap (v3.getD v0.toNat (T46.mk (0 : Int) (0 : Int))).1)).set (1 : Nat) (IntKind.u8.wrap (v3.getD v0.toNat (T46.mk (0 : Int) (0 : Int))).2)) else none else none else none else none else some (Sum.inr (v5, v6))
def L27_8 (k n : Nat) (x : Int × Int × Bool × List T46 × Int × List Int × List Int) : Option ((Int × List Int × List Int) ⊕ (List Int × List Int)) := iterR (R27_8 k) n x
noncomputable def ls27_8 : Nat → Option (LSum Ty) := addL 8 (lsum2 of27_8 ab27_8 L27_8 .ret on27_8a (.exit 0) on27_8b) noL
def kp27 : Nat → Keep := fun i => cond (i == 8) ⟨[1, 2, 4, 5], [2, 3, 4], 0⟩ (⟨[], [], 0⟩)
/-- "silt/siltref05.Encode" -/
def F27 (k : Nat) (x : T34 × Unit) : Option ((List Int) × Int × Unit) :=
  match x with
  | (a0, ()) => bif decide ((↑a0.3.length : Int) < (1 : Int)) then some (List.replicate (64 : Nat) (0 : Int), (11 : Int), ()) else bif decide ((↑a0.3.length : Int) > (24 : Int)) then some (List.replicate (64 : Nat) (0 : Int), (11 : Int), ()) else bif a0.2 then (F79 k (a0.1, (4 : Int), ())).bind fun r => bif decide (((((List.replicate (2 : Nat) (0 : Int)).set (0 : Nat) (83 : Int)).set (1 : Nat) (0 : Int)).set (Int.toNat (1 : Int)) (1 : Int)).length + r.length ≤ roomMost) then bif decide (((((List.replicate (2 : Nat) (0 : Int)).set (0 : Nat) (83 : Int)).set (1 : Nat) (0 : Int)).set (Int.toNat (1 : Int)) (1 : Int) ++ r).length + ((List.replicate (1 : Nat) (0 : Int)).set (0 : Nat) (IntKind.u8.wrap (↑a0.3.length : Int))).length ≤ roomMost) then (L27_8 k k ((0 : Int), a0.1, a0.2, a0.3, a0.4, List.replicate (64 : Nat) (0 : Int), (((List.replicate (2 : Nat) (0 : Int)).set (0 : Nat) (83 : Int)).set (1 : Nat) (0 : Int)).set (Int.toNat (1 : Int)) (1 : Int) ++ r ++ (List.replicate (1 : Nat) (0 : Int)).set (0 : Nat) (IntKind.u8.wrap (↑a0.3.length : Int)))).bind fun r => sumK r (fun a => some (a.snd.fst, a.fst, ())) fun b => (F81 k (b.snd, ())).bind fun r => some (r, (0 : Int), ()) else none else none else (F79 k (a0.1, (4 : Int), ())).bind fun r => bif decide ((((List.replicate (2 : Nat) (0 : Int)).set (0 : Nat) (83 : Int)).set (1 : Nat) (0 : Int)).length + r.length ≤ roomMost) then bif decide ((((List.replicate (2 : Nat) (0 : Int)).set (0 : Nat) (83 : Int)).set (1 : Nat) (0 : Int) ++ r).length + ((List.replicate (1 : Nat) (0 : Int)).set (0 : Nat) (IntKind.u8.wrap (↑a0.3.length : Int))).length ≤ roomMost) then (L27_8 k k ((0 : Int), a0.1, a0.2, a0.3, a0.4, List.replicate (64 : Nat) (0 : Int), ((List.replicate (2 : Nat) (0 : Int)).set (0 : Nat) (83 : Int)).set (1 : Nat) (0 : Int) ++ r ++ (List.replicate (1 : Nat) (0 : Int)).set (0 : Nat) (IntKind.u8.wrap (↑a0.3.length : Int)))).bind fun r => sumK r (fun a => some (a.snd.fst, a.fst, ())) fun b => (F81 k (b.snd, ())).bind fun r => some (r, (0 : Int), ()) else none else none
noncomputable def sp27 : FSpec Ty := spec ag27 rs27 F27
theorem bo27 : Try.f27.body = some (bodyOf Try.f27) := by kernel_rfl
theorem nd27 : nodupB ((loopsIn (bodyOf Try.f27)).map firstRegion) = true := by kernel_rfl
theorem lo27_8 : LSOK fs81 kp27 tab Try.f27 ls27_8 := lsum2_ok bo27 nd27 (LSOK.none) oa27_8 (R := R27_8) fun k again x => by kernel_rfl
theorem ok27 : FOK Try.prog tab 27 sp27 := spec_ok (keeps := kp27) tabOK fs81OK Try.func27 bo27 (by kernel_rfl) nd27 (lo27_8) (F := F27) fun k x => by kernel_rfl
noncomputable def fs27 : Nat → Option (FSpec Ty) := addF 27 sp27 fs81
theorem fs27OK : SpecsOK Try.prog tab fs27 := fs81OK.add ok27 Try.call27
def ag56 : Args Ty (T87 × Int × Unit) := V.arg (tab.den 88) (V.arg (tab.den 22) (noArgs))
def rs56 : Res Ty tab ((List Int) × Int × Unit) false := V.manyRes (V.part (tab.den 27) (ent 27).ids (ent 27).plain (fun x _ => (ent 27).flat x rfl) (V.part (tab.den 3) (ent 3).ids (ent 3).plain (fun x _ => (ent 3).flat x rfl) (noParts)))
def of56_12 : Int × Int × Int × List Int × Int × List Int × Int × List Int × List Int × List Int → NSt Ty := fun x => ⟨[.ptr 100000 [], .ptr 100001 [], .row 100002, .int .i64 (x.1)], [.var (.cons (.int .i64 (x.2.1)) (.cons (.int .i64 (x.2.2.1)) (.cons (.arr 5 32 (x.2.2.2.1)) (.cons (.int .i64 (x.2.2.2.2.1)) (.cons (.slice 5 (x.2.2.2.2.2.1)) (.cons (.int .i64 (x.2.2.2.2.2.2.1)) (.cons (.arr 3 8 (x.2.2.2.2.2.2.2.1)) (.nil)))))))), .var (.arr 5 64 (x.2.2.2.2.2.2.2.2.1)), .row 5 (x.2.2.2.2.2.2.2.2.2)]⟩
def ab56_12 : (n : NSt Ty) → Option {x : Int × Int × Int × List Int × Int × List Int × Int × List Int × List Int × List Int // of56_12 x = n}
  | ⟨[.ptr 100000 [], .ptr 100001 [], .row 100002, .int .i64 v0], [.var (.cons (.int .i64 v1) (.cons (.int .i64 v2) (.cons (.arr 5 32 v3) (.cons (.int .i64 v4) (.cons (.slice 5 v5) (.cons (.int .i64 v6) (.cons (.arr 3 8 v7) (.nil)))))))), .var (.arr 5 64 v8), .row 5 v9]⟩ => some ⟨(v0, v1, v2, v3, v4, v5, v6, v7, v8, v9), rfl⟩
  | _ => none
def oe56_12 : List Int × List Int → Ex := fun _ => .exit 1
def on56_12 : List Int × List Int → NSt Ty := fun x => ⟨[.ptr 100000 [], .row 100001], [.var (.arr 5 64 (x.1)), .row 5 (x.2)]⟩
def oa56_12 : (e : Ex) → (n : NSt Ty) → Option {y : List Int × List Int // oe56_12 y = e ∧ on56_12 y = n}
  | .exit 1, ⟨[.ptr 100000 [], .row 100001], [.var (.arr 5 64 v0), .row 5 v1]⟩ => some ⟨(v0, v1), rfl, rfl⟩
  | _, _ => none
/-- a round of the loop 12 of function 56 -/
def R56_12 (k : Nat) (again : Int × Int × Int × List Int × Int × List Int × Int × List Int × List Int × List Int → Option (List Int × List Int)) (x : Int × Int × Int × List Int × Int × List Int × Int × List Int × List Int × List Int) : Option (List Int × List Int) :=
  match x with
  | (v0, v1, v2, v3, v4, v5, v6, v7, v8, v9) => bif decide (v0 < (8 : Int)) then bif inRange v0 (8 : Nat) then (F79 k (IntKind.u32.wrap (v7.getD v0.toNat (0 : Int)), (2 : Int), ())).bind fun r => bif decide (v9.length + r.length ≤ roomMost) then again (IntKind.i64.wrap (v0 + (1 : Int)), v1, v2, v3, v4, v5, v6, v7, v8, v9 ++ r) else none else none else some (v8, v9)
def L56_12 (k n : Nat) (x : Int × Int × Int × List Int × Int × List Int × Int × List Int × List Int × List Int) : Option (List Int × List Int) := iterR (R56_12 k) n x
noncomputable def ls56_12 : Nat → Option (LSum Ty) := addL 12 (LSum.of of56_12 ab56_12 L56_12 oe56_12 on56_12) noL
def kp56 : Nat → Keep := fun i => cond (i == 12) ⟨[2, 4, 6, 7], [4, 6], 0⟩ (⟨[], [], 0⟩)
/-- "silt/siltref04.Encode" -/
def F56 (k : Nat) (x : T87 × Int × Unit) : Option ((List Int) × Int × Unit) :=
  match x with
  | (a0, a1, ()) => (F60 k (T87.mk a0.1 a0.2 a0.3 a0.4 a0.5 a0.6 a0.7, ())).bind fun r => bif !r then some (List.replicate (64 : Nat) (0 : Int), (11 : Int), ()) else (F79 k (a1, (4 : Int), ())).bind fun r => bif decide ((((List.replicate (2 : Nat) (0 : Int)).set (0 : Nat) (IntKind.u8.wrap a0.1)).set (1 : Nat) (IntKind.u8.wrap a0.2)).length + r.length ≤ roomMost) then bif a0.1 == (1 : Int) then bif decide ((((List.replicate (2 : Nat) (0 : Int)).set (0 : Nat) (IntKind.u8.wrap a0.1)).set (1 : Nat) (IntKind.u8.wrap a0.2) ++ r).length + (List.take ((↑(32 : Nat) : Int) - (0 : Int)).toNat (List.drop (Int.toNat (0 : Int)) a0.3)).length ≤ roomMost) then (F81 k (((List.replicate (2 : Nat) (0 : Int)).set (0 : Nat) (IntKind.u8.wrap a0.1)).set (1 : Nat) (IntKind.u8.wrap a0.2) ++ r ++ List.take ((↑(32 : Nat) : Int) - (0 : Int)).toNat (List.drop (Int.toNat (0 : Int)) a0.3), ())).bind fun r => some (r, (0 : Int), ()) else none else bif a0.1 == (2 : Int) then bif decide ((((List.replicate (2 : Nat) (0 : Int)).set (0 : Nat) (IntKind.u8.wrap a0.1)).set (1 : Nat) (IntKind.u8.wrap a0.2) ++ r).length + (((List.replicate (2 : Nat) (0 : Int)).set (0 : Nat) (IntKind.u8.wrap a0.4)).set (1 : Nat) (IntKind.u8.wrap (↑a0.5.length : Int))).length ≤ roomMost) then bif decide ((((List.replicate (2 : Nat) (0 : Int)).set (0 : Nat) (IntKind.u8.wrap a0.1)).set (1 : Nat) (IntKind.u8.wrap a0.2) ++ r ++ ((List.replicate (2 : Nat) (0 : Int)).set (0 : Nat) (IntKind.u8.wrap a0.4)).set (1 : Nat) (IntKind.u8.wrap (↑a0.5.length : Int))).length + a0.5.length ≤ roomMost) then bif decide ((0 : Int) ≤ IntKind.i64.wrap ((16 : Int) - (↑a0.5.length : Int))) && decide ((((List.replicate (2 : Nat) (0 : Int)).set (0 : Nat) (IntKind.u8.wrap a0.1)).set (1 : Nat) (IntKind.u8.wrap a0.2) ++ r ++ ((List.replicate (2 : Nat) (0 : Int)).set (0 : Nat) (IntKind.u8.wrap a0.4)).set (1 : Nat) (IntKind.u8.wrap (↑a0.5.length : Int)) ++ a0.5).length + (IntKind.i64.wrap ((16 : Int) - (↑a0.5.length : Int))).toNat ≤ roomMost) then (F79 k (IntKind.u32.wrap a0.6, (2 : Int), ())).bind fun r_1 => bif decide ((((List.replicate (2 : Nat) (0 : Int)).set (0 : Nat) (IntKind.u8.wrap a0.1)).set (1 : Nat) (IntKind.u8.wrap a0.2) ++ r ++ ((List.replicate (2 : Nat) (0 : Int)).set (0 : Nat) (IntKind.u8.wrap a0.4)).set (1 : Nat) (IntKind.u8.wrap (↑a0.5.length : Int)) ++ a0.5 ++ List.replicate (IntKind.i64.wrap ((16 : Int) - (↑a0.5.length : Int))).toNat (0 : Int)).length + r_1.length ≤ roomMost) then (F81 k (((List.replicate (2 : Nat) (0 : Int)).set (0 : Nat) (IntKind.u8.wrap a0.1)).set (1 : Nat) (IntKind.u8.wrap a0.2) ++ r ++ ((List.replicate (2 : Nat) (0 : Int)).set (0 : Nat) (IntKind.u8.wrap a0.4)).set (1 : Nat) (IntKind.u8.wrap (↑a0.5.length : Int)) ++ a0.5 ++ List.replicate (IntKind.i64.wrap ((16 : Int) - (↑a0.5.length : Int))).toNat (0 : Int) ++ r_1, ())).bind fun r => some (r, (0 : Int), ()) else none else none else none else none else bif a0.1 == (3 : Int) then (L56_12 k k ((0 : Int), a0.1, a0.2, a0.3, a0.4, a0.5, a0.6, a0.7, List.replicate (64 : Nat) (0 : Int), ((List.replicate (2 : Nat) (0 : Int)).set (0 : Nat) (IntKind.u8.wrap a0.1)).set (1 : Nat) (IntKind.u8.wrap a0.2) ++ r)).bind fun r => (F81 k (r.snd, ())).bind fun r => some (r, (0 : Int), ()) else (F81 k (((List.replicate (2 : Nat) (0 : Int)).set (0 : Nat) (IntKind.u8.wrap a0.1)).set (1 : Nat) (IntKind.u8.wrap a0.2) ++ r, ())).bind fun r => some (r, (0 : Int), ()) else none
noncomputable def sp56 : FSpec Ty := spec ag56 rs56 F56
theorem bo56 : Try.f56.body = some (bodyOf Try.f56) := by kernel_rfl
theorem nd56 : nodupB ((loopsIn (bodyOf Try.f56)).map firstRegion) = true := by kernel_rfl
theorem lo56_12 : LSOK fs27 kp56 tab Try.f56 ls56_12 := lsum_ok bo56 nd56 (LSOK.none) oa56_12 (R := R56_12) fun k again x => by kernel_rfl
theorem ok56 : FOK Try.prog tab 56 sp56 := spec_ok (keeps := kp56) tabOK fs27OK Try.func56 bo56 (by kernel_rfl) nd56 (lo56_12) (F := F56) fun k x => by kernel_rfl
noncomputable def fs56 : Nat → Option (FSpec Ty) := addF 56 sp56 fs27
theorem fs56OK : SpecsOK Try.prog tab fs56 := fs27OK.add ok56 Try.call56
def ag67 : Args Ty (Int × (List T128) × Unit) := V.arg (tab.den 22) (V.arg (tab.den 106) (noArgs))
def rs67 : Res Ty tab (T112) true := V.oneRes (tab.den 113) (ent 113).ids (ent 113).plain (fun _ h => by cases h)
def of67_10 : Int × List T128 × Int × Int × Int × Bool × Bool × Int × Bool × Int × List (List Int) × List Int × List (List Int) × List Int × List T46 → NSt Ty := fun x => ⟨[.int .u32 (x.1), .slice 129 (x.2.1), .ptr 100000 [], .ptr 100001 [], .int .i64 (x.2.2.1), .int .i64 (x.2.2.2.1), .ptr 100002 [], .int .i64 (x.2.2.2.2.1)], [.var (.cons (.row 100003) (.cons (.row 100004) (.cons (.bool (x.2.2.2.2.2.1)) (.nil)))), .var (.cons (.row 100005) (.cons (.row 100006) (.cons (.bool (x.2.2.2.2.2.2.1)) (.nil)))), .var (.cons (.int .u32 (x.2.2.2.2.2.2.2.1)) (.cons (.bool (x.2.2.2.2.2.2.2.2.1)) (.cons (.row 100007) (.cons (.int .i64 (x.2.2.2.2.2.2.2.2.2.1)) (.nil))))), .row 27 (x.2.2.2.2.2.2.2.2.2.2.1), .row 3 (x.2.2.2.2.2.2.2.2.2.2.2.1), .row 27 (x.2.2.2.2.2.2.2.2.2.2.2.2.1), .row 3 (x.2.2.2.2.2.2.2.2.2.2.2.2.2.1), .row 47 (x.2.2.2.2.2.2.2.2.2.2.2.2.2.2)]⟩
def ab67_10 : (n : NSt Ty) → Option {x : Int × List T128 × Int × Int × Int × Bool × Bool × Int × Bool × Int × List (List Int) × List Int × List (List Int) × List Int × List T46 // of67_10 x = n}
  | ⟨[.int .u32 v0, .slice 129 v1, .ptr 100000 [], .ptr 100001 [], .int .i64 v2, .int .i64 v3, .ptr 100002 [], .int .i64 v4], [.var (.cons (.row 100003) (.cons (.row 100004) (.cons (.bool v5) (.nil)))), .var (.cons (.row 100005) (.cons (.row 100006) (.cons (.bool v6) (.nil)))), .var (.cons (.int .u32 v7) (.cons (.bool v8) (.cons (.row 100007) (.cons (.int .i64 v9) (.nil))))), .row 27 v10, .row 3 v11, .row 27 v12, .row 3 v13, .row 47 v14]⟩ => some ⟨(v0, v1, v2, v3, v4, v5, v6, v7, v8, v9, v10, v11, v12, v13, v14), rfl⟩
  | _ => none
def oe67_10 : Int × List T128 × Int × Int × Bool × Bool × Int × Bool × Int × List (List Int) × List Int × List (List Int) × List Int × List T46 → Ex := fun _ => .exit 2
def on67_10 : Int × List T128 × Int × Int × Bool × Bool × Int × Bool × Int × List (List Int) × List Int × List (List Int) × List Int × List T46 → NSt Ty := fun x => ⟨[.int .u32 (x.1), .slice 129 (x.2.1), .ptr 100000 [], .ptr 100001 [], .int .i64 (x.2.2.1), .int .i64 (x.2.2.2.1), .ptr 100002 []], [.var (.cons (.row 100003) (.cons (.row 100004) (.cons (.bool (x.2.2.2.2.1)) (.nil)))), .var (.cons (.row 100005) (.cons (.row 100006) (.cons (.bool (x.2.2.2.2.2.1)) (.nil)))), .var (.cons (.int .u32 (x.2.2.2.2.2.2.1)) (.cons (.bool (x.2.2.2.2.2.2.2.1)) (.cons (.row 100007) (.cons (.int .i64 (x.2.2.2.2.2.2.2.2.1)) (.nil))))), .row 27 (x.2.2.2.2.2.2.2.2.2.1), .row 3 (x.2.2.2.2.2.2.2.2.2.2.1), .row 27 (x.2.2.2.2.2.2.2.2.2.2.2.1), .row 3 (x.2.2.2.2.2.2.2.2.2.2.2.2.1), .row 47 (x.2.2.2.2.2.2.2.2.2.2.2.2.2)]⟩
def oa67_10 : (e : Ex) → (n : NSt Ty) → Option {y : Int × List T128 × Int × Int × Bool × Bool × Int × Bool × Int × List (List Int) × List Int × List (List Int) × List Int × List T46 // oe67_10 y = e ∧ on67_10 y = n}
  | .exit 2, ⟨[.int .u32 v0, .slice 129 v1, .ptr 100000 [], .ptr 100001 [], .int .i64 v2, .int .i64 v3, .ptr 100002 []], [.var (.cons (.row 100003) (.cons (.row 100004) (.cons (.bool v4) (.nil)))), .var (.cons (.row 100005) (.cons (.row 100006) (.cons (.bool v5) (.nil)))), .var (.cons (.int .u32 v6) (.cons (.bool v7) (.cons (.row 100007) (.cons (.int .i64 v8) (.nil))))), .row 27 v9, .row 3 v10, .row 27 v11, .row 3 v12, .row 47 v13]⟩ => some ⟨(v0, v1, v2, v3, v4, v5, v6, v7, v8, v9, v10, v11, v12, v13), rfl, rfl⟩
  | _, _ => none
/-- a round of the loop 10 of function 67 -/
def R67_10 (k : Nat) (again : Int × List T128 × Int × Int × Int × Bool × Bool × Int × Bool × Int × List (List Int) × List Int × List (List Int) × List Int × List T46 → Option (Int × List T128 × Int × Int × Bool × Bool × Int × Bool × Int × List (List Int) × List Int × List (List Int) × List Int × List T46)) (x : Int × List T128 × Int × Int × Int × Bool × Bool × Int × Bool × Int × List (List Int) × List Int × List (List Int) × List Int × List T46) : Option (Int × List T128 × Int × Int × Bool × Bool × Int × Bool × Int × List (List Int) × List Int × List (List Int) × List Int × List T46) :=
  match x with
  | (v0, v1, v2, v3, v4, v5, v6, v7, v8, v9, v10, v11, v12, v13, v14) => bif decide (v4 < v3) then bif inRange v4 v1.length then bif decide (v14.length + ((List.replicate (1 : Nat) (T46.mk (0 : Int) (0 : Int))).set (0 : Nat) (T46.mk (v1.getD v4.toNat (T128.mk (T46.mk (0 : Int) (0 : Int)) (T87.mk (0 : Int) (0 : Int) (List.replicate (32 : Nat) (0 : Int)) (0 : Int) [] (0 : Int) (List.replicate (8 : Nat) (0 : Int))))).1.1 (v1.getD v4.toNat (T128.mk (T46.mk (0 : Int) (0 : Int)) (T87.mk (0 : Int) (0 : Int) (List.replicate (32 : Nat) (0 : Int)) (0 : Int) [] (0 : Int) (List.replicate (8 : Nat) (0 : Int))))).1.2)).length ≤ roomMost) then again (v0, v1, v2, v3, IntKind.i64.wrap (v4 + (1 : Int)), v5, v6, v7, v8, v9, v10, v11, v12, v13, v14 ++ (List.replicate (1 : Nat) (T46.mk (0 : Int) (0 : Int))).set (0 : Nat) (T46.mk (v1.getD v4.toNat (T128.mk (T46.mk (0 : Int) (0 : Int)) (T87.mk (0 : Int) (0 : Int) (List.replicate (32 : Nat) (0 : Int)) (0 : Int) [] (0 : Int) (List.replicate (8 : Nat) (0 : Int))))).1.1 (v1.getD v4.toNat (T128.mk (T46.mk (0 : Int) (0 : Int)) (T87.mk (0 : Int) (0 : Int) (List.replicate (32 : Nat) (0 : Int)) (0 : Int) [] (0 : Int) (List.replicate (8 : Nat) (0 : Int))))).1.2)) else none else none else some (v0, v1, v2, v3, v5, v6, v7, v8, v9, v10, v11, v12, v13, v14)
def L67_10 (k n : Nat) (x : Int × List T128 × Int × Int × Int × Bool × Bool × Int × Bool × Int × List (List Int) × List Int × List (List Int) × List Int × List T46) : Option (Int × List T128 × Int × Int × Bool × Bool × Int × Bool × Int × List (List Int) × List Int × List (List Int) × List Int × List T46) := iterR (R67_10 k) n x
noncomputable def ls67_10 : Nat → Option (LSum Ty) := addL 10 (LSum.of of67_10 ab67_10 L67_10 oe67_10 on67_10) noL
def of67_16 : Int × List T128 × Int × Int × Int × Bool × Bool × List (List Int) × List Int × List (List Int) × List Int → NSt Ty := fun x => ⟨[.int .u32 (x.1), .slice 129 (x.2.1), .ptr 100000 [], .ptr 100001 [], .int .i64 (x.2.2.1), .int .i64 (x.2.2.2.1), .int .i64 (x.2.2.2.2.1)], [.var (.cons (.row 100002) (.cons (.row 100003) (.cons (.bool (x.2.2.2.2.2.1)) (.nil)))), .var (.cons (.row 100004) (.cons (.row 100005) (.cons (.bool (x.2.2.2.2.2.2.1)) (.nil)))), .row 27 (x.2.2.2.2.2.2.2.1), .row 3 (x.2.2.2.2.2.2.2.2.1), .row 27 (x.2.2.2.2.2.2.2.2.2.1), .row 3 (x.2.2.2.2.2.2.2.2.2.2)]⟩
def ab67_16 : (n : NSt Ty) → Option {x : Int × List T128 × Int × Int × Int × Bool × Bool × List (List Int) × List Int × List (List Int) × List Int // of67_16 x = n}
  | ⟨[.int .u32 v0, .slice 129 v1, .ptr 100000 [], .ptr 100001 [], .int .i64 v2, .int .i64 v3, .int .i64 v4], [.var (.cons (.row 100002) (.cons (.row 100003) (.cons (.bool v5) (.nil)))), .var (.cons (.row 100004) (.cons (.row 100005) (.cons (.bool v6) (.nil)))), .row 27 v7, .row 3 v8, .row 27 v9, .row 3 v10]⟩ => some ⟨(v0, v1, v2, v3, v4, v5, v6, v7, v8, v9, v10), rfl⟩
  | _ => none
def oe67_16 : Int × List T128 × Int × Bool × Bool × List (List Int) × List Int × List (List Int) × List Int → Ex := fun _ => .exit 4
def on67_16 : Int × List T128 × Int × Bool × Bool × List (List Int) × List Int × List (List Int) × List Int → NSt Ty := fun x => ⟨[.int .u32 (x.1), .slice 129 (x.2.1), .ptr 100000 [], .ptr 100001 [], .int .i64 (x.2.2.1)], [.var (.cons (.row 100002) (.cons (.row 100003) (.cons (.bool (x.2.2.2.1)) (.nil)))), .var (.cons (.row 100004) (.cons (.row 100005) (.cons (.bool (x.2.2.2.2.1)) (.nil)))), .row 27 (x.2.2.2.2.2.1), .row 3 (x.2.2.2.2.2.2.1), .row 27 (x.2.2.2.2.2.2.2.1), .row 3 (x.2.2.2.2.2.2.2.2)]⟩
def oa67_16 : (e : Ex) → (n : NSt Ty) → Option {y : Int × List T128 × Int × Bool × Bool × List (List Int) × List Int × List (List Int) × List Int // oe67_16 y = e ∧ on67_16 y = n}
  | .exit 4, ⟨[.int .u32 v0, .slice 129 v1, .ptr 100000 [], .ptr 100001 [], .int .i64 v2], [.var (.cons (.row 100002) (.cons (.row 100003) (.cons (.bool v3) (.nil)))), .var (.cons (.row 100004) (.cons (.row 100005) (.cons (.bool v4) (.nil)))), .row 27 v5, .row 3 v6, .row 27 v7, .row 3 v8]⟩ => some ⟨(v0, v1, v2, v3, v4, v5, v6, v7, v8), rfl, rfl⟩
  | _, _ => none
/-- a round of the loop 16 of function 67 -/
def R67_16 (k : Nat) (again : Int × List T128 × Int × Int × Int × Bool × Bool × List (List Int) × List Int × List (List Int) × List Int → Option (Int × List T128 × Int × Bool × Bool × List (List Int) × List Int × List (List Int) × List Int)) (x : Int × List T128 × Int × Int × Int × Bool × Bool × List (List Int) × List Int × List (List Int) × List Int) : Option (Int × List T128 × Int × Bool × Bool × List (List Int) × List Int × List (List Int) × List Int) :=
  match x with
  | (v0, v1, v2, v3, v4, v5, v6, v7, v8, v9, v10) => bif decide (v4 < v3) then bif inRange v4 v1.length then bif decide ((v1.getD v4.toNat (T128.mk (T46.mk (0 : Int) (0 : Int)) (T87.mk (0 : Int) (0 : Int) (List.replicate (32 : Nat) (0 : Int)) (0 : Int) [] (0 : Int) (List.replicate (8 : Nat) (0 : Int))))).1.1 > (3 : Int)) then bif decide (v10.length + ((List.replicate (1 : Nat) (0 : Int)).set (0 : Nat) (-1 : Int)).length ≤ roomMost) then again (v0, v1, v2, v3, IntKind.i64.wrap (v4 + (1 : Int)), v5, v6, v7, v8, v9, v10 ++ (List.replicate (1 : Nat) (0 : Int)).set (0 : Nat) (-1 : Int)) else none else bif inRange v4 v1.length then (F56 k (T87.mk (v1.getD v4.toNat (T128.mk (T46.mk (0 : Int) (0 : Int)) (T87.mk (0 : Int) (0 : Int) (List.replicate (32 : Nat) (0 : Int)) (0 : Int) [] (0 : Int) (List.replicate (8 : Nat) (0 : Int))))).2.1 (v1.getD v4.toNat (T128.mk (T46.mk (0 : Int) (0 : Int)) (T87.mk (0 : Int) (0 : Int) (List.replicate (32 : Nat) (0 : Int)) (0 : Int) [] (0 : Int) (List.replicate (8 : Nat) (0 : Int))))).2.2 (v1.getD v4.toNat (T128.mk (T46.mk (0 : Int) (0 : Int)) (T87.mk (0 : Int) (0 : Int) (List.replicate (32 : Nat) (0 : Int)) (0 : Int) [] (0 : Int) (List.replicate (8 : Nat) (0 : Int))))).2.3 (v1.getD v4.toNat (T128.mk (T46.mk (0 : Int) (0 : Int)) (T87.mk (0 : Int) (0 : Int) (List.replicate (32 : Nat) (0 : Int)) (0 : Int) [] (0 : Int) (List.replicate (8 : Nat) (0 : Int))))).2.4 (v1.getD v4.toNat (T128.mk (T46.mk (0 : Int) (0 : Int)) (T87.mk (0 : Int) (0 : Int) (List.replicate (32 : Nat) (0 : Int)) (0 : Int) [] (0 : Int) (List.replicate (8 : Nat) (0 : Int))))).2.5 (v1.getD v4.toNat (T128.mk (T46.mk (0 : Int) (0 : Int)) (T87.mk (0 : Int) (0 : Int) (List.replicate (32 : Nat) (0 : Int)) (0 : Int) [] (0 : Int) (List.replicate (8 : Nat) (0 : Int))))).2.6 (v1.getD v4.toNat (T128.mk (T46.mk (0 : Int) (0 : Int)) (T87.mk (0 : Int) (0 : Int) (List.replicate (32 : Nat) (0 : Int)) (0 : Int) [] (0 : Int) (List.replicate (8 : Nat) (0 : Int))))).2.7, v0, ())).bind fun r => bif decide (v10.length + ((List.replicate (1 : Nat) (0 : Int)).set (0 : Nat) (↑v9.length : Int)).length ≤ roomMost) then bif decide (v9.length + ((List.replicate (1 : Nat) (List.replicate (64 : Nat) (0 : Int))).set (0 : Nat) r.fst).length ≤ roomMost) then again (v0, v1, v2, v3, IntKind.i64.wrap (v4 + (1 : Int)), v5, v6, v7, v8, v9 ++ (List.replicate (1 : Nat) (List.replicate (64 : Nat) (0 : Int))).set (0 : Nat) r.fst, v10 ++ (List.replicate (1 : Nat) (0 : Int)).set (0 : Nat) (↑v9.length : Int)) else none else none else none else none else some (v0, v1, v2, v5, v6, v7, v8, v9, v10)
def L67_16 (k n : Nat) (x : Int × List T128 × Int × Int × Int × Bool × Bool × List (List Int) × List Int × List (List Int) × List Int) : Option (Int × List T128 × Int × Bool × Bool × List (List Int) × List Int × List (List Int) × List Int) := iterR (R67_16 k) n x
noncomputable def ls67_16 : Nat → Option (LSum Ty) := addL 16 (LSum.of of67_16 ab67_16 L67_16 oe67_16 on67_16) ls67_10
def of67_5 : Int × List T128 × Int × Bool × Bool × List (List Int) × List Int × List (List Int) × List Int → NSt Ty := fun x => ⟨[.int .u32 (x.1), .slice 129 (x.2.1), .ptr 100000 [], .ptr 100001 [], .int .i64 (x.2.2.1)], [.var (.cons (.row 100002) (.cons (.row 100003) (.cons (.bool (x.2.2.2.1)) (.nil)))), .var (.cons (.row 100004) (.cons (.row 100005) (.cons (.bool (x.2.2.2.2.1)) (.nil)))), .row 27 (x.2.2.2.2.2.1), .row 3 (x.2.2.2.2.2.2.1), .row 27 (x.2.2.2.2.2.2.2.1), .row 3 (x.2.2.2.2.2.2.2.2)]⟩
def ab67_5 : (n : NSt Ty) → Option {x : Int × List T128 × Int × Bool × Bool × List (List Int) × List Int × List (List Int) × List Int // of67_5 x = n}
  | ⟨[.int .u32 v0, .slice 129 v1, .ptr 100000 [], .ptr 100001 [], .int .i64 v2], [.var (.cons (.row 100002) (.cons (.row 100003) (.cons (.bool v3) (.nil)))), .var (.cons (.row 100004) (.cons (.row 100005) (.cons (.bool v4) (.nil)))), .row 27 v5, .row 3 v6, .row 27 v7, .row 3 v8]⟩ => some ⟨(v0, v1, v2, v3, v4, v5, v6, v7, v8), rfl⟩
  | _ => none
def oe67_5 : Bool × Bool × List (List Int) × List Int × List (List Int) × List Int → Ex := fun _ => .exit 0
def on67_5 : Bool × Bool × List (List Int) × List Int × List (List Int) × List Int → NSt Ty := fun x => ⟨[.ptr 100000 [], .ptr 100001 []], [.var (.cons (.row 100002) (.cons (.row 100003) (.cons (.bool (x.1)) (.nil)))), .var (.cons (.row 100004) (.cons (.row 100005) (.cons (.bool (x.2.1)) (.nil)))), .row 27 (x.2.2.1), .row 3 (x.2.2.2.1), .row 27 (x.2.2.2.2.1), .row 3 (x.2.2.2.2.2)]⟩
def oa67_5 : (e : Ex) → (n : NSt Ty) → Option {y : Bool × Bool × List (List Int) × List Int × List (List Int) × List Int // oe67_5 y = e ∧ on67_5 y = n}
  | .exit 0, ⟨[.ptr 100000 [], .ptr 100001 []], [.var (.cons (.row 100002) (.cons (.row 100003) (.cons (.bool v0) (.nil)))), .var (.cons (.row 100004) (.cons (.row 100005) (.cons (.bool v1) (.nil)))), .row 27 v2, .row 3 v3, .row 27 v4, .row 3 v5]⟩ => some ⟨(v0, v1, v2, v3, v4, v5), rfl, rfl⟩
  | _, _ => none
/-- a round of the loop 5 of function 67 -/
def R67_5 (k : Nat) (again : Int × List T128 × Int × Bool × Bool × List (List Int) × List Int × List (List Int) × List Int → Option (Bool × Bool × List (List Int) × List Int × List (List Int) × List Int)) (x : Int × List T128 × Int × Bool × Bool × List (List Int) × List Int × List (List Int) × List Int) : Option (Bool × Bool × List (List Int) × List Int × List (List Int) × List Int) :=
  match x with
  | (v0, v1, v2, v3, v4, v5, v6, v7, v8) => bif decide (v2 < (↑v1.length : Int)) then (L67_10 k k (v0, v1, v2, if (↑v1.length : Int) < IntKind.i64.wrap (v2 + (24 : Int)) then (↑v1.length : Int) else IntKind.i64.wrap (v2 + (24 : Int)), v2, v3, v4, v0, decide ((if (↑v1.length : Int) < IntKind.i64.wrap (v2 + (24 : Int)) then (↑v1.length : Int) else IntKind.i64.wrap (v2 + (24 : Int))) < (↑v1.length : Int)), (0 : Int), v5, v6, v7, v8, [])).bind fun r => (F27 k (T34.mk r.snd.snd.snd.snd.snd.snd.fst r.snd.snd.snd.snd.snd.snd.snd.fst r.snd.snd.snd.snd.snd.snd.snd.snd.snd.snd.snd.snd.snd r.snd.snd.snd.snd.snd.snd.snd.snd.fst, ())).bind fun r_1 => bif decide (r.snd.snd.snd.snd.snd.snd.snd.snd.snd.snd.snd.fst.length + ((List.replicate (1 : Nat) (List.replicate (64 : Nat) (0 : Int))).set (0 : Nat) r_1.fst).length ≤ roomMost) then (L67_16 k k (r.fst, r.snd.fst, r.snd.snd.fst, r.snd.snd.snd.fst, r.snd.snd.fst, r.snd.snd.snd.snd.fst, r.snd.snd.snd.snd.snd.fst, r.snd.snd.snd.snd.snd.snd.snd.snd.snd.fst, r.snd.snd.snd.snd.snd.snd.snd.snd.snd.snd.fst, r.snd.snd.snd.snd.snd.snd.snd.snd.snd.snd.snd.fst ++ (List.replicate (1 : Nat) (List.replicate (64 : Nat) (0 : Int))).set (0 : Nat) r_1.fst, r.snd.snd.snd.snd.snd.snd.snd.snd.snd.snd.snd.snd.fst)).bind fun r => again (IntKind.u32.wrap (r.fst + (1 : Int)), r.snd.fst, IntKind.i64.wrap (r.snd.snd.fst + (24 : Int)), r.snd.snd.snd.fst, r.snd.snd.snd.snd.fst, r.snd.snd.snd.snd.snd.fst, r.snd.snd.snd.snd.snd.snd.fst, r.snd.snd.snd.snd.snd.snd.snd.fst, r.snd.snd.snd.snd.snd.snd.snd.snd) else none else some (v3, v4, v5, v6, v7, v8)
def L67_5 (k n : Nat) (x : Int × List T128 × Int × Bool × Bool × List (List Int) × List Int × List (List Int) × List Int) : Option (Bool × Bool × List (List Int) × List Int × List (List Int) × List Int) := iterR (R67_5 k) n x
noncomputable def ls67_5 : Nat → Option (LSum Ty) := addL 5 (LSum.of of67_5 ab67_5 L67_5 oe67_5 on67_5) ls67_16
def kp67 : Nat → Keep := fun i => cond (i == 5) ⟨[0, 1, 4, 5, 6], [4, 5], 0⟩ (cond (i == 10) ⟨[0, 1, 4, 5, 6, 7, 8, 9], [0, 1, 4, 5, 6, 7, 8], 0⟩ (cond (i == 16) ⟨[0, 1, 4, 5, 6, 7, 12], [0, 1, 4, 5, 6], 0⟩ (⟨[], [], 0⟩)))
/-- "silt/siltref13.Lay" -/
def F67 (k : Nat) (x : Int × (List T128) × Unit) : Option (T112) :=
  match x with
  | (a0, a1, ()) => (F98 k (a1, ())).bind fun r => bif !r then some (T112.mk [] [] false) else (L67_5 k k (a0, a1, (0 : Int), false, true, [], [], [], [])).bind fun r => some (T112.mk r.snd.snd.snd.snd.fst r.snd.snd.snd.snd.snd r.snd.fst)
noncomputable def sp67 : FSpec Ty := spec ag67 rs67 F67
theorem bo67 : Try.f67.body = some (bodyOf Try.f67) := by kernel_rfl
theorem nd67 : nodupB ((loopsIn (bodyOf Try.f67)).map firstRegion) = true := by kernel_rfl
theorem lo67_10 : LSOK fs56 kp67 tab Try.f67 ls67_10 := lsum_ok bo67 nd67 (LSOK.none) oa67_10 (R := R67_10) fun k again x => by kernel_rfl
theorem lo67_16 : LSOK fs56 kp67 tab Try.f67 ls67_16 := lsum_ok bo67 nd67 (lo67_10) oa67_16 (R := R67_16) fun k again x => by kernel_rfl
theorem lo67_5 : LSOK fs56 kp67 tab Try.f67 ls67_5 := lsum_ok bo67 nd67 (lo67_16) oa67_5 (R := R67_5) fun k again x => by kernel_rfl
theorem ok67 : FOK Try.prog tab 67 sp67 := spec_ok (keeps := kp67) tabOK fs56OK Try.func67 bo67 (by kernel_rfl) nd67 (lo67_5) (F := F67) fun k x => by kernel_rfl
noncomputable def fs67 : Nat → Option (FSpec Ty) := addF 67 sp67 fs56
theorem fs67OK : SpecsOK Try.prog tab fs67 := fs56OK.add ok67 Try.call67
def ag82 : Args Ty ((List Int) × Unit) := V.arg (tab.den 58) (noArgs)
def rs82 : Res Ty tab (Int) false := V.oneRes (tab.den 22) (ent 22).ids (ent 22).plain (fun x _ => (ent 22).flat x rfl)
def of82_3 : List Int × Int × Int → NSt Ty := fun x => ⟨[.slice 5 (x.1), .int .u32 (x.2.1), .int .i64 (x.2.2)], []⟩
def ab82_3 : (n : NSt Ty) → Option {x : List Int × Int × Int // of82_3 x = n}
  | ⟨[.slice 5 v0, .int .u32 v1, .int .i64 v2], []⟩ => some ⟨(v0, v1, v2), rfl⟩
  | _ => none
def oe82_3 : Int → Ex := fun _ => .exit 0
def on82_3 : Int → NSt Ty := fun x => ⟨[.int .u32 (x)], []⟩
def oa82_3 : (e : Ex) → (n : NSt Ty) → Option {y : Int // oe82_3 y = e ∧ on82_3 y = n}
  | .exit 0, ⟨[.int .u32 v0], []⟩ => some ⟨v0, rfl, rfl⟩
  | _, _ => none
/-- a round of the loop 3 of function 82 -/
def R82_3 (k : Nat) (again : List Int × Int × Int → Option (Int)) (x : List Int × Int × Int) : Option (Int) :=
  match x with
  | (v0, v1, v2) => bif decide (v2 ≥ (0 : Int)) then bif inRange v2 v0.length then again (v0, IntKind.u32.wrap (IntKind.u32.wrap (v1 * (2 : Int) ^ min (Int.toNat (8 : Int)) IntKind.u32.bits) + IntKind.u32.wrap (v0.getD v2.toNat (0 : Int))), IntKind.i64.wrap (v2 - (1 : Int))) else none else some v1
def L82_3 (k n : Nat) (x : List Int × Int × Int) : Option (Int) := iterR (R82_3 k) n x
noncomputable def ls82_3 : Nat → Option (LSum Ty) := addL 3 (LSum.of of82_3 ab82_3 L82_3 oe82_3 on82_3) noL
def kp82 : Nat → Keep := fun i => cond (i == 3) ⟨[0, 3, 4], [3], 0⟩ (⟨[], [], 0⟩)
/-- "silt/siltref04.Num" -/
def F82 (k : Nat) (x : (List Int) × Unit) : Option (Int) :=
  match x with
  | (a0, ()) => (L82_3 k k (a0, (0 : Int), IntKind.i64.wrap ((↑a0.length : Int) - (1 : Int)))).bind fun r => some r
noncomputable def sp82 : FSpec Ty := spec ag82 rs82 F82
theorem bo82 : Try.f82.body = some (bodyOf Try.f82) := by kernel_rfl
theorem nd82 : nodupB ((loopsIn (bodyOf Try.f82)).map firstRegion) = true := by kernel_rfl
theorem lo82_3 : LSOK fs67 kp82 tab Try.f82 ls82_3 := lsum_ok bo82 nd82 (LSOK.none) oa82_3 (R := R82_3) fun k again x => by kernel_rfl
theorem ok82 : FOK Try.prog tab 82 sp82 := spec_ok (keeps := kp82) tabOK fs67OK Try.func82 bo82 (by kernel_rfl) nd82 (lo82_3) (F := F82) fun k x => by kernel_rfl
noncomputable def fs82 : Nat → Option (FSpec Ty) := addF 82 sp82 fs67
theorem fs82OK : SpecsOK Try.prog tab fs82 := fs67OK.add ok82 Try.call82
def ag30 : Args Ty ((List Int) × Unit) := V.arg (tab.den 27) (noArgs)
def rs30 : Res Ty tab (T34) true := V.oneRes (tab.den 35) (ent 35).ids (ent 35).plain (fun _ h => by cases h)
def of30_3 : Int × List Int × Int × Bool × Int × Int × Bool × Int × List T46 × List T46 → NSt Ty := fun x => ⟨[.ptr 100000 [], .ptr 100001 [], .ptr 100002 [], .int .i64 (x.1)], [.var (.arr 5 64 (x.2.1)), .var (.cons (.int .u32 (x.2.2.1)) (.cons (.bool (x.2.2.2.1)) (.cons (.row 100003) (.cons (.int .i64 (x.2.2.2.2.1)) (.nil))))), .var (.cons (.int .u32 (x.2.2.2.2.2.1)) (.cons (.bool (x.2.2.2.2.2.2.1)) (.cons (.row 100004) (.cons (.int .i64 (x.2.2.2.2.2.2.2.1)) (.nil))))), .row 47 (x.2.2.2.2.2.2.2.2.1), .row 47 (x.2.2.2.2.2.2.2.2.2)]⟩
def ab30_3 : (n : NSt Ty) → Option {x : Int × List Int × Int × Bool × Int × Int × Bool × Int × List T46 × List T46 // of30_3 x = n}
  | ⟨[.ptr 100000 [], .ptr 100001 [], .ptr 100002 [], .int .i64 v0], [.var (.arr 5 64 v1), .var (.cons (.int .u32 v2) (.cons (.bool v3) (.cons (.row 100003) (.cons (.int .i64 v4) (.nil))))), .var (.cons (.int .u32 v5) (.cons (.bool v6) (.cons (.row 100004) (.cons (.int .i64 v7) (.nil))))), .row 47 v8, .row 47 v9]⟩ => some ⟨(v0, v1, v2, v3, v4, v5, v6, v7, v8, v9), rfl⟩
  | _ => none
def oe30_3 : List Int × Int × Bool × Int × Int × Bool × Int × List T46 × List T46 → Ex := fun _ => .exit 0
def on30_3 : List Int × Int × Bool × Int × Int × Bool × Int × List T46 × List T46 → NSt Ty := fun x => ⟨[.ptr 100000 [], .ptr 100001 [], .ptr 100002 []], [.var (.arr 5 64 (x.1)), .var (.cons (.int .u32 (x.2.1)) (.cons (.bool (x.2.2.1)) (.cons (.row 100003) (.cons (.int .i64 (x.2.2.2.1)) (.nil))))), .var (.cons (.int .u32 (x.2.2.2.2.1)) (.cons (.bool (x.2.2.2.2.2.1)) (.cons (.row 100004) (.cons (.int .i64 (x.2.2.2.2.2.2.1)) (.nil))))), .row 47 (x.2.2.2.2.2.2.2.1), .row 47 (x.2.2.2.2.2.2.2.2)]⟩
def oa30_3 : (e : Ex) → (n : NSt Ty) → Option {y : List Int × Int × Bool × Int × Int × Bool × Int × List T46 × List T46 // oe30_3 y = e ∧ on30_3 y = n}
  | .exit 0, ⟨[.ptr 100000 [], .ptr 100001 [], .ptr 100002 []], [.var (.arr 5 64 v0), .var (.cons (.int .u32 v1) (.cons (.bool v2) (.cons (.row 100003) (.cons (.int .i64 v3) (.nil))))), .var (.cons (.int .u32 v4) (.cons (.bool v5) (.cons (.row 100004) (.cons (.int .i64 v6) (.nil))))), .row 47 v7, .row 47 v8]⟩ => some ⟨(v0, v1, v2, v3, v4, v5, v6, v7, v8), rfl, rfl⟩
  | _, _ => none
/-- a round of the loop 3 of function 30 -/
def R30_3 (k : Nat) (again : Int × List Int × Int × Bool × Int × Int × Bool × Int × List T46 × List T46 → Option (List Int × Int × Bool × Int × Int × Bool × Int × List T46 × List T46)) (x : Int × List Int × Int × Bool × Int × Int × Bool × Int × List T46 × List T46) : Option (List Int × Int × Bool × Int × Int × Bool × Int × List T46 × List T46) :=
  match x with
  | (v0, v1, v2, v3, v4, v5, v6, v7, v8, v9) => bif decide (v0 < if IntKind.i64.wrap (v1.getD (Int.toNat (6 : Int)) (0 : Int)) < (24 : Int) then IntKind.i64.wrap (v1.getD (Int.toNat (6 : Int)) (0 : Int)) else (24 : Int)) then bif inRange (IntKind.i64.wrap ((7 : Int) + IntKind.i64.wrap ((2 : Int) * v0))) (64 : Nat) then bif inRange (IntKind.i64.wrap ((8 : Int) + IntKind.i64.wrap ((2 : Int) * v0))) (64 : Nat) then bif decide (v9.length + ((List.replicate (1 : Nat) (T46.mk (0 : Int) (0 : Int))).set (0 : Nat) (T46.mk (IntKind.i64.wrap (v1.getD (IntKind.i64.wrap ((7 : Int) + IntKind.i64.wrap ((2 : Int) * v0))).toNat (0 : Int))) (IntKind.i64.wrap (v1.getD (IntKind.i64.wrap ((8 : Int) + IntKind.i64.wrap ((2 : Int) * v0))).toNat (0 : Int))))).length ≤ roomMost) then again (IntKind.i64.wrap (v0 + (1 : Int)), v1, v2, v3, v4, v5, v6, v7, v8, v9 ++ (List.replicate (1 : Nat) (T46.mk (0 : Int) (0 : Int))).set (0 : Nat) (T46.mk (IntKind.i64.wrap (v1.getD (IntKind.i64.wrap ((7 : Int) + IntKind.i64.wrap ((2 : Int) * v0))).toNat (0 : Int))) (IntKind.i64.wrap (v1.getD (IntKind.i64.wrap ((8 : Int) + IntKind.i64.wrap ((2 : Int) * v0))).toNat (0 : Int))))) else none else none else none else some (v1, v2, v3, v4, v5, v6, v7, v8, v9)
def L30_3 (k n : Nat) (x : Int × List Int × Int × Bool × Int × Int × Bool × Int × List T46 × List T46) : Option (List Int × Int × Bool × Int × Int × Bool × Int × List T46 × List T46) := iterR (R30_3 k) n x
noncomputable def ls30_3 : Nat → Option (LSum Ty) := addL 3 (LSum.of of30_3 ab30_3 L30_3 oe30_3 on30_3) noL
def kp30 : Nat → Keep := fun i => cond (i == 3) ⟨[1, 2, 3, 4], [1, 2, 3], 0⟩ (⟨[], [], 0⟩)
/-- "silt/siltref05.Decode" -/
def F30 (k : Nat) (x : (List Int) × Unit) : Option (T34) :=
  match x with
  | (a0, ()) => (F82 k (List.take ((6 : Int) - (2 : Int)).toNat (List.drop (Int.toNat (2 : Int)) a0), ())).bind fun r => (L30_3 k k ((0 : Int), a0, (0 : Int), false, (0 : Int), r, a0.getD (Int.toNat (1 : Int)) (0 : Int) == (1 : Int), (0 : Int), [], [])).bind fun r => (F27 k (T34.mk r.snd.snd.snd.snd.fst r.snd.snd.snd.snd.snd.fst r.snd.snd.snd.snd.snd.snd.snd.snd r.snd.snd.snd.snd.snd.snd.fst, ())).bind fun r_1 => bif r_1.snd.fst != (0 : Int) then some (T34.mk (0 : Int) false [] (11 : Int)) else bif !decide (r_1.fst = r.fst) then some (T34.mk (0 : Int) false [] (11 : Int)) else some (T34.mk r.snd.snd.snd.snd.fst r.snd.snd.snd.snd.snd.fst r.snd.snd.snd.snd.snd.snd.snd.snd r.snd.snd.snd.snd.snd.snd.fst)
noncomputable def sp30 : FSpec Ty := spec ag30 rs30 F30
theorem bo30 : Try.f30.body = some (bodyOf Try.f30) := by kernel_rfl
theorem nd30 : nodupB ((loopsIn (bodyOf Try.f30)).map firstRegion) = true := by kernel_rfl
theorem lo30_3 : LSOK fs82 kp30 tab Try.f30 ls30_3 := lsum_ok bo30 nd30 (LSOK.none) oa30_3 (R := R30_3) fun k again x => by kernel_rfl
theorem ok30 : FOK Try.prog tab 30 sp30 := spec_ok (keeps := kp30) tabOK fs82OK Try.func30 bo30 (by kernel_rfl) nd30 (lo30_3) (F := F30) fun k x => by kernel_rfl
noncomputable def fs30 : Nat → Option (FSpec Ty) := addF 30 sp30 fs82
theorem fs30OK : SpecsOK Try.prog tab fs30 := fs82OK.add ok30 Try.call30
def ag58 : Args Ty ((List Int) × Unit) := V.arg (tab.den 27) (noArgs)
def rs58 : Res Ty tab (T94) true := V.oneRes (tab.den 95) (ent 95).ids (ent 95).plain (fun _ h => by cases h)
def of58_11 : Int × Int × List Int × Int × Int × List Int × Int × Int × List Int × Int × Int × Int × Int × List Int × Int × Int × List Int × List Int × List Int → NSt Ty := fun x => ⟨[.ptr 100000 [], .ptr 100001 [], .ptr 100002 [], .int .u32 (x.1), .int .i64 (x.2.1)], [.var (.arr 5 64 (x.2.2.1)), .var (.cons (.cons (.int .i64 (x.2.2.2.1)) (.cons (.int .i64 (x.2.2.2.2.1)) (.cons (.arr 5 32 (x.2.2.2.2.2.1)) (.cons (.int .i64 (x.2.2.2.2.2.2.1)) (.cons (.row 100003) (.cons (.int .i64 (x.2.2.2.2.2.2.2.1)) (.cons (.arr 3 8 (x.2.2.2.2.2.2.2.2.1)) (.nil)))))))) (.cons (.int .u32 (x.2.2.2.2.2.2.2.2.2.1)) (.cons (.int .i64 (x.2.2.2.2.2.2.2.2.2.2.1)) (.nil)))), .var (.cons (.int .i64 (x.2.2.2.2.2.2.2.2.2.2.2.1)) (.cons (.int .i64 (x.2.2.2.2.2.2.2.2.2.2.2.2.1)) (.cons (.arr 5 32 (x.2.2.2.2.2.2.2.2.2.2.2.2.2.1)) (.cons (.int .i64 (x.2.2.2.2.2.2.2.2.2.2.2.2.2.2.1)) (.cons (.row 100004) (.cons (.int .i64 (x.2.2.2.2.2.2.2.2.2.2.2.2.2.2.2.1)) (.cons (.arr 3 8 (x.2.2.2.2.2.2.2.2.2.2.2.2.2.2.2.2.1)) (.nil)))))))), .row 5 (x.2.2.2.2.2.2.2.2.2.2.2.2.2.2.2.2.2.1), .row 5 (x.2.2.2.2.2.2.2.2.2.2.2.2.2.2.2.2.2.2)]⟩
def ab58_11 : (n : NSt Ty) → Option {x : Int × Int × List Int × Int × Int × List Int × Int × Int × List Int × Int × Int × Int × Int × List Int × Int × Int × List Int × List Int × List Int // of58_11 x = n}
  | ⟨[.ptr 100000 [], .ptr 100001 [], .ptr 100002 [], .int .u32 v0, .int .i64 v1], [.var (.arr 5 64 v2), .var (.cons (.cons (.int .i64 v3) (.cons (.int .i64 v4) (.cons (.arr 5 32 v5) (.cons (.int .i64 v6) (.cons (.row 100003) (.cons (.int .i64 v7) (.cons (.arr 3 8 v8) (.nil)))))))) (.cons (.int .u32 v9) (.cons (.int .i64 v10) (.nil)))), .var (.cons (.int .i64 v11) (.cons (.int .i64 v12) (.cons (.arr 5 32 v13) (.cons (.int .i64 v14) (.cons (.row 100004) (.cons (.int .i64 v15) (.cons (.arr 3 8 v16) (.nil)))))))), .row 5 v17, .row 5 v18]⟩ => some ⟨(v0, v1, v2, v3, v4, v5, v6, v7, v8, v9, v10, v11, v12, v13, v14, v15, v16, v17, v18), rfl⟩
  | _ => none
def oe58_11 : Int × List Int × Int × Int × List Int × Int × Int × List Int × Int × Int × Int × Int × List Int × Int × Int × List Int × List Int × List Int → Ex := fun _ => .exit 1
def on58_11 : Int × List Int × Int × Int × List Int × Int × Int × List Int × Int × Int × Int × Int × List Int × Int × Int × List Int × List Int × List Int → NSt Ty := fun x => ⟨[.ptr 100000 [], .ptr 100001 [], .ptr 100002 [], .int .u32 (x.1)], [.var (.arr 5 64 (x.2.1)), .var (.cons (.cons (.int .i64 (x.2.2.1)) (.cons (.int .i64 (x.2.2.2.1)) (.cons (.arr 5 32 (x.2.2.2.2.1)) (.cons (.int .i64 (x.2.2.2.2.2.1)) (.cons (.row 100003) (.cons (.int .i64 (x.2.2.2.2.2.2.1)) (.cons (.arr 3 8 (x.2.2.2.2.2.2.2.1)) (.nil)))))))) (.cons (.int .u32 (x.2.2.2.2.2.2.2.2.1)) (.cons (.int .i64 (x.2.2.2.2.2.2.2.2.2.1)) (.nil)))), .var (.cons (.int .i64 (x.2.2.2.2.2.2.2.2.2.2.1)) (.cons (.int .i64 (x.2.2.2.2.2.2.2.2.2.2.2.1)) (.cons (.arr 5 32 (x.2.2.2.2.2.2.2.2.2.2.2.2.1)) (.cons (.int .i64 (x.2.2.2.2.2.2.2.2.2.2.2.2.2.1)) (.cons (.row 100004) (.cons (.int .i64 (x.2.2.2.2.2.2.2.2.2.2.2.2.2.2.1)) (.cons (.arr 3 8 (x.2.2.2.2.2.2.2.2.2.2.2.2.2.2.2.1)) (.nil)))))))), .row 5 (x.2.2.2.2.2.2.2.2.2.2.2.2.2.2.2.2.1), .row 5 (x.2.2.2.2.2.2.2.2.2.2.2.2.2.2.2.2.2)]⟩
def oa58_11 : (e : Ex) → (n : NSt Ty) → Option {y : Int × List Int × Int × Int × List Int × Int × Int × List Int × Int × Int × Int × Int × List Int × Int × Int × List Int × List Int × List Int // oe58_11 y = e ∧ on58_11 y = n}
  | .exit 1, ⟨[.ptr 100000 [], .ptr 100001 [], .ptr 100002 [], .int .u32 v0], [.var (.arr 5 64 v1), .var (.cons (.cons (.int .i64 v2) (.cons (.int .i64 v3) (.cons (.arr 5 32 v4) (.cons (.int .i64 v5) (.cons (.row 100003) (.cons (.int .i64 v6) (.cons (.arr 3 8 v7) (.nil)))))))) (.cons (.int .u32 v8) (.cons (.int .i64 v9) (.nil)))), .var (.cons (.int .i64 v10) (.cons (.int .i64 v11) (.cons (.arr 5 32 v12) (.cons (.int .i64 v13) (.cons (.row 100004) (.cons (.int .i64 v14) (.cons (.arr 3 8 v15) (.nil)))))))), .row 5 v16, .row 5 v17]⟩ => some ⟨(v0, v1, v2, v3, v4, v5, v6, v7, v8, v9, v10, v11, v12, v13, v14, v15, v16, v17), rfl, rfl⟩
  | _, _ => none
/-- a round of the loop 11 of function 58 -/
def R58_11 (k : Nat) (again : Int × Int × List Int × Int × Int × List Int × Int × Int × List Int × Int × Int × Int × Int × List Int × Int × Int × List Int × List Int × List Int → Option (Int × List Int × Int × Int × List Int × Int × Int × List Int × Int × Int × Int × Int × List Int × Int × Int × List Int × List Int × List Int)) (x : Int × Int × List Int × Int × Int × List Int × Int × Int × List Int × Int × Int × Int × Int × List Int × Int × Int × List Int × List Int × List Int) : Option (Int × List Int × Int × Int × List Int × Int × Int × List Int × Int × Int × Int × Int × List Int × Int × Int × List Int × List Int × List Int) :=
  match x with
  | (v0, v1, v2, v3, v4, v5, v6, v7, v8, v9, v10, v11, v12, v13, v14, v15, v16, v17, v18) => bif decide (v1 < (8 : Int)) then bif decide ((0 : Int) ≤ IntKind.i64.wrap ((6 : Int) + IntKind.i64.wrap ((2 : Int) * v1))) && decide (IntKind.i64.wrap ((6 : Int) + IntKind.i64.wrap ((2 : Int) * v1)) ≤ IntKind.i64.wrap ((8 : Int) + IntKind.i64.wrap ((2 : Int) * v1))) && decide (IntKind.i64.wrap ((8 : Int) + IntKind.i64.wrap ((2 : Int) * v1)) ≤ (↑(64 : Nat) : Int)) then (F82 k (List.take (IntKind.i64.wrap ((8 : Int) + IntKind.i64.wrap ((2 : Int) * v1)) - IntKind.i64.wrap ((6 : Int) + IntKind.i64.wrap ((2 : Int) * v1))).toNat (List.drop (IntKind.i64.wrap ((6 : Int) + IntKind.i64.wrap ((2 : Int) * v1))).toNat v2), ())).bind fun r => bif inRange v1 (8 : Nat) then again (v0, IntKind.i64.wrap (v1 + (1 : Int)), v2, v3, v4, v5, v6, v7, v8, v9, v10, v11, v12, v13, v14, v15, v16.set v1.toNat (IntKind.i64.wrap r), v17, v18) else none else none else some (v0, v2, v3, v4, v5, v6, v7, v8, v9, v10, v11, v12, v13, v14, v15, v16, v17, v18)
def L58_11 (k n : Nat) (x : Int × Int × List Int × Int × Int × List Int × Int × Int × List Int × Int × Int × Int × Int × List Int × Int × Int × List Int × List Int × List Int) : Option (Int × List Int × Int × Int × List Int × Int × Int × List Int × Int × Int × Int × Int × List Int × Int × Int × List Int × List Int × List Int) := iterR (R58_11 k) n x
noncomputable def ls58_11 : Nat → Option (LSum Ty) := addL 11 (LSum.of of58_11 ab58_11 L58_11 oe58_11 on58_11) noL
def kp58 : Nat → Keep := fun i => cond (i == 11) ⟨[1, 2, 3, 4, 5], [1, 2, 3, 4], 0⟩ (⟨[], [], 0⟩)
/-- "silt/siltref04.Decode" -/
def F58 (k : Nat) (x : (List Int) × Unit) : Option (T94) :=
  match x with
  | (a0, ()) => (F82 k (List.take ((6 : Int) - (2 : Int)).toNat (List.drop (Int.toNat (2 : Int)) a0), ())).bind fun r => bif IntKind.i64.wrap (a0.getD (Int.toNat (0 : Int)) (0 : Int)) == (1 : Int) then (F56 k (T87.mk (IntKind.i64.wrap (a0.getD (Int.toNat (0 : Int)) (0 : Int))) (IntKind.i64.wrap (a0.getD (Int.toNat (1 : Int)) (0 : Int))) (splice (List.replicate (32 : Nat) (0 : Int)) (List.take ((38 : Int) - (6 : Int)).toNat (List.drop (Int.toNat (6 : Int)) a0)) (Int.toNat (0 : Int)) (min (List.take ((38 : Int) - (6 : Int)).toNat (List.drop (Int.toNat (6 : Int)) a0)).length ((↑(32 : Nat) : Int) - (0 : Int)).toNat)) (0 : Int) [] (0 : Int) (List.replicate (8 : Nat) (0 : Int)), r, ())).bind fun r_1 => bif r_1.snd.fst != (0 : Int) then some (T94.mk (T87.mk (0 : Int) (0 : Int) (List.replicate (32 : Nat) (0 : Int)) (0 : Int) [] (0 : Int) (List.replicate (8 : Nat) (0 : Int))) (0 : Int) (11 : Int)) else bif !decide (r_1.fst = a0) then some (T94.mk (T87.mk (0 : Int) (0 : Int) (List.replicate (32 : Nat) (0 : Int)) (0 : Int) [] (0 : Int) (List.replicate (8 : Nat) (0 : Int))) (0 : Int) (11 : Int)) else some (T94.mk (T87.mk (IntKind.i64.wrap (a0.getD (Int.toNat (0 : Int)) (0 : Int))) (IntKind.i64.wrap (a0.getD (Int.toNat (1 : Int)) (0 : Int))) (splice (List.replicate (32 : Nat) (0 : Int)) (List.take ((38 : Int) - (6 : Int)).toNat (List.drop (Int.toNat (6 : Int)) a0)) (Int.toNat (0 : Int)) (min (List.take ((38 : Int) - (6 : Int)).toNat (List.drop (Int.toNat (6 : Int)) a0)).length ((↑(32 : Nat) : Int) - (0 : Int)).toNat)) (0 : Int) [] (0 : Int) (List.replicate (8 : Nat) (0 : Int))) r (0 : Int)) else bif IntKind.i64.wrap (a0.getD (Int.toNat (0 : Int)) (0 : Int)) == (2 : Int) then (F82 k (List.take ((26 : Int) - (24 : Int)).toNat (List.drop (Int.toNat (24 : Int)) a0), ())).bind fun r_1 => bif decide ((0 : Int) ≤ (8 : Int)) && decide ((8 : Int) ≤ IntKind.i64.wrap ((8 : Int) + if IntKind.i64.wrap (a0.getD (Int.toNat (7 : Int)) (0 : Int)) < (16 : Int) then IntKind.i64.wrap (a0.getD (Int.toNat (7 : Int)) (0 : Int)) else (16 : Int))) && decide (IntKind.i64.wrap ((8 : Int) + if IntKind.i64.wrap (a0.getD (Int.toNat (7 : Int)) (0 : Int)) < (16 : Int) then IntKind.i64.wrap (a0.getD (Int.toNat (7 : Int)) (0 : Int)) else (16 : Int)) ≤ (↑(64 : Nat) : Int)) then bif decide ((List.replicate (0 : Nat) (0 : Int)).length + (List.take (IntKind.i64.wrap ((8 : Int) + if IntKind.i64.wrap (a0.getD (Int.toNat (7 : Int)) (0 : Int)) < (16 : Int) then IntKind.i64.wrap (a0.getD (Int.toNat (7 : Int)) (0 : Int)) else (16 : Int)) - (8 : Int)).toNat (List.drop (Int.toNat (8 : Int)) a0)).length ≤ roomMost) then (F56 k (T87.mk (IntKind.i64.wrap (a0.getD (Int.toNat (0 : Int)) (0 : Int))) (IntKind.i64.wrap (a0.getD (Int.toNat (1 : Int)) (0 : Int))) (List.replicate (32 : Nat) (0 : Int)) (IntKind.i64.wrap (a0.getD (Int.toNat (6 : Int)) (0 : Int))) (List.replicate (0 : Nat) (0 : Int) ++ List.take (IntKind.i64.wrap ((8 : Int) + if IntKind.i64.wrap (a0.getD (Int.toNat (7 : Int)) (0 : Int)) < (16 : Int) then IntKind.i64.wrap (a0.getD (Int.toNat (7 : Int)) (0 : Int)) else (16 : Int)) - (8 : Int)).toNat (List.drop (Int.toNat (8 : Int)) a0)) (IntKind.i64.wrap r_1) (List.replicate (8 : Nat) (0 : Int)), r, ())).bind fun r_2 => bif r_2.snd.fst != (0 : Int) then some (T94.mk (T87.mk (0 : Int) (0 : Int) (List.replicate (32 : Nat) (0 : Int)) (0 : Int) [] (0 : Int) (List.replicate (8 : Nat) (0 : Int))) (0 : Int) (11 : Int)) else bif !decide (r_2.fst = a0) then some (T94.mk (T87.mk (0 : Int) (0 : Int) (List.replicate (32 : Nat) (0 : Int)) (0 : Int) [] (0 : Int) (List.replicate (8 : Nat) (0 : Int))) (0 : Int) (11 : Int)) else some (T94.mk (T87.mk (IntKind.i64.wrap (a0.getD (Int.toNat (0 : Int)) (0 : Int))) (IntKind.i64.wrap (a0.getD (Int.toNat (1 : Int)) (0 : Int))) (List.replicate (32 : Nat) (0 : Int)) (IntKind.i64.wrap (a0.getD (Int.toNat (6 : Int)) (0 : Int))) (List.replicate (0 : Nat) (0 : Int) ++ List.take (IntKind.i64.wrap ((8 : Int) + if IntKind.i64.wrap (a0.getD (Int.toNat (7 : Int)) (0 : Int)) < (16 : Int) then IntKind.i64.wrap (a0.getD (Int.toNat (7 : Int)) (0 : Int)) else (16 : Int)) - (8 : Int)).toNat (List.drop (Int.toNat (8 : Int)) a0)) (IntKind.i64.wrap r_1) (List.replicate (8 : Nat) (0 : Int))) r (0 : Int)) else none else none else bif IntKind.i64.wrap (a0.getD (Int.toNat (0 : Int)) (0 : Int)) == (3 : Int) then (L58_11 k k (r, (0 : Int), a0, (0 : Int), (0 : Int), List.replicate (32 : Nat) (0 : Int), (0 : Int), (0 : Int), List.replicate (8 : Nat) (0 : Int), (0 : Int), (0 : Int), IntKind.i64.wrap (a0.getD (Int.toNat (0 : Int)) (0 : Int)), IntKind.i64.wrap (a0.getD (Int.toNat (1 : Int)) (0 : Int)), List.replicate (32 : Nat) (0 : Int), (0 : Int), (0 : Int), List.replicate (8 : Nat) (0 : Int), [], [])).bind fun r => (F56 k (T87.mk r.snd.snd.snd.snd.snd.snd.snd.snd.snd.snd.fst r.snd.snd.snd.snd.snd.snd.snd.snd.snd.snd.snd.fst r.snd.snd.snd.snd.snd.snd.snd.snd.snd.snd.snd.snd.fst r.snd.snd.snd.snd.snd.snd.snd.snd.snd.snd.snd.snd.snd.fst r.snd.snd.snd.snd.snd.snd.snd.snd.snd.snd.snd.snd.snd.snd.snd.snd.snd r.snd.snd.snd.snd.snd.snd.snd.snd.snd.snd.snd.snd.snd.snd.fst r.snd.snd.snd.snd.snd.snd.snd.snd.snd.snd.snd.snd.snd.snd.snd.fst, r.fst, ())).bind fun r_1 => bif r_1.snd.fst != (0 : Int) then some (T94.mk (T87.mk (0 : Int) (0 : Int) (List.replicate (32 : Nat) (0 : Int)) (0 : Int) [] (0 : Int) (List.replicate (8 : Nat) (0 : Int))) (0 : Int) (11 : Int)) else bif !decide (r_1.fst = r.snd.fst) then some (T94.mk (T87.mk (0 : Int) (0 : Int) (List.replicate (32 : Nat) (0 : Int)) (0 : Int) [] (0 : Int) (List.replicate (8 : Nat) (0 : Int))) (0 : Int) (11 : Int)) else some (T94.mk (T87.mk r.snd.snd.snd.snd.snd.snd.snd.snd.snd.snd.fst r.snd.snd.snd.snd.snd.snd.snd.snd.snd.snd.snd.fst r.snd.snd.snd.snd.snd.snd.snd.snd.snd.snd.snd.snd.fst r.snd.snd.snd.snd.snd.snd.snd.snd.snd.snd.snd.snd.snd.fst r.snd.snd.snd.snd.snd.snd.snd.snd.snd.snd.snd.snd.snd.snd.snd.snd.snd r.snd.snd.snd.snd.snd.snd.snd.snd.snd.snd.snd.snd.snd.snd.fst r.snd.snd.snd.snd.snd.snd.snd.snd.snd.snd.snd.snd.snd.snd.snd.fst) r.fst (0 : Int)) else (F56 k (T87.mk (IntKind.i64.wrap (a0.getD (Int.toNat (0 : Int)) (0 : Int))) (IntKind.i64.wrap (a0.getD (Int.toNat (1 : Int)) (0 : Int))) (List.replicate (32 : Nat) (0 : Int)) (0 : Int) [] (0 : Int) (List.replicate (8 : Nat) (0 : Int)), r, ())).bind fun r_1 => bif r_1.snd.fst != (0 : Int) then some (T94.mk (T87.mk (0 : Int) (0 : Int) (List.replicate (32 : Nat) (0 : Int)) (0 : Int) [] (0 : Int) (List.replicate (8 : Nat) (0 : Int))) (0 : Int) (11 : Int)) else bif !decide (r_1.fst = a0) then some (T94.mk (T87.mk (0 : Int) (0 : Int) (List.replicate (32 : Nat) (0 : Int)) (0 : Int) [] (0 : Int) (List.replicate (8 : Nat) (0 : Int))) (0 : Int) (11 : Int)) else some (T94.mk (T87.mk (IntKind.i64.wrap (a0.getD (Int.toNat (0 : Int)) (0 : Int))) (IntKind.i64.wrap (a0.getD (Int.toNat (1 : Int)) (0 : Int))) (List.replicate (32 : Nat) (0 : Int)) (0 : Int) [] (0 : Int) (List.replicate (8 : Nat) (0 : Int))) r (0 : Int))
noncomputable def sp58 : FSpec Ty := spec ag58 rs58 F58
theorem bo58 : Try.f58.body = some (bodyOf Try.f58) := by kernel_rfl
theorem nd58 : nodupB ((loopsIn (bodyOf Try.f58)).map firstRegion) = true := by kernel_rfl
theorem lo58_11 : LSOK fs30 kp58 tab Try.f58 ls58_11 := lsum_ok bo58 nd58 (LSOK.none) oa58_11 (R := R58_11) fun k again x => by kernel_rfl
theorem ok58 : FOK Try.prog tab 58 sp58 := spec_ok (keeps := kp58) tabOK fs30OK Try.func58 bo58 (by kernel_rfl) nd58 (lo58_11) (F := F58) fun k x => by kernel_rfl
noncomputable def fs58 : Nat → Option (FSpec Ty) := addF 58 sp58 fs30
theorem fs58OK : SpecsOK Try.prog tab fs58 := fs30OK.add ok58 Try.call58
def ag73 : Args Ty ((List T128) × Unit) := V.arg (tab.den 106) (noArgs)
def rs73 : Res Ty tab (Int) false := V.oneRes (tab.den 3) (ent 3).ids (ent 3).plain (fun x _ => (ent 3).flat x rfl)
def kp73 : Nat → Keep := fun i => ⟨[], [], 0⟩
/-- "silt/siltref13.Parts" -/
def F73 (k : Nat) (x : (List T128) × Unit) : Option (Int) :=
  match x with
  | (a0, ()) => (F98 k (a0, ())).bind fun r => bif !r then some (0 : Int) else some (IntKind.i64.wrap ((IntKind.i64.wrap ((↑a0.length : Int) + (23 : Int))).tdiv (24 : Int)))
noncomputable def sp73 : FSpec Ty := spec ag73 rs73 F73
theorem bo73 : Try.f73.body = some (bodyOf Try.f73) := by kernel_rfl
theorem nd73 : nodupB ((loopsIn (bodyOf Try.f73)).map firstRegion) = true := by kernel_rfl
theorem ok73 : FOK Try.prog tab 73 sp73 := spec_ok (keeps := kp73) tabOK fs58OK Try.func73 bo73 (by kernel_rfl) nd73 (LSOK.none) (F := F73) fun k x => by kernel_rfl
noncomputable def fs73 : Nat → Option (FSpec Ty) := addF 73 sp73 fs58
theorem fs73OK : SpecsOK Try.prog tab fs73 := fs58OK.add ok73 Try.call73
def ag69 : Args Ty (Int × (List (List Int)) × Unit) := V.arg (tab.den 22) (V.arg (tab.den 70) (noArgs))
def rs69 : Res Ty tab (T119) true := V.oneRes (tab.den 120) (ent 120).ids (ent 120).plain (fun _ h => by cases h)
def of69_13 : Int × List (List Int) × Int × Int × Int × Int × Int × Bool × List T128 × Int × Bool × List T46 × Int × List T128 × List Int → NSt Ty := fun x => ⟨[.int .u32 (x.1), .slice 27 (x.2.1), .ptr 100000 [], .row 100001, .int .i64 (x.2.2.1), .int .u32 (x.2.2.2.1), .ptr 100002 [], .int .i64 (x.2.2.2.2.1)], [.var (.cons (.row 100003) (.cons (.row 100004) (.cons (.int .i64 (x.2.2.2.2.2.1)) (.cons (.int .i64 (x.2.2.2.2.2.2.1)) (.cons (.bool (x.2.2.2.2.2.2.2.1)) (.nil)))))), .row 129 (x.2.2.2.2.2.2.2.2.1), .var (.cons (.int .u32 (x.2.2.2.2.2.2.2.2.2.1)) (.cons (.bool (x.2.2.2.2.2.2.2.2.2.2.1)) (.cons (.slice 47 (x.2.2.2.2.2.2.2.2.2.2.2.1)) (.cons (.int .i64 (x.2.2.2.2.2.2.2.2.2.2.2.2.1)) (.nil))))), .row 129 (x.2.2.2.2.2.2.2.2.2.2.2.2.2.1), .row 3 (x.2.2.2.2.2.2.2.2.2.2.2.2.2.2)]⟩
def ab69_13 : (n : NSt Ty) → Option {x : Int × List (List Int) × Int × Int × Int × Int × Int × Bool × List T128 × Int × Bool × List T46 × Int × List T128 × List Int // of69_13 x = n}
  | ⟨[.int .u32 v0, .slice 27 v1, .ptr 100000 [], .row 100001, .int .i64 v2, .int .u32 v3, .ptr 100002 [], .int .i64 v4], [.var (.cons (.row 100003) (.cons (.row 100004) (.cons (.int .i64 v5) (.cons (.int .i64 v6) (.cons (.bool v7) (.nil)))))), .row 129 v8, .var (.cons (.int .u32 v9) (.cons (.bool v10) (.cons (.slice 47 v11) (.cons (.int .i64 v12) (.nil))))), .row 129 v13, .row 3 v14]⟩ => some ⟨(v0, v1, v2, v3, v4, v5, v6, v7, v8, v9, v10, v11, v12, v13, v14), rfl⟩
  | _ => none
def on69_13a : Int × List (List Int) × Int × Int × Int × Int × Bool × List T128 × Int × Bool × List T46 × Int × List T128 × List Int → NSt Ty := fun x => ⟨[.int .u32 (x.1), .slice 27 (x.2.1), .ptr 100000 [], .row 100001, .int .i64 (x.2.2.1), .int .u32 (x.2.2.2.1), .ptr 100002 []], [.var (.cons (.row 100003) (.cons (.row 100004) (.cons (.int .i64 (x.2.2.2.2.1)) (.cons (.int .i64 (x.2.2.2.2.2.1)) (.cons (.bool (x.2.2.2.2.2.2.1)) (.nil)))))), .row 129 (x.2.2.2.2.2.2.2.1), .var (.cons (.int .u32 (x.2.2.2.2.2.2.2.2.1)) (.cons (.bool (x.2.2.2.2.2.2.2.2.2.1)) (.cons (.slice 47 (x.2.2.2.2.2.2.2.2.2.2.1)) (.cons (.int .i64 (x.2.2.2.2.2.2.2.2.2.2.2.1)) (.nil))))), .row 129 (x.2.2.2.2.2.2.2.2.2.2.2.2.1), .row 3 (x.2.2.2.2.2.2.2.2.2.2.2.2.2)]⟩
def on69_13b : Int × List (List Int) × Int × Int × Int × Int × Bool × List T128 × Int × Bool × List T46 × Int × List T128 × List Int → NSt Ty := fun x => ⟨[.int .u32 (x.1), .slice 27 (x.2.1), .ptr 100000 [], .row 100001, .int .i64 (x.2.2.1), .int .u32 (x.2.2.2.1), .ptr 100002 []], [.var (.cons (.row 100003) (.cons (.row 100004) (.cons (.int .i64 (x.2.2.2.2.1)) (.cons (.int .i64 (x.2.2.2.2.2.1)) (.cons (.bool (x.2.2.2.2.2.2.1)) (.nil)))))), .row 129 (x.2.2.2.2.2.2.2.1), .var (.cons (.int .u32 (x.2.2.2.2.2.2.2.2.1)) (.cons (.bool (x.2.2.2.2.2.2.2.2.2.1)) (.cons (.slice 47 (x.2.2.2.2.2.2.2.2.2.2.1)) (.cons (.int .i64 (x.2.2.2.2.2.2.2.2.2.2.2.1)) (.nil))))), .row 129 (x.2.2.2.2.2.2.2.2.2.2.2.2.1), .row 3 (x.2.2.2.2.2.2.2.2.2.2.2.2.2)]⟩
def oa69_13 : (e : Ex) → (n : NSt Ty) → Option {y : (Int × List (List Int) × Int × Int × Int × Int × Bool × List T128 × Int × Bool × List T46 × Int × List T128 × List Int) ⊕ (Int × List (List Int) × Int × Int × Int × Int × Bool × List T128 × Int × Bool × List T46 × Int × List T128 × List Int) // oe2 .ret (.exit 2) y = e ∧ on2 on69_13a on69_13b y = n}
  | .ret, ⟨[.int .u32 v0, .slice 27 v1, .ptr 100000 [], .row 100001, .int .i64 v2, .int .u32 v3, .ptr 100002 []], [.var (.cons (.row 100003) (.cons (.row 100004) (.cons (.int .i64 v4) (.cons (.int .i64 v5) (.cons (.bool v6) (.nil)))))), .row 129 v7, .var (.cons (.int .u32 v8) (.cons (.bool v9) (.cons (.slice 47 v10) (.cons (.int .i64 v11) (.nil))))), .row 129 v12, .row 3 v13]⟩ => some ⟨.inl (v0, v1, v2, v3, v4, v5, v6, v7, v8, v9, v10, v11, v12, v13), rfl, rfl⟩
  | .exit 2, ⟨[.int .u32 v0, .slice 27 v1, .ptr 100000 [], .row 100001, .int .i64 v2, .int .u32 v3, .ptr 100002 []], [.var (.cons (.row 100003) (.cons (.row 100004) (.cons (.int .i64 v4) (.cons (.int .i64 v5) (.cons (.bool v6) (.nil)))))), .row 129 v7, .var (.cons (.int .u32 v8) (.cons (.bool v9) (.cons (.slice 47 v10) (.cons (.int .i64 v11) (.nil))))), .row 129 v12, .row 3 v13]⟩ => some ⟨.inr (v0, v1, v2, v3, v4, v5, v6, v7, v8, v9, v10, v11, v12, v13), rfl, rfl⟩
  | _, _ => none
/-- a round of the loop 13 of function 69 -/
def R69_13 (k : Nat) (again : Int × List (List Int) × Int × Int × Int × Int × Int × Bool × List T128 × Int × Bool × List T46 × Int × List T128 × List Int → Option ((Int × List (List Int) × Int × Int × Int × Int × Bool × List T128 × Int × Bool × List T46 × Int × List T128 × List Int) ⊕ (Int × List (List Int) × Int × Int × Int × Int × Bool × List T128 × Int × Bool × List T46 × Int × List T128 × List Int))) (x : Int × List (List Int) × Int × Int × Int × Int × Int × Bool × List T128 × Int × Bool × List T46 × Int × List T128 × List Int) : Option ((Int × List (List Int) × Int × Int × Int × Int × Bool × List T128 × Int × Bool × List T46 × Int × List T128 × List Int) ⊕ (Int × List (List Int) × Int × Int × Int × Int × Bool × List T128 × Int × Bool × List T46 × Int × List T128 × List Int)) :=
  match x with
  | (v0, v1, v2, v3, v4, v5, v6, v7, v8, v9, v10, v11, v12, v13, v14) => bif decide (v4 < (↑v11.length : Int)) then bif inRange v4 v11.length then bif decide ((v11.getD v4.toNat (T46.mk (0 : Int) (0 : Int))).1 ≤ (3 : Int)) then bif decide (v2 ≥ (↑v1.length : Int)) then some (Sum.inl (v0, v1, v2, v3, (0 : Int), (0 : Int), false, v8, v9, v10, v11, v12, [], [])) else bif inRange v2 v1.length then (F58 k (v1.getD v2.toNat (List.replicate (64 : Nat) (0 : Int)), ())).bind fun r => bif r.3 != (0 : Int) then some (Sum.inl (v0, v1, v2, v3, (0 : Int), (0 : Int), false, v8, v9, v10, v11, v12, [], [])) else bif decide (v8.length + ((List.replicate (1 : Nat) (T128.mk (T46.mk (0 : Int) (0 : Int)) (T87.mk (0 : Int) (0 : Int) (List.replicate (32 : Nat) (0 : Int)) (0 : Int) [] (0 : Int) (List.replicate (8 : Nat) (0 : Int))))).set (0 : Nat) (T128.mk (T46.mk (v11.getD v4.toNat (T46.mk (0 : Int) (0 : Int))).1 (v11.getD v4.toNat (T46.mk (0 : Int) (0 : Int))).2) (T87.mk r.1.1 r.1.2 r.1.3 r.1.4 r.1.5 r.1.6 r.1.7))).length ≤ roomMost) then again (v0, v1, IntKind.i64.wrap (v2 + (1 : Int)), v3, IntKind.i64.wrap (v4 + (1 : Int)), v5, v6, v7, v8 ++ (List.replicate (1 : Nat) (T128.mk (T46.mk (0 : Int) (0 : Int)) (T87.mk (0 : Int) (0 : Int) (List.replicate (32 : Nat) (0 : Int)) (0 : Int) [] (0 : Int) (List.replicate (8 : Nat) (0 : Int))))).set (0 : Nat) (T128.mk (T46.mk (v11.getD v4.toNat (T46.mk (0 : Int) (0 : Int))).1 (v11.getD v4.toNat (T46.mk (0 : Int) (0 : Int))).2) (T87.mk r.1.1 r.1.2 r.1.3 r.1.4 r.1.5 r.1.6 r.1.7)), v9, v10, v11, v12, v13, v14) else none else none else bif decide (v8.length + ((List.replicate (1 : Nat) (T128.mk (T46.mk (0 : Int) (0 : Int)) (T87.mk (0 : Int) (0 : Int) (List.replicate (32 : Nat) (0 : Int)) (0 : Int) [] (0 : Int) (List.replicate (8 : Nat) (0 : Int))))).set (0 : Nat) (T128.mk (T46.mk (v11.getD v4.toNat (T46.mk (0 : Int) (0 : Int))).1 (v11.getD v4.toNat (T46.mk (0 : Int) (0 : Int))).2) (T87.mk (0 : Int) (0 : Int) (List.replicate (32 : Nat) (0 : Int)) (0 : Int) [] (0 : Int) (List.replicate (8 : Nat) (0 : Int))))).length ≤ roomMost) then again (v0, v1, v2, v3, IntKind.i64.wrap (v4 + (1 : Int)), v5, v6, v7, v8 ++ (List.replicate (1 : Nat) (T128.mk (T46.mk (0 : Int) (0 : Int)) (T87.mk (0 : Int) (0 : Int) (List.replicate (32 : Nat) (0 : Int)) (0 : Int) [] (0 : Int) (List.replicate (8 : Nat) (0 : Int))))).set (0 : Nat) (T128.mk (T46.mk (v11.getD v4.toNat (T46.mk (0 : Int) (0 : Int))).1 (v11.getD v4.toNat (T46.mk (0 : Int) (0 : Int))).2) (T87.mk (0 : Int) (0 : Int) (List.replicate (32 : Nat) (0 : Int)) (0 : Int) [] (0 : Int) (List.replicate (8 : Nat) (0 : Int)))), v9, v10, v11, v12, v13, v14) else none else none else some (Sum.inr (v0, v1, v2, v3, v5, v6, v7, v8, v9, v10, v11, v12, v13, v14))
def L69_13 (k n : Nat) (x : Int × List (List Int) × Int × Int × Int × Int × Int × Bool × List T128 × Int × Bool × List T46 × Int × List T128 × List Int) : Option ((Int × List (List Int) × Int × Int × Int × Int × Bool × List T128 × Int × Bool × List T46 × Int × List T128 × List Int) ⊕ (Int × List (List Int) × Int × Int × Int × Int × Bool × List T128 × Int × Bool × List T46 × Int × List T128 × List Int)) := iterR (R69_13 k) n x
noncomputable def ls69_13 : Nat → Option (LSum Ty) := addL 13 (lsum2 of69_13 ab69_13 L69_13 .ret on69_13a (.exit 2) on69_13b) noL
def of69_4 : Int × List (List Int) × Int × Int × Bool × Int × Int × Bool × List T128 × List T128 × List Int → NSt Ty := fun x => ⟨[.int .u32 (x.1), .slice 27 (x.2.1), .ptr 100000 [], .row 100001, .int .i64 (x.2.2.1), .int .u32 (x.2.2.2.1), .bool (x.2.2.2.2.1)], [.var (.cons (.row 100002) (.cons (.row 100003) (.cons (.int .i64 (x.2.2.2.2.2.1)) (.cons (.int .i64 (x.2.2.2.2.2.2.1)) (.cons (.bool (x.2.2.2.2.2.2.2.1)) (.nil)))))), .row 129 (x.2.2.2.2.2.2.2.2.1), .row 129 (x.2.2.2.2.2.2.2.2.2.1), .row 3 (x.2.2.2.2.2.2.2.2.2.2)]⟩
def ab69_4 : (n : NSt Ty) → Option {x : Int × List (List Int) × Int × Int × Bool × Int × Int × Bool × List T128 × List T128 × List Int // of69_4 x = n}
  | ⟨[.int .u32 v0, .slice 27 v1, .ptr 100000 [], .row 100001, .int .i64 v2, .int .u32 v3, .bool v4], [.var (.cons (.row 100002) (.cons (.row 100003) (.cons (.int .i64 v5) (.cons (.int .i64 v6) (.cons (.bool v7) (.nil)))))), .row 129 v8, .row 129 v9, .row 3 v10]⟩ => some ⟨(v0, v1, v2, v3, v4, v5, v6, v7, v8, v9, v10), rfl⟩
  | _ => none
def on69_4a : Int × List (List Int) × Int × Int × Int × Bool × List T128 × List T128 × List Int → NSt Ty := fun x => ⟨[.int .u32 (x.1), .slice 27 (x.2.1), .ptr 100000 [], .row 100001, .int .i64 (x.2.2.1)], [.var (.cons (.row 100002) (.cons (.row 100003) (.cons (.int .i64 (x.2.2.2.1)) (.cons (.int .i64 (x.2.2.2.2.1)) (.cons (.bool (x.2.2.2.2.2.1)) (.nil)))))), .row 129 (x.2.2.2.2.2.2.1), .row 129 (x.2.2.2.2.2.2.2.1), .row 3 (x.2.2.2.2.2.2.2.2)]⟩
def on69_4b : Int × List (List Int) × Int × Int × Int × Bool × List T128 × List T128 × List Int → NSt Ty := fun x => ⟨[.int .u32 (x.1), .slice 27 (x.2.1), .ptr 100000 [], .row 100001, .int .i64 (x.2.2.1)], [.var (.cons (.row 100002) (.cons (.row 100003) (.cons (.int .i64 (x.2.2.2.1)) (.cons (.int .i64 (x.2.2.2.2.1)) (.cons (.bool (x.2.2.2.2.2.1)) (.nil)))))), .row 129 (x.2.2.2.2.2.2.1), .row 129 (x.2.2.2.2.2.2.2.1), .row 3 (x.2.2.2.2.2.2.2.2)]⟩
def oa69_4 : (e : Ex) → (n : NSt Ty) → Option {y : (Int × List (List Int) × Int × Int × Int × Bool × List T128 × List T128 × List Int) ⊕ (Int × List (List Int) × Int × Int × Int × Bool × List T128 × List T128 × List Int) // oe2 .ret (.exit 0) y = e ∧ on2 on69_4a on69_4b y = n}
  | .ret, ⟨[.int .u32 v0, .slice 27 v1, .ptr 100000 [], .row 100001, .int .i64 v2], [.var (.cons (.row 100002) (.cons (.row 100003) (.cons (.int .i64 v3) (.cons (.int .i64 v4) (.cons (.bool v5) (.nil)))))), .row 129 v6, .row 129 v7, .row 3 v8]⟩ => some ⟨.inl (v0, v1, v2, v3, v4, v5, v6, v7, v8), rfl, rfl⟩
  | .exit 0, ⟨[.int .u32 v0, .slice 27 v1, .ptr 100000 [], .row 100001, .int .i64 v2], [.var (.cons (.row 100002) (.cons (.row 100003) (.cons (.int .i64 v3) (.cons (.int .i64 v4) (.cons (.bool v5) (.nil)))))), .row 129 v6, .row 129 v7, .row 3 v8]⟩ => some ⟨.inr (v0, v1, v2, v3, v4, v5, v6, v7, v8), rfl, rfl⟩
  | _, _ => none
/-- a round of the loop 4 of function 69 -/
def R69_4 (k : Nat) (again : Int × List (List Int) × Int × Int × Bool × Int × Int × Bool × List T128 × List T128 × List Int → Option ((Int × List (List Int) × Int × Int × Int × Bool × List T128 × List T128 × List Int) ⊕ (Int × List (List Int) × Int × Int × Int × Bool × List T128 × List T128 × List Int))) (x : Int × List (List Int) × Int × Int × Bool × Int × Int × Bool × List T128 × List T128 × List Int) : Option ((Int × List (List Int) × Int × Int × Int × Bool × List T128 × List T128 × List Int) ⊕ (Int × List (List Int) × Int × Int × Int × Bool × List T128 × List T128 × List Int)) :=
  match x with
  | (v0, v1, v2, v3, v4, v5, v6, v7, v8, v9, v10) => bif v4 then bif decide (v2 ≥ (↑v1.length : Int)) then some (Sum.inl (v0, v1, v2, (0 : Int), (0 : Int), false, v8, [], [])) else bif inRange v2 v1.length then (F30 k (v1.getD v2.toNat (List.replicate (64 : Nat) (0 : Int)), ())).bind fun r => bif r.4 != (0 : Int) then some (Sum.inl (v0, v1, v2, (0 : Int), (0 : Int), false, v8, [], [])) else bif r.1 != v3 then some (Sum.inl (v0, v1, v2, (0 : Int), (0 : Int), false, v8, [], [])) else (L69_13 k k (v0, v1, IntKind.i64.wrap (v2 + (1 : Int)), v3, (0 : Int), v5, v6, v7, v8, r.1, r.2, r.3, r.4, v9, v10)).bind fun r => sumK r (fun a => some (Sum.inl (a.fst, a.snd.fst, a.snd.snd.fst, a.snd.snd.snd.snd.fst, a.snd.snd.snd.snd.snd.fst, a.snd.snd.snd.snd.snd.snd.fst, a.snd.snd.snd.snd.snd.snd.snd.fst, a.snd.snd.snd.snd.snd.snd.snd.snd.snd.snd.snd.snd.fst, a.snd.snd.snd.snd.snd.snd.snd.snd.snd.snd.snd.snd.snd))) fun b => again (b.fst, b.snd.fst, b.snd.snd.fst, IntKind.u32.wrap (b.snd.snd.snd.fst + (1 : Int)), b.snd.snd.snd.snd.snd.snd.snd.snd.snd.fst, b.snd.snd.snd.snd.fst, b.snd.snd.snd.snd.snd.fst, b.snd.snd.snd.snd.snd.snd.fst, b.snd.snd.snd.snd.snd.snd.snd.fst, b.snd.snd.snd.snd.snd.snd.snd.snd.snd.snd.snd.snd.fst, b.snd.snd.snd.snd.snd.snd.snd.snd.snd.snd.snd.snd.snd) else none else some (Sum.inr (v0, v1, v2, v5, v6, v7, v8, v9, v10))
def L69_4 (k n : Nat) (x : Int × List (List Int) × Int × Int × Bool × Int × Int × Bool × List T128 × List T128 × List Int) : Option ((Int × List (List Int) × Int × Int × Int × Bool × List T128 × List T128 × List Int) ⊕ (Int × List (List Int) × Int × Int × Int × Bool × List T128 × List T128 × List Int)) := iterR (R69_4 k) n x
noncomputable def ls69_4 : Nat → Option (LSum Ty) := addL 4 (lsum2 of69_4 ab69_4 L69_4 .ret on69_4a (.exit 0) on69_4b) ls69_13
def of69_30 : List (List Int) × Int × Int × Int × Int × Bool × List T128 × List (List Int) × List Int × Bool × List T128 × List Int → NSt Ty := fun x => ⟨[.slice 27 (x.1), .ptr 100000 [], .row 100001, .int .i64 (x.2.1), .ptr 100002 [], .int .i64 (x.2.2.1)], [.var (.cons (.row 100003) (.cons (.row 100004) (.cons (.int .i64 (x.2.2.2.1)) (.cons (.int .i64 (x.2.2.2.2.1)) (.cons (.bool (x.2.2.2.2.2.1)) (.nil)))))), .frow 129 (x.2.2.2.2.2.2.1), .var (.cons (.slice 27 (x.2.2.2.2.2.2.2.1)) (.cons (.slice 3 (x.2.2.2.2.2.2.2.2.1)) (.cons (.bool (x.2.2.2.2.2.2.2.2.2.1)) (.nil)))), .row 129 (x.2.2.2.2.2.2.2.2.2.2.1), .row 3 (x.2.2.2.2.2.2.2.2.2.2.2)]⟩
def ab69_30 : (n : NSt Ty) → Option {x : List (List Int) × Int × Int × Int × Int × Bool × List T128 × List (List Int) × List Int × Bool × List T128 × List Int // of69_30 x = n}
  | ⟨[.slice 27 v0, .ptr 100000 [], .row 100001, .int .i64 v1, .ptr 100002 [], .int .i64 v2], [.var (.cons (.row 100003) (.cons (.row 100004) (.cons (.int .i64 v3) (.cons (.int .i64 v4) (.cons (.bool v5) (.nil)))))), .frow 129 v6, .var (.cons (.slice 27 v7) (.cons (.slice 3 v8) (.cons (.bool v9) (.nil)))), .row 129 v10, .row 3 v11]⟩ => some ⟨(v0, v1, v2, v3, v4, v5, v6, v7, v8, v9, v10, v11), rfl⟩
  | _ => none
def on69_30a : Int × Int × Int × Bool × List T128 × List (List Int) × List Int × Bool × List T128 × List Int → NSt Ty := fun x => ⟨[.ptr 100000 [], .row 100001, .int .i64 (x.1), .ptr 100002 []], [.var (.cons (.row 100003) (.cons (.row 100004) (.cons (.int .i64 (x.2.1)) (.cons (.int .i64 (x.2.2.1)) (.cons (.bool (x.2.2.2.1)) (.nil)))))), .frow 129 (x.2.2.2.2.1), .var (.cons (.slice 27 (x.2.2.2.2.2.1)) (.cons (.slice 3 (x.2.2.2.2.2.2.1)) (.cons (.bool (x.2.2.2.2.2.2.2.1)) (.nil)))), .row 129 (x.2.2.2.2.2.2.2.2.1), .row 3 (x.2.2.2.2.2.2.2.2.2)]⟩
def on69_30b : Int × Int × Int × Bool × List T128 × List (List Int) × List Int × Bool × List T128 × List Int → NSt Ty := fun x => ⟨[.ptr 100000 [], .row 100001, .int .i64 (x.1), .ptr 100002 []], [.var (.cons (.row 100003) (.cons (.row 100004) (.cons (.int .i64 (x.2.1)) (.cons (.int .i64 (x.2.2.1)) (.cons (.bool (x.2.2.2.1)) (.nil)))))), .frow 129 (x.2.2.2.2.1), .var (.cons (.slice 27 (x.2.2.2.2.2.1)) (.cons (.slice 3 (x.2.2.2.2.2.2.1)) (.cons (.bool (x.2.2.2.2.2.2.2.1)) (.nil)))), .row 129 (x.2.2.2.2.2.2.2.2.1), .row 3 (x.2.2.2.2.2.2.2.2.2)]⟩
def oa69_30 : (e : Ex) → (n : NSt Ty) → Option {y : (Int × Int × Int × Bool × List T128 × List (List Int) × List Int × Bool × List T128 × List Int) ⊕ (Int × Int × Int × Bool × List T128 × List (List Int) × List Int × Bool × List T128 × List Int) // oe2 .ret (.exit 4) y = e ∧ on2 on69_30a on69_30b y = n}
  | .ret, ⟨[.ptr 100000 [], .row 100001, .int .i64 v0, .ptr 100002 []], [.var (.cons (.row 100003) (.cons (.row 100004) (.cons (.int .i64 v1) (.cons (.int .i64 v2) (.cons (.bool v3) (.nil)))))), .frow 129 v4, .var (.cons (.slice 27 v5) (.cons (.slice 3 v6) (.cons (.bool v7) (.nil)))), .row 129 v8, .row 3 v9]⟩ => some ⟨.inl (v0, v1, v2, v3, v4, v5, v6, v7, v8, v9), rfl, rfl⟩
  | .exit 4, ⟨[.ptr 100000 [], .row 100001, .int .i64 v0, .ptr 100002 []], [.var (.cons (.row 100003) (.cons (.row 100004) (.cons (.int .i64 v1) (.cons (.int .i64 v2) (.cons (.bool v3) (.nil)))))), .frow 129 v4, .var (.cons (.slice 27 v5) (.cons (.slice 3 v6) (.cons (.bool v7) (.nil)))), .row 129 v8, .row 3 v9]⟩ => some ⟨.inr (v0, v1, v2, v3, v4, v5, v6, v7, v8, v9), rfl, rfl⟩
  | _, _ => none
/-- a round of the loop 30 of function 69 -/
def R69_30 (k : Nat) (again : List (List Int) × Int × Int × Int × Int × Bool × List T128 × List (List Int) × List Int × Bool × List T128 × List Int → Option ((Int × Int × Int × Bool × List T128 × List (List Int) × List Int × Bool × List T128 × List Int) ⊕ (Int × Int × Int × Bool × List T128 × List (List Int) × List Int × Bool × List T128 × List Int))) (x : List (List Int) × Int × Int × Int × Int × Bool × List T128 × List (List Int) × List Int × Bool × List T128 × List Int) : Option ((Int × Int × Int × Bool × List T128 × List (List Int) × List Int × Bool × List T128 × List Int) ⊕ (Int × Int × Int × Bool × List T128 × List (List Int) × List Int × Bool × List T128 × List Int)) :=
  match x with
  | (v0, v1, v2, v3, v4, v5, v6, v7, v8, v9, v10, v11) => bif decide (v2 < v1) then bif inRange v2 v7.length then bif inRange v2 v0.length then bif !decide (v7.getD v2.toNat (List.replicate (64 : Nat) (0 : Int)) = v0.getD v2.toNat (List.replicate (64 : Nat) (0 : Int))) then some (Sum.inl (v1, (0 : Int), (0 : Int), false, v6, v7, v8, v9, [], [])) else again (v0, v1, IntKind.i64.wrap (v2 + (1 : Int)), v3, v4, v5, v6, v7, v8, v9, v10, v11) else none else none else some (Sum.inr (v1, v3, v4, v5, v6, v7, v8, v9, v10, v11))
def L69_30 (k n : Nat) (x : List (List Int) × Int × Int × Int × Int × Bool × List T128 × List (List Int) × List Int × Bool × List T128 × List Int) : Option ((Int × Int × Int × Bool × List T128 × List (List Int) × List Int × Bool × List T128 × List Int) ⊕ (Int × Int × Int × Bool × List T128 × List (List Int) × List Int × Bool × List T128 × List Int)) := iterR (R69_30 k) n x
noncomputable def ls69_30 : Nat → Option (LSum Ty) := addL 30 (lsum2 of69_30 ab69_30 L69_30 .ret on69_30a (.exit 4) on69_30b) ls69_4
def kp69 : Nat → Keep := fun i => cond (i == 4) ⟨[0, 1, 4, 5, 6, 7, 8], [0, 1, 4, 5, 6], 0⟩ (cond (i == 13) ⟨[0, 1, 4, 5, 6, 7, 9, 10], [0, 1, 4, 5, 6, 7, 9], 0⟩ (cond (i == 30) ⟨[1, 4, 5, 6, 13, 14], [4, 5, 6, 13], 0⟩ (⟨[], [], 0⟩)))
/-- "silt/siltref13.Read" -/
def F69 (k : Nat) (x : Int × (List (List Int)) × Unit) : Option (T119) :=
  match x with
  | (a0, a1, ()) => (L69_4 k k (a0, a1, (0 : Int), a0, true, (0 : Int), (0 : Int), false, [], [], [])).bind fun r => sumK r (fun a => some (T119.mk a.snd.snd.snd.snd.snd.snd.snd.fst a.snd.snd.snd.snd.snd.snd.snd.snd a.snd.snd.snd.fst a.snd.snd.snd.snd.fst a.snd.snd.snd.snd.snd.fst)) fun b => (F67 k (b.fst, b.snd.snd.snd.snd.snd.snd.fst, ())).bind fun r => bif !r.3 then some (T119.mk [] [] (0 : Int) (0 : Int) false) else bif (↑r.1.length : Int) != b.snd.snd.fst then some (T119.mk [] [] (0 : Int) (0 : Int) false) else (L69_30 k k (b.snd.fst, b.snd.snd.fst, (0 : Int), b.snd.snd.snd.fst, b.snd.snd.snd.snd.fst, b.snd.snd.snd.snd.snd.fst, b.snd.snd.snd.snd.snd.snd.fst, r.1, r.2, r.3, b.snd.snd.snd.snd.snd.snd.snd.fst, b.snd.snd.snd.snd.snd.snd.snd.snd)).bind fun r => sumK r (fun a => some (T119.mk a.snd.snd.snd.snd.snd.snd.snd.snd.fst a.snd.snd.snd.snd.snd.snd.snd.snd.snd a.snd.fst a.snd.snd.fst a.snd.snd.snd.fst)) fun b => (F73 k (b.snd.snd.snd.snd.fst, ())).bind fun r => some (T119.mk b.snd.snd.snd.snd.fst b.snd.snd.snd.snd.snd.snd.fst b.fst r true)
noncomputable def sp69 : FSpec Ty := spec ag69 rs69 F69
theorem bo69 : Try.f69.body = some (bodyOf Try.f69) := by kernel_rfl
theorem nd69 : nodupB ((loopsIn (bodyOf Try.f69)).map firstRegion) = true := by kernel_rfl
theorem lo69_13 : LSOK fs73 kp69 tab Try.f69 ls69_13 := lsum2_ok bo69 nd69 (LSOK.none) oa69_13 (R := R69_13) fun k again x => by kernel_rfl
theorem lo69_4 : LSOK fs73 kp69 tab Try.f69 ls69_4 := lsum2_ok bo69 nd69 (lo69_13) oa69_4 (R := R69_4) fun k again x => by kernel_rfl
theorem lo69_30 : LSOK fs73 kp69 tab Try.f69 ls69_30 := lsum2_ok bo69 nd69 (lo69_4) oa69_30 (R := R69_30) fun k again x => by kernel_rfl
theorem ok69 : FOK Try.prog tab 69 sp69 := spec_ok (keeps := kp69) tabOK fs73OK Try.func69 bo69 (by kernel_rfl) nd69 (lo69_30) (F := F69) fun k x => by kernel_rfl
noncomputable def fs69 : Nat → Option (FSpec Ty) := addF 69 sp69 fs73
theorem fs69OK : SpecsOK Try.prog tab fs69 := fs73OK.add ok69 Try.call69
def ag71 : Args Ty ((List T128) × Unit) := V.arg (tab.den 106) (noArgs)
def rs71 : Res Ty tab (Int) false := V.oneRes (tab.den 3) (ent 3).ids (ent 3).plain (fun x _ => (ent 3).flat x rfl)
def of71_3 : List T128 × Int × Int → NSt Ty := fun x => ⟨[.slice 129 (x.1), .int .i64 (x.2.1), .int .i64 (x.2.2)], []⟩
def ab71_3 : (n : NSt Ty) → Option {x : List T128 × Int × Int // of71_3 x = n}
  | ⟨[.slice 129 v0, .int .i64 v1, .int .i64 v2], []⟩ => some ⟨(v0, v1, v2), rfl⟩
  | _ => none
def oe71_3 : Int → Ex := fun _ => .exit 0
def on71_3 : Int → NSt Ty := fun x => ⟨[.int .i64 (x)], []⟩
def oa71_3 : (e : Ex) → (n : NSt Ty) → Option {y : Int // oe71_3 y = e ∧ on71_3 y = n}
  | .exit 0, ⟨[.int .i64 v0], []⟩ => some ⟨v0, rfl, rfl⟩
  | _, _ => none
/-- a round of the loop 3 of function 71 -/
def R71_3 (k : Nat) (again : List T128 × Int × Int → Option (Int)) (x : List T128 × Int × Int) : Option (Int) :=
  match x with
  | (v0, v1, v2) => bif decide (v2 < (↑v0.length : Int)) then bif decide (v1 > (0 : Int)) then bif inRange v2 v0.length then bif decide ((v0.getD v2.toNat (T128.mk (T46.mk (0 : Int) (0 : Int)) (T87.mk (0 : Int) (0 : Int) (List.replicate (32 : Nat) (0 : Int)) (0 : Int) [] (0 : Int) (List.replicate (8 : Nat) (0 : Int))))).1.1 ≤ (3 : Int)) then again (v0, IntKind.i64.wrap (v1 + (1 : Int)), IntKind.i64.wrap (v2 + (1 : Int))) else again (v0, v1, IntKind.i64.wrap (v2 + (1 : Int))) else none else some v1 else some v1
def L71_3 (k n : Nat) (x : List T128 × Int × Int) : Option (Int) := iterR (R71_3 k) n x
noncomputable def ls71_3 : Nat → Option (LSum Ty) := addL 3 (LSum.of of71_3 ab71_3 L71_3 oe71_3 on71_3) noL
def kp71 : Nat → Keep := fun i => cond (i == 3) ⟨[0, 3, 4], [3], 0⟩ (⟨[], [], 0⟩)
/-- "silt/siltref13.Size" -/
def F71 (k : Nat) (x : (List T128) × Unit) : Option (Int) :=
  match x with
  | (a0, ()) => (F73 k (a0, ())).bind fun r => (L71_3 k k (a0, r, (0 : Int))).bind fun r => some r
noncomputable def sp71 : FSpec Ty := spec ag71 rs71 F71
theorem bo71 : Try.f71.body = some (bodyOf Try.f71) := by kernel_rfl
theorem nd71 : nodupB ((loopsIn (bodyOf Try.f71)).map firstRegion) = true := by kernel_rfl
theorem lo71_3 : LSOK fs69 kp71 tab Try.f71 ls71_3 := lsum_ok bo71 nd71 (LSOK.none) oa71_3 (R := R71_3) fun k again x => by kernel_rfl
theorem ok71 : FOK Try.prog tab 71 sp71 := spec_ok (keeps := kp71) tabOK fs69OK Try.func71 bo71 (by kernel_rfl) nd71 (lo71_3) (F := F71) fun k x => by kernel_rfl
noncomputable def fs71 : Nat → Option (FSpec Ty) := addF 71 sp71 fs69
theorem fs71OK : SpecsOK Try.prog tab fs71 := fs69OK.add ok71 Try.call71
def ag74 : Args Ty ((List (List Int)) × (List (List Int)) × Unit) := V.arg (tab.den 70) (V.arg (tab.den 70) (noArgs))
def rs74 : Res Ty tab (Bool) false := V.oneRes (tab.den 4) (ent 4).ids (ent 4).plain (fun x _ => (ent 4).flat x rfl)
def of74_4 : List (List Int) × List (List Int) × Int → NSt Ty := fun x => ⟨[.slice 27 (x.1), .slice 27 (x.2.1), .int .i64 (x.2.2)], []⟩
def ab74_4 : (n : NSt Ty) → Option {x : List (List Int) × List (List Int) × Int // of74_4 x = n}
  | ⟨[.slice 27 v0, .slice 27 v1, .int .i64 v2], []⟩ => some ⟨(v0, v1, v2), rfl⟩
  | _ => none
def on74_4a : Bool → NSt Ty := fun x => ⟨[.bool (x)], []⟩
def on74_4b : Unit → NSt Ty := fun x => ⟨[.undef], []⟩
def oa74_4 : (e : Ex) → (n : NSt Ty) → Option {y : (Bool) ⊕ (Unit) // oe2 .ret (.exit 0) y = e ∧ on2 on74_4a on74_4b y = n}
  | .ret, ⟨[.bool v0], []⟩ => some ⟨.inl v0, rfl, rfl⟩
  | .exit 0, ⟨[.undef], []⟩ => some ⟨.inr (), rfl, rfl⟩
  | _, _ => none
/-- a round of the loop 4 of function 74 -/
def R74_4 (k : Nat) (again : List (List Int) × List (List Int) × Int → Option ((Bool) ⊕ (Unit))) (x : List (List Int) × List (List Int) × Int) : Option ((Bool) ⊕ (Unit)) :=
  match x with
  | (v0, v1, v2) => bif decide (v2 < (↑v0.length : Int)) then bif inRange v2 v0.length then bif inRange v2 v1.length then bif !decide (v0.getD v2.toNat (List.replicate (64 : Nat) (0 : Int)) = v1.getD v2.toNat (List.replicate (64 : Nat) (0 : Int))) then some (Sum.inl false) else again (v0, v1, IntKind.i64.wrap (v2 + (1 : Int))) else none else none else some (Sum.inr ())
def L74_4 (k n : Nat) (x : List (List Int) × List (List Int) × Int) : Option ((Bool) ⊕ (Unit)) := iterR (R74_4 k) n x
noncomputable def ls74_4 : Nat → Option (LSum Ty) := addL 4 (lsum2 of74_4 ab74_4 L74_4 .ret on74_4a (.exit 0) on74_4b) noL
def kp74 : Nat → Keep := fun i => cond (i == 4) ⟨[0, 1, 5], [4], 0⟩ (⟨[], [], 0⟩)
/-- "silt/siltkeep.Sectors" -/
def F74 (k : Nat) (x : (List (List Int)) × (List (List Int)) × Unit) : Option (Bool) :=
  match x with
  | (a0, a1, ()) => bif (↑a0.length : Int) != (↑a1.length : Int) then some false else (L74_4 k k (a0, a1, (0 : Int))).bind fun r => sumK r (fun a => some a) fun b => some true
noncomputable def sp74 : FSpec Ty := spec ag74 rs74 F74
theorem bo74 : Try.f74.body = some (bodyOf Try.f74) := by kernel_rfl
theorem nd74 : nodupB ((loopsIn (bodyOf Try.f74)).map firstRegion) = true := by kernel_rfl
theorem lo74_4 : LSOK fs71 kp74 tab Try.f74 ls74_4 := lsum2_ok bo74 nd74 (LSOK.none) oa74_4 (R := R74_4) fun k again x => by kernel_rfl
theorem ok74 : FOK Try.prog tab 74 sp74 := spec_ok (keeps := kp74) tabOK fs71OK Try.func74 bo74 (by kernel_rfl) nd74 (lo74_4) (F := F74) fun k x => by kernel_rfl
noncomputable def fs74 : Nat → Option (FSpec Ty) := addF 74 sp74 fs71
theorem fs74OK : SpecsOK Try.prog tab fs74 := fs71OK.add ok74 Try.call74
def ag19 : Args Ty ((List T128) × Int × (List (List Int)) × Unit) := V.arg (tab.den 106) (V.arg (tab.den 22) (V.arg (tab.den 70) (noArgs)))
def rs19 : Res Ty tab (Bool) false := V.oneRes (tab.den 4) (ent 4).ids (ent 4).plain (fun x _ => (ent 4).flat x rfl)
def kp19 : Nat → Keep := fun i => ⟨[], [], 0⟩
/-- "silt/siltlaw13.GroupTells" -/
def F19 (k : Nat) (x : (List T128) × Int × (List (List Int)) × Unit) : Option (Bool) :=
  match x with
  | (a0, a1, a2, ()) => (F63 k (a0, ())).bind fun r => bif !r then (F64 k ()).bind fun r => some r else bif decide ((↑a2.length : Int) > (120 : Int)) then (F64 k ()).bind fun r => some r else (F65 k (a0, ())).bind fun r => (F66 k (a1, r)).bind fun r_1 => (F67 k (a1, a0, ())).bind fun r_2 => bif decide ((List.replicate (0 : Nat) (List.replicate (64 : Nat) (0 : Int))).length + a2.length ≤ roomMost) then (F68 k (a1, List.replicate (0 : Nat) (List.replicate (64 : Nat) (0 : Int)) ++ a2, ())).bind fun r_3 => (F69 k (a1, a2, ())).bind fun r_4 => (F70 k (r, ())).bind fun r_5 => (F71 k (a0, ())).bind fun r_6 => bif r_5 == r_6 then (F72 k (r, ())).bind fun r_7 => (F73 k (a0, ())).bind fun r_8 => bif r_7 == r_8 then (F74 k (r_1.snd.fst, r_2.1, ())).bind fun r_9 => bif r_9 then (F75 k (r_1.snd.snd, r_2.2, ())).bind fun r_10 => bif r_10 then bif (r_1.fst == (0 : Int)) == r_2.3 then bif r_1.fst == (0 : Int) then bif r_3.snd.fst == r_4.5 then (F76 k (r_3.fst.1, r_4.1, ())).bind fun r_11 => bif r_11 then (F75 k (r_3.fst.2, r_4.2, ())).bind fun r_12 => bif r_12 then bif r_3.fst.3 == r_4.3 then bif r_3.fst.4 == r_4.4 then (F76 k (r, a0, ())).bind fun r => bif r then (F64 k ()).bind fun r => some r else some false else some false else some false else some false else some false else some false else bif r_1.fst == (1 : Int) then bif r_3.snd.fst == r_4.5 then (F76 k (r_3.fst.1, r_4.1, ())).bind fun r_11 => bif r_11 then (F75 k (r_3.fst.2, r_4.2, ())).bind fun r_12 => bif r_12 then bif r_3.fst.3 == r_4.3 then bif r_3.fst.4 == r_4.4 then (F76 k (r, a0, ())).bind fun r => bif r then (F64 k ()).bind fun r => some r else some false else some false else some false else some false else some false else some false else some false else some false else some false else some false else some false else some false else none
noncomputable def sp19 : FSpec Ty := spec ag19 rs19 F19
theorem bo19 : Try.f19.body = some (bodyOf Try.f19) := by kernel_rfl
theorem nd19 : nodupB ((loopsIn (bodyOf Try.f19)).map firstRegion) = true := by kernel_rfl
theorem ok19 : FOK Try.prog tab 19 sp19 := spec_ok (keeps := kp19) tabOK fs74OK Try.func19 bo19 (by kernel_rfl) nd19 (LSOK.none) (F := F19) fun k x => by kernel_rfl
noncomputable def fs19 : Nat → Option (FSpec Ty) := addF 19 sp19 fs74
theorem fs19OK : SpecsOK Try.prog tab fs19 := fs74OK.add ok19 Try.call19
def ag40 : Args Ty (Int × Unit) := V.arg (tab.den 5) (noArgs)
def rs40 : Res Ty tab ((List Int)) false := V.oneRes (tab.den 27) (ent 27).ids (ent 27).plain (fun x _ => (ent 27).flat x rfl)
def of40_3 : Int × Int × List Int × List Int → NSt Ty := fun x => ⟨[.int .u8 (x.1), .ptr 100000 [], .ptr 100001 [], .int .i64 (x.2.1)], [.var (.arr 5 64 (x.2.2.1)), .var (.arr 5 64 (x.2.2.2))]⟩
def ab40_3 : (n : NSt Ty) → Option {x : Int × Int × List Int × List Int // of40_3 x = n}
  | ⟨[.int .u8 v0, .ptr 100000 [], .ptr 100001 [], .int .i64 v1], [.var (.arr 5 64 v2), .var (.arr 5 64 v3)]⟩ => some ⟨(v0, v1, v2, v3), rfl⟩
  | _ => none
def oe40_3 : List Int × List Int → Ex := fun _ => .exit 0
def on40_3 : List Int × List Int → NSt Ty := fun x => ⟨[.ptr 100000 [], .ptr 100001 []], [.var (.arr 5 64 (x.1)), .var (.arr 5 64 (x.2))]⟩
def oa40_3 : (e : Ex) → (n : NSt Ty) → Option {y : List Int × List Int // oe40_3 y = e ∧ on40_3 y = n}
  | .exit 0, ⟨[.ptr 100000 [], .ptr 100001 []], [.var (.arr 5 64 v0), .var (.arr 5 64 v1)]⟩ => some ⟨(v0, v1), rfl, rfl⟩
  | _, _ => none
/-- a round of the loop 3 of function 40 -/
def R40_3 (k : Nat) (again : Int × Int × List Int × List Int → Option (List Int × List Int)) (x : Int × Int × List Int × List Int) : Option (List Int × List Int) :=
  match x with
  | (v0, v1, v2, v3) => bif decide (v1 < (64 : Int)) then bif inRange v1 (64 : Nat) then again (v0, IntKind.i64.wrap (v1 + (1 : Int)), v2, v3.set v1.toNat v0) else none else some (v2, v3)
def L40_3 (k n : Nat) (x : Int × Int × List Int × List Int) : Option (List Int × List Int) := iterR (R40_3 k) n x
noncomputable def ls40_3 : Nat → Option (LSum Ty) := addL 3 (LSum.of of40_3 ab40_3 L40_3 oe40_3 on40_3) noL
def kp40 : Nat → Keep := fun i => cond (i == 3) ⟨[0, 2, 3, 4], [2, 3], 0⟩ (⟨[], [], 0⟩)
/-- "silt/siltkeep.Fill" -/
def F40 (k : Nat) (x : Int × Unit) : Option ((List Int)) :=
  match x with
  | (a0, ()) => (L40_3 k k (a0, (0 : Int), List.replicate (64 : Nat) (0 : Int), List.replicate (64 : Nat) (0 : Int))).bind fun r => some r.snd
noncomputable def sp40 : FSpec Ty := spec ag40 rs40 F40
theorem bo40 : Try.f40.body = some (bodyOf Try.f40) := by kernel_rfl
theorem nd40 : nodupB ((loopsIn (bodyOf Try.f40)).map firstRegion) = true := by kernel_rfl
theorem lo40_3 : LSOK fs19 kp40 tab Try.f40 ls40_3 := lsum_ok bo40 nd40 (LSOK.none) oa40_3 (R := R40_3) fun k again x => by kernel_rfl
theorem ok40 : FOK Try.prog tab 40 sp40 := spec_ok (keeps := kp40) tabOK fs19OK Try.func40 bo40 (by kernel_rfl) nd40 (lo40_3) (F := F40) fun k x => by kernel_rfl
noncomputable def fs40 : Nat → Option (FSpec Ty) := addF 40 sp40 fs19
theorem fs40OK : SpecsOK Try.prog tab fs40 := fs19OK.add ok40 Try.call40
def ag20 : Args Ty ((List T128) × (List Int) × (List Int) × Unit) := V.arg (tab.den 106) (V.arg (tab.den 100) (V.arg (tab.den 82) (noArgs)))
def rs20 : Res Ty tab (Bool) false := V.oneRes (tab.den 4) (ent 4).ids (ent 4).plain (fun x _ => (ent 4).flat x rfl)
def kp20 : Nat → Keep := fun i => ⟨[], [], 0⟩
/-- "silt/siltlaw13.GroupBack" -/
def F20 (k : Nat) (x : (List T128) × (List Int) × (List Int) × Unit) : Option (Bool) :=
  match x with
  | (a0, a1, a2, ()) => (F63 k (a0, ())).bind fun r => bif !r then (F64 k ()).bind fun r => some r else (F66 k (a1.getD (Int.toNat (0 : Int)) (0 : Int), a0)).bind fun r => bif r.fst != (0 : Int) then bif r.fst == (1 : Int) then bif (↑r.snd.fst.length : Int) == (0 : Int) then (F70 k (a0, ())).bind fun r => bif r == (0 : Int) then (F64 k ()).bind fun r => some r else some false else some false else some false else bif (↑r.snd.fst.length : Int) == (0 : Int) then bif r.fst == (1 : Int) then bif (↑r.snd.fst.length : Int) == (0 : Int) then (F70 k (a0, ())).bind fun r => bif r == (0 : Int) then (F64 k ()).bind fun r => some r else some false else some false else some false else bif decide ((List.replicate (0 : Nat) (List.replicate (64 : Nat) (0 : Int))).length + r.snd.fst.length ≤ roomMost) then (F40 k (a2.getD (Int.toNat (0 : Int)) (0 : Int), ())).bind fun r_1 => bif decide ((List.replicate (0 : Nat) (List.replicate (64 : Nat) (0 : Int)) ++ r.snd.fst).length + ((List.replicate (1 : Nat) (List.replicate (64 : Nat) (0 : Int))).set (0 : Nat) r_1).length ≤ roomMost) then (F68 k (a1.getD (Int.toNat (0 : Int)) (0 : Int), List.replicate (0 : Nat) (List.replicate (64 : Nat) (0 : Int)) ++ r.snd.fst ++ (List.replicate (1 : Nat) (List.replicate (64 : Nat) (0 : Int))).set (0 : Nat) r_1, ())).bind fun r_2 => bif !r_2.snd.fst then some false else (F76 k (r_2.fst.1, a0, ())).bind fun r_3 => bif !r_3 then some false else bif r_2.fst.3 != (↑r.snd.fst.length : Int) then some false else (F70 k (a0, ())).bind fun r_4 => bif r_4 != (↑r.snd.fst.length : Int) then some false else (F72 k (a0, ())).bind fun r_5 => bif r_5 != r_2.fst.4 then some false else (F68 k (a1.getD (Int.toNat (1 : Int)) (0 : Int), r.snd.fst, ())).bind fun r_6 => bif !r_6.snd.fst == (a1.getD (Int.toNat (0 : Int)) (0 : Int) == a1.getD (Int.toNat (1 : Int)) (0 : Int)) then some false else bif (↑r.snd.fst.length : Int) != (0 : Int) then bif decide ((0 : Int) ≤ (0 : Int)) && decide ((0 : Int) ≤ (IntKind.i64.wrap (a2.getD (Int.toNat (0 : Int)) (0 : Int))).tmod (↑r.snd.fst.length : Int)) && decide ((IntKind.i64.wrap (a2.getD (Int.toNat (0 : Int)) (0 : Int))).tmod (↑r.snd.fst.length : Int) ≤ (↑r.snd.fst.length : Int)) then (F68 k (a1.getD (Int.toNat (0 : Int)) (0 : Int), List.drop (Int.toNat (0 : Int)) (List.take ((IntKind.i64.wrap (a2.getD (Int.toNat (0 : Int)) (0 : Int))).tmod (↑r.snd.fst.length : Int)).toNat r.snd.fst), ())).bind fun r_7 => bif r_7.snd.fst then some false else bif decide ((List.replicate (0 : Nat) (List.replicate (64 : Nat) (0 : Int))).length + r.snd.fst.length ≤ roomMost) then bif inRange ((IntKind.i64.wrap (a2.getD (Int.toNat (0 : Int)) (0 : Int))).tmod (↑r.snd.fst.length : Int)) (List.replicate (0 : Nat) (List.replicate (64 : Nat) (0 : Int)) ++ r.snd.fst).length then (F68 k (a1.getD (Int.toNat (0 : Int)) (0 : Int), (List.replicate (0 : Nat) (List.replicate (64 : Nat) (0 : Int)) ++ r.snd.fst).set ((IntKind.i64.wrap (a2.getD (Int.toNat (0 : Int)) (0 : Int))).tmod (↑r.snd.fst.length : Int)).toNat (List.replicate (64 : Nat) (0 : Int)), ())).bind fun r_8 => bif r_8.snd.fst then some false else bif inRange ((IntKind.i64.wrap (a2.getD (Int.toNat (0 : Int)) (0 : Int))).tmod (↑r.snd.fst.length : Int)) r.snd.fst.length then (F58 k (r.snd.fst.getD ((IntKind.i64.wrap (a2.getD (Int.toNat (0 : Int)) (0 : Int))).tmod (↑r.snd.fst.length : Int)).toNat (List.replicate (64 : Nat) (0 : Int)), ())).bind fun r_9 => bif inRange ((IntKind.i64.wrap (a2.getD (Int.toNat (0 : Int)) (0 : Int))).tmod (↑r.snd.fst.length : Int)) r.snd.fst.length then (F30 k (r.snd.fst.getD ((IntKind.i64.wrap (a2.getD (Int.toNat (0 : Int)) (0 : Int))).tmod (↑r.snd.fst.length : Int)).toNat (List.replicate (64 : Nat) (0 : Int)), ())).bind fun r_10 => bif r_9.3 == (0 : Int) then (F56 k (T87.mk r_9.1.1 r_9.1.2 r_9.1.3 r_9.1.4 r_9.1.5 r_9.1.6 r_9.1.7, IntKind.u32.wrap (r_9.2 + IntKind.u32.wrap ((1 : Int) + IntKind.u32.wrap (a2.getD (Int.toNat (1 : Int)) (0 : Int)))), ())).bind fun r_11 => bif inRange ((IntKind.i64.wrap (a2.getD (Int.toNat (0 : Int)) (0 : Int))).tmod (↑r.snd.fst.length : Int)) ((List.replicate (0 : Nat) (List.replicate (64 : Nat) (0 : Int)) ++ r.snd.fst).set ((IntKind.i64.wrap (a2.getD (Int.toNat (0 : Int)) (0 : Int))).tmod (↑r.snd.fst.length : Int)).toNat (List.replicate (64 : Nat) (0 : Int))).length then (F68 k (a1.getD (Int.toNat (0 : Int)) (0 : Int), ((List.replicate (0 : Nat) (List.replicate (64 : Nat) (0 : Int)) ++ r.snd.fst).set ((IntKind.i64.wrap (a2.getD (Int.toNat (0 : Int)) (0 : Int))).tmod (↑r.snd.fst.length : Int)).toNat (List.replicate (64 : Nat) (0 : Int))).set ((IntKind.i64.wrap (a2.getD (Int.toNat (0 : Int)) (0 : Int))).tmod (↑r.snd.fst.length : Int)).toNat r_11.fst, ())).bind fun r => bif !r.snd.fst then (F64 k ()).bind fun r => some r else some false else none else bif r_10.4 == (0 : Int) then (F27 k (T34.mk (IntKind.u32.wrap (r_10.1 + IntKind.u32.wrap ((1 : Int) + IntKind.u32.wrap (a2.getD (Int.toNat (1 : Int)) (0 : Int))))) r_10.2 r_10.3 r_10.4, ())).bind fun r_11 => bif inRange ((IntKind.i64.wrap (a2.getD (Int.toNat (0 : Int)) (0 : Int))).tmod (↑r.snd.fst.length : Int)) ((List.replicate (0 : Nat) (List.replicate (64 : Nat) (0 : Int)) ++ r.snd.fst).set ((IntKind.i64.wrap (a2.getD (Int.toNat (0 : Int)) (0 : Int))).tmod (↑r.snd.fst.length : Int)).toNat (List.replicate (64 : Nat) (0 : Int))).length then (F68 k (a1.getD (Int.toNat (0 : Int)) (0 : Int), ((List.replicate (0 : Nat) (List.replicate (64 : Nat) (0 : Int)) ++ r.snd.fst).set ((IntKind.i64.wrap (a2.getD (Int.toNat (0 : Int)) (0 : Int))).tmod (↑r.snd.fst.length : Int)).toNat (List.replicate (64 : Nat) (0 : Int))).set ((IntKind.i64.wrap (a2.getD (Int.toNat (0 : Int)) (0 : Int))).tmod (↑r.snd.fst.length : Int)).toNat r_11.fst, ())).bind fun r => bif !r.snd.fst then (F64 k ()).bind fun r => some r else some false else none else (F68 k (a1.getD (Int.toNat (0 : Int)) (0 : Int), (List.replicate (0 : Nat) (List.replicate (64 : Nat) (0 : Int)) ++ r.snd.fst).set ((IntKind.i64.wrap (a2.getD (Int.toNat (0 : Int)) (0 : Int))).tmod (↑r.snd.fst.length : Int)).toNat (List.replicate (64 : Nat) (0 : Int)), ())).bind fun r => bif !r.snd.fst then (F64 k ()).bind fun r => some r else some false else none else none else none else none else none else none else none else none
noncomputable def sp20 : FSpec Ty := spec ag20 rs20 F20
theorem bo20 : Try.f20.body = some (bodyOf Try.f20) := by kernel_rfl
theorem nd20 : nodupB ((loopsIn (bodyOf Try.f20)).map firstRegion) = true := by kernel_rfl
theorem ok20 : FOK Try.prog tab 20 sp20 := spec_ok (keeps := kp20) tabOK fs40OK Try.func20 bo20 (by kernel_rfl) nd20 (LSOK.none) (F := F20) fun k x => by kernel_rfl
noncomputable def fs20 : Nat → Option (FSpec Ty) := addF 20 sp20 fs40
theorem fs20OK : SpecsOK Try.prog tab fs20 := fs40OK.add ok20 Try.call20
def ag21 : Args Ty (Int × Int × Unit) := V.arg (tab.den 5) (V.arg (tab.den 5) (noArgs))
def rs21 : Res Ty tab (Bool) false := V.oneRes (tab.den 4) (ent 4).ids (ent 4).plain (fun x _ => (ent 4).flat x rfl)
def of21_5 : Int × Int × Int × List T128 → NSt Ty := fun x => ⟨[.int .i64 (x.1), .int .i64 (x.2.1), .row 100000, .int .i64 (x.2.2.1)], [.row 129 (x.2.2.2)]⟩
def ab21_5 : (n : NSt Ty) → Option {x : Int × Int × Int × List T128 // of21_5 x = n}
  | ⟨[.int .i64 v0, .int .i64 v1, .row 100000, .int .i64 v2], [.row 129 v3]⟩ => some ⟨(v0, v1, v2, v3), rfl⟩
  | _ => none
def oe21_5 : Int × Int × List T128 → Ex := fun _ => .exit 0
def on21_5 : Int × Int × List T128 → NSt Ty := fun x => ⟨[.int .i64 (x.1), .int .i64 (x.2.1), .row 100000], [.row 129 (x.2.2)]⟩
def oa21_5 : (e : Ex) → (n : NSt Ty) → Option {y : Int × Int × List T128 // oe21_5 y = e ∧ on21_5 y = n}
  | .exit 0, ⟨[.int .i64 v0, .int .i64 v1, .row 100000], [.row 129 v2]⟩ => some ⟨(v0, v1, v2), rfl, rfl⟩
  | _, _ => none
/-- a round of the loop 5 of function 21 -/
def R21_5 (k : Nat) (again : Int × Int × Int × List T128 → Option (Int × Int × List T128)) (x : Int × Int × Int × List T128) : Option (Int × Int × List T128) :=
  match x with
  | (v0, v1, v2, v3) => bif decide (v2 < v0) then bif decide (v2 < v1) then (F77 k (v2, IntKind.u8.wrap v2, ())).bind fun r => bif decide (v3.length + ((List.replicate (1 : Nat) (T128.mk (T46.mk (0 : Int) (0 : Int)) (T87.mk (0 : Int) (0 : Int) (List.replicate (32 : Nat) (0 : Int)) (0 : Int) [] (0 : Int) (List.replicate (8 : Nat) (0 : Int))))).set (0 : Nat) (T128.mk (T46.mk r.1.1 r.1.2) (T87.mk r.2.1 r.2.2 r.2.3 r.2.4 r.2.5 r.2.6 r.2.7))).length ≤ roomMost) then again (v0, v1, IntKind.i64.wrap (v2 + (1 : Int)), v3 ++ (List.replicate (1 : Nat) (T128.mk (T46.mk (0 : Int) (0 : Int)) (T87.mk (0 : Int) (0 : Int) (List.replicate (32 : Nat) (0 : Int)) (0 : Int) [] (0 : Int) (List.replicate (8 : Nat) (0 : Int))))).set (0 : Nat) (T128.mk (T46.mk r.1.1 r.1.2) (T87.mk r.2.1 r.2.2 r.2.3 r.2.4 r.2.5 r.2.6 r.2.7))) else none else bif decide (v3.length + ((List.replicate (1 : Nat) (T128.mk (T46.mk (0 : Int) (0 : Int)) (T87.mk (0 : Int) (0 : Int) (List.replicate (32 : Nat) (0 : Int)) (0 : Int) [] (0 : Int) (List.replicate (8 : Nat) (0 : Int))))).set (0 : Nat) (T128.mk (T46.mk (IntKind.i64.wrap ((4 : Int) + v2.tmod (2 : Int))) v2) (T87.mk (0 : Int) (0 : Int) (List.replicate (32 : Nat) (0 : Int)) (0 : Int) [] (0 : Int) (List.replicate (8 : Nat) (0 : Int))))).length ≤ roomMost) then again (v0, v1, IntKind.i64.wrap (v2 + (1 : Int)), v3 ++ (List.replicate (1 : Nat) (T128.mk (T46.mk (0 : Int) (0 : Int)) (T87.mk (0 : Int) (0 : Int) (List.replicate (32 : Nat) (0 : Int)) (0 : Int) [] (0 : Int) (List.replicate (8 : Nat) (0 : Int))))).set (0 : Nat) (T128.mk (T46.mk (IntKind.i64.wrap ((4 : Int) + v2.tmod (2 : Int))) v2) (T87.mk (0 : Int) (0 : Int) (List.replicate (32 : Nat) (0 : Int)) (0 : Int) [] (0 : Int) (List.replicate (8 : Nat) (0 : Int))))) else none else some (v0, v1, v3)
def L21_5 (k n : Nat) (x : Int × Int × Int × List T128) : Option (Int × Int × List T128) := iterR (R21_5 k) n x
noncomputable def ls21_5 : Nat → Option (LSum Ty) := addL 5 (LSum.of of21_5 ab21_5 L21_5 oe21_5 on21_5) noL
def of21_15 : Int × Int × Int × List (List Int) × List Int → NSt Ty := fun x => ⟨[.int .i64 (x.1), .int .i64 (x.2.1), .row 100000, .row 100001, .int .i64 (x.2.2.1)], [.row 27 (x.2.2.2.1), .row 3 (x.2.2.2.2)]⟩
def ab21_15 : (n : NSt Ty) → Option {x : Int × Int × Int × List (List Int) × List Int // of21_15 x = n}
  | ⟨[.int .i64 v0, .int .i64 v1, .row 100000, .row 100001, .int .i64 v2], [.row 27 v3, .row 3 v4]⟩ => some ⟨(v0, v1, v2, v3, v4), rfl⟩
  | _ => none
def on21_15a : Bool → NSt Ty := fun x => ⟨[.bool (x)], []⟩
def on21_15b : Unit → NSt Ty := fun x => ⟨[.undef], []⟩
def oa21_15 : (e : Ex) → (n : NSt Ty) → Option {y : (Bool) ⊕ (Unit) // oe2 .ret (.exit 2) y = e ∧ on2 on21_15a on21_15b y = n}
  | .ret, ⟨[.bool v0], []⟩ => some ⟨.inl v0, rfl, rfl⟩
  | .exit 2, ⟨[.undef], []⟩ => some ⟨.inr (), rfl, rfl⟩
  | _, _ => none
/-- a round of the loop 15 of function 21 -/
def R21_15 (k : Nat) (again : Int × Int × Int × List (List Int) × List Int → Option ((Bool) ⊕ (Unit))) (x : Int × Int × Int × List (List Int) × List Int) : Option ((Bool) ⊕ (Unit)) :=
  match x with
  | (v0, v1, v2, v3, v4) => bif decide (v2 < v0) then bif inRange v2 v4.length then bif !decide (v4.getD v2.toNat (0 : Int) ≥ (0 : Int)) == decide (v2 < v1) then some (Sum.inl false) else bif decide (v2 < v1) then bif inRange v2 v4.length then bif decide (v4.getD v2.toNat (0 : Int) < (1 : Int)) then some (Sum.inl false) else bif inRange v2 v4.length then bif decide (v4.getD v2.toNat (0 : Int) ≥ (↑v3.length : Int)) then some (Sum.inl false) else again (v0, v1, IntKind.i64.wrap (v2 + (1 : Int)), v3, v4) else none else none else again (v0, v1, IntKind.i64.wrap (v2 + (1 : Int)), v3, v4) else none else some (Sum.inr ())
def L21_15 (k n : Nat) (x : Int × Int × Int × List (List Int) × List Int) : Option ((Bool) ⊕ (Unit)) := iterR (R21_15 k) n x
noncomputable def ls21_15 : Nat → Option (LSum Ty) := addL 15 (lsum2 of21_15 ab21_15 L21_15 .ret on21_15a (.exit 2) on21_15b) ls21_5
def kp21 : Nat → Keep := fun i => cond (i == 5) ⟨[5, 6, 7, 8], [5, 6, 7], 0⟩ (cond (i == 15) ⟨[5, 6, 9, 10, 13], [4], 0⟩ (⟨[], [], 0⟩))
/-- "silt/siltlaw13.GroupSizes" -/
def F21 (k : Nat) (x : Int × Int × Unit) : Option (Bool) :=
  match x with
  | (a0, a1, ()) => bif IntKind.i64.wrap ((if (16 : Int) < IntKind.i64.wrap ((1 : Int) + (IntKind.i64.wrap a0).tmod (64 : Int)) then (16 : Int) else IntKind.i64.wrap ((1 : Int) + (IntKind.i64.wrap a0).tmod (64 : Int))) + (1 : Int)) != (0 : Int) then (L21_5 k k (IntKind.i64.wrap ((1 : Int) + (IntKind.i64.wrap a0).tmod (64 : Int)), (IntKind.i64.wrap a1).tmod (IntKind.i64.wrap ((if (16 : Int) < IntKind.i64.wrap ((1 : Int) + (IntKind.i64.wrap a0).tmod (64 : Int)) then (16 : Int) else IntKind.i64.wrap ((1 : Int) + (IntKind.i64.wrap a0).tmod (64 : Int))) + (1 : Int))), (0 : Int), [])).bind fun r => (F66 k ((9 : Int), r.snd.snd)).bind fun r_1 => bif r_1.fst != (0 : Int) then some false else bif (↑r_1.snd.fst.length : Int) != IntKind.i64.wrap (r.snd.fst + IntKind.i64.wrap ((IntKind.i64.wrap (IntKind.i64.wrap (r.fst + (24 : Int)) - (1 : Int))).tdiv (24 : Int))) then some false else bif (↑r_1.snd.snd.length : Int) != r.fst then some false else (F70 k (r.snd.snd, ())).bind fun r_2 => bif r_2 != IntKind.i64.wrap (r.snd.fst + IntKind.i64.wrap ((IntKind.i64.wrap (IntKind.i64.wrap (r.fst + (24 : Int)) - (1 : Int))).tdiv (24 : Int))) then some false else (F72 k (r.snd.snd, ())).bind fun r_3 => bif r_3 != IntKind.i64.wrap ((IntKind.i64.wrap (IntKind.i64.wrap (r.fst + (24 : Int)) - (1 : Int))).tdiv (24 : Int)) then some false else bif decide (IntKind.i64.wrap (r.snd.fst + IntKind.i64.wrap ((IntKind.i64.wrap (IntKind.i64.wrap (r.fst + (24 : Int)) - (1 : Int))).tdiv (24 : Int))) > (24 : Int)) then some false else (L21_15 k k (r.fst, r.snd.fst, (0 : Int), r_1.snd.fst, r_1.snd.snd)).bind fun r => sumK r (fun a => some a) fun b => (F64 k ()).bind fun r => some r else none
noncomputable def sp21 : FSpec Ty := spec ag21 rs21 F21
theorem bo21 : Try.f21.body = some (bodyOf Try.f21) := by kernel_rfl
theorem nd21 : nodupB ((loopsIn (bodyOf Try.f21)).map firstRegion) = true := by kernel_rfl
theorem lo21_5 : LSOK fs20 kp21 tab Try.f21 ls21_5 := lsum_ok bo21 nd21 (LSOK.none) oa21_5 (R := R21_5) fun k again x => by kernel_rfl
theorem lo21_15 : LSOK fs20 kp21 tab Try.f21 ls21_15 := lsum2_ok bo21 nd21 (lo21_5) oa21_15 (R := R21_15) fun k again x => by kernel_rfl
theorem ok21 : FOK Try.prog tab 21 sp21 := spec_ok (keeps := kp21) tabOK fs20OK Try.func21 bo21 (by kernel_rfl) nd21 (lo21_15) (F := F21) fun k x => by kernel_rfl
noncomputable def fs21 : Nat → Option (FSpec Ty) := addF 21 sp21 fs20
theorem fs21OK : SpecsOK Try.prog tab fs21 := fs20OK.add ok21 Try.call21
def ag22 : Args Ty ((List T128) × (List T128) × Int × Unit) := V.arg (tab.den 106) (V.arg (tab.den 106) (V.arg (tab.den 22) (noArgs)))
def rs22 : Res Ty tab (Bool) false := V.oneRes (tab.den 4) (ent 4).ids (ent 4).plain (fun x _ => (ent 4).flat x rfl)
def kp22 : Nat → Keep := fun i => ⟨[], [], 0⟩
/-- "silt/siltlaw13.GroupRow" -/
def F22 (k : Nat) (x : (List T128) × (List T128) × Int × Unit) : Option (Bool) :=
  match x with
  | (a0, a1, a2, ()) => (F63 k (a0, ())).bind fun r => bif !r then (F64 k ()).bind fun r => some r else (F63 k (a1, ())).bind fun r => bif !r then (F64 k ()).bind fun r => some r else (F66 k (a2, a0)).bind fun r => (F72 k (a0, ())).bind fun r_1 => (F66 k (IntKind.u32.wrap (a2 + IntKind.u32.wrap r_1), a1)).bind fun r_2 => bif r.fst != (0 : Int) then (F64 k ()).bind fun r => some r else bif r_2.fst != (0 : Int) then (F64 k ()).bind fun r => some r else bif decide ((List.replicate (0 : Nat) (List.replicate (64 : Nat) (0 : Int))).length + r.snd.fst.length ≤ roomMost) then bif decide ((List.replicate (0 : Nat) (List.replicate (64 : Nat) (0 : Int)) ++ r.snd.fst).length + r_2.snd.fst.length ≤ roomMost) then (F68 k (a2, List.replicate (0 : Nat) (List.replicate (64 : Nat) (0 : Int)) ++ r.snd.fst ++ r_2.snd.fst, ())).bind fun r_3 => bif !r_3.snd.fst then some false else bif r_3.fst.3 != (↑r.snd.fst.length : Int) then some false else (F76 k (r_3.fst.1, a0, ())).bind fun r_4 => bif !r_4 then some false else bif decide ((0 : Int) ≤ r_3.fst.3) && decide (r_3.fst.3 ≤ (↑(List.replicate (0 : Nat) (List.replicate (64 : Nat) (0 : Int)) ++ r.snd.fst ++ r_2.snd.fst).length : Int)) && decide ((↑(List.replicate (0 : Nat) (List.replicate (64 : Nat) (0 : Int)) ++ r.snd.fst ++ r_2.snd.fst).length : Int) ≤ (↑(List.replicate (0 : Nat) (List.replicate (64 : Nat) (0 : Int)) ++ r.snd.fst ++ r_2.snd.fst).length : Int)) then (F68 k (IntKind.u32.wrap (a2 + IntKind.u32.wrap r_3.fst.4), List.drop r_3.fst.3.toNat (List.take (↑(List.replicate (0 : Nat) (List.replicate (64 : Nat) (0 : Int)) ++ r.snd.fst ++ r_2.snd.fst).length : Int).toNat (List.replicate (0 : Nat) (List.replicate (64 : Nat) (0 : Int)) ++ r.snd.fst ++ r_2.snd.fst)), ())).bind fun r_5 => (F68 k (IntKind.u32.wrap (a2 + IntKind.u32.wrap r_3.fst.4), List.replicate (0 : Nat) (List.replicate (64 : Nat) (0 : Int)) ++ r.snd.fst ++ r_2.snd.fst, ())).bind fun r => bif r_5.snd.fst then bif r_5.fst.3 == (↑r_2.snd.fst.length : Int) then (F76 k (r_5.fst.1, a1, ())).bind fun r_6 => bif r_6 then bif !r.snd.fst then (F64 k ()).bind fun r => some r else some false else some false else some false else some false else none else none else none
noncomputable def sp22 : FSpec Ty := spec ag22 rs22 F22
theorem bo22 : Try.f22.body = some (bodyOf Try.f22) := by kernel_rfl
theorem nd22 : nodupB ((loopsIn (bodyOf Try.f22)).map firstRegion) = true := by kernel_rfl
theorem ok22 : FOK Try.prog tab 22 sp22 := spec_ok (keeps := kp22) tabOK fs21OK Try.func22 bo22 (by kernel_rfl) nd22 (LSOK.none) (F := F22) fun k x => by kernel_rfl
noncomputable def fs22 : Nat → Option (FSpec Ty) := addF 22 sp22 fs21
theorem fs22OK : SpecsOK Try.prog tab fs22 := fs21OK.add ok22 Try.call22
def ag23 : Args Ty (Int × (List Int) × (List Int) × Unit) := V.arg (tab.den 5) (V.arg (tab.den 82) (V.arg (tab.den 82) (noArgs)))
def rs23 : Res Ty tab (Bool) false := V.oneRes (tab.den 4) (ent 4).ids (ent 4).plain (fun x _ => (ent 4).flat x rfl)
def kp23 : Nat → Keep := fun i => ⟨[], [], 0⟩
/-- "silt/siltlaw13.GroupMarks" -/
def F23 (k : Nat) (x : Int × (List Int) × (List Int) × Unit) : Option (Bool) :=
  match x with
  | (a0, a1, a2, ()) => (F77 k ((IntKind.i64.wrap a0).tmod (8 : Int), a1.getD (Int.toNat (0 : Int)) (0 : Int), ())).bind fun r => (F77 k ((IntKind.i64.wrap a0).tmod (8 : Int), a1.getD (Int.toNat (1 : Int)) (0 : Int), ())).bind fun r_1 => bif Int.tmod (a2.getD (Int.toNat (0 : Int)) (0 : Int)) (2 : Int) == (1 : Int) then (F70 k (((List.replicate (2 : Nat) (T128.mk (T46.mk (0 : Int) (0 : Int)) (T87.mk (0 : Int) (0 : Int) (List.replicate (32 : Nat) (0 : Int)) (0 : Int) [] (0 : Int) (List.replicate (8 : Nat) (0 : Int))))).set (0 : Nat) (T128.mk (T46.mk r.1.1 r.1.2) (T87.mk r.2.1 r.2.2 r.2.3 r.2.4 r.2.5 r.2.6 r.2.7))).set (1 : Nat) (T128.mk (T46.mk (3 : Int) ((IntKind.i64.wrap a0).tmod (8 : Int))) (T87.mk (3 : Int) ((IntKind.i64.wrap a0).tmod (8 : Int)) (List.replicate (32 : Nat) (0 : Int)) (0 : Int) [] (0 : Int) (List.replicate (8 : Nat) (0 : Int)))), ())).bind fun r_2 => (F70 k (((List.replicate (2 : Nat) (T128.mk (T46.mk (0 : Int) (0 : Int)) (T87.mk (0 : Int) (0 : Int) (List.replicate (32 : Nat) (0 : Int)) (0 : Int) [] (0 : Int) (List.replicate (8 : Nat) (0 : Int))))).set (0 : Nat) (T128.mk (T46.mk r.1.1 r.1.2) (T87.mk r.2.1 r.2.2 r.2.3 r.2.4 r.2.5 r.2.6 r.2.7))).set (1 : Nat) (T128.mk (T46.mk (IntKind.i64.wrap ((4 : Int) + IntKind.i64.wrap (Int.tmod (a2.getD (Int.toNat (1 : Int)) (0 : Int)) (2 : Int)))) ((IntKind.i64.wrap a0).tmod (8 : Int))) (T87.mk (0 : Int) (0 : Int) (List.replicate (32 : Nat) (0 : Int)) (0 : Int) [] (0 : Int) (List.replicate (8 : Nat) (0 : Int)))), ())).bind fun r_3 => (F70 k ((((List.replicate (3 : Nat) (T128.mk (T46.mk (0 : Int) (0 : Int)) (T87.mk (0 : Int) (0 : Int) (List.replicate (32 : Nat) (0 : Int)) (0 : Int) [] (0 : Int) (List.replicate (8 : Nat) (0 : Int))))).set (0 : Nat) (T128.mk (T46.mk (3 : Int) ((IntKind.i64.wrap a0).tmod (8 : Int))) (T87.mk (3 : Int) ((IntKind.i64.wrap a0).tmod (8 : Int)) (List.replicate (32 : Nat) (0 : Int)) (0 : Int) [] (0 : Int) (List.replicate (8 : Nat) (0 : Int))))).set (1 : Nat) (T128.mk (T46.mk r.1.1 r.1.2) (T87.mk r.2.1 r.2.2 r.2.3 r.2.4 r.2.5 r.2.6 r.2.7))).set (2 : Nat) (T128.mk (T46.mk (3 : Int) ((IntKind.i64.wrap a0).tmod (8 : Int))) (T87.mk (3 : Int) ((IntKind.i64.wrap a0).tmod (8 : Int)) (List.replicate (32 : Nat) (0 : Int)) (0 : Int) [] (0 : Int) (List.replicate (8 : Nat) (0 : Int)))), ())).bind fun r => (F72 k ((List.replicate (1 : Nat) (T128.mk (T46.mk (0 : Int) (0 : Int)) (T87.mk (0 : Int) (0 : Int) (List.replicate (32 : Nat) (0 : Int)) (0 : Int) [] (0 : Int) (List.replicate (8 : Nat) (0 : Int))))).set (0 : Nat) (T128.mk (T46.mk (IntKind.i64.wrap ((4 : Int) + IntKind.i64.wrap (Int.tmod (a2.getD (Int.toNat (1 : Int)) (0 : Int)) (2 : Int)))) ((IntKind.i64.wrap a0).tmod (8 : Int))) (T87.mk (0 : Int) (0 : Int) (List.replicate (32 : Nat) (0 : Int)) (0 : Int) [] (0 : Int) (List.replicate (8 : Nat) (0 : Int)))), ())).bind fun r_4 => bif r_2 == (3 : Int) then bif r_3 == (0 : Int) then bif r == (0 : Int) then bif r_4 == (1 : Int) then (F64 k ()).bind fun r => some r else some false else some false else some false else some false else (F70 k (((List.replicate (2 : Nat) (T128.mk (T46.mk (0 : Int) (0 : Int)) (T87.mk (0 : Int) (0 : Int) (List.replicate (32 : Nat) (0 : Int)) (0 : Int) [] (0 : Int) (List.replicate (8 : Nat) (0 : Int))))).set (0 : Nat) (T128.mk (T46.mk r.1.1 r.1.2) (T87.mk r.2.1 r.2.2 r.2.3 r.2.4 r.2.5 r.2.6 r.2.7))).set (1 : Nat) (T128.mk (T46.mk (3 : Int) ((IntKind.i64.wrap a0).tmod (8 : Int))) (T87.mk (3 : Int) ((IntKind.i64.wrap a0).tmod (8 : Int)) (List.replicate (32 : Nat) (0 : Int)) (0 : Int) [] (0 : Int) (List.replicate (8 : Nat) (0 : Int)))), ())).bind fun r_2 => (F70 k (((List.replicate (2 : Nat) (T128.mk (T46.mk (0 : Int) (0 : Int)) (T87.mk (0 : Int) (0 : Int) (List.replicate (32 : Nat) (0 : Int)) (0 : Int) [] (0 : Int) (List.replicate (8 : Nat) (0 : Int))))).set (0 : Nat) (T128.mk (T46.mk r.1.1 r.1.2) (T87.mk r.2.1 r.2.2 r.2.3 r.2.4 r.2.5 r.2.6 r.2.7))).set (1 : Nat) (T128.mk (T46.mk r_1.1.1 r_1.1.2) (T87.mk r_1.2.1 r_1.2.2 r_1.2.3 r_1.2.4 r_1.2.5 r_1.2.6 r_1.2.7)), ())).bind fun r_3 => (F70 k ((((List.replicate (3 : Nat) (T128.mk (T46.mk (0 : Int) (0 : Int)) (T87.mk (0 : Int) (0 : Int) (List.replicate (32 : Nat) (0 : Int)) (0 : Int) [] (0 : Int) (List.replicate (8 : Nat) (0 : Int))))).set (0 : Nat) (T128.mk (T46.mk (3 : Int) ((IntKind.i64.wrap a0).tmod (8 : Int))) (T87.mk (3 : Int) ((IntKind.i64.wrap a0).tmod (8 : Int)) (List.replicate (32 : Nat) (0 : Int)) (0 : Int) [] (0 : Int) (List.replicate (8 : Nat) (0 : Int))))).set (1 : Nat) (T128.mk (T46.mk r.1.1 r.1.2) (T87.mk r.2.1 r.2.2 r.2.3 r.2.4 r.2.5 r.2.6 r.2.7))).set (2 : Nat) (T128.mk (T46.mk (3 : Int) ((IntKind.i64.wrap a0).tmod (8 : Int))) (T87.mk (3 : Int) ((IntKind.i64.wrap a0).tmod (8 : Int)) (List.replicate (32 : Nat) (0 : Int)) (0 : Int) [] (0 : Int) (List.replicate (8 : Nat) (0 : Int)))), ())).bind fun r => (F72 k ((List.replicate (1 : Nat) (T128.mk (T46.mk (0 : Int) (0 : Int)) (T87.mk (0 : Int) (0 : Int) (List.replicate (32 : Nat) (0 : Int)) (0 : Int) [] (0 : Int) (List.replicate (8 : Nat) (0 : Int))))).set (0 : Nat) (T128.mk (T46.mk r_1.1.1 r_1.1.2) (T87.mk r_1.2.1 r_1.2.2 r_1.2.3 r_1.2.4 r_1.2.5 r_1.2.6 r_1.2.7)), ())).bind fun r_4 => bif r_2 == (3 : Int) then bif r_3 == (0 : Int) then bif r == (0 : Int) then bif r_4 == (1 : Int) then (F64 k ()).bind fun r => some r else some false else some false else some false else some false
noncomputable def sp23 : FSpec Ty := spec ag23 rs23 F23
theorem bo23 : Try.f23.body = some (bodyOf Try.f23) := by kernel_rfl
theorem nd23 : nodupB ((loopsIn (bodyOf Try.f23)).map firstRegion) = true := by kernel_rfl
theorem ok23 : FOK Try.prog tab 23 sp23 := spec_ok (keeps := kp23) tabOK fs22OK Try.func23 bo23 (by kernel_rfl) nd23 (LSOK.none) (F := F23) fun k x => by kernel_rfl
noncomputable def fs23 : Nat → Option (FSpec Ty) := addF 23 sp23 fs22
theorem fs23OK : SpecsOK Try.prog tab fs23 := fs22OK.add ok23 Try.call23
def ag24 : Args Ty ((List T128) × (List Int) × Unit) := V.arg (tab.den 106) (V.arg (tab.den 100) (noArgs))
def rs24 : Res Ty tab (Bool) false := V.oneRes (tab.den 4) (ent 4).ids (ent 4).plain (fun x _ => (ent 4).flat x rfl)
def of24_19 : List T128 × Int × Int × Int × Int × Int × List Int × List (List Int) × List (List Int) → NSt Ty := fun x => ⟨[.slice 129 (x.1), .ptr 100000 [], .row 100001, .row 100002, .int .i64 (x.2.1), .int .i64 (x.2.2.1), .int .u32 (x.2.2.2.1), .int .u32 (x.2.2.2.2.1), .int .i64 (x.2.2.2.2.2.1)], [.var (.arr 22 2 (x.2.2.2.2.2.2.1)), .row 27 (x.2.2.2.2.2.2.2.1), .row 27 (x.2.2.2.2.2.2.2.2)]⟩
def ab24_19 : (n : NSt Ty) → Option {x : List T128 × Int × Int × Int × Int × Int × List Int × List (List Int) × List (List Int) // of24_19 x = n}
  | ⟨[.slice 129 v0, .ptr 100000 [], .row 100001, .row 100002, .int .i64 v1, .int .i64 v2, .int .u32 v3, .int .u32 v4, .int .i64 v5], [.var (.arr 22 2 v6), .row 27 v7, .row 27 v8]⟩ => some ⟨(v0, v1, v2, v3, v4, v5, v6, v7, v8), rfl⟩
  | _ => none
def on24_19a : List T128 × Bool × Int × Int × List Int × List (List Int) × List (List Int) → NSt Ty := fun x => ⟨[.slice 129 (x.1), .ptr 100000 [], .bool (x.2.1), .row 100001, .row 100002, .int .i64 (x.2.2.1), .int .i64 (x.2.2.2.1)], [.var (.arr 22 2 (x.2.2.2.2.1)), .row 27 (x.2.2.2.2.2.1), .row 27 (x.2.2.2.2.2.2)]⟩
def on24_19b : List T128 × Int × Int × List Int × List (List Int) × List (List Int) → NSt Ty := fun x => ⟨[.slice 129 (x.1), .ptr 100000 [], .undef, .row 100001, .row 100002, .int .i64 (x.2.1), .int .i64 (x.2.2.1)], [.var (.arr 22 2 (x.2.2.2.1)), .row 27 (x.2.2.2.2.1), .row 27 (x.2.2.2.2.2)]⟩
def oa24_19 : (e : Ex) → (n : NSt Ty) → Option {y : (List T128 × Bool × Int × Int × List Int × List (List Int) × List (List Int)) ⊕ (List T128 × Int × Int × List Int × List (List Int) × List (List Int)) // oe2 .ret (.exit 2) y = e ∧ on2 on24_19a on24_19b y = n}
  | .ret, ⟨[.slice 129 v0, .ptr 100000 [], .bool v1, .row 100001, .row 100002, .int .i64 v2, .int .i64 v3], [.var (.arr 22 2 v4), .row 27 v5, .row 27 v6]⟩ => some ⟨.inl (v0, v1, v2, v3, v4, v5, v6), rfl, rfl⟩
  | .exit 2, ⟨[.slice 129 v0, .ptr 100000 [], .undef, .row 100001, .row 100002, .int .i64 v1, .int .i64 v2], [.var (.arr 22 2 v3), .row 27 v4, .row 27 v5]⟩ => some ⟨.inr (v0, v1, v2, v3, v4, v5), rfl, rfl⟩
  | _, _ => none
/-- a round of the loop 19 of function 24 -/
def R24_19 (k : Nat) (again : List T128 × Int × Int × Int × Int × Int × List Int × List (List Int) × List (List Int) → Option ((List T128 × Bool × Int × Int × List Int × List (List Int) × List (List Int)) ⊕ (List T128 × Int × Int × List Int × List (List Int) × List (List Int)))) (x : List T128 × Int × Int × Int × Int × Int × List Int × List (List Int) × List (List Int)) : Option ((List T128 × Bool × Int × Int × List Int × List (List Int) × List (List Int)) ⊕ (List T128 × Int × Int × List Int × List (List Int) × List (List Int))) :=
  match x with
  | (v0, v1, v2, v3, v4, v5, v6, v7, v8) => bif decide (v5 < (64 : Int)) then bif decide (v5 ≥ (2 : Int)) then bif decide (v5 ≤ (5 : Int)) then bif inRange v2 v7.length then bif inRange v5 (64 : Nat) then bif decide ((0 : Int) ≤ IntKind.u64.wrap (IntKind.i64.wrap ((8 : Int) * IntKind.i64.wrap (v5 - (2 : Int))))) then bif List.getD (v7.getD v2.toNat (List.replicate (64 : Nat) (0 : Int))) v5.toNat (0 : Int) != IntKind.u8.wrap (v3.fdiv ((2 : Int) ^ min (IntKind.u64.wrap (IntKind.i64.wrap ((8 : Int) * IntKind.i64.wrap (v5 - (2 : Int))))).toNat IntKind.u32.bits)) then some (Sum.inl (v0, false, v1, v2, v6, v7, v8)) else bif inRange v2 v8.length then bif inRange v5 (64 : Nat) then bif decide ((0 : Int) ≤ IntKind.u64.wrap (IntKind.i64.wrap ((8 : Int) * IntKind.i64.wrap (v5 - (2 : Int))))) then bif List.getD (v8.getD v2.toNat (List.replicate (64 : Nat) (0 : Int))) v5.toNat (0 : Int) != IntKind.u8.wrap (v4.fdiv ((2 : Int) ^ min (IntKind.u64.wrap (IntKind.i64.wrap ((8 : Int) * IntKind.i64.wrap (v5 - (2 : Int))))).toNat IntKind.u32.bits)) then some (Sum.inl (v0, false, v1, v2, v6, v7, v8)) else again (v0, v1, v2, v3, v4, IntKind.i64.wrap (v5 + (1 : Int)), v6, v7, v8) else none else none else none else none else none else none else bif inRange v2 v7.length then bif inRange v5 (64 : Nat) then bif inRange v2 v8.length then bif inRange v5 (64 : Nat) then bif List.getD (v7.getD v2.toNat (List.replicate (64 : Nat) (0 : Int))) v5.toNat (0 : Int) != List.getD (v8.getD v2.toNat (List.replicate (64 : Nat) (0 : Int))) v5.toNat (0 : Int) then some (Sum.inl (v0, false, v1, v2, v6, v7, v8)) else again (v0, v1, v2, v3, v4, IntKind.i64.wrap (v5 + (1 : Int)), v6, v7, v8) else none else none else none else none else bif inRange v2 v7.length then bif inRange v5 (64 : Nat) then bif inRange v2 v8.length then bif inRange v5 (64 : Nat) then bif List.getD (v7.getD v2.toNat (List.replicate (64 : Nat) (0 : Int))) v5.toNat (0 : Int) != List.getD (v8.getD v2.toNat (List.replicate (64 : Nat) (0 : Int))) v5.toNat (0 : Int) then some (Sum.inl (v0, false, v1, v2, v6, v7, v8)) else again (v0, v1, v2, v3, v4, IntKind.i64.wrap (v5 + (1 : Int)), v6, v7, v8) else none else none else none else none else some (Sum.inr (v0, v1, v2, v6, v7, v8))
def L24_19 (k n : Nat) (x : List T128 × Int × Int × Int × Int × Int × List Int × List (List Int) × List (List Int)) : Option ((List T128 × Bool × Int × Int × List Int × List (List Int) × List (List Int)) ⊕ (List T128 × Int × Int × List Int × List (List Int) × List (List Int))) := iterR (R24_19 k) n x
noncomputable def ls24_19 : Nat → Option (LSum Ty) := addL 19 (lsum2 of24_19 ab24_19 L24_19 .ret on24_19a (.exit 2) on24_19b) noL
def of24_11 : List T128 × Int × Int × List Int × List (List Int) × List (List Int) → NSt Ty := fun x => ⟨[.slice 129 (x.1), .ptr 100000 [], .row 100001, .row 100002, .int .i64 (x.2.1), .int .i64 (x.2.2.1)], [.var (.arr 22 2 (x.2.2.2.1)), .row 27 (x.2.2.2.2.1), .row 27 (x.2.2.2.2.2)]⟩
def ab24_11 : (n : NSt Ty) → Option {x : List T128 × Int × Int × List Int × List (List Int) × List (List Int) // of24_11 x = n}
  | ⟨[.slice 129 v0, .ptr 100000 [], .row 100001, .row 100002, .int .i64 v1, .int .i64 v2], [.var (.arr 22 2 v3), .row 27 v4, .row 27 v5]⟩ => some ⟨(v0, v1, v2, v3, v4, v5), rfl⟩
  | _ => none
def on24_11a : List T128 × Bool × Int → NSt Ty := fun x => ⟨[.slice 129 (x.1), .bool (x.2.1), .int .i64 (x.2.2)], []⟩
def on24_11b : List T128 × Int → NSt Ty := fun x => ⟨[.slice 129 (x.1), .undef, .int .i64 (x.2)], []⟩
def oa24_11 : (e : Ex) → (n : NSt Ty) → Option {y : (List T128 × Bool × Int) ⊕ (List T128 × Int) // oe2 .ret (.exit 0) y = e ∧ on2 on24_11a on24_11b y = n}
  | .ret, ⟨[.slice 129 v0, .bool v1, .int .i64 v2], []⟩ => some ⟨.inl (v0, v1, v2), rfl, rfl⟩
  | .exit 0, ⟨[.slice 129 v0, .undef, .int .i64 v1], []⟩ => some ⟨.inr (v0, v1), rfl, rfl⟩
  | _, _ => none
/-- a round of the loop 11 of function 24 -/
def R24_11 (k : Nat) (again : List T128 × Int × Int × List Int × List (List Int) × List (List Int) → Option ((List T128 × Bool × Int) ⊕ (List T128 × Int))) (x : List T128 × Int × Int × List Int × List (List Int) × List (List Int)) : Option ((List T128 × Bool × Int) ⊕ (List T128 × Int)) :=
  match x with
  | (v0, v1, v2, v3, v4, v5) => bif decide (v2 < (↑v4.length : Int)) then bif inRange v2 v4.length then bif List.getD (v4.getD v2.toNat (List.replicate (64 : Nat) (0 : Int))) (Int.toNat (0 : Int)) (0 : Int) == (83 : Int) then bif decide (IntKind.i64.wrap (v1 + (1 : Int)) < (0 : Int)) then some (Sum.inl (v0, false, IntKind.i64.wrap (v1 + (1 : Int)))) else (L24_19 k k (v0, IntKind.i64.wrap (v1 + (1 : Int)), v2, IntKind.u32.wrap (v3.getD (Int.toNat (0 : Int)) (0 : Int) + IntKind.u32.wrap (IntKind.i64.wrap (v1 + (1 : Int)))), IntKind.u32.wrap (v3.getD (Int.toNat (1 : Int)) (0 : Int) + IntKind.u32.wrap (IntKind.i64.wrap (v1 + (1 : Int)))), (0 : Int), v3, v4, v5)).bind fun r => sumK r (fun a => some (Sum.inl (a.fst, a.snd.fst, a.snd.snd.fst))) fun b => again (b.fst, b.snd.fst, IntKind.i64.wrap (b.snd.snd.fst + (1 : Int)), b.snd.snd.snd.fst, b.snd.snd.snd.snd.fst, b.snd.snd.snd.snd.snd) else bif decide (v1 < (0 : Int)) then some (Sum.inl (v0, false, v1)) else (L24_19 k k (v0, v1, v2, IntKind.u32.wrap (v3.getD (Int.toNat (0 : Int)) (0 : Int) + IntKind.u32.wrap v1), IntKind.u32.wrap (v3.getD (Int.toNat (1 : Int)) (0 : Int) + IntKind.u32.wrap v1), (0 : Int), v3, v4, v5)).bind fun r => sumK r (fun a => some (Sum.inl (a.fst, a.snd.fst, a.snd.snd.fst))) fun b => again (b.fst, b.snd.fst, IntKind.i64.wrap (b.snd.snd.fst + (1 : Int)), b.snd.snd.snd.fst, b.snd.snd.snd.snd.fst, b.snd.snd.snd.snd.snd) else none else some (Sum.inr (v0, v1))
def L24_11 (k n : Nat) (x : List T128 × Int × Int × List Int × List (List Int) × List (List Int)) : Option ((List T128 × Bool × Int) ⊕ (List T128 × Int)) := iterR (R24_11 k) n x
noncomputable def ls24_11 : Nat → Option (LSum Ty) := addL 11 (lsum2 of24_11 ab24_11 L24_11 .ret on24_11a (.exit 0) on24_11b) ls24_19
def kp24 : Nat → Keep := fun i => cond (i == 11) ⟨[0, 3, 5, 8, 11, 12], [0, 4, 11], 0⟩ (cond (i == 19) ⟨[0, 3, 5, 8, 11, 12, 13, 14, 15], [0, 3, 4, 5, 8, 11, 12], 0⟩ (⟨[], [], 0⟩))
/-- "silt/siltlaw13.GroupNumbers" -/
def F24 (k : Nat) (x : (List T128) × (List Int) × Unit) : Option (Bool) :=
  match x with
  | (a0, a1, ()) => (F63 k (a0, ())).bind fun r => bif !r then (F64 k ()).bind fun r => some r else (F66 k (a1.getD (Int.toNat (0 : Int)) (0 : Int), a0)).bind fun r => (F66 k (a1.getD (Int.toNat (1 : Int)) (0 : Int), a0)).bind fun r_1 => bif r.fst != r_1.fst then some false else bif (↑r.snd.fst.length : Int) != (↑r_1.snd.fst.length : Int) then some false else bif r.fst != (0 : Int) then bif (↑r.snd.fst.length : Int) == (0 : Int) then (F64 k ()).bind fun r => some r else some false else (L24_11 k k (a0, (-1 : Int), (0 : Int), a1, r.snd.fst, r_1.snd.fst)).bind fun r => sumK r (fun a => some a.snd.fst) fun b => (F72 k (b.fst, ())).bind fun r => bif IntKind.i64.wrap (b.snd + (1 : Int)) == r then (F64 k ()).bind fun r => some r else some false
noncomputable def sp24 : FSpec Ty := spec ag24 rs24 F24
theorem bo24 : Try.f24.body = some (bodyOf Try.f24) := by kernel_rfl
theorem nd24 : nodupB ((loopsIn (bodyOf Try.f24)).map firstRegion) = true := by kernel_rfl
theorem lo24_19 : LSOK fs23 kp24 tab Try.f24 ls24_19 := lsum2_ok bo24 nd24 (LSOK.none) oa24_19 (R := R24_19) fun k again x => by kernel_rfl
theorem lo24_11 : LSOK fs23 kp24 tab Try.f24 ls24_11 := lsum2_ok bo24 nd24 (lo24_19) oa24_11 (R := R24_11) fun k again x => by kernel_rfl
theorem ok24 : FOK Try.prog tab 24 sp24 := spec_ok (keeps := kp24) tabOK fs23OK Try.func24 bo24 (by kernel_rfl) nd24 (lo24_11) (F := F24) fun k x => by kernel_rfl
noncomputable def fs24 : Nat → Option (FSpec Ty) := addF 24 sp24 fs23
theorem fs24OK : SpecsOK Try.prog tab fs24 := fs23OK.add ok24 Try.call24
end Go.Proofs.Ytbhnkjnjeifdhaa.W
