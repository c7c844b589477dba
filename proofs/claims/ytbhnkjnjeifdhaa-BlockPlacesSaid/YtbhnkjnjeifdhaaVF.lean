/-
  The functions that the statement reaches, as typed functions, and that the program computes them. No conditions. Printed by program.
-/
import Derived.Test.YtbhnkjnjeifdhaaVT
set_option linter.unusedVariables false
namespace Go.Proofs.Ytbhnkjnjeifdhaa.W
open Go Go.Proofs V
theorem noFOK : SpecsOK Try.prog tab noF := SpecsOK.none cmpOK
def ag90 : Args Ty (T87 × Unit) := V.arg (tab.den 88) (noArgs)
def rs90 : Res Ty tab (Bool) false := V.oneRes (tab.den 4) (ent 4).ids (ent 4).plain (fun x _ => (ent 4).flat x rfl)
def kp90 : Nat → Keep := fun i => ⟨[], []⟩
/-- "silt/block.plain" -/
def F90 (k : Nat) (x : T87 × Unit) : Option (Bool) :=
  match x with
  | (a0, ()) => bif a0.4 == (0 : Int) then bif (↑a0.5.length : Int) == (0 : Int) then bif a0.1 == (1 : Int) then bif decide (a0.7 = List.replicate (8 : Nat) (0 : Int)) then some (a0.6 == (0 : Int)) else some false else bif a0.1 == (2 : Int) then bif decide (a0.7 = List.replicate (8 : Nat) (0 : Int)) then some (decide (a0.3 = List.replicate (32 : Nat) (0 : Int))) else some false else bif decide (a0.3 = List.replicate (32 : Nat) (0 : Int)) then some (a0.6 == (0 : Int)) else some false else bif a0.1 == (1 : Int) then bif decide (a0.7 = List.replicate (8 : Nat) (0 : Int)) then some false else some false else bif a0.1 == (2 : Int) then bif decide (a0.7 = List.replicate (8 : Nat) (0 : Int)) then some (decide (a0.3 = List.replicate (32 : Nat) (0 : Int))) else some false else bif decide (a0.3 = List.replicate (32 : Nat) (0 : Int)) then some false else some false else bif a0.1 == (1 : Int) then bif decide (a0.7 = List.replicate (8 : Nat) (0 : Int)) then some false else some false else bif a0.1 == (2 : Int) then bif decide (a0.7 = List.replicate (8 : Nat) (0 : Int)) then some (decide (a0.3 = List.replicate (32 : Nat) (0 : Int))) else some false else bif decide (a0.3 = List.replicate (32 : Nat) (0 : Int)) then some false else some false
noncomputable def sp90 : FSpec Ty := spec ag90 rs90 F90
theorem bo90 : Try.f90.body = some (bodyOf Try.f90) := by kernel_rfl
theorem nd90 : nodupB ((loopsIn (bodyOf Try.f90)).map firstRegion) = true := by kernel_rfl
theorem ok90 : FOK Try.prog tab 90 sp90 := spec_ok (keeps := kp90) tabOK noFOK Try.func90 bo90 (by kernel_rfl) nd90 (LSOK.none) (F := F90) fun k x => by kernel_rfl
noncomputable def fs90 : Nat → Option (FSpec Ty) := addF 90 sp90 noF
theorem fs90OK : SpecsOK Try.prog tab fs90 := noFOK.add ok90 Try.call90
def ag91 : Args Ty (Int × Unit) := V.arg (tab.den 3) (noArgs)
def rs91 : Res Ty tab (Bool) false := V.oneRes (tab.den 4) (ent 4).ids (ent 4).plain (fun x _ => (ent 4).flat x rfl)
def kp91 : Nat → Keep := fun i => ⟨[], []⟩
/-- "silt/block.head" -/
def F91 (k : Nat) (x : Int × Unit) : Option (Bool) :=
  match x with
  | (a0, ()) => bif a0 == (0 : Int) then some true else bif a0 == (1 : Int) then some true else bif decide (a0 ≥ (4 : Int)) then some (decide (a0 ≤ (1023 : Int))) else some false
noncomputable def sp91 : FSpec Ty := spec ag91 rs91 F91
theorem bo91 : Try.f91.body = some (bodyOf Try.f91) := by kernel_rfl
theorem nd91 : nodupB ((loopsIn (bodyOf Try.f91)).map firstRegion) = true := by kernel_rfl
theorem ok91 : FOK Try.prog tab 91 sp91 := spec_ok (keeps := kp91) tabOK fs90OK Try.func91 bo91 (by kernel_rfl) nd91 (LSOK.none) (F := F91) fun k x => by kernel_rfl
noncomputable def fs91 : Nat → Option (FSpec Ty) := addF 91 sp91 fs90
theorem fs91OK : SpecsOK Try.prog tab fs91 := fs90OK.add ok91 Try.call91
def ag93 : Args Ty (Int × Unit) := V.arg (tab.den 3) (noArgs)
def rs93 : Res Ty tab (Bool) false := V.oneRes (tab.den 4) (ent 4).ids (ent 4).plain (fun x _ => (ent 4).flat x rfl)
def kp93 : Nat → Keep := fun i => ⟨[], []⟩
/-- "silt/block.Good$1" -/
def F93 (k : Nat) (x : Int × Unit) : Option (Bool) :=
  match x with
  | (a0, ()) => (F91 k (a0, ())).bind fun r => some !r
noncomputable def sp93 : FSpec Ty := spec ag93 rs93 F93
theorem bo93 : Try.f93.body = some (bodyOf Try.f93) := by kernel_rfl
theorem nd93 : nodupB ((loopsIn (bodyOf Try.f93)).map firstRegion) = true := by kernel_rfl
theorem ok93 : FOK Try.prog tab 93 sp93 := spec_ok (keeps := kp93) tabOK fs91OK Try.func93 bo93 (by kernel_rfl) nd93 (LSOK.none) (F := F93) fun k x => by kernel_rfl
noncomputable def fs93 : Nat → Option (FSpec Ty) := addF 93 sp93 fs91
theorem fs93OK : SpecsOK Try.prog tab fs93 := fs91OK.add ok93 Try.call93
def ag102 : Args Ty ((List Int) × Unit × Unit) := V.arg (tab.den 109) (V.arg (tab.den 142) (noArgs))
def rs102 : Res Ty tab (Int) false := V.oneRes (tab.den 3) (ent 3).ids (ent 3).plain (fun x _ => (ent 3).flat x rfl)
def of102_2 : List Int × Int × Int → NSt Ty := fun x => ⟨[.slice 3 (x.1), .func 93, .int .i64 (x.2.1), .int .i64 (x.2.2)], []⟩
def ab102_2 : (n : NSt Ty) → Option {x : List Int × Int × Int // of102_2 x = n}
  | ⟨[.slice 3 v0, .func 93, .int .i64 v1, .int .i64 v2], []⟩ => some ⟨(v0, v1, v2), rfl⟩
  | _ => none
def on102_2a : Int → NSt Ty := fun x => ⟨[.int .i64 (x)], []⟩
def on102_2b : Unit → NSt Ty := fun x => ⟨[.undef], []⟩
def oa102_2 : (e : Ex) → (n : NSt Ty) → Option {y : (Int) ⊕ (Unit) // oe2 .ret (.exit 0) y = e ∧ on2 on102_2a on102_2b y = n}
  | .ret, ⟨[.int .i64 v0], []⟩ => some ⟨.inl v0, rfl, rfl⟩
  | .exit 0, ⟨[.undef], []⟩ => some ⟨.inr (), rfl, rfl⟩
  | _, _ => none
/-- a round of the loop 2 of function 102 -/
def R102_2 (k : Nat) (again : List Int × Int × Int → Option ((Int) ⊕ (Unit))) (x : List Int × Int × Int) : Option ((Int) ⊕ (Unit)) :=
  match x with
  | (v0, v1, v2) => bif decide (v2 < v1) then bif inRange v2 v0.length then (F93 k (v0.getD v2.toNat (0 : Int), ())).bind fun r => bif r then some (Sum.inl v2) else again (v0, v1, IntKind.i64.wrap (v2 + (1 : Int))) else none else some (Sum.inr ())
def L102_2 (k n : Nat) (x : List Int × Int × Int) : Option ((Int) ⊕ (Unit)) := iterR (R102_2 k) n x
noncomputable def ls102_2 : Nat → Option (LSum Ty) := addL 2 (lsum2 of102_2 ab102_2 L102_2 .ret on102_2a (.exit 0) on102_2b) noL
def kp102 : Nat → Keep := fun i => cond (i == 2) ⟨[0, 1, 7, 8], [4]⟩ (⟨[], []⟩)
/-- "slices.IndexFunc[[]int,int]" -/
def F102 (k : Nat) (x : (List Int) × Unit × Unit) : Option (Int) :=
  match x with
  | (a0, a1, ()) => (L102_2 k k (a0, (↑a0.length : Int), (0 : Int))).bind fun r => sumK r (fun a => some a) fun b => some (-1 : Int)
noncomputable def sp102 : FSpec Ty := spec ag102 rs102 F102
theorem bo102 : Try.f102.body = some (bodyOf Try.f102) := by kernel_rfl
theorem nd102 : nodupB ((loopsIn (bodyOf Try.f102)).map firstRegion) = true := by kernel_rfl
theorem lo102_2 : LSOK fs93 kp102 tab Try.f102 ls102_2 := lsum2_ok bo102 nd102 (LSOK.none) oa102_2 (R := R102_2) fun k again x => by kernel_rfl
theorem ok102 : FOK Try.prog tab 102 sp102 := spec_ok (keeps := kp102) tabOK fs93OK Try.func102 bo102 (by kernel_rfl) nd102 (lo102_2) (F := F102) fun k x => by kernel_rfl
noncomputable def fs102 : Nat → Option (FSpec Ty) := addF 102 sp102 fs93
theorem fs102OK : SpecsOK Try.prog tab fs102 := fs93OK.add ok102 Try.call102
def ag92 : Args Ty ((List Int) × Unit × Unit) := V.arg (tab.den 109) (V.arg (tab.den 142) (noArgs))
def rs92 : Res Ty tab (Bool) false := V.oneRes (tab.den 4) (ent 4).ids (ent 4).plain (fun x _ => (ent 4).flat x rfl)
def kp92 : Nat → Keep := fun i => ⟨[], []⟩
/-- "slices.ContainsFunc[[]int,int]" -/
def F92 (k : Nat) (x : (List Int) × Unit × Unit) : Option (Bool) :=
  match x with
  | (a0, a1, ()) => (F102 k (a0, (), ())).bind fun r => some (decide (r ≥ (0 : Int)))
noncomputable def sp92 : FSpec Ty := spec ag92 rs92 F92
theorem bo92 : Try.f92.body = some (bodyOf Try.f92) := by kernel_rfl
theorem nd92 : nodupB ((loopsIn (bodyOf Try.f92)).map firstRegion) = true := by kernel_rfl
theorem ok92 : FOK Try.prog tab 92 sp92 := spec_ok (keeps := kp92) tabOK fs102OK Try.func92 bo92 (by kernel_rfl) nd92 (LSOK.none) (F := F92) fun k x => by kernel_rfl
noncomputable def fs92 : Nat → Option (FSpec Ty) := addF 92 sp92 fs102
theorem fs92OK : SpecsOK Try.prog tab fs92 := fs102OK.add ok92 Try.call92
def ag59 : Args Ty (T87 × Unit) := V.arg (tab.den 88) (noArgs)
def rs59 : Res Ty tab (Bool) false := V.oneRes (tab.den 4) (ent 4).ids (ent 4).plain (fun x _ => (ent 4).flat x rfl)
def kp59 : Nat → Keep := fun i => ⟨[], []⟩
/-- "silt/block.Good" -/
def F59 (k : Nat) (x : T87 × Unit) : Option (Bool) :=
  match x with
  | (a0, ()) => bif decide (a0.2 < (0 : Int)) then some false else (F90 k (T87.mk a0.1 a0.2 a0.3 a0.4 a0.5 a0.6 a0.7, ())).bind fun r => bif !r then some false else bif a0.1 == (2 : Int) then bif decide (a0.4 < (0 : Int)) then some false else bif decide ((↑a0.5.length : Int) < (1 : Int)) then some false else bif decide ((↑a0.5.length : Int) > (16 : Int)) then some false else bif decide (a0.4 > IntKind.i64.wrap ((32 : Int) - (↑a0.5.length : Int))) then some false else bif a0.6 == (0 : Int) then some false else (F91 k (a0.6, ())).bind fun r => bif !r then some false else some (decide (a0.2 < (64 : Int))) else bif a0.1 == (1 : Int) then some (decide (a0.2 < (64 : Int))) else bif a0.1 == (3 : Int) then bif decide (a0.2 < (8 : Int)) then (F92 k (List.take ((↑(8 : Nat) : Int) - (0 : Int)).toNat (List.drop (Int.toNat (0 : Int)) a0.7), (), ())).bind fun r => some !r else some false else some false
noncomputable def sp59 : FSpec Ty := spec ag59 rs59 F59
theorem bo59 : Try.f59.body = some (bodyOf Try.f59) := by kernel_rfl
theorem nd59 : nodupB ((loopsIn (bodyOf Try.f59)).map firstRegion) = true := by kernel_rfl
theorem ok59 : FOK Try.prog tab 59 sp59 := spec_ok (keeps := kp59) tabOK fs92OK Try.func59 bo59 (by kernel_rfl) nd59 (LSOK.none) (F := F59) fun k x => by kernel_rfl
noncomputable def fs59 : Nat → Option (FSpec Ty) := addF 59 sp59 fs92
theorem fs59OK : SpecsOK Try.prog tab fs59 := fs92OK.add ok59 Try.call59
def ag55 : Args Ty (T87 × Int × Unit) := V.arg (tab.den 88) (V.arg (tab.den 22) (noArgs))
def rs55 : Res Ty tab ((List Int) × Int × Unit) false := V.manyRes (V.part (tab.den 27) (ent 27).ids (ent 27).plain (fun x _ => (ent 27).flat x rfl) (V.part (tab.den 29) (ent 29).ids (ent 29).plain (fun x _ => (ent 29).flat x rfl) (noParts)))
def of55_13 : List Int × Int × List Int × List Int → NSt Ty := fun x => ⟨[.ptr 100000 [], .ptr 100001 [], .arr 3 8 (x.1), .int .i64 (x.2.1)], [.var (.arr 5 64 (x.2.2.1)), .var (.arr 5 64 (x.2.2.2))]⟩
def ab55_13 : (n : NSt Ty) → Option {x : List Int × Int × List Int × List Int // of55_13 x = n}
  | ⟨[.ptr 100000 [], .ptr 100001 [], .arr 3 8 v0, .int .i64 v1], [.var (.arr 5 64 v2), .var (.arr 5 64 v3)]⟩ => some ⟨(v0, v1, v2, v3), rfl⟩
  | _ => none
def oe55_13 : List Int × List Int → Ex := fun _ => .exit 1
def on55_13 : List Int × List Int → NSt Ty := fun x => ⟨[.ptr 100000 [], .ptr 100001 []], [.var (.arr 5 64 (x.1)), .var (.arr 5 64 (x.2))]⟩
def oa55_13 : (e : Ex) → (n : NSt Ty) → Option {y : List Int × List Int // oe55_13 y = e ∧ on55_13 y = n}
  | .exit 1, ⟨[.ptr 100000 [], .ptr 100001 []], [.var (.arr 5 64 v0), .var (.arr 5 64 v1)]⟩ => some ⟨(v0, v1), rfl, rfl⟩
  | _, _ => none
/-- a round of the loop 13 of function 55 -/
def R55_13 (k : Nat) (again : List Int × Int × List Int × List Int → Option (List Int × List Int)) (x : List Int × Int × List Int × List Int) : Option (List Int × List Int) :=
  match x with
  | (v0, v1, v2, v3) => bif decide (v1 < (8 : Int)) then bif inRange v1 (8 : Nat) then bif inRange (IntKind.i64.wrap ((6 : Int) + IntKind.i64.wrap ((2 : Int) * v1))) (64 : Nat) then bif inRange (IntKind.i64.wrap (IntKind.i64.wrap ((6 : Int) + IntKind.i64.wrap ((2 : Int) * v1)) + (1 : Int))) (64 : Nat) then again (v0, IntKind.i64.wrap (v1 + (1 : Int)), v2, (v3.set (IntKind.i64.wrap ((6 : Int) + IntKind.i64.wrap ((2 : Int) * v1))).toNat (IntKind.u8.wrap (v0.getD v1.toNat (0 : Int)))).set (IntKind.i64.wrap (IntKind.i64.wrap ((6 : Int) + IntKind.i64.wrap ((2 : Int) * v1)) + (1 : Int))).toNat (IntKind.u8.wrap (Int.fdiv (v0.getD v1.toNat (0 : Int)) ((2 : Int) ^ min (Int.toNat (8 : Int)) IntKind.i64.bits)))) else none else none else none else some (v2, v3)
def L55_13 (k n : Nat) (x : List Int × Int × List Int × List Int) : Option (List Int × List Int) := iterR (R55_13 k) n x
noncomputable def ls55_13 : Nat → Option (LSum Ty) := addL 13 (LSum.of of55_13 ab55_13 L55_13 oe55_13 on55_13) noL
def kp55 : Nat → Keep := fun i => cond (i == 13) ⟨[4, 6, 66, 67], [4, 6]⟩ (⟨[], []⟩)
/-- "silt/block.Encode" -/
def F55 (k : Nat) (x : T87 × Int × Unit) : Option ((List Int) × Int × Unit) :=
  match x with
  | (a0, a1, ()) => (F59 k (T87.mk a0.1 a0.2 a0.3 a0.4 a0.5 a0.6 a0.7, ())).bind fun r => bif !r then some (List.replicate (64 : Nat) (0 : Int), (11 : Int), ()) else bif a0.1 == (1 : Int) then some (splice (((((((List.replicate (64 : Nat) (0 : Int)).set (0 : Nat) (IntKind.u8.wrap a0.1)).set (1 : Nat) (IntKind.u8.wrap a0.2)).set (2 : Nat) (IntKind.u8.wrap a1)).set (3 : Nat) (IntKind.u8.wrap (a1.fdiv ((2 : Int) ^ min (Int.toNat (8 : Int)) IntKind.u32.bits)))).set (4 : Nat) (IntKind.u8.wrap (a1.fdiv ((2 : Int) ^ min (Int.toNat (16 : Int)) IntKind.u32.bits)))).set (5 : Nat) (IntKind.u8.wrap (a1.fdiv ((2 : Int) ^ min (Int.toNat (24 : Int)) IntKind.u32.bits)))) (List.take ((↑(32 : Nat) : Int) - (0 : Int)).toNat (List.drop (Int.toNat (0 : Int)) a0.3)) (Int.toNat (6 : Int)) (min (List.take ((↑(32 : Nat) : Int) - (0 : Int)).toNat (List.drop (Int.toNat (0 : Int)) a0.3)).length ((↑(64 : Nat) : Int) - (6 : Int)).toNat), (0 : Int), ()) else bif a0.1 == (2 : Int) then some (((splice (((((((((List.replicate (64 : Nat) (0 : Int)).set (0 : Nat) (IntKind.u8.wrap a0.1)).set (1 : Nat) (IntKind.u8.wrap a0.2)).set (2 : Nat) (IntKind.u8.wrap a1)).set (3 : Nat) (IntKind.u8.wrap (a1.fdiv ((2 : Int) ^ min (Int.toNat (8 : Int)) IntKind.u32.bits)))).set (4 : Nat) (IntKind.u8.wrap (a1.fdiv ((2 : Int) ^ min (Int.toNat (16 : Int)) IntKind.u32.bits)))).set (5 : Nat) (IntKind.u8.wrap (a1.fdiv ((2 : Int) ^ min (Int.toNat (24 : Int)) IntKind.u32.bits)))).set (Int.toNat (6 : Int)) (IntKind.u8.wrap a0.4)).set (Int.toNat (7 : Int)) (IntKind.u8.wrap (↑a0.5.length : Int))) a0.5 (Int.toNat (8 : Int)) (min a0.5.length ((↑(64 : Nat) : Int) - (8 : Int)).toNat)).set (Int.toNat (24 : Int)) (IntKind.u8.wrap a0.6)).set (Int.toNat (25 : Int)) (IntKind.u8.wrap (a0.6.fdiv ((2 : Int) ^ min (Int.toNat (8 : Int)) IntKind.i64.bits))), (0 : Int), ()) else bif a0.1 == (3 : Int) then (L55_13 k k (a0.7, (0 : Int), List.replicate (64 : Nat) (0 : Int), ((((((List.replicate (64 : Nat) (0 : Int)).set (0 : Nat) (IntKind.u8.wrap a0.1)).set (1 : Nat) (IntKind.u8.wrap a0.2)).set (2 : Nat) (IntKind.u8.wrap a1)).set (3 : Nat) (IntKind.u8.wrap (a1.fdiv ((2 : Int) ^ min (Int.toNat (8 : Int)) IntKind.u32.bits)))).set (4 : Nat) (IntKind.u8.wrap (a1.fdiv ((2 : Int) ^ min (Int.toNat (16 : Int)) IntKind.u32.bits)))).set (5 : Nat) (IntKind.u8.wrap (a1.fdiv ((2 : Int) ^ min (Int.toNat (24 : Int)) IntKind.u32.bits))))).bind fun r => some (r.snd, (0 : Int), ()) else some (((((((List.replicate (64 : Nat) (0 : Int)).set (0 : Nat) (IntKind.u8.wrap a0.1)).set (1 : Nat) (IntKind.u8.wrap a0.2)).set (2 : Nat) (IntKind.u8.wrap a1)).set (3 : Nat) (IntKind.u8.wrap (a1.fdiv ((2 : Int) ^ min (Int.toNat (8 : Int)) IntKind.u32.bits)))).set (4 : Nat) (IntKind.u8.wrap (a1.fdiv ((2 : Int) ^ min (Int.toNat (16 : Int)) IntKind.u32.bits)))).set (5 : Nat) (IntKind.u8.wrap (a1.fdiv ((2 : Int) ^ min (Int.toNat (24 : Int)) IntKind.u32.bits))), (0 : Int), ())
noncomputable def sp55 : FSpec Ty := spec ag55 rs55 F55
theorem bo55 : Try.f55.body = some (bodyOf Try.f55) := by kernel_rfl
theorem nd55 : nodupB ((loopsIn (bodyOf Try.f55)).map firstRegion) = true := by kernel_rfl
theorem lo55_13 : LSOK fs59 kp55 tab Try.f55 ls55_13 := lsum_ok bo55 nd55 (LSOK.none) oa55_13 (R := R55_13) fun k again x => by kernel_rfl
theorem ok55 : FOK Try.prog tab 55 sp55 := spec_ok (keeps := kp55) tabOK fs59OK Try.func55 bo55 (by kernel_rfl) nd55 (lo55_13) (F := F55) fun k x => by kernel_rfl
noncomputable def fs55 : Nat → Option (FSpec Ty) := addF 55 sp55 fs59
theorem fs55OK : SpecsOK Try.prog tab fs55 := fs59OK.add ok55 Try.call55
def ag88 : Args Ty ((List Int) × Unit) := V.arg (tab.den 58) (noArgs)
def rs88 : Res Ty tab (Int) false := V.oneRes (tab.den 3) (ent 3).ids (ent 3).plain (fun x _ => (ent 3).flat x rfl)
def kp88 : Nat → Keep := fun i => ⟨[], []⟩
/-- "silt/block.two" -/
def F88 (k : Nat) (x : (List Int) × Unit) : Option (Int) :=
  match x with
  | (a0, ()) => bif inRange (0 : Int) a0.length then bif inRange (1 : Int) a0.length then some (IntKind.i64.wrap (↑(BitVec.ofInt IntKind.i64.bits (IntKind.i64.wrap (a0.getD (Int.toNat (0 : Int)) (0 : Int))) ||| BitVec.ofInt IntKind.i64.bits (IntKind.i64.wrap (IntKind.i64.wrap (a0.getD (Int.toNat (1 : Int)) (0 : Int)) * (2 : Int) ^ min (Int.toNat (8 : Int)) IntKind.i64.bits))).toNat : Int)) else none else none
noncomputable def sp88 : FSpec Ty := spec ag88 rs88 F88
theorem bo88 : Try.f88.body = some (bodyOf Try.f88) := by kernel_rfl
theorem nd88 : nodupB ((loopsIn (bodyOf Try.f88)).map firstRegion) = true := by kernel_rfl
theorem ok88 : FOK Try.prog tab 88 sp88 := spec_ok (keeps := kp88) tabOK fs55OK Try.func88 bo88 (by kernel_rfl) nd88 (LSOK.none) (F := F88) fun k x => by kernel_rfl
noncomputable def fs88 : Nat → Option (FSpec Ty) := addF 88 sp88 fs55
theorem fs88OK : SpecsOK Try.prog tab fs88 := fs55OK.add ok88 Try.call88
def ag89 : Args Ty ((List Int) × Unit) := V.arg (tab.den 58) noArgs
def rs89 : Res Ty tab ((List Int)) true := V.oneRes (tab.den 58) (ent 58).ids (ent 58).plain (fun _ h => by cases h)
/-- slices.Clone -/
def F89 : Nat → ((List Int) × Unit) → Option ((List Int)) := cloneF
noncomputable def sp89 : FSpec Ty := spec ag89 rs89 F89
theorem bo89 : Try.f89.body = some (bodyOf Try.f89) := by kernel_rfl
theorem nd89 : nodupB ((loopsIn (bodyOf Try.f89)).map firstRegion) = true := by kernel_rfl
theorem ok89 : FOK Try.prog tab 89 sp89 := clone_ok (e := 5) (A := ag89) (B := rs89) tabOK noFOK Try.func89 bo89 (by kernel_rfl) nd89 (fun _ => rfl) (fun _ => rfl) (by kernel_rfl) (fun xs => by kernel_rfl)
noncomputable def fs89 : Nat → Option (FSpec Ty) := addF 89 sp89 fs88
theorem fs89OK : SpecsOK Try.prog tab fs89 := fs88OK.add ok89 Try.call89
def ag57 : Args Ty ((List Int) × Unit) := V.arg (tab.den 27) (noArgs)
def rs57 : Res Ty tab (T87 × Int × Int × Unit) true := V.manyRes (V.part (tab.den 88) (ent 88).ids (ent 88).plain (fun _ h => by cases h) (V.part (tab.den 22) (ent 22).ids (ent 22).plain (fun _ h => by cases h) (V.part (tab.den 29) (ent 29).ids (ent 29).plain (fun _ h => by cases h) (noParts))))
def of57_11 : Int × Int × List Int × Int × Int × List Int × Int × Int × List Int × Int × Int × List Int × Int × Int × List Int × List Int × List Int → NSt Ty := fun x => ⟨[.ptr 100000 [], .ptr 100001 [], .ptr 100002 [], .int .u32 (x.1), .int .i64 (x.2.1)], [.var (.arr 5 64 (x.2.2.1)), .var (.cons (.int .i64 (x.2.2.2.1)) (.cons (.int .i64 (x.2.2.2.2.1)) (.cons (.arr 5 32 (x.2.2.2.2.2.1)) (.cons (.int .i64 (x.2.2.2.2.2.2.1)) (.cons (.row 100003) (.cons (.int .i64 (x.2.2.2.2.2.2.2.1)) (.cons (.arr 3 8 (x.2.2.2.2.2.2.2.2.1)) (.nil)))))))), .var (.cons (.int .i64 (x.2.2.2.2.2.2.2.2.2.1)) (.cons (.int .i64 (x.2.2.2.2.2.2.2.2.2.2.1)) (.cons (.arr 5 32 (x.2.2.2.2.2.2.2.2.2.2.2.1)) (.cons (.int .i64 (x.2.2.2.2.2.2.2.2.2.2.2.2.1)) (.cons (.row 100004) (.cons (.int .i64 (x.2.2.2.2.2.2.2.2.2.2.2.2.2.1)) (.cons (.arr 3 8 (x.2.2.2.2.2.2.2.2.2.2.2.2.2.2.1)) (.nil)))))))), .row 5 (x.2.2.2.2.2.2.2.2.2.2.2.2.2.2.2.1), .row 5 (x.2.2.2.2.2.2.2.2.2.2.2.2.2.2.2.2)]⟩
def ab57_11 : (n : NSt Ty) → Option {x : Int × Int × List Int × Int × Int × List Int × Int × Int × List Int × Int × Int × List Int × Int × Int × List Int × List Int × List Int // of57_11 x = n}
  | ⟨[.ptr 100000 [], .ptr 100001 [], .ptr 100002 [], .int .u32 v0, .int .i64 v1], [.var (.arr 5 64 v2), .var (.cons (.int .i64 v3) (.cons (.int .i64 v4) (.cons (.arr 5 32 v5) (.cons (.int .i64 v6) (.cons (.row 100003) (.cons (.int .i64 v7) (.cons (.arr 3 8 v8) (.nil)))))))), .var (.cons (.int .i64 v9) (.cons (.int .i64 v10) (.cons (.arr 5 32 v11) (.cons (.int .i64 v12) (.cons (.row 100004) (.cons (.int .i64 v13) (.cons (.arr 3 8 v14) (.nil)))))))), .row 5 v15, .row 5 v16]⟩ => some ⟨(v0, v1, v2, v3, v4, v5, v6, v7, v8, v9, v10, v11, v12, v13, v14, v15, v16), rfl⟩
  | _ => none
def oe57_11 : Int × List Int × Int × Int × List Int × Int × Int × List Int × Int × Int × List Int × Int × Int × List Int × List Int × List Int → Ex := fun _ => .exit 1
def on57_11 : Int × List Int × Int × Int × List Int × Int × Int × List Int × Int × Int × List Int × Int × Int × List Int × List Int × List Int → NSt Ty := fun x => ⟨[.ptr 100000 [], .ptr 100001 [], .ptr 100002 [], .int .u32 (x.1)], [.var (.arr 5 64 (x.2.1)), .var (.cons (.int .i64 (x.2.2.1)) (.cons (.int .i64 (x.2.2.2.1)) (.cons (.arr 5 32 (x.2.2.2.2.1)) (.cons (.int .i64 (x.2.2.2.2.2.1)) (.cons (.row 100003) (.cons (.int .i64 (x.2.2.2.2.2.2.1)) (.cons (.arr 3 8 (x.2.2.2.2.2.2.2.1)) (.nil)))))))), .var (.cons (.int .i64 (x.2.2.2.2.2.2.2.2.1)) (.cons (.int .i64 (x.2.2.2.2.2.2.2.2.2.1)) (.cons (.arr 5 32 (x.2.2.2.2.2.2.2.2.2.2.1)) (.cons (.int .i64 (x.2.2.2.2.2.2.2.2.2.2.2.1)) (.cons (.row 100004) (.cons (.int .i64 (x.2.2.2.2.2.2.2.2.2.2.2.2.1)) (.cons (.arr 3 8 (x.2.2.2.2.2.2.2.2.2.2.2.2.2.1)) (.nil)))))))), .row 5 (x.2.2.2.2.2.2.2.2.2.2.2.2.2.2.1), .row 5 (x.2.2.2.2.2.2.2.2.2.2.2.2.2.2.2)]⟩
def oa57_11 : (e : Ex) → (n : NSt Ty) → Option {y : Int × List Int × Int × Int × List Int × Int × Int × List Int × Int × Int × List Int × Int × Int × List Int × List Int × List Int // oe57_11 y = e ∧ on57_11 y = n}
  | .exit 1, ⟨[.ptr 100000 [], .ptr 100001 [], .ptr 100002 [], .int .u32 v0], [.var (.arr 5 64 v1), .var (.cons (.int .i64 v2) (.cons (.int .i64 v3) (.cons (.arr 5 32 v4) (.cons (.int .i64 v5) (.cons (.row 100003) (.cons (.int .i64 v6) (.cons (.arr 3 8 v7) (.nil)))))))), .var (.cons (.int .i64 v8) (.cons (.int .i64 v9) (.cons (.arr 5 32 v10) (.cons (.int .i64 v11) (.cons (.row 100004) (.cons (.int .i64 v12) (.cons (.arr 3 8 v13) (.nil)))))))), .row 5 v14, .row 5 v15]⟩ => some ⟨(v0, v1, v2, v3, v4, v5, v6, v7, v8, v9, v10, v11, v12, v13, v14, v15), rfl, rfl⟩
  | _, _ => none
/-- a round of the loop 11 of function 57 -/
def R57_11 (k : Nat) (again : Int × Int × List Int × Int × Int × List Int × Int × Int × List Int × Int × Int × List Int × Int × Int × List Int × List Int × List Int → Option (Int × List Int × Int × Int × List Int × Int × Int × List Int × Int × Int × List Int × Int × Int × List Int × List Int × List Int)) (x : Int × Int × List Int × Int × Int × List Int × Int × Int × List Int × Int × Int × List Int × Int × Int × List Int × List Int × List Int) : Option (Int × List Int × Int × Int × List Int × Int × Int × List Int × Int × Int × List Int × Int × Int × List Int × List Int × List Int) :=
  match x with
  | (v0, v1, v2, v3, v4, v5, v6, v7, v8, v9, v10, v11, v12, v13, v14, v15, v16) => bif decide (v1 < (8 : Int)) then bif decide ((0 : Int) ≤ IntKind.i64.wrap ((6 : Int) + IntKind.i64.wrap ((2 : Int) * v1))) && decide (IntKind.i64.wrap ((6 : Int) + IntKind.i64.wrap ((2 : Int) * v1)) ≤ (↑(64 : Nat) : Int)) && decide ((↑(64 : Nat) : Int) ≤ (↑(64 : Nat) : Int)) then (F88 k (List.take ((↑(64 : Nat) : Int) - IntKind.i64.wrap ((6 : Int) + IntKind.i64.wrap ((2 : Int) * v1))).toNat (List.drop (IntKind.i64.wrap ((6 : Int) + IntKind.i64.wrap ((2 : Int) * v1))).toNat v2), ())).bind fun r => bif inRange v1 (8 : Nat) then again (v0, IntKind.i64.wrap (v1 + (1 : Int)), v2, v3, v4, v5, v6, v7, v8, v9, v10, v11, v12, v13, v14.set v1.toNat r, v15, v16) else none else none else some (v0, v2, v3, v4, v5, v6, v7, v8, v9, v10, v11, v12, v13, v14, v15, v16)
def L57_11 (k n : Nat) (x : Int × Int × List Int × Int × Int × List Int × Int × Int × List Int × Int × Int × List Int × Int × Int × List Int × List Int × List Int) : Option (Int × List Int × Int × Int × List Int × Int × Int × List Int × Int × Int × List Int × Int × Int × List Int × List Int × List Int) := iterR (R57_11 k) n x
noncomputable def ls57_11 : Nat → Option (LSum Ty) := addL 11 (LSum.of of57_11 ab57_11 L57_11 oe57_11 on57_11) noL
def kp57 : Nat → Keep := fun i => cond (i == 11) ⟨[1, 2, 5, 6, 52], [1, 2, 5, 6]⟩ (⟨[], []⟩)
/-- "silt/block.Decode" -/
def F57 (k : Nat) (x : (List Int) × Unit) : Option (T87 × Int × Int × Unit) :=
  match x with
  | (a0, ()) => (F88 k (List.take ((↑(64 : Nat) : Int) - (2 : Int)).toNat (List.drop (Int.toNat (2 : Int)) a0), ())).bind fun r => (F88 k (List.take ((↑(64 : Nat) : Int) - (4 : Int)).toNat (List.drop (Int.toNat (4 : Int)) a0), ())).bind fun r_1 => bif IntKind.i64.wrap (a0.getD (Int.toNat (0 : Int)) (0 : Int)) == (1 : Int) then bif Nat.blt (0 : Nat) (32 : Nat) && Nat.ble (32 : Nat) (List.take ((38 : Int) - (6 : Int)).toNat (List.drop (Int.toNat (6 : Int)) a0)).length then (F55 k (T87.mk (IntKind.i64.wrap (a0.getD (Int.toNat (0 : Int)) (0 : Int))) (IntKind.i64.wrap (a0.getD (Int.toNat (1 : Int)) (0 : Int))) (List.take (32 : Nat) (List.take ((38 : Int) - (6 : Int)).toNat (List.drop (Int.toNat (6 : Int)) a0))) (0 : Int) [] (0 : Int) (List.replicate (8 : Nat) (0 : Int)), IntKind.u32.wrap (↑(BitVec.ofInt IntKind.u32.bits (IntKind.u32.wrap r) ||| BitVec.ofInt IntKind.u32.bits (IntKind.u32.wrap (IntKind.u32.wrap r_1 * (2 : Int) ^ min (Int.toNat (16 : Int)) IntKind.u32.bits))).toNat : Int), ())).bind fun r_2 => bif r_2.snd.fst != (0 : Int) then some (T87.mk (0 : Int) (0 : Int) (List.replicate (32 : Nat) (0 : Int)) (0 : Int) [] (0 : Int) (List.replicate (8 : Nat) (0 : Int)), (0 : Int), (11 : Int), ()) else bif !decide (r_2.fst = a0) then some (T87.mk (0 : Int) (0 : Int) (List.replicate (32 : Nat) (0 : Int)) (0 : Int) [] (0 : Int) (List.replicate (8 : Nat) (0 : Int)), (0 : Int), (11 : Int), ()) else some (T87.mk (IntKind.i64.wrap (a0.getD (Int.toNat (0 : Int)) (0 : Int))) (IntKind.i64.wrap (a0.getD (Int.toNat (1 : Int)) (0 : Int))) (List.take (32 : Nat) (List.take ((38 : Int) - (6 : Int)).toNat (List.drop (Int.toNat (6 : Int)) a0))) (0 : Int) [] (0 : Int) (List.replicate (8 : Nat) (0 : Int)), IntKind.u32.wrap (↑(BitVec.ofInt IntKind.u32.bits (IntKind.u32.wrap r) ||| BitVec.ofInt IntKind.u32.bits (IntKind.u32.wrap (IntKind.u32.wrap r_1 * (2 : Int) ^ min (Int.toNat (16 : Int)) IntKind.u32.bits))).toNat : Int), (0 : Int), ()) else none else bif IntKind.i64.wrap (a0.getD (Int.toNat (0 : Int)) (0 : Int)) == (2 : Int) then (F88 k (List.take ((↑(64 : Nat) : Int) - (24 : Int)).toNat (List.drop (Int.toNat (24 : Int)) a0), ())).bind fun r_2 => bif decide ((0 : Int) ≤ (8 : Int)) && decide ((8 : Int) ≤ IntKind.i64.wrap ((8 : Int) + if (16 : Int) < IntKind.i64.wrap (a0.getD (Int.toNat (7 : Int)) (0 : Int)) then (16 : Int) else IntKind.i64.wrap (a0.getD (Int.toNat (7 : Int)) (0 : Int)))) && decide (IntKind.i64.wrap ((8 : Int) + if (16 : Int) < IntKind.i64.wrap (a0.getD (Int.toNat (7 : Int)) (0 : Int)) then (16 : Int) else IntKind.i64.wrap (a0.getD (Int.toNat (7 : Int)) (0 : Int))) ≤ (↑(64 : Nat) : Int)) then (F89 k (List.take (IntKind.i64.wrap ((8 : Int) + if (16 : Int) < IntKind.i64.wrap (a0.getD (Int.toNat (7 : Int)) (0 : Int)) then (16 : Int) else IntKind.i64.wrap (a0.getD (Int.toNat (7 : Int)) (0 : Int))) - (8 : Int)).toNat (List.drop (Int.toNat (8 : Int)) a0), ())).bind fun r_3 => (F55 k (T87.mk (IntKind.i64.wrap (a0.getD (Int.toNat (0 : Int)) (0 : Int))) (IntKind.i64.wrap (a0.getD (Int.toNat (1 : Int)) (0 : Int))) (List.replicate (32 : Nat) (0 : Int)) (IntKind.i64.wrap (a0.getD (Int.toNat (6 : Int)) (0 : Int))) r_3 r_2 (List.replicate (8 : Nat) (0 : Int)), IntKind.u32.wrap (↑(BitVec.ofInt IntKind.u32.bits (IntKind.u32.wrap r) ||| BitVec.ofInt IntKind.u32.bits (IntKind.u32.wrap (IntKind.u32.wrap r_1 * (2 : Int) ^ min (Int.toNat (16 : Int)) IntKind.u32.bits))).toNat : Int), ())).bind fun r_4 => bif r_4.snd.fst != (0 : Int) then some (T87.mk (0 : Int) (0 : Int) (List.replicate (32 : Nat) (0 : Int)) (0 : Int) [] (0 : Int) (List.replicate (8 : Nat) (0 : Int)), (0 : Int), (11 : Int), ()) else bif !decide (r_4.fst = a0) then some (T87.mk (0 : Int) (0 : Int) (List.replicate (32 : Nat) (0 : Int)) (0 : Int) [] (0 : Int) (List.replicate (8 : Nat) (0 : Int)), (0 : Int), (11 : Int), ()) else some (T87.mk (IntKind.i64.wrap (a0.getD (Int.toNat (0 : Int)) (0 : Int))) (IntKind.i64.wrap (a0.getD (Int.toNat (1 : Int)) (0 : Int))) (List.replicate (32 : Nat) (0 : Int)) (IntKind.i64.wrap (a0.getD (Int.toNat (6 : Int)) (0 : Int))) r_3 r_2 (List.replicate (8 : Nat) (0 : Int)), IntKind.u32.wrap (↑(BitVec.ofInt IntKind.u32.bits (IntKind.u32.wrap r) ||| BitVec.ofInt IntKind.u32.bits (IntKind.u32.wrap (IntKind.u32.wrap r_1 * (2 : Int) ^ min (Int.toNat (16 : Int)) IntKind.u32.bits))).toNat : Int), (0 : Int), ()) else none else bif IntKind.i64.wrap (a0.getD (Int.toNat (0 : Int)) (0 : Int)) == (3 : Int) then (L57_11 k k (IntKind.u32.wrap (↑(BitVec.ofInt IntKind.u32.bits (IntKind.u32.wrap r) ||| BitVec.ofInt IntKind.u32.bits (IntKind.u32.wrap (IntKind.u32.wrap r_1 * (2 : Int) ^ min (Int.toNat (16 : Int)) IntKind.u32.bits))).toNat : Int), (0 : Int), a0, (0 : Int), (0 : Int), List.replicate (32 : Nat) (0 : Int), (0 : Int), (0 : Int), List.replicate (8 : Nat) (0 : Int), IntKind.i64.wrap (a0.getD (Int.toNat (0 : Int)) (0 : Int)), IntKind.i64.wrap (a0.getD (Int.toNat (1 : Int)) (0 : Int)), List.replicate (32 : Nat) (0 : Int), (0 : Int), (0 : Int), List.replicate (8 : Nat) (0 : Int), [], [])).bind fun r => (F55 k (T87.mk r.snd.snd.snd.snd.snd.snd.snd.snd.fst r.snd.snd.snd.snd.snd.snd.snd.snd.snd.fst r.snd.snd.snd.snd.snd.snd.snd.snd.snd.snd.fst r.snd.snd.snd.snd.snd.snd.snd.snd.snd.snd.snd.fst r.snd.snd.snd.snd.snd.snd.snd.snd.snd.snd.snd.snd.snd.snd.snd r.snd.snd.snd.snd.snd.snd.snd.snd.snd.snd.snd.snd.fst r.snd.snd.snd.snd.snd.snd.snd.snd.snd.snd.snd.snd.snd.fst, r.fst, ())).bind fun r_2 => bif r_2.snd.fst != (0 : Int) then some (T87.mk (0 : Int) (0 : Int) (List.replicate (32 : Nat) (0 : Int)) (0 : Int) [] (0 : Int) (List.replicate (8 : Nat) (0 : Int)), (0 : Int), (11 : Int), ()) else bif !decide (r_2.fst = r.snd.fst) then some (T87.mk (0 : Int) (0 : Int) (List.replicate (32 : Nat) (0 : Int)) (0 : Int) [] (0 : Int) (List.replicate (8 : Nat) (0 : Int)), (0 : Int), (11 : Int), ()) else some (T87.mk r.snd.snd.snd.snd.snd.snd.snd.snd.fst r.snd.snd.snd.snd.snd.snd.snd.snd.snd.fst r.snd.snd.snd.snd.snd.snd.snd.snd.snd.snd.fst r.snd.snd.snd.snd.snd.snd.snd.snd.snd.snd.snd.fst r.snd.snd.snd.snd.snd.snd.snd.snd.snd.snd.snd.snd.snd.snd.snd r.snd.snd.snd.snd.snd.snd.snd.snd.snd.snd.snd.snd.fst r.snd.snd.snd.snd.snd.snd.snd.snd.snd.snd.snd.snd.snd.fst, r.fst, (0 : Int), ()) else (F55 k (T87.mk (IntKind.i64.wrap (a0.getD (Int.toNat (0 : Int)) (0 : Int))) (IntKind.i64.wrap (a0.getD (Int.toNat (1 : Int)) (0 : Int))) (List.replicate (32 : Nat) (0 : Int)) (0 : Int) [] (0 : Int) (List.replicate (8 : Nat) (0 : Int)), IntKind.u32.wrap (↑(BitVec.ofInt IntKind.u32.bits (IntKind.u32.wrap r) ||| BitVec.ofInt IntKind.u32.bits (IntKind.u32.wrap (IntKind.u32.wrap r_1 * (2 : Int) ^ min (Int.toNat (16 : Int)) IntKind.u32.bits))).toNat : Int), ())).bind fun r_2 => bif r_2.snd.fst != (0 : Int) then some (T87.mk (0 : Int) (0 : Int) (List.replicate (32 : Nat) (0 : Int)) (0 : Int) [] (0 : Int) (List.replicate (8 : Nat) (0 : Int)), (0 : Int), (11 : Int), ()) else bif !decide (r_2.fst = a0) then some (T87.mk (0 : Int) (0 : Int) (List.replicate (32 : Nat) (0 : Int)) (0 : Int) [] (0 : Int) (List.replicate (8 : Nat) (0 : Int)), (0 : Int), (11 : Int), ()) else some (T87.mk (IntKind.i64.wrap (a0.getD (Int.toNat (0 : Int)) (0 : Int))) (IntKind.i64.wrap (a0.getD (Int.toNat (1 : Int)) (0 : Int))) (List.replicate (32 : Nat) (0 : Int)) (0 : Int) [] (0 : Int) (List.replicate (8 : Nat) (0 : Int)), IntKind.u32.wrap (↑(BitVec.ofInt IntKind.u32.bits (IntKind.u32.wrap r) ||| BitVec.ofInt IntKind.u32.bits (IntKind.u32.wrap (IntKind.u32.wrap r_1 * (2 : Int) ^ min (Int.toNat (16 : Int)) IntKind.u32.bits))).toNat : Int), (0 : Int), ())
noncomputable def sp57 : FSpec Ty := spec ag57 rs57 F57
theorem bo57 : Try.f57.body = some (bodyOf Try.f57) := by kernel_rfl
theorem nd57 : nodupB ((loopsIn (bodyOf Try.f57)).map firstRegion) = true := by kernel_rfl
theorem lo57_11 : LSOK fs89 kp57 tab Try.f57 ls57_11 := lsum_ok bo57 nd57 (LSOK.none) oa57_11 (R := R57_11) fun k again x => by kernel_rfl
theorem ok57 : FOK Try.prog tab 57 sp57 := spec_ok (keeps := kp57) tabOK fs89OK Try.func57 bo57 (by kernel_rfl) nd57 (lo57_11) (F := F57) fun k x => by kernel_rfl
noncomputable def fs57 : Nat → Option (FSpec Ty) := addF 57 sp57 fs89
theorem fs57OK : SpecsOK Try.prog tab fs57 := fs89OK.add ok57 Try.call57
def ag62 : Args Ty ((List Int) × (List Int) × Unit) := V.arg (tab.den 58) (V.arg (tab.den 58) (noArgs))
def rs62 : Res Ty tab (Bool) false := V.oneRes (tab.den 4) (ent 4).ids (ent 4).plain (fun x _ => (ent 4).flat x rfl)
def kp62 : Nat → Keep := fun i => ⟨[], []⟩
/-- "silt/siltkeep.Bytes" -/
def F62 (k : Nat) (x : (List Int) × (List Int) × Unit) : Option (Bool) :=
  match x with
  | (a0, a1, ()) => some ((bytesStr (List.map (fun x => x) a0)).toList == (bytesStr (List.map (fun x => x) a1)).toList)
noncomputable def sp62 : FSpec Ty := spec ag62 rs62 F62
theorem bo62 : Try.f62.body = some (bodyOf Try.f62) := by kernel_rfl
theorem nd62 : nodupB ((loopsIn (bodyOf Try.f62)).map firstRegion) = true := by kernel_rfl
theorem ok62 : FOK Try.prog tab 62 sp62 := spec_ok (keeps := kp62) tabOK fs57OK Try.func62 bo62 (by kernel_rfl) nd62 (LSOK.none) (F := F62) fun k x => by kernel_rfl
noncomputable def fs62 : Nat → Option (FSpec Ty) := addF 62 sp62 fs57
theorem fs62OK : SpecsOK Try.prog tab fs62 := fs57OK.add ok62 Try.call62
def ag61 : Args Ty (T87 × T87 × Unit) := V.arg (tab.den 88) (V.arg (tab.den 88) (noArgs))
def rs61 : Res Ty tab (Bool) false := V.oneRes (tab.den 4) (ent 4).ids (ent 4).plain (fun x _ => (ent 4).flat x rfl)
def kp61 : Nat → Keep := fun i => ⟨[], []⟩
/-- "silt/siltkeep.Block" -/
def F61 (k : Nat) (x : T87 × T87 × Unit) : Option (Bool) :=
  match x with
  | (a0, a1, ()) => bif a0.1 == a1.1 then bif a0.2 == a1.2 then bif decide (a0.3 = a1.3) then bif a0.4 == a1.4 then (F62 k (a0.5, a1.5, ())).bind fun r => bif r then bif a0.6 == a1.6 then some (decide (a0.7 = a1.7)) else some false else some false else some false else some false else some false else some false
noncomputable def sp61 : FSpec Ty := spec ag61 rs61 F61
theorem bo61 : Try.f61.body = some (bodyOf Try.f61) := by kernel_rfl
theorem nd61 : nodupB ((loopsIn (bodyOf Try.f61)).map firstRegion) = true := by kernel_rfl
theorem ok61 : FOK Try.prog tab 61 sp61 := spec_ok (keeps := kp61) tabOK fs62OK Try.func61 bo61 (by kernel_rfl) nd61 (LSOK.none) (F := F61) fun k x => by kernel_rfl
noncomputable def fs61 : Nat → Option (FSpec Ty) := addF 61 sp61 fs62
theorem fs61OK : SpecsOK Try.prog tab fs61 := fs62OK.add ok61 Try.call61
def ag53 : Args Ty (Unit) := noArgs
def rs53 : Res Ty tab (Bool) false := V.oneRes (tab.den 4) (ent 4).ids (ent 4).plain (fun x _ => (ent 4).flat x rfl)
def kp53 : Nat → Keep := fun i => ⟨[], []⟩
/-- "silt/siltlaw04.wakes" -/
def F53 (k : Nat) (x : Unit) : Option (Bool) :=
  match x with
  | () => (F55 k (T87.mk (2 : Int) (5 : Int) (List.replicate (32 : Nat) (0 : Int)) (3 : Int) (((List.replicate (2 : Nat) (0 : Int)).set (0 : Nat) (7 : Int)).set (1 : Nat) (8 : Int)) (258 : Int) (List.replicate (8 : Nat) (0 : Int)), (513 : Int), ())).bind fun r => (F57 k (r.fst, ())).bind fun r_1 => (F57 k (List.replicate (64 : Nat) (0 : Int), ())).bind fun r_2 => (F55 k (T87.mk (1 : Int) (64 : Int) (List.replicate (32 : Nat) (0 : Int)) (0 : Int) [] (0 : Int) (List.replicate (8 : Nat) (0 : Int)), (1 : Int), ())).bind fun r_3 => bif r.snd.fst == (0 : Int) then bif r.fst.getD (Int.toNat (0 : Int)) (0 : Int) == (2 : Int) then bif r.fst.getD (Int.toNat (1 : Int)) (0 : Int) == (5 : Int) then bif r.fst.getD (Int.toNat (2 : Int)) (0 : Int) == (1 : Int) then bif r.fst.getD (Int.toNat (3 : Int)) (0 : Int) == (2 : Int) then bif r.fst.getD (Int.toNat (6 : Int)) (0 : Int) == (3 : Int) then bif r.fst.getD (Int.toNat (7 : Int)) (0 : Int) == (2 : Int) then bif r.fst.getD (Int.toNat (9 : Int)) (0 : Int) == (8 : Int) then bif r.fst.getD (Int.toNat (24 : Int)) (0 : Int) == (2 : Int) then bif r.fst.getD (Int.toNat (25 : Int)) (0 : Int) == (1 : Int) then bif r_1.snd.snd.fst == (0 : Int) then bif r_1.snd.fst == (513 : Int) then (F61 k (T87.mk (2 : Int) (5 : Int) (List.replicate (32 : Nat) (0 : Int)) (3 : Int) (((List.replicate (2 : Nat) (0 : Int)).set (0 : Nat) (7 : Int)).set (1 : Nat) (8 : Int)) (258 : Int) (List.replicate (8 : Nat) (0 : Int)), T87.mk r_1.fst.1 r_1.fst.2 r_1.fst.3 r_1.fst.4 r_1.fst.5 r_1.fst.6 r_1.fst.7, ())).bind fun r => bif r then bif r_2.snd.snd.fst == (11 : Int) then bif r_3.snd.fst == (11 : Int) then (F59 k (T87.mk (2 : Int) (5 : Int) (List.replicate (32 : Nat) (0 : Int)) (3 : Int) (((List.replicate (2 : Nat) (0 : Int)).set (0 : Nat) (7 : Int)).set (1 : Nat) (8 : Int)) (258 : Int) (List.replicate (8 : Nat) (0 : Int)), ())).bind fun r => some r else some false else some false else some false else some false else some false else some false else some false else some false else some false else some false else some false else some false else some false else some false else some false
noncomputable def sp53 : FSpec Ty := spec ag53 rs53 F53
theorem bo53 : Try.f53.body = some (bodyOf Try.f53) := by kernel_rfl
theorem nd53 : nodupB ((loopsIn (bodyOf Try.f53)).map firstRegion) = true := by kernel_rfl
theorem ok53 : FOK Try.prog tab 53 sp53 := spec_ok (keeps := kp53) tabOK fs61OK Try.func53 bo53 (by kernel_rfl) nd53 (LSOK.none) (F := F53) fun k x => by kernel_rfl
noncomputable def fs53 : Nat → Option (FSpec Ty) := addF 53 sp53 fs61
theorem fs53OK : SpecsOK Try.prog tab fs53 := fs61OK.add ok53 Try.call53
def ag54 : Args Ty (T87 × Unit) := V.arg (tab.den 88) (noArgs)
def rs54 : Res Ty tab (T87) true := V.oneRes (tab.den 88) (ent 88).ids (ent 88).plain (fun _ h => by cases h)
def kp54 : Nat → Keep := fun i => ⟨[], []⟩
/-- "silt/siltlaw04.own" -/
def F54 (k : Nat) (x : T87 × Unit) : Option (T87) :=
  match x with
  | (a0, ()) => bif decide ((List.replicate (0 : Nat) (0 : Int)).length + a0.5.length ≤ roomMost) then some (T87.mk a0.1 a0.2 a0.3 a0.4 (List.replicate (0 : Nat) (0 : Int) ++ a0.5) a0.6 a0.7) else none
noncomputable def sp54 : FSpec Ty := spec ag54 rs54 F54
theorem bo54 : Try.f54.body = some (bodyOf Try.f54) := by kernel_rfl
theorem nd54 : nodupB ((loopsIn (bodyOf Try.f54)).map firstRegion) = true := by kernel_rfl
theorem ok54 : FOK Try.prog tab 54 sp54 := spec_ok (keeps := kp54) tabOK fs53OK Try.func54 bo54 (by kernel_rfl) nd54 (LSOK.none) (F := F54) fun k x => by kernel_rfl
noncomputable def fs54 : Nat → Option (FSpec Ty) := addF 54 sp54 fs53
theorem fs54OK : SpecsOK Try.prog tab fs54 := fs53OK.add ok54 Try.call54
def ag94 : Args Ty (Int × Unit) := V.arg (tab.den 3) (noArgs)
def rs94 : Res Ty tab (Bool) false := V.oneRes (tab.den 4) (ent 4).ids (ent 4).plain (fun x _ => (ent 4).flat x rfl)
def kp94 : Nat → Keep := fun i => ⟨[], []⟩
/-- "silt/siltref04.Head" -/
def F94 (k : Nat) (x : Int × Unit) : Option (Bool) :=
  match x with
  | (a0, ()) => bif a0 == (0 : Int) then some true else bif a0 == (1 : Int) then some true else bif decide (a0 ≥ (4 : Int)) then some (decide (a0 ≤ (1023 : Int))) else some false
noncomputable def sp94 : FSpec Ty := spec ag94 rs94 F94
theorem bo94 : Try.f94.body = some (bodyOf Try.f94) := by kernel_rfl
theorem nd94 : nodupB ((loopsIn (bodyOf Try.f94)).map firstRegion) = true := by kernel_rfl
theorem ok94 : FOK Try.prog tab 94 sp94 := spec_ok (keeps := kp94) tabOK fs54OK Try.func94 bo94 (by kernel_rfl) nd94 (LSOK.none) (F := F94) fun k x => by kernel_rfl
noncomputable def fs94 : Nat → Option (FSpec Ty) := addF 94 sp94 fs54
theorem fs94OK : SpecsOK Try.prog tab fs94 := fs54OK.add ok94 Try.call94
def ag60 : Args Ty (T87 × Unit) := V.arg (tab.den 88) (noArgs)
def rs60 : Res Ty tab (Bool) false := V.oneRes (tab.den 4) (ent 4).ids (ent 4).plain (fun x _ => (ent 4).flat x rfl)
def of60_10 : Bool × Int × Int × Int × List Int × Int × List Int × Int × List Int → NSt Ty := fun x => ⟨[.ptr 100000 [], .bool (x.1), .int .i64 (x.2.1)], [.var (.cons (.int .i64 (x.2.2.1)) (.cons (.int .i64 (x.2.2.2.1)) (.cons (.arr 5 32 (x.2.2.2.2.1)) (.cons (.int .i64 (x.2.2.2.2.2.1)) (.cons (.slice 5 (x.2.2.2.2.2.2.1)) (.cons (.int .i64 (x.2.2.2.2.2.2.2.1)) (.cons (.arr 3 8 (x.2.2.2.2.2.2.2.2)) (.nil))))))))]⟩
def ab60_10 : (n : NSt Ty) → Option {x : Bool × Int × Int × Int × List Int × Int × List Int × Int × List Int // of60_10 x = n}
  | ⟨[.ptr 100000 [], .bool v0, .int .i64 v1], [.var (.cons (.int .i64 v2) (.cons (.int .i64 v3) (.cons (.arr 5 32 v4) (.cons (.int .i64 v5) (.cons (.slice 5 v6) (.cons (.int .i64 v7) (.cons (.arr 3 8 v8) (.nil))))))))]⟩ => some ⟨(v0, v1, v2, v3, v4, v5, v6, v7, v8), rfl⟩
  | _ => none
def on60_10a : Bool × Bool × Int × Int × List Int × Int × List Int × Int × List Int → NSt Ty := fun x => ⟨[.ptr 100000 [], .bool (x.1), .bool (x.2.1)], [.var (.cons (.int .i64 (x.2.2.1)) (.cons (.int .i64 (x.2.2.2.1)) (.cons (.arr 5 32 (x.2.2.2.2.1)) (.cons (.int .i64 (x.2.2.2.2.2.1)) (.cons (.slice 5 (x.2.2.2.2.2.2.1)) (.cons (.int .i64 (x.2.2.2.2.2.2.2.1)) (.cons (.arr 3 8 (x.2.2.2.2.2.2.2.2)) (.nil))))))))]⟩
def on60_10b : Bool × Int × Int × List Int × Int × List Int × Int × List Int → NSt Ty := fun x => ⟨[.ptr 100000 [], .undef, .bool (x.1)], [.var (.cons (.int .i64 (x.2.1)) (.cons (.int .i64 (x.2.2.1)) (.cons (.arr 5 32 (x.2.2.2.1)) (.cons (.int .i64 (x.2.2.2.2.1)) (.cons (.slice 5 (x.2.2.2.2.2.1)) (.cons (.int .i64 (x.2.2.2.2.2.2.1)) (.cons (.arr 3 8 (x.2.2.2.2.2.2.2)) (.nil))))))))]⟩
def oa60_10 : (e : Ex) → (n : NSt Ty) → Option {y : (Bool × Bool × Int × Int × List Int × Int × List Int × Int × List Int) ⊕ (Bool × Int × Int × List Int × Int × List Int × Int × List Int) // oe2 .ret (.exit 1) y = e ∧ on2 on60_10a on60_10b y = n}
  | .ret, ⟨[.ptr 100000 [], .bool v0, .bool v1], [.var (.cons (.int .i64 v2) (.cons (.int .i64 v3) (.cons (.arr 5 32 v4) (.cons (.int .i64 v5) (.cons (.slice 5 v6) (.cons (.int .i64 v7) (.cons (.arr 3 8 v8) (.nil))))))))]⟩ => some ⟨.inl (v0, v1, v2, v3, v4, v5, v6, v7, v8), rfl, rfl⟩
  | .exit 1, ⟨[.ptr 100000 [], .undef, .bool v0], [.var (.cons (.int .i64 v1) (.cons (.int .i64 v2) (.cons (.arr 5 32 v3) (.cons (.int .i64 v4) (.cons (.slice 5 v5) (.cons (.int .i64 v6) (.cons (.arr 3 8 v7) (.nil))))))))]⟩ => some ⟨.inr (v0, v1, v2, v3, v4, v5, v6, v7), rfl, rfl⟩
  | _, _ => none
/-- a round of the loop 10 of function 60 -/
def R60_10 (k : Nat) (again : Bool × Int × Int × Int × List Int × Int × List Int × Int × List Int → Option ((Bool × Bool × Int × Int × List Int × Int × List Int × Int × List Int) ⊕ (Bool × Int × Int × List Int × Int × List Int × Int × List Int))) (x : Bool × Int × Int × Int × List Int × Int × List Int × Int × List Int) : Option ((Bool × Bool × Int × Int × List Int × Int × List Int × Int × List Int) ⊕ (Bool × Int × Int × List Int × Int × List Int × Int × List Int)) :=
  match x with
  | (v0, v1, v2, v3, v4, v5, v6, v7, v8) => bif decide (v1 < (8 : Int)) then bif inRange v1 (8 : Nat) then (F94 k (v8.getD v1.toNat (0 : Int), ())).bind fun r => bif !r then some (Sum.inl (false, v0, v2, v3, v4, v5, v6, v7, v8)) else again (v0, IntKind.i64.wrap (v1 + (1 : Int)), v2, v3, v4, v5, v6, v7, v8) else none else some (Sum.inr (v0, v2, v3, v4, v5, v6, v7, v8))
def L60_10 (k n : Nat) (x : Bool × Int × Int × Int × List Int × Int × List Int × Int × List Int) : Option ((Bool × Bool × Int × Int × List Int × Int × List Int × Int × List Int) ⊕ (Bool × Int × Int × List Int × Int × List Int × Int × List Int)) := iterR (R60_10 k) n x
noncomputable def ls60_10 : Nat → Option (LSum Ty) := addL 10 (lsum2 of60_10 ab60_10 L60_10 .ret on60_10a (.exit 1) on60_10b) noL
def kp60 : Nat → Keep := fun i => cond (i == 10) ⟨[1, 3, 5], [1, 2, 3]⟩ (⟨[], []⟩)
/-- "silt/siltref04.Good" -/
def F60 (k : Nat) (x : T87 × Unit) : Option (Bool) :=
  match x with
  | (a0, ()) => bif a0.4 == (0 : Int) then bif (↑a0.5.length : Int) == (0 : Int) then bif a0.1 == (1 : Int) then bif decide (a0.2 ≥ (0 : Int)) then bif decide (a0.2 < (64 : Int)) then bif a0.6 == (0 : Int) then some (decide (a0.7 = List.replicate (8 : Nat) (0 : Int))) else some false else some false else some false else bif a0.1 == (2 : Int) then bif decide (a0.2 ≥ (0 : Int)) then bif decide (a0.2 < (64 : Int)) then bif decide (a0.3 = List.replicate (32 : Nat) (0 : Int)) then bif decide (a0.7 = List.replicate (8 : Nat) (0 : Int)) then bif decide (a0.4 ≥ (0 : Int)) then bif decide (a0.4 < (32 : Int)) then bif decide ((↑a0.5.length : Int) ≥ (1 : Int)) then bif decide ((↑a0.5.length : Int) ≤ (16 : Int)) then bif decide ((↑a0.5.length : Int) ≤ IntKind.i64.wrap ((32 : Int) - a0.4)) then bif a0.6 != (0 : Int) then (F94 k (a0.6, ())).bind fun r => some r else some false else some false else some false else some false else some false else some false else some false else some false else some false else some false else bif a0.1 == (3 : Int) then (L60_10 k k (a0.6 == (0 : Int), (0 : Int), a0.1, a0.2, a0.3, a0.4, a0.5, a0.6, a0.7)).bind fun r => sumK r (fun a => some a.fst) fun b => bif decide (b.snd.snd.fst ≥ (0 : Int)) then bif decide (b.snd.snd.fst < (8 : Int)) then bif b.fst then some (decide (b.snd.snd.snd.fst = List.replicate (32 : Nat) (0 : Int))) else some false else some false else some false else some false else bif a0.1 == (1 : Int) then bif decide (a0.2 ≥ (0 : Int)) then bif decide (a0.2 < (64 : Int)) then some false else some false else some false else bif a0.1 == (2 : Int) then bif decide (a0.2 ≥ (0 : Int)) then bif decide (a0.2 < (64 : Int)) then bif decide (a0.3 = List.replicate (32 : Nat) (0 : Int)) then bif decide (a0.7 = List.replicate (8 : Nat) (0 : Int)) then bif decide (a0.4 ≥ (0 : Int)) then bif decide (a0.4 < (32 : Int)) then bif decide ((↑a0.5.length : Int) ≥ (1 : Int)) then bif decide ((↑a0.5.length : Int) ≤ (16 : Int)) then bif decide ((↑a0.5.length : Int) ≤ IntKind.i64.wrap ((32 : Int) - a0.4)) then bif a0.6 != (0 : Int) then (F94 k (a0.6, ())).bind fun r => some r else some false else some false else some false else some false else some false else some false else some false else some false else some false else some false else bif a0.1 == (3 : Int) then (L60_10 k k (false, (0 : Int), a0.1, a0.2, a0.3, a0.4, a0.5, a0.6, a0.7)).bind fun r => sumK r (fun a => some a.fst) fun b => bif decide (b.snd.snd.fst ≥ (0 : Int)) then bif decide (b.snd.snd.fst < (8 : Int)) then bif b.fst then some (decide (b.snd.snd.snd.fst = List.replicate (32 : Nat) (0 : Int))) else some false else some false else some false else some false else bif a0.1 == (1 : Int) then bif decide (a0.2 ≥ (0 : Int)) then bif decide (a0.2 < (64 : Int)) then some false else some false else some false else bif a0.1 == (2 : Int) then bif decide (a0.2 ≥ (0 : Int)) then bif decide (a0.2 < (64 : Int)) then bif decide (a0.3 = List.replicate (32 : Nat) (0 : Int)) then bif decide (a0.7 = List.replicate (8 : Nat) (0 : Int)) then bif decide (a0.4 ≥ (0 : Int)) then bif decide (a0.4 < (32 : Int)) then bif decide ((↑a0.5.length : Int) ≥ (1 : Int)) then bif decide ((↑a0.5.length : Int) ≤ (16 : Int)) then bif decide ((↑a0.5.length : Int) ≤ IntKind.i64.wrap ((32 : Int) - a0.4)) then bif a0.6 != (0 : Int) then (F94 k (a0.6, ())).bind fun r => some r else some false else some false else some false else some false else some false else some false else some false else some false else some false else some false else bif a0.1 == (3 : Int) then (L60_10 k k (false, (0 : Int), a0.1, a0.2, a0.3, a0.4, a0.5, a0.6, a0.7)).bind fun r => sumK r (fun a => some a.fst) fun b => bif decide (b.snd.snd.fst ≥ (0 : Int)) then bif decide (b.snd.snd.fst < (8 : Int)) then bif b.fst then some (decide (b.snd.snd.snd.fst = List.replicate (32 : Nat) (0 : Int))) else some false else some false else some false else some false
noncomputable def sp60 : FSpec Ty := spec ag60 rs60 F60
theorem bo60 : Try.f60.body = some (bodyOf Try.f60) := by kernel_rfl
theorem nd60 : nodupB ((loopsIn (bodyOf Try.f60)).map firstRegion) = true := by kernel_rfl
theorem lo60_10 : LSOK fs94 kp60 tab Try.f60 ls60_10 := lsum2_ok bo60 nd60 (LSOK.none) oa60_10 (R := R60_10) fun k again x => by kernel_rfl
theorem ok60 : FOK Try.prog tab 60 sp60 := spec_ok (keeps := kp60) tabOK fs94OK Try.func60 bo60 (by kernel_rfl) nd60 (lo60_10) (F := F60) fun k x => by kernel_rfl
noncomputable def fs60 : Nat → Option (FSpec Ty) := addF 60 sp60 fs94
theorem fs60OK : SpecsOK Try.prog tab fs60 := fs94OK.add ok60 Try.call60
def ag79 : Args Ty (Int × Int × Unit) := V.arg (tab.den 22) (V.arg (tab.den 3) (noArgs))
def rs79 : Res Ty tab ((List Int)) true := V.oneRes (tab.den 58) (ent 58).ids (ent 58).plain (fun _ h => by cases h)
def of79_3 : Int × Int × Int × List Int → NSt Ty := fun x => ⟨[.int .u32 (x.1), .int .i64 (x.2.1), .row 100000, .int .i64 (x.2.2.1)], [.row 5 (x.2.2.2)]⟩
def ab79_3 : (n : NSt Ty) → Option {x : Int × Int × Int × List Int // of79_3 x = n}
  | ⟨[.int .u32 v0, .int .i64 v1, .row 100000, .int .i64 v2], [.row 5 v3]⟩ => some ⟨(v0, v1, v2, v3), rfl⟩
  | _ => none
def oe79_3 : List Int → Ex := fun _ => .exit 0
def on79_3 : List Int → NSt Ty := fun x => ⟨[.row 100000], [.row 5 (x)]⟩
def oa79_3 : (e : Ex) → (n : NSt Ty) → Option {y : List Int // oe79_3 y = e ∧ on79_3 y = n}
  | .exit 0, ⟨[.row 100000], [.row 5 v0]⟩ => some ⟨v0, rfl, rfl⟩
  | _, _ => none
/-- a round of the loop 3 of function 79 -/
def R79_3 (k : Nat) (again : Int × Int × Int × List Int → Option (List Int)) (x : Int × Int × Int × List Int) : Option (List Int) :=
  match x with
  | (v0, v1, v2, v3) => bif decide (v2 < v1) then bif decide ((0 : Int) ≤ IntKind.u64.wrap (IntKind.i64.wrap ((8 : Int) * v2))) then bif decide (v3.length + ((List.replicate (1 : Nat) (0 : Int)).set (0 : Nat) (IntKind.u8.wrap (v0.fdiv ((2 : Int) ^ min (IntKind.u64.wrap (IntKind.i64.wrap ((8 : Int) * v2))).toNat IntKind.u32.bits)))).length ≤ roomMost) then again (v0, v1, IntKind.i64.wrap (v2 + (1 : Int)), v3 ++ (List.replicate (1 : Nat) (0 : Int)).set (0 : Nat) (IntKind.u8.wrap (v0.fdiv ((2 : Int) ^ min (IntKind.u64.wrap (IntKind.i64.wrap ((8 : Int) * v2))).toNat IntKind.u32.bits)))) else none else none else some v3
def L79_3 (k n : Nat) (x : Int × Int × Int × List Int) : Option (List Int) := iterR (R79_3 k) n x
noncomputable def ls79_3 : Nat → Option (LSum Ty) := addL 3 (LSum.of of79_3 ab79_3 L79_3 oe79_3 on79_3) noL
def kp79 : Nat → Keep := fun i => cond (i == 3) ⟨[0, 1, 5, 6], [5]⟩ (⟨[], []⟩)
/-- "silt/siltref04.Put" -/
def F79 (k : Nat) (x : Int × Int × Unit) : Option ((List Int)) :=
  match x with
  | (a0, a1, ()) => (L79_3 k k (a0, a1, (0 : Int), [])).bind fun r => some r
noncomputable def sp79 : FSpec Ty := spec ag79 rs79 F79
theorem bo79 : Try.f79.body = some (bodyOf Try.f79) := by kernel_rfl
theorem nd79 : nodupB ((loopsIn (bodyOf Try.f79)).map firstRegion) = true := by kernel_rfl
theorem lo79_3 : LSOK fs60 kp79 tab Try.f79 ls79_3 := lsum_ok bo79 nd79 (LSOK.none) oa79_3 (R := R79_3) fun k again x => by kernel_rfl
theorem ok79 : FOK Try.prog tab 79 sp79 := spec_ok (keeps := kp79) tabOK fs60OK Try.func79 bo79 (by kernel_rfl) nd79 (lo79_3) (F := F79) fun k x => by kernel_rfl
noncomputable def fs79 : Nat → Option (FSpec Ty) := addF 79 sp79 fs60
theorem fs79OK : SpecsOK Try.prog tab fs79 := fs60OK.add ok79 Try.call79
def ag81 : Args Ty ((List Int) × Unit) := V.arg (tab.den 58) (noArgs)
def rs81 : Res Ty tab ((List Int)) false := V.oneRes (tab.den 27) (ent 27).ids (ent 27).plain (fun x _ => (ent 27).flat x rfl)
def kp81 : Nat → Keep := fun i => ⟨[], []⟩
/-- "silt/siltref04.Sector" -/
def F81 (k : Nat) (x : (List Int) × Unit) : Option ((List Int)) :=
  match x with
  | (a0, ()) => some (splice (List.replicate (64 : Nat) (0 : Int)) a0 (Int.toNat (0 : Int)) (min a0.length ((↑(64 : Nat) : Int) - (0 : Int)).toNat))
noncomputable def sp81 : FSpec Ty := spec ag81 rs81 F81
theorem bo81 : Try.f81.body = some (bodyOf Try.f81) := by kernel_rfl
theorem nd81 : nodupB ((loopsIn (bodyOf Try.f81)).map firstRegion) = true := by kernel_rfl
theorem ok81 : FOK Try.prog tab 81 sp81 := spec_ok (keeps := kp81) tabOK fs79OK Try.func81 bo81 (by kernel_rfl) nd81 (LSOK.none) (F := F81) fun k x => by kernel_rfl
noncomputable def fs81 : Nat → Option (FSpec Ty) := addF 81 sp81 fs79
theorem fs81OK : SpecsOK Try.prog tab fs81 := fs79OK.add ok81 Try.call81
def ag56 : Args Ty (T87 × Int × Unit) := V.arg (tab.den 88) (V.arg (tab.den 22) (noArgs))
def rs56 : Res Ty tab ((List Int) × Int × Unit) false := V.manyRes (V.part (tab.den 27) (ent 27).ids (ent 27).plain (fun x _ => (ent 27).flat x rfl) (V.part (tab.den 3) (ent 3).ids (ent 3).plain (fun x _ => (ent 3).flat x rfl) (noParts)))
def of56_12 : Int × Int × Int × List Int × Int × List Int × Int × List Int × List Int × List Int → NSt Ty := fun x => ⟨[.ptr 100000 [], .ptr 100001 [], .row 100002, .int .i64 (x.1)], [.var (.cons (.int .i64 (x.2.1)) (.cons (.int .i64 (x.2.2.1)) (.cons (.arr 5 32 (x.2.2.2.1)) (.cons (.int .i64 (x.2.2.2.2.1)) (.cons (.slice 5 (x.2.2.2.2.2.1)) (.cons (.int .i64 (x.2.2.2.2.2.2.1)) (.cons (.arr 3 8 (x.2.2.2.2.2.2.2.1)) (.nil)))))))), .var (.arr 5 64 (x.2.2.2.2.2.2.2.2.1)), .row 5 (x.2.2.2.2.2.2.2.2.2)]⟩
def ab56_12 : (n : NSt Ty) → Option {x : Int × Int × Int × List Int × Int × List Int × Int × List Int × List Int × List Int // of56_12 x = n}
  | ⟨[.ptr 100000 [], .ptr 100001 [], .row 100002, .int .i64 v0], [.var (.cons (.int .i64 v1) (.cons (.int .i64 v2) (.cons (.arr 5 32 v3) (.cons (.int .i64 v4) (.cons (.slice 5 v5) (.cons (.int .i64 v6) (.cons (.arr 3 8 v7) (.nil)))))))), .var (.arr 5 64 v8), .row 5 v9]⟩ => some ⟨(v0, v1, v2, v3, v4, v5, v6, v7, v8, v9), rfl⟩
  | _ => none
def oe56_12 : List Int × List Int → Ex := fun _ => .exit 1
def on56_12 : List Int × List Int → NSt Ty := fun x => ⟨[.ptr 100000 [], .row 100001], [.var (.arr 5 64 (x.1)), .row 5 (x.2)]⟩
def oa56_12 : (e : Ex) → (n : NSt Ty) → Option {y : List Int × List Int // oe56_12 y = e ∧ on56_12 y = n}
  | .exit 1, ⟨[.ptr 100000 [], .row 100001], [.var (.arr 5 64 v0), .row 5 v1]⟩ => some ⟨(v0, v1), rfl, rfl⟩
  | _, _ => none
/-- a round of the loop 12 of function 56 -/
def R56_12 (k : Nat) (again : Int × Int × Int × List Int × Int × List Int × Int × List Int × List Int × List Int → Option (List Int × List Int)) (x : Int × Int × Int × List Int × Int × List Int × Int × List Int × List Int × List Int) : Option (List Int × List Int) :=
  match x with
  | (v0, v1, v2, v3, v4, v5, v6, v7, v8, v9) => bif decide (v0 < (8 : Int)) then bif inRange v0 (8 : Nat) then (F79 k (IntKind.u32.wrap (v7.getD v0.toNat (0 : Int)), (2 : Int), ())).bind fun r => bif decide (v9.length + r.length ≤ roomMost) then again (IntKind.i64.wrap (v0 + (1 : Int)), v1, v2, v3, v4, v5, v6, v7, v8, v9 ++ r) else none else none else some (v8, v9)
def L56_12 (k n : Nat) (x : Int × Int × Int × List Int × Int × List Int × Int × List Int × List Int × List Int) : Option (List Int × List Int) := iterR (R56_12 k) n x
noncomputable def ls56_12 : Nat → Option (LSum Ty) := addL 12 (LSum.of of56_12 ab56_12 L56_12 oe56_12 on56_12) noL
def kp56 : Nat → Keep := fun i => cond (i == 12) ⟨[2, 4, 6, 7], [4, 6]⟩ (⟨[], []⟩)
/-- "silt/siltref04.Encode" -/
def F56 (k : Nat) (x : T87 × Int × Unit) : Option ((List Int) × Int × Unit) :=
  match x with
  | (a0, a1, ()) => (F60 k (T87.mk a0.1 a0.2 a0.3 a0.4 a0.5 a0.6 a0.7, ())).bind fun r => bif !r then some (List.replicate (64 : Nat) (0 : Int), (11 : Int), ()) else (F79 k (a1, (4 : Int), ())).bind fun r => bif decide ((((List.replicate (2 : Nat) (0 : Int)).set (0 : Nat) (IntKind.u8.wrap a0.1)).set (1 : Nat) (IntKind.u8.wrap a0.2)).length + r.length ≤ roomMost) then bif a0.1 == (1 : Int) then bif decide ((((List.replicate (2 : Nat) (0 : Int)).set (0 : Nat) (IntKind.u8.wrap a0.1)).set (1 : Nat) (IntKind.u8.wrap a0.2) ++ r).length + (List.take ((↑(32 : Nat) : Int) - (0 : Int)).toNat (List.drop (Int.toNat (0 : Int)) a0.3)).length ≤ roomMost) then (F81 k (((List.replicate (2 : Nat) (0 : Int)).set (0 : Nat) (IntKind.u8.wrap a0.1)).set (1 : Nat) (IntKind.u8.wrap a0.2) ++ r ++ List.take ((↑(32 : Nat) : Int) - (0 : Int)).toNat (List.drop (Int.toNat (0 : Int)) a0.3), ())).bind fun r => some (r, (0 : Int), ()) else none else bif a0.1 == (2 : Int) then bif decide ((((List.replicate (2 : Nat) (0 : Int)).set (0 : Nat) (IntKind.u8.wrap a0.1)).set (1 : Nat) (IntKind.u8.wrap a0.2) ++ r).length + (((List.replicate (2 : Nat) (0 : Int)).set (0 : Nat) (IntKind.u8.wrap a0.4)).set (1 : Nat) (IntKind.u8.wrap (↑a0.5.length : Int))).length ≤ roomMost) then bif decide ((((List.replicate (2 : Nat) (0 : Int)).set (0 : Nat) (IntKind.u8.wrap a0.1)).set (1 : Nat) (IntKind.u8.wrap a0.2) ++ r ++ ((List.replicate (2 : Nat) (0 : Int)).set (0 : Nat) (IntKind.u8.wrap a0.4)).set (1 : Nat) (IntKind.u8.wrap (↑a0.5.length : Int))).length + a0.5.length ≤ roomMost) then bif decide ((0 : Int) ≤ IntKind.i64.wrap ((16 : Int) - (↑a0.5.length : Int))) && decide ((((List.replicate (2 : Nat) (0 : Int)).set (0 : Nat) (IntKind.u8.wrap a0.1)).set (1 : Nat) (IntKind.u8.wrap a0.2) ++ r ++ ((List.replicate (2 : Nat) (0 : Int)).set (0 : Nat) (IntKind.u8.wrap a0.4)).set (1 : Nat) (IntKind.u8.wrap (↑a0.5.length : Int)) ++ a0.5).length + (IntKind.i64.wrap ((16 : Int) - (↑a0.5.length : Int))).toNat ≤ roomMost) then (F79 k (IntKind.u32.wrap a0.6, (2 : Int), ())).bind fun r_1 => bif decide ((((List.replicate (2 : Nat) (0 : Int)).set (0 : Nat) (IntKind.u8.wrap a0.1)).set (1 : Nat) (IntKind.u8.wrap a0.2) ++ r ++ ((List.replicate (2 : Nat) (0 : Int)).set (0 : Nat) (IntKind.u8.wrap a0.4)).set (1 : Nat) (IntKind.u8.wrap (↑a0.5.length : Int)) ++ a0.5 ++ List.replicate (IntKind.i64.wrap ((16 : Int) - (↑a0.5.length : Int))).toNat (0 : Int)).length + r_1.length ≤ roomMost) then (F81 k (((List.replicate (2 : Nat) (0 : Int)).set (0 : Nat) (IntKind.u8.wrap a0.1)).set (1 : Nat) (IntKind.u8.wrap a0.2) ++ r ++ ((List.replicate (2 : Nat) (0 : Int)).set (0 : Nat) (IntKind.u8.wrap a0.4)).set (1 : Nat) (IntKind.u8.wrap (↑a0.5.length : Int)) ++ a0.5 ++ List.replicate (IntKind.i64.wrap ((16 : Int) - (↑a0.5.length : Int))).toNat (0 : Int) ++ r_1, ())).bind fun r => some (r, (0 : Int), ()) else none else none else none else none else bif a0.1 == (3 : Int) then (L56_12 k k ((0 : Int), a0.1, a0.2, a0.3, a0.4, a0.5, a0.6, a0.7, List.replicate (64 : Nat) (0 : Int), ((List.replicate (2 : Nat) (0 : Int)).set (0 : Nat) (IntKind.u8.wrap a0.1)).set (1 : Nat) (IntKind.u8.wrap a0.2) ++ r)).bind fun r => (F81 k (r.snd, ())).bind fun r => some (r, (0 : Int), ()) else (F81 k (((List.replicate (2 : Nat) (0 : Int)).set (0 : Nat) (IntKind.u8.wrap a0.1)).set (1 : Nat) (IntKind.u8.wrap a0.2) ++ r, ())).bind fun r => some (r, (0 : Int), ()) else none
noncomputable def sp56 : FSpec Ty := spec ag56 rs56 F56
theorem bo56 : Try.f56.body = some (bodyOf Try.f56) := by kernel_rfl
theorem nd56 : nodupB ((loopsIn (bodyOf Try.f56)).map firstRegion) = true := by kernel_rfl
theorem lo56_12 : LSOK fs81 kp56 tab Try.f56 ls56_12 := lsum_ok bo56 nd56 (LSOK.none) oa56_12 (R := R56_12) fun k again x => by kernel_rfl
theorem ok56 : FOK Try.prog tab 56 sp56 := spec_ok (keeps := kp56) tabOK fs81OK Try.func56 bo56 (by kernel_rfl) nd56 (lo56_12) (F := F56) fun k x => by kernel_rfl
noncomputable def fs56 : Nat → Option (FSpec Ty) := addF 56 sp56 fs81
theorem fs56OK : SpecsOK Try.prog tab fs56 := fs81OK.add ok56 Try.call56
def ag82 : Args Ty ((List Int) × Unit) := V.arg (tab.den 58) (noArgs)
def rs82 : Res Ty tab (Int) false := V.oneRes (tab.den 22) (ent 22).ids (ent 22).plain (fun x _ => (ent 22).flat x rfl)
def of82_3 : List Int × Int × Int → NSt Ty := fun x => ⟨[.slice 5 (x.1), .int .u32 (x.2.1), .int .i64 (x.2.2)], []⟩
def ab82_3 : (n : NSt Ty) → Option {x : List Int × Int × Int // of82_3 x = n}
  | ⟨[.slice 5 v0, .int .u32 v1, .int .i64 v2], []⟩ => some ⟨(v0, v1, v2), rfl⟩
  | _ => none
def oe82_3 : Int → Ex := fun _ => .exit 0
def on82_3 : Int → NSt Ty := fun x => ⟨[.int .u32 (x)], []⟩
def oa82_3 : (e : Ex) → (n : NSt Ty) → Option {y : Int // oe82_3 y = e ∧ on82_3 y = n}
  | .exit 0, ⟨[.int .u32 v0], []⟩ => some ⟨v0, rfl, rfl⟩
  | _, _ => none
/-- a round of the loop 3 of function 82 -/
def R82_3 (k : Nat) (again : List Int × Int × Int → Option (Int)) (x : List Int × Int × Int) : Option (Int) :=
  match x with
  | (v0, v1, v2) => bif decide (v2 ≥ (0 : Int)) then bif inRange v2 v0.length then again (v0, IntKind.u32.wrap (IntKind.u32.wrap (v1 * (2 : Int) ^ min (Int.toNat (8 : Int)) IntKind.u32.bits) + IntKind.u32.wrap (v0.getD v2.toNat (0 : Int))), IntKind.i64.wrap (v2 - (1 : Int))) else none else some v1
def L82_3 (k n : Nat) (x : List Int × Int × Int) : Option (Int) := iterR (R82_3 k) n x
noncomputable def ls82_3 : Nat → Option (LSum Ty) := addL 3 (LSum.of of82_3 ab82_3 L82_3 oe82_3 on82_3) noL
def kp82 : Nat → Keep := fun i => cond (i == 3) ⟨[0, 3, 4], [3]⟩ (⟨[], []⟩)
/-- "silt/siltref04.Num" -/
def F82 (k : Nat) (x : (List Int) × Unit) : Option (Int) :=
  match x with
  | (a0, ()) => (L82_3 k k (a0, (0 : Int), IntKind.i64.wrap ((↑a0.length : Int) - (1 : Int)))).bind fun r => some r
noncomputable def sp82 : FSpec Ty := spec ag82 rs82 F82
theorem bo82 : Try.f82.body = some (bodyOf Try.f82) := by kernel_rfl
theorem nd82 : nodupB ((loopsIn (bodyOf Try.f82)).map firstRegion) = true := by kernel_rfl
theorem lo82_3 : LSOK fs56 kp82 tab Try.f82 ls82_3 := lsum_ok bo82 nd82 (LSOK.none) oa82_3 (R := R82_3) fun k again x => by kernel_rfl
theorem ok82 : FOK Try.prog tab 82 sp82 := spec_ok (keeps := kp82) tabOK fs56OK Try.func82 bo82 (by kernel_rfl) nd82 (lo82_3) (F := F82) fun k x => by kernel_rfl
noncomputable def fs82 : Nat → Option (FSpec Ty) := addF 82 sp82 fs56
theorem fs82OK : SpecsOK Try.prog tab fs82 := fs56OK.add ok82 Try.call82
def ag58 : Args Ty ((List Int) × Unit) := V.arg (tab.den 27) (noArgs)
def rs58 : Res Ty tab (T94) true := V.oneRes (tab.den 95) (ent 95).ids (ent 95).plain (fun _ h => by cases h)
def of58_11 : Int × Int × List Int × Int × Int × List Int × Int × Int × List Int × Int × Int × Int × Int × List Int × Int × Int × List Int × List Int × List Int → NSt Ty := fun x => ⟨[.ptr 100000 [], .ptr 100001 [], .ptr 100002 [], .int .u32 (x.1), .int .i64 (x.2.1)], [.var (.arr 5 64 (x.2.2.1)), .var (.cons (.cons (.int .i64 (x.2.2.2.1)) (.cons (.int .i64 (x.2.2.2.2.1)) (.cons (.arr 5 32 (x.2.2.2.2.2.1)) (.cons (.int .i64 (x.2.2.2.2.2.2.1)) (.cons (.row 100003) (.cons (.int .i64 (x.2.2.2.2.2.2.2.1)) (.cons (.arr 3 8 (x.2.2.2.2.2.2.2.2.1)) (.nil)))))))) (.cons (.int .u32 (x.2.2.2.2.2.2.2.2.2.1)) (.cons (.int .i64 (x.2.2.2.2.2.2.2.2.2.2.1)) (.nil)))), .var (.cons (.int .i64 (x.2.2.2.2.2.2.2.2.2.2.2.1)) (.cons (.int .i64 (x.2.2.2.2.2.2.2.2.2.2.2.2.1)) (.cons (.arr 5 32 (x.2.2.2.2.2.2.2.2.2.2.2.2.2.1)) (.cons (.int .i64 (x.2.2.2.2.2.2.2.2.2.2.2.2.2.2.1)) (.cons (.row 100004) (.cons (.int .i64 (x.2.2.2.2.2.2.2.2.2.2.2.2.2.2.2.1)) (.cons (.arr 3 8 (x.2.2.2.2.2.2.2.2.2.2.2.2.2.2.2.2.1)) (.nil)))))))), .row 5 (x.2.2.2.2.2.2.2.2.2.2.2.2.2.2.2.2.2.1), .row 5 (x.2.2.2.2.2.2.2.2.2.2.2.2.2.2.2.2.2.2)]⟩
def ab58_11 : (n : NSt Ty) → Option {x : Int × Int × List Int × Int × Int × List Int × Int × Int × List Int × Int × Int × Int × Int × List Int × Int × Int × List Int × List Int × List Int // of58_11 x = n}
  | ⟨[.ptr 100000 [], .ptr 100001 [], .ptr 100002 [], .int .u32 v0, .int .i64 v1], [.var (.arr 5 64 v2), .var (.cons (.cons (.int .i64 v3) (.cons (.int .i64 v4) (.cons (.arr 5 32 v5) (.cons (.int .i64 v6) (.cons (.row 100003) (.cons (.int .i64 v7) (.cons (.arr 3 8 v8) (.nil)))))))) (.cons (.int .u32 v9) (.cons (.int .i64 v10) (.nil)))), .var (.cons (.int .i64 v11) (.cons (.int .i64 v12) (.cons (.arr 5 32 v13) (.cons (.int .i64 v14) (.cons (.row 100004) (.cons (.int .i64 v15) (.cons (.arr 3 8 v16) (.nil)))))))), .row 5 v17, .row 5 v18]⟩ => some ⟨(v0, v1, v2, v3, v4, v5, v6, v7, v8, v9, v10, v11, v12, v13, v14, v15, v16, v17, v18), rfl⟩
  | _ => none
def oe58_11 : Int × List Int × Int × Int × List Int × Int × Int × List Int × Int × Int × Int × Int × List Int × Int × Int × List Int × List Int × List Int → Ex := fun _ => .exit 1
def on58_11 : Int × List Int × Int × Int × List Int × Int × Int × List Int × Int × Int × Int × Int × List Int × Int × Int × List Int × List Int × List Int → NSt Ty := fun x => ⟨[.ptr 100000 [], .ptr 100001 [], .ptr 100002 [], .int .u32 (x.1)], [.var (.arr 5 64 (x.2.1)), .var (.cons (.cons (.int .i64 (x.2.2.1)) (.cons (.int .i64 (x.2.2.2.1)) (.cons (.arr 5 32 (x.2.2.2.2.1)) (.cons (.int .i64 (x.2.2.2.2.2.1)) (.cons (.row 100003) (.cons (.int .i64 (x.2.2.2.2.2.2.1)) (.cons (.arr 3 8 (x.2.2.2.2.2.2.2.1)) (.nil)))))))) (.cons (.int .u32 (x.2.2.2.2.2.2.2.2.1)) (.cons (.int .i64 (x.2.2.2.2.2.2.2.2.2.1)) (.nil)))), .var (.cons (.int .i64 (x.2.2.2.2.2.2.2.2.2.2.1)) (.cons (.int .i64 (x.2.2.2.2.2.2.2.2.2.2.2.1)) (.cons (.arr 5 32 (x.2.2.2.2.2.2.2.2.2.2.2.2.1)) (.cons (.int .i64 (x.2.2.2.2.2.2.2.2.2.2.2.2.2.1)) (.cons (.row 100004) (.cons (.int .i64 (x.2.2.2.2.2.2.2.2.2.2.2.2.2.2.1)) (.cons (.arr 3 8 (x.2.2.2.2.2.2.2.2.2.2.2.2.2.2.2.1)) (.nil)))))))), .row 5 (x.2.2.2.2.2.2.2.2.2.2.2.2.2.2.2.2.1), .row 5 (x.2.2.2.2.2.2.2.2.2.2.2.2.2.2.2.2.2)]⟩
def oa58_11 : (e : Ex) → (n : NSt Ty) → Option {y : Int × List Int × Int × Int × List Int × Int × Int × List Int × Int × Int × Int × Int × List Int × Int × Int × List Int × List Int × List Int // oe58_11 y = e ∧ on58_11 y = n}
  | .exit 1, ⟨[.ptr 100000 [], .ptr 100001 [], .ptr 100002 [], .int .u32 v0], [.var (.arr 5 64 v1), .var (.cons (.cons (.int .i64 v2) (.cons (.int .i64 v3) (.cons (.arr 5 32 v4) (.cons (.int .i64 v5) (.cons (.row 100003) (.cons (.int .i64 v6) (.cons (.arr 3 8 v7) (.nil)))))))) (.cons (.int .u32 v8) (.cons (.int .i64 v9) (.nil)))), .var (.cons (.int .i64 v10) (.cons (.int .i64 v11) (.cons (.arr 5 32 v12) (.cons (.int .i64 v13) (.cons (.row 100004) (.cons (.int .i64 v14) (.cons (.arr 3 8 v15) (.nil)))))))), .row 5 v16, .row 5 v17]⟩ => some ⟨(v0, v1, v2, v3, v4, v5, v6, v7, v8, v9, v10, v11, v12, v13, v14, v15, v16, v17), rfl, rfl⟩
  | _, _ => none
/-- a round of the loop 11 of function 58 -/
def R58_11 (k : Nat) (again : Int × Int × List Int × Int × Int × List Int × Int × Int × List Int × Int × Int × Int × Int × List Int × Int × Int × List Int × List Int × List Int → Option (Int × List Int × Int × Int × List Int × Int × Int × List Int × Int × Int × Int × Int × List Int × Int × Int × List Int × List Int × List Int)) (x : Int × Int × List Int × Int × Int × List Int × Int × Int × List Int × Int × Int × Int × Int × List Int × Int × Int × List Int × List Int × List Int) : Option (Int × List Int × Int × Int × List Int × Int × Int × List Int × Int × Int × Int × Int × List Int × Int × Int × List Int × List Int × List Int) :=
  match x with
  | (v0, v1, v2, v3, v4, v5, v6, v7, v8, v9, v10, v11, v12, v13, v14, v15, v16, v17, v18) => bif decide (v1 < (8 : Int)) then bif decide ((0 : Int) ≤ IntKind.i64.wrap ((6 : Int) + IntKind.i64.wrap ((2 : Int) * v1))) && decide (IntKind.i64.wrap ((6 : Int) + IntKind.i64.wrap ((2 : Int) * v1)) ≤ IntKind.i64.wrap ((8 : Int) + IntKind.i64.wrap ((2 : Int) * v1))) && decide (IntKind.i64.wrap ((8 : Int) + IntKind.i64.wrap ((2 : Int) * v1)) ≤ (↑(64 : Nat) : Int)) then (F82 k (List.take (IntKind.i64.wrap ((8 : Int) + IntKind.i64.wrap ((2 : Int) * v1)) - IntKind.i64.wrap ((6 : Int) + IntKind.i64.wrap ((2 : Int) * v1))).toNat (List.drop (IntKind.i64.wrap ((6 : Int) + IntKind.i64.wrap ((2 : Int) * v1))).toNat v2), ())).bind fun r => bif inRange v1 (8 : Nat) then again (v0, IntKind.i64.wrap (v1 + (1 : Int)), v2, v3, v4, v5, v6, v7, v8, v9, v10, v11, v12, v13, v14, v15, v16.set v1.toNat (IntKind.i64.wrap r), v17, v18) else none else none else some (v0, v2, v3, v4, v5, v6, v7, v8, v9, v10, v11, v12, v13, v14, v15, v16, v17, v18)
def L58_11 (k n : Nat) (x : Int × Int × List Int × Int × Int × List Int × Int × Int × List Int × Int × Int × Int × Int × List Int × Int × Int × List Int × List Int × List Int) : Option (Int × List Int × Int × Int × List Int × Int × Int × List Int × Int × Int × Int × Int × List Int × Int × Int × List Int × List Int × List Int) := iterR (R58_11 k) n x
noncomputable def ls58_11 : Nat → Option (LSum Ty) := addL 11 (LSum.of of58_11 ab58_11 L58_11 oe58_11 on58_11) noL
def kp58 : Nat → Keep := fun i => cond (i == 11) ⟨[1, 2, 3, 4, 5], [1, 2, 3, 4]⟩ (⟨[], []⟩)
/-- "silt/siltref04.Decode" -/
def F58 (k : Nat) (x : (List Int) × Unit) : Option (T94) :=
  match x with
  | (a0, ()) => (F82 k (List.take ((6 : Int) - (2 : Int)).toNat (List.drop (Int.toNat (2 : Int)) a0), ())).bind fun r => bif IntKind.i64.wrap (a0.getD (Int.toNat (0 : Int)) (0 : Int)) == (1 : Int) then (F56 k (T87.mk (IntKind.i64.wrap (a0.getD (Int.toNat (0 : Int)) (0 : Int))) (IntKind.i64.wrap (a0.getD (Int.toNat (1 : Int)) (0 : Int))) (splice (List.replicate (32 : Nat) (0 : Int)) (List.take ((38 : Int) - (6 : Int)).toNat (List.drop (Int.toNat (6 : Int)) a0)) (Int.toNat (0 : Int)) (min (List.take ((38 : Int) - (6 : Int)).toNat (List.drop (Int.toNat (6 : Int)) a0)).length ((↑(32 : Nat) : Int) - (0 : Int)).toNat)) (0 : Int) [] (0 : Int) (List.replicate (8 : Nat) (0 : Int)), r, ())).bind fun r_1 => bif r_1.snd.fst != (0 : Int) then some (T94.mk (T87.mk (0 : Int) (0 : Int) (List.replicate (32 : Nat) (0 : Int)) (0 : Int) [] (0 : Int) (List.replicate (8 : Nat) (0 : Int))) (0 : Int) (11 : Int)) else bif !decide (r_1.fst = a0) then some (T94.mk (T87.mk (0 : Int) (0 : Int) (List.replicate (32 : Nat) (0 : Int)) (0 : Int) [] (0 : Int) (List.replicate (8 : Nat) (0 : Int))) (0 : Int) (11 : Int)) else some (T94.mk (T87.mk (IntKind.i64.wrap (a0.getD (Int.toNat (0 : Int)) (0 : Int))) (IntKind.i64.wrap (a0.getD (Int.toNat (1 : Int)) (0 : Int))) (splice (List.replicate (32 : Nat) (0 : Int)) (List.take ((38 : Int) - (6 : Int)).toNat (List.drop (Int.toNat (6 : Int)) a0)) (Int.toNat (0 : Int)) (min (List.take ((38 : Int) - (6 : Int)).toNat (List.drop (Int.toNat (6 : Int)) a0)).length ((↑(32 : Nat) : Int) - (0 : Int)).toNat)) (0 : Int) [] (0 : Int) (List.replicate (8 : Nat) (0 : Int))) r (0 : Int)) else bif IntKind.i64.wrap (a0.getD (Int.toNat (0 : Int)) (0 : Int)) == (2 : Int) then (F82 k (List.take ((26 : Int) - (24 : Int)).toNat (List.drop (Int.toNat (24 : Int)) a0), ())).bind fun r_1 => bif decide ((0 : Int) ≤ (8 : Int)) && decide ((8 : Int) ≤ IntKind.i64.wrap ((8 : Int) + if IntKind.i64.wrap (a0.getD (Int.toNat (7 : Int)) (0 : Int)) < (16 : Int) then IntKind.i64.wrap (a0.getD (Int.toNat (7 : Int)) (0 : Int)) else (16 : Int))) && decide (IntKind.i64.wrap ((8 : Int) + if IntKind.i64.wrap (a0.getD (Int.toNat (7 : Int)) (0 : Int)) < (16 : Int) then IntKind.i64.wrap (a0.getD (Int.toNat (7 : Int)) (0 : Int)) else (16 : Int)) ≤ (↑(64 : Nat) : Int)) then bif decide ((List.replicate (0 : Nat) (0 : Int)).length + (List.take (IntKind.i64.wrap ((8 : Int) + if IntKind.i64.wrap (a0.getD (Int.toNat (7 : Int)) (0 : Int)) < (16 : Int) then IntKind.i64.wrap (a0.getD (Int.toNat (7 : Int)) (0 : Int)) else (16 : Int)) - (8 : Int)).toNat (List.drop (Int.toNat (8 : Int)) a0)).length ≤ roomMost) then (F56 k (T87.mk (IntKind.i64.wrap (a0.getD (Int.toNat (0 : Int)) (0 : Int))) (IntKind.i64.wrap (a0.getD (Int.toNat (1 : Int)) (0 : Int))) (List.replicate (32 : Nat) (0 : Int)) (IntKind.i64.wrap (a0.getD (Int.toNat (6 : Int)) (0 : Int))) (List.replicate (0 : Nat) (0 : Int) ++ List.take (IntKind.i64.wrap ((8 : Int) + if IntKind.i64.wrap (a0.getD (Int.toNat (7 : Int)) (0 : Int)) < (16 : Int) then IntKind.i64.wrap (a0.getD (Int.toNat (7 : Int)) (0 : Int)) else (16 : Int)) - (8 : Int)).toNat (List.drop (Int.toNat (8 : Int)) a0)) (IntKind.i64.wrap r_1) (List.replicate (8 : Nat) (0 : Int)), r, ())).bind fun r_2 => bif r_2.snd.fst != (0 : Int) then some (T94.mk (T87.mk (0 : Int) (0 : Int) (List.replicate (32 : Nat) (0 : Int)) (0 : Int) [] (0 : Int) (List.replicate (8 : Nat) (0 : Int))) (0 : Int) (11 : Int)) else bif !decide (r_2.fst = a0) then some (T94.mk (T87.mk (0 : Int) (0 : Int) (List.replicate (32 : Nat) (0 : Int)) (0 : Int) [] (0 : Int) (List.replicate (8 : Nat) (0 : Int))) (0 : Int) (11 : Int)) else some (T94.mk (T87.mk (IntKind.i64.wrap (a0.getD (Int.toNat (0 : Int)) (0 : Int))) (IntKind.i64.wrap (a0.getD (Int.toNat (1 : Int)) (0 : Int))) (List.replicate (32 : Nat) (0 : Int)) (IntKind.i64.wrap (a0.getD (Int.toNat (6 : Int)) (0 : Int))) (List.replicate (0 : Nat) (0 : Int) ++ List.take (IntKind.i64.wrap ((8 : Int) + if IntKind.i64.wrap (a0.getD (Int.toNat (7 : Int)) (0 : Int)) < (16 : Int) then IntKind.i64.wrap (a0.getD (Int.toNat (7 : Int)) (0 : Int)) else (16 : Int)) - (8 : Int)).toNat (List.drop (Int.toNat (8 : Int)) a0)) (IntKind.i64.wrap r_1) (List.replicate (8 : Nat) (0 : Int))) r (0 : Int)) else none else none else bif IntKind.i64.wrap (a0.getD (Int.toNat (0 : Int)) (0 : Int)) == (3 : Int) then (L58_11 k k (r, (0 : Int), a0, (0 : Int), (0 : Int), List.replicate (32 : Nat) (0 : Int), (0 : Int), (0 : Int), List.replicate (8 : Nat) (0 : Int), (0 : Int), (0 : Int), IntKind.i64.wrap (a0.getD (Int.toNat (0 : Int)) (0 : Int)), IntKind.i64.wrap (a0.getD (Int.toNat (1 : Int)) (0 : Int)), List.replicate (32 : Nat) (0 : Int), (0 : Int), (0 : Int), List.replicate (8 : Nat) (0 : Int), [], [])).bind fun r => (F56 k (T87.mk r.snd.snd.snd.snd.snd.snd.snd.snd.snd.snd.fst r.snd.snd.snd.snd.snd.snd.snd.snd.snd.snd.snd.fst r.snd.snd.snd.snd.snd.snd.snd.snd.snd.snd.snd.snd.fst r.snd.snd.snd.snd.snd.snd.snd.snd.snd.snd.snd.snd.snd.fst r.snd.snd.snd.snd.snd.snd.snd.snd.snd.snd.snd.snd.snd.snd.snd.snd.snd r.snd.snd.snd.snd.snd.snd.snd.snd.snd.snd.snd.snd.snd.snd.fst r.snd.snd.snd.snd.snd.snd.snd.snd.snd.snd.snd.snd.snd.snd.snd.fst, r.fst, ())).bind fun r_1 => bif r_1.snd.fst != (0 : Int) then some (T94.mk (T87.mk (0 : Int) (0 : Int) (List.replicate (32 : Nat) (0 : Int)) (0 : Int) [] (0 : Int) (List.replicate (8 : Nat) (0 : Int))) (0 : Int) (11 : Int)) else bif !decide (r_1.fst = r.snd.fst) then some (T94.mk (T87.mk (0 : Int) (0 : Int) (List.replicate (32 : Nat) (0 : Int)) (0 : Int) [] (0 : Int) (List.replicate (8 : Nat) (0 : Int))) (0 : Int) (11 : Int)) else some (T94.mk (T87.mk r.snd.snd.snd.snd.snd.snd.snd.snd.snd.snd.fst r.snd.snd.snd.snd.snd.snd.snd.snd.snd.snd.snd.fst r.snd.snd.snd.snd.snd.snd.snd.snd.snd.snd.snd.snd.fst r.snd.snd.snd.snd.snd.snd.snd.snd.snd.snd.snd.snd.snd.fst r.snd.snd.snd.snd.snd.snd.snd.snd.snd.snd.snd.snd.snd.snd.snd.snd.snd r.snd.snd.snd.snd.snd.snd.snd.snd.snd.snd.snd.snd.snd.snd.fst r.snd.snd.snd.snd.snd.snd.snd.snd.snd.snd.snd.snd.snd.snd.snd.fst) r.fst (0 : Int)) else (F56 k (T87.mk (IntKind.i64.wrap (a0.getD (Int.toNat (0 : Int)) (0 : Int))) (IntKind.i64.wrap (a0.getD (Int.toNat (1 : Int)) (0 : Int))) (List.replicate (32 : Nat) (0 : Int)) (0 : Int) [] (0 : Int) (List.replicate (8 : Nat) (0 : Int)), r, ())).bind fun r_1 => bif r_1.snd.fst != (0 : Int) then some (T94.mk (T87.mk (0 : Int) (0 : Int) (List.replicate (32 : Nat) (0 : Int)) (0 : Int) [] (0 : Int) (List.replicate (8 : Nat) (0 : Int))) (0 : Int) (11 : Int)) else bif !decide (r_1.fst = a0) then some (T94.mk (T87.mk (0 : Int) (0 : Int) (List.replicate (32 : Nat) (0 : Int)) (0 : Int) [] (0 : Int) (List.replicate (8 : Nat) (0 : Int))) (0 : Int) (11 : Int)) else some (T94.mk (T87.mk (IntKind.i64.wrap (a0.getD (Int.toNat (0 : Int)) (0 : Int))) (IntKind.i64.wrap (a0.getD (Int.toNat (1 : Int)) (0 : Int))) (List.replicate (32 : Nat) (0 : Int)) (0 : Int) [] (0 : Int) (List.replicate (8 : Nat) (0 : Int))) r (0 : Int))
noncomputable def sp58 : FSpec Ty := spec ag58 rs58 F58
theorem bo58 : Try.f58.body = some (bodyOf Try.f58) := by kernel_rfl
theorem nd58 : nodupB ((loopsIn (bodyOf Try.f58)).map firstRegion) = true := by kernel_rfl
theorem lo58_11 : LSOK fs82 kp58 tab Try.f58 ls58_11 := lsum_ok bo58 nd58 (LSOK.none) oa58_11 (R := R58_11) fun k again x => by kernel_rfl
theorem ok58 : FOK Try.prog tab 58 sp58 := spec_ok (keeps := kp58) tabOK fs82OK Try.func58 bo58 (by kernel_rfl) nd58 (lo58_11) (F := F58) fun k x => by kernel_rfl
noncomputable def fs58 : Nat → Option (FSpec Ty) := addF 58 sp58 fs82
theorem fs58OK : SpecsOK Try.prog tab fs58 := fs82OK.add ok58 Try.call58
def ag14 : Args Ty (T87 × Int × (List Int) × Unit) := V.arg (tab.den 88) (V.arg (tab.den 22) (V.arg (tab.den 27) (noArgs)))
def rs14 : Res Ty tab (Bool) false := V.oneRes (tab.den 4) (ent 4).ids (ent 4).plain (fun x _ => (ent 4).flat x rfl)
def kp14 : Nat → Keep := fun i => ⟨[], []⟩
/-- "silt/siltlaw04.BlockCodes" -/
def F14 (k : Nat) (x : T87 × Int × (List Int) × Unit) : Option (Bool) :=
  match x with
  | (a0, a1, a2, ()) => bif decide ((↑a0.5.length : Int) > (300 : Int)) then (F53 k ()).bind fun r => some r else (F54 k (T87.mk a0.1 a0.2 a0.3 a0.4 a0.5 a0.6 a0.7, ())).bind fun r => (F55 k (T87.mk r.1 r.2 r.3 r.4 r.5 r.6 r.7, a1, ())).bind fun r_1 => (F56 k (T87.mk a0.1 a0.2 a0.3 a0.4 a0.5 a0.6 a0.7, a1, ())).bind fun r_2 => (F57 k (a2, ())).bind fun r_3 => (F58 k (a2, ())).bind fun r_4 => (F59 k (T87.mk r.1 r.2 r.3 r.4 r.5 r.6 r.7, ())).bind fun r_5 => (F60 k (T87.mk a0.1 a0.2 a0.3 a0.4 a0.5 a0.6 a0.7, ())).bind fun r_6 => bif r_5 == r_6 then bif decide (r_1.fst = r_2.fst) then bif r_1.snd.fst == r_2.snd.fst then (F61 k (T87.mk r_3.fst.1 r_3.fst.2 r_3.fst.3 r_3.fst.4 r_3.fst.5 r_3.fst.6 r_3.fst.7, T87.mk r_4.1.1 r_4.1.2 r_4.1.3 r_4.1.4 r_4.1.5 r_4.1.6 r_4.1.7, ())).bind fun r_7 => bif r_7 then bif r_3.snd.fst == r_4.2 then bif r_3.snd.snd.fst == r_4.3 then (F61 k (T87.mk r.1 r.2 r.3 r.4 r.5 r.6 r.7, T87.mk a0.1 a0.2 a0.3 a0.4 a0.5 a0.6 a0.7, ())).bind fun r => bif r then (F53 k ()).bind fun r => some r else some false else some false else some false else some false else some false else some false else some false
noncomputable def sp14 : FSpec Ty := spec ag14 rs14 F14
theorem bo14 : Try.f14.body = some (bodyOf Try.f14) := by kernel_rfl
theorem nd14 : nodupB ((loopsIn (bodyOf Try.f14)).map firstRegion) = true := by kernel_rfl
theorem ok14 : FOK Try.prog tab 14 sp14 := spec_ok (keeps := kp14) tabOK fs58OK Try.func14 bo14 (by kernel_rfl) nd14 (LSOK.none) (F := F14) fun k x => by kernel_rfl
noncomputable def fs14 : Nat → Option (FSpec Ty) := addF 14 sp14 fs58
theorem fs14OK : SpecsOK Try.prog tab fs14 := fs58OK.add ok14 Try.call14
def ag15 : Args Ty (T87 × T87 × (List Int) × Unit) := V.arg (tab.den 88) (V.arg (tab.den 88) (V.arg (tab.den 100) (noArgs)))
def rs15 : Res Ty tab (Bool) false := V.oneRes (tab.den 4) (ent 4).ids (ent 4).plain (fun x _ => (ent 4).flat x rfl)
def kp15 : Nat → Keep := fun i => ⟨[], []⟩
/-- "silt/siltlaw04.BlockBack" -/
def F15 (k : Nat) (x : T87 × T87 × (List Int) × Unit) : Option (Bool) :=
  match x with
  | (a0, a1, a2, ()) => bif decide ((↑a0.5.length : Int) > (300 : Int)) then (F53 k ()).bind fun r => some r else bif decide ((↑a1.5.length : Int) > (300 : Int)) then (F53 k ()).bind fun r => some r else (F55 k (T87.mk a0.1 a0.2 a0.3 a0.4 a0.5 a0.6 a0.7, a2.getD (Int.toNat (0 : Int)) (0 : Int), ())).bind fun r => (F55 k (T87.mk a1.1 a1.2 a1.3 a1.4 a1.5 a1.6 a1.7, a2.getD (Int.toNat (1 : Int)) (0 : Int), ())).bind fun r_1 => (F59 k (T87.mk a0.1 a0.2 a0.3 a0.4 a0.5 a0.6 a0.7, ())).bind fun r_2 => bif !(r.snd.fst == (0 : Int)) == r_2 then some false else (F59 k (T87.mk a1.1 a1.2 a1.3 a1.4 a1.5 a1.6 a1.7, ())).bind fun r_3 => bif !(r_1.snd.fst == (0 : Int)) == r_3 then some false else bif r.snd.fst == (0 : Int) then (F57 k (r.fst, ())).bind fun r_4 => bif r_4.snd.snd.fst != (0 : Int) then some false else bif r_4.snd.fst != a2.getD (Int.toNat (0 : Int)) (0 : Int) then some false else (F61 k (T87.mk r_4.fst.1 r_4.fst.2 r_4.fst.3 r_4.fst.4 r_4.fst.5 r_4.fst.6 r_4.fst.7, T87.mk a0.1 a0.2 a0.3 a0.4 a0.5 a0.6 a0.7, ())).bind fun r_5 => bif !r_5 then some false else bif r.snd.fst != (0 : Int) then (F53 k ()).bind fun r => some r else bif r_1.snd.fst != (0 : Int) then (F53 k ()).bind fun r => some r else (F61 k (T87.mk a0.1 a0.2 a0.3 a0.4 a0.5 a0.6 a0.7, T87.mk a1.1 a1.2 a1.3 a1.4 a1.5 a1.6 a1.7, ())).bind fun r_6 => bif r_6 then bif decide (r.fst = r_1.fst) == (a2.getD (Int.toNat (0 : Int)) (0 : Int) == a2.getD (Int.toNat (1 : Int)) (0 : Int)) then (F53 k ()).bind fun r => some r else some false else bif decide (r.fst = r_1.fst) == false then (F53 k ()).bind fun r => some r else some false else bif r.snd.fst != (0 : Int) then (F53 k ()).bind fun r => some r else bif r_1.snd.fst != (0 : Int) then (F53 k ()).bind fun r => some r else (F61 k (T87.mk a0.1 a0.2 a0.3 a0.4 a0.5 a0.6 a0.7, T87.mk a1.1 a1.2 a1.3 a1.4 a1.5 a1.6 a1.7, ())).bind fun r_4 => bif r_4 then bif decide (r.fst = r_1.fst) == (a2.getD (Int.toNat (0 : Int)) (0 : Int) == a2.getD (Int.toNat (1 : Int)) (0 : Int)) then (F53 k ()).bind fun r => some r else some false else bif decide (r.fst = r_1.fst) == false then (F53 k ()).bind fun r => some r else some false
noncomputable def sp15 : FSpec Ty := spec ag15 rs15 F15
theorem bo15 : Try.f15.body = some (bodyOf Try.f15) := by kernel_rfl
theorem nd15 : nodupB ((loopsIn (bodyOf Try.f15)).map firstRegion) = true := by kernel_rfl
theorem ok15 : FOK Try.prog tab 15 sp15 := spec_ok (keeps := kp15) tabOK fs14OK Try.func15 bo15 (by kernel_rfl) nd15 (LSOK.none) (F := F15) fun k x => by kernel_rfl
noncomputable def fs15 : Nat → Option (FSpec Ty) := addF 15 sp15 fs14
theorem fs15OK : SpecsOK Try.prog tab fs15 := fs14OK.add ok15 Try.call15
def ag16 : Args Ty ((List Int) × Int × Int × Unit) := V.arg (tab.den 27) (V.arg (tab.den 5) (V.arg (tab.den 5) (noArgs)))
def rs16 : Res Ty tab (Bool) false := V.oneRes (tab.den 4) (ent 4).ids (ent 4).plain (fun x _ => (ent 4).flat x rfl)
def kp16 : Nat → Keep := fun i => ⟨[], []⟩
/-- "silt/siltlaw04.BlockReads" -/
def F16 (k : Nat) (x : (List Int) × Int × Int × Unit) : Option (Bool) :=
  match x with
  | (a0, a1, a2, ()) => (F57 k (a0, ())).bind fun r => bif r.snd.snd.fst != (0 : Int) then bif r.snd.snd.fst == (11 : Int) then bif r.snd.fst == (0 : Int) then (F61 k (T87.mk r.fst.1 r.fst.2 r.fst.3 r.fst.4 r.fst.5 r.fst.6 r.fst.7, T87.mk (0 : Int) (0 : Int) (List.replicate (32 : Nat) (0 : Int)) (0 : Int) [] (0 : Int) (List.replicate (8 : Nat) (0 : Int)), ())).bind fun r => bif r then (F53 k ()).bind fun r => some r else some false else some false else some false else (F55 k (T87.mk r.fst.1 r.fst.2 r.fst.3 r.fst.4 r.fst.5 r.fst.6 r.fst.7, r.snd.fst, ())).bind fun r => bif r.snd.fst != (0 : Int) then some false else bif !decide (r.fst = a0) then some false else bif inRange (IntKind.i64.wrap ((38 : Int) + (IntKind.i64.wrap a1).tmod (26 : Int))) (64 : Nat) then bif inRange (IntKind.i64.wrap ((38 : Int) + (IntKind.i64.wrap a1).tmod (26 : Int))) (64 : Nat) then (F57 k (a0.set (IntKind.i64.wrap ((38 : Int) + (IntKind.i64.wrap a1).tmod (26 : Int))).toNat (IntKind.u8.wrap (↑(BitVec.ofInt IntKind.u8.bits (a0.getD (IntKind.i64.wrap ((38 : Int) + (IntKind.i64.wrap a1).tmod (26 : Int))).toNat (0 : Int)) ^^^ BitVec.ofInt IntKind.u8.bits a2).toNat : Int)), ())).bind fun r => bif (r.snd.snd.fst == (0 : Int)) == (a2 == (0 : Int)) then (F53 k ()).bind fun r => some r else some false else none else none
noncomputable def sp16 : FSpec Ty := spec ag16 rs16 F16
theorem bo16 : Try.f16.body = some (bodyOf Try.f16) := by kernel_rfl
theorem nd16 : nodupB ((loopsIn (bodyOf Try.f16)).map firstRegion) = true := by kernel_rfl
theorem ok16 : FOK Try.prog tab 16 sp16 := spec_ok (keeps := kp16) tabOK fs15OK Try.func16 bo16 (by kernel_rfl) nd16 (LSOK.none) (F := F16) fun k x => by kernel_rfl
noncomputable def fs16 : Nat → Option (FSpec Ty) := addF 16 sp16 fs15
theorem fs16OK : SpecsOK Try.prog tab fs16 := fs15OK.add ok16 Try.call16
def ag17 : Args Ty (T87 × Int × Unit) := V.arg (tab.den 88) (V.arg (tab.den 22) (noArgs))
def rs17 : Res Ty tab (Bool) false := V.oneRes (tab.den 4) (ent 4).ids (ent 4).plain (fun x _ => (ent 4).flat x rfl)
def of17_9 : Int × Int × Int × Int × List Int × Int × List Int × Int × List Int × List Int → NSt Ty := fun x => ⟨[.int .u32 (x.1), .ptr 100000 [], .ptr 100001 [], .int .i64 (x.2.1)], [.var (.cons (.int .i64 (x.2.2.1)) (.cons (.int .i64 (x.2.2.2.1)) (.cons (.arr 5 32 (x.2.2.2.2.1)) (.cons (.int .i64 (x.2.2.2.2.2.1)) (.cons (.slice 5 (x.2.2.2.2.2.2.1)) (.cons (.int .i64 (x.2.2.2.2.2.2.2.1)) (.cons (.arr 3 8 (x.2.2.2.2.2.2.2.2.1)) (.nil)))))))), .var (.arr 5 64 (x.2.2.2.2.2.2.2.2.2))]⟩
def ab17_9 : (n : NSt Ty) → Option {x : Int × Int × Int × Int × List Int × Int × List Int × Int × List Int × List Int // of17_9 x = n}
  | ⟨[.int .u32 v0, .ptr 100000 [], .ptr 100001 [], .int .i64 v1], [.var (.cons (.int .i64 v2) (.cons (.int .i64 v3) (.cons (.arr 5 32 v4) (.cons (.int .i64 v5) (.cons (.slice 5 v6) (.cons (.int .i64 v7) (.cons (.arr 3 8 v8) (.nil)))))))), .var (.arr 5 64 v9)]⟩ => some ⟨(v0, v1, v2, v3, v4, v5, v6, v7, v8, v9), rfl⟩
  | _ => none
def on17_9a : Bool × Int × Int × List Int × Int × List Int × Int × List Int × List Int → NSt Ty := fun x => ⟨[.ptr 100000 [], .bool (x.1), .ptr 100001 []], [.var (.cons (.int .i64 (x.2.1)) (.cons (.int .i64 (x.2.2.1)) (.cons (.arr 5 32 (x.2.2.2.1)) (.cons (.int .i64 (x.2.2.2.2.1)) (.cons (.slice 5 (x.2.2.2.2.2.1)) (.cons (.int .i64 (x.2.2.2.2.2.2.1)) (.cons (.arr 3 8 (x.2.2.2.2.2.2.2.1)) (.nil)))))))), .var (.arr 5 64 (x.2.2.2.2.2.2.2.2))]⟩
def on17_9b : Int × Int × List Int × Int × List Int × Int × List Int × List Int → NSt Ty := fun x => ⟨[.ptr 100000 [], .undef, .ptr 100001 []], [.var (.cons (.int .i64 (x.1)) (.cons (.int .i64 (x.2.1)) (.cons (.arr 5 32 (x.2.2.1)) (.cons (.int .i64 (x.2.2.2.1)) (.cons (.slice 5 (x.2.2.2.2.1)) (.cons (.int .i64 (x.2.2.2.2.2.1)) (.cons (.arr 3 8 (x.2.2.2.2.2.2.1)) (.nil)))))))), .var (.arr 5 64 (x.2.2.2.2.2.2.2))]⟩
def oa17_9 : (e : Ex) → (n : NSt Ty) → Option {y : (Bool × Int × Int × List Int × Int × List Int × Int × List Int × List Int) ⊕ (Int × Int × List Int × Int × List Int × Int × List Int × List Int) // oe2 .ret (.exit 0) y = e ∧ on2 on17_9a on17_9b y = n}
  | .ret, ⟨[.ptr 100000 [], .bool v0, .ptr 100001 []], [.var (.cons (.int .i64 v1) (.cons (.int .i64 v2) (.cons (.arr 5 32 v3) (.cons (.int .i64 v4) (.cons (.slice 5 v5) (.cons (.int .i64 v6) (.cons (.arr 3 8 v7) (.nil)))))))), .var (.arr 5 64 v8)]⟩ => some ⟨.inl (v0, v1, v2, v3, v4, v5, v6, v7, v8), rfl, rfl⟩
  | .exit 0, ⟨[.ptr 100000 [], .undef, .ptr 100001 []], [.var (.cons (.int .i64 v0) (.cons (.int .i64 v1) (.cons (.arr 5 32 v2) (.cons (.int .i64 v3) (.cons (.slice 5 v4) (.cons (.int .i64 v5) (.cons (.arr 3 8 v6) (.nil)))))))), .var (.arr 5 64 v7)]⟩ => some ⟨.inr (v0, v1, v2, v3, v4, v5, v6, v7), rfl, rfl⟩
  | _, _ => none
/-- a round of the loop 9 of function 17 -/
def R17_9 (k : Nat) (again : Int × Int × Int × Int × List Int × Int × List Int × Int × List Int × List Int → Option ((Bool × Int × Int × List Int × Int × List Int × Int × List Int × List Int) ⊕ (Int × Int × List Int × Int × List Int × Int × List Int × List Int))) (x : Int × Int × Int × Int × List Int × Int × List Int × Int × List Int × List Int) : Option ((Bool × Int × Int × List Int × Int × List Int × Int × List Int × List Int) ⊕ (Int × Int × List Int × Int × List Int × Int × List Int × List Int)) :=
  match x with
  | (v0, v1, v2, v3, v4, v5, v6, v7, v8, v9) => bif decide (v1 < (4 : Int)) then bif inRange (IntKind.i64.wrap ((2 : Int) + v1)) (64 : Nat) then bif decide ((0 : Int) ≤ IntKind.u64.wrap (IntKind.i64.wrap ((8 : Int) * v1))) then bif v9.getD (IntKind.i64.wrap ((2 : Int) + v1)).toNat (0 : Int) != IntKind.u8.wrap (v0.fdiv ((2 : Int) ^ min (IntKind.u64.wrap (IntKind.i64.wrap ((8 : Int) * v1))).toNat IntKind.u32.bits)) then some (Sum.inl (false, v2, v3, v4, v5, v6, v7, v8, v9)) else again (v0, IntKind.i64.wrap (v1 + (1 : Int)), v2, v3, v4, v5, v6, v7, v8, v9) else none else none else some (Sum.inr (v2, v3, v4, v5, v6, v7, v8, v9))
def L17_9 (k n : Nat) (x : Int × Int × Int × Int × List Int × Int × List Int × Int × List Int × List Int) : Option ((Bool × Int × Int × List Int × Int × List Int × Int × List Int × List Int) ⊕ (Int × Int × List Int × Int × List Int × Int × List Int × List Int)) := iterR (R17_9 k) n x
noncomputable def ls17_9 : Nat → Option (LSum Ty) := addL 9 (lsum2 of17_9 ab17_9 L17_9 .ret on17_9a (.exit 0) on17_9b) noL
def of17_36 : Int × List Int → NSt Ty := fun x => ⟨[.ptr 100000 [], .int .i64 (x.1)], [.var (.arr 5 64 (x.2))]⟩
def ab17_36 : (n : NSt Ty) → Option {x : Int × List Int // of17_36 x = n}
  | ⟨[.ptr 100000 [], .int .i64 v0], [.var (.arr 5 64 v1)]⟩ => some ⟨(v0, v1), rfl⟩
  | _ => none
def on17_36a : Bool → NSt Ty := fun x => ⟨[.bool (x)], []⟩
def on17_36b : Unit → NSt Ty := fun x => ⟨[.undef], []⟩
def oa17_36 : (e : Ex) → (n : NSt Ty) → Option {y : (Bool) ⊕ (Unit) // oe2 .ret (.exit 7) y = e ∧ on2 on17_36a on17_36b y = n}
  | .ret, ⟨[.bool v0], []⟩ => some ⟨.inl v0, rfl, rfl⟩
  | .exit 7, ⟨[.undef], []⟩ => some ⟨.inr (), rfl, rfl⟩
  | _, _ => none
/-- a round of the loop 36 of function 17 -/
def R17_36 (k : Nat) (again : Int × List Int → Option ((Bool) ⊕ (Unit))) (x : Int × List Int) : Option ((Bool) ⊕ (Unit)) :=
  match x with
  | (v0, v1) => bif decide (v0 < (64 : Int)) then bif inRange v0 (64 : Nat) then bif v1.getD v0.toNat (0 : Int) != (0 : Int) then some (Sum.inl false) else again (IntKind.i64.wrap (v0 + (1 : Int)), v1) else none else some (Sum.inr ())
def L17_36 (k n : Nat) (x : Int × List Int) : Option ((Bool) ⊕ (Unit)) := iterR (R17_36 k) n x
noncomputable def ls17_36 : Nat → Option (LSum Ty) := addL 36 (lsum2 of17_36 ab17_36 L17_36 .ret on17_36a (.exit 7) on17_36b) ls17_9
def of17_24 : Int × Int × List Int → NSt Ty := fun x => ⟨[.ptr 100000 [], .int .i64 (x.1), .int .i64 (x.2.1)], [.var (.arr 5 64 (x.2.2))]⟩
def ab17_24 : (n : NSt Ty) → Option {x : Int × Int × List Int // of17_24 x = n}
  | ⟨[.ptr 100000 [], .int .i64 v0, .int .i64 v1], [.var (.arr 5 64 v2)]⟩ => some ⟨(v0, v1, v2), rfl⟩
  | _ => none
def on17_24a : Bool × Int × List Int → NSt Ty := fun x => ⟨[.bool (x.1), .ptr 100000 [], .int .i64 (x.2.1)], [.var (.arr 5 64 (x.2.2))]⟩
def on17_24b : Int × List Int → NSt Ty := fun x => ⟨[.undef, .ptr 100000 [], .int .i64 (x.1)], [.var (.arr 5 64 (x.2))]⟩
def oa17_24 : (e : Ex) → (n : NSt Ty) → Option {y : (Bool × Int × List Int) ⊕ (Int × List Int) // oe2 .ret (.exit 3) y = e ∧ on2 on17_24a on17_24b y = n}
  | .ret, ⟨[.bool v0, .ptr 100000 [], .int .i64 v1], [.var (.arr 5 64 v2)]⟩ => some ⟨.inl (v0, v1, v2), rfl, rfl⟩
  | .exit 3, ⟨[.undef, .ptr 100000 [], .int .i64 v0], [.var (.arr 5 64 v1)]⟩ => some ⟨.inr (v0, v1), rfl, rfl⟩
  | _, _ => none
/-- a round of the loop 24 of function 17 -/
def R17_24 (k : Nat) (again : Int × Int × List Int → Option ((Bool × Int × List Int) ⊕ (Int × List Int))) (x : Int × Int × List Int) : Option ((Bool × Int × List Int) ⊕ (Int × List Int)) :=
  match x with
  | (v0, v1, v2) => bif decide (v1 < (24 : Int)) then bif inRange v1 (64 : Nat) then bif v2.getD v1.toNat (0 : Int) != (0 : Int) then some (Sum.inl (false, v0, v2)) else again (v0, IntKind.i64.wrap (v1 + (1 : Int)), v2) else none else some (Sum.inr (v0, v2))
def L17_24 (k n : Nat) (x : Int × Int × List Int) : Option ((Bool × Int × List Int) ⊕ (Int × List Int)) := iterR (R17_24 k) n x
noncomputable def ls17_24 : Nat → Option (LSum Ty) := addL 24 (lsum2 of17_24 ab17_24 L17_24 .ret on17_24a (.exit 3) on17_24b) ls17_36
def of17_31 : Int × Int × Int × Int × List Int × Int × List Int × Int × List Int × List Int → NSt Ty := fun x => ⟨[.ptr 100000 [], .ptr 100001 [], .int .i64 (x.1), .int .i64 (x.2.1)], [.var (.cons (.int .i64 (x.2.2.1)) (.cons (.int .i64 (x.2.2.2.1)) (.cons (.arr 5 32 (x.2.2.2.2.1)) (.cons (.int .i64 (x.2.2.2.2.2.1)) (.cons (.slice 5 (x.2.2.2.2.2.2.1)) (.cons (.int .i64 (x.2.2.2.2.2.2.2.1)) (.cons (.arr 3 8 (x.2.2.2.2.2.2.2.2.1)) (.nil)))))))), .var (.arr 5 64 (x.2.2.2.2.2.2.2.2.2))]⟩
def ab17_31 : (n : NSt Ty) → Option {x : Int × Int × Int × Int × List Int × Int × List Int × Int × List Int × List Int // of17_31 x = n}
  | ⟨[.ptr 100000 [], .ptr 100001 [], .int .i64 v0, .int .i64 v1], [.var (.cons (.int .i64 v2) (.cons (.int .i64 v3) (.cons (.arr 5 32 v4) (.cons (.int .i64 v5) (.cons (.slice 5 v6) (.cons (.int .i64 v7) (.cons (.arr 3 8 v8) (.nil)))))))), .var (.arr 5 64 v9)]⟩ => some ⟨(v0, v1, v2, v3, v4, v5, v6, v7, v8, v9), rfl⟩
  | _ => none
def on17_31a : Bool × Int × List Int → NSt Ty := fun x => ⟨[.bool (x.1), .ptr 100000 [], .int .i64 (x.2.1)], [.var (.arr 5 64 (x.2.2))]⟩
def on17_31b : Int × List Int → NSt Ty := fun x => ⟨[.undef, .ptr 100000 [], .int .i64 (x.1)], [.var (.arr 5 64 (x.2))]⟩
def oa17_31 : (e : Ex) → (n : NSt Ty) → Option {y : (Bool × Int × List Int) ⊕ (Int × List Int) // oe2 .ret (.exit 5) y = e ∧ on2 on17_31a on17_31b y = n}
  | .ret, ⟨[.bool v0, .ptr 100000 [], .int .i64 v1], [.var (.arr 5 64 v2)]⟩ => some ⟨.inl (v0, v1, v2), rfl, rfl⟩
  | .exit 5, ⟨[.undef, .ptr 100000 [], .int .i64 v0], [.var (.arr 5 64 v1)]⟩ => some ⟨.inr (v0, v1), rfl, rfl⟩
  | _, _ => none
/-- a round of the loop 31 of function 17 -/
def R17_31 (k : Nat) (again : Int × Int × Int × Int × List Int × Int × List Int × Int × List Int × List Int → Option ((Bool × Int × List Int) ⊕ (Int × List Int))) (x : Int × Int × Int × Int × List Int × Int × List Int × Int × List Int × List Int) : Option ((Bool × Int × List Int) ⊕ (Int × List Int)) :=
  match x with
  | (v0, v1, v2, v3, v4, v5, v6, v7, v8, v9) => bif decide (v1 < (8 : Int)) then bif inRange (IntKind.i64.wrap ((6 : Int) + IntKind.i64.wrap ((2 : Int) * v1))) (64 : Nat) then bif inRange (IntKind.i64.wrap ((7 : Int) + IntKind.i64.wrap ((2 : Int) * v1))) (64 : Nat) then bif inRange v1 (8 : Nat) then bif IntKind.i64.wrap (IntKind.i64.wrap (v9.getD (IntKind.i64.wrap ((6 : Int) + IntKind.i64.wrap ((2 : Int) * v1))).toNat (0 : Int)) + IntKind.i64.wrap ((256 : Int) * IntKind.i64.wrap (v9.getD (IntKind.i64.wrap ((7 : Int) + IntKind.i64.wrap ((2 : Int) * v1))).toNat (0 : Int)))) != v8.getD v1.toNat (0 : Int) then some (Sum.inl (false, v0, v9)) else again (v0, IntKind.i64.wrap (v1 + (1 : Int)), v2, v3, v4, v5, v6, v7, v8, v9) else none else none else none else some (Sum.inr (v0, v9))
def L17_31 (k n : Nat) (x : Int × Int × Int × Int × List Int × Int × List Int × Int × List Int × List Int) : Option ((Bool × Int × List Int) ⊕ (Int × List Int)) := iterR (R17_31 k) n x
noncomputable def ls17_31 : Nat → Option (LSum Ty) := addL 31 (lsum2 of17_31 ab17_31 L17_31 .ret on17_31a (.exit 5) on17_31b) ls17_24
def kp17 : Nat → Keep := fun i => cond (i == 9) ⟨[1, 2, 5, 7], [2, 4, 5]⟩ (cond (i == 24) ⟨[5, 8, 9], [4, 5, 8]⟩ (cond (i == 31) ⟨[2, 5, 8, 10], [4, 5, 8]⟩ (cond (i == 36) ⟨[5, 11], [4]⟩ (⟨[], []⟩))))
/-- "silt/siltlaw04.BlockPlaces" -/
def F17 (k : Nat) (x : T87 × Int × Unit) : Option (Bool) :=
  match x with
  | (a0, a1, ()) => bif decide ((↑a0.5.length : Int) > (300 : Int)) then (F53 k ()).bind fun r => some r else (F55 k (T87.mk a0.1 a0.2 a0.3 a0.4 a0.5 a0.6 a0.7, a1, ())).bind fun r => bif r.snd.fst != (0 : Int) then bif decide (r.fst = List.replicate (64 : Nat) (0 : Int)) then bif r.snd.fst == (11 : Int) then (F59 k (T87.mk a0.1 a0.2 a0.3 a0.4 a0.5 a0.6 a0.7, ())).bind fun r => bif !r then (F53 k ()).bind fun r => some r else some false else some false else some false else bif IntKind.i64.wrap (r.fst.getD (Int.toNat (0 : Int)) (0 : Int)) != a0.1 then some false else bif IntKind.i64.wrap (r.fst.getD (Int.toNat (1 : Int)) (0 : Int)) != a0.2 then some false else (L17_9 k k (a1, (0 : Int), a0.1, a0.2, a0.3, a0.4, a0.5, a0.6, a0.7, r.fst)).bind fun r => sumK r (fun a => some a.fst) fun b => bif b.fst == (1 : Int) then (F62 k (List.take ((38 : Int) - (6 : Int)).toNat (List.drop (Int.toNat (6 : Int)) b.snd.snd.snd.snd.snd.snd.snd), List.take ((↑(32 : Nat) : Int) - (0 : Int)).toNat (List.drop (Int.toNat (0 : Int)) b.snd.snd.fst), ())).bind fun r => bif !r then some false else (L17_36 k k ((38 : Int), b.snd.snd.snd.snd.snd.snd.snd)).bind fun r => sumK r (fun a => some a) fun b => (F53 k ()).bind fun r => some r else bif b.fst == (2 : Int) then bif IntKind.i64.wrap (b.snd.snd.snd.snd.snd.snd.snd.getD (Int.toNat (6 : Int)) (0 : Int)) != b.snd.snd.snd.fst then some false else bif IntKind.i64.wrap (b.snd.snd.snd.snd.snd.snd.snd.getD (Int.toNat (7 : Int)) (0 : Int)) != (↑b.snd.snd.snd.snd.fst.length : Int) then some false else bif decide ((0 : Int) ≤ (8 : Int)) && decide ((8 : Int) ≤ IntKind.i64.wrap ((8 : Int) + (↑b.snd.snd.snd.snd.fst.length : Int))) && decide (IntKind.i64.wrap ((8 : Int) + (↑b.snd.snd.snd.snd.fst.length : Int)) ≤ (↑(64 : Nat) : Int)) then (F62 k (List.take (IntKind.i64.wrap ((8 : Int) + (↑b.snd.snd.snd.snd.fst.length : Int)) - (8 : Int)).toNat (List.drop (Int.toNat (8 : Int)) b.snd.snd.snd.snd.snd.snd.snd), b.snd.snd.snd.snd.fst, ())).bind fun r => bif !r then some false else bif IntKind.i64.wrap (IntKind.i64.wrap (b.snd.snd.snd.snd.snd.snd.snd.getD (Int.toNat (24 : Int)) (0 : Int)) + IntKind.i64.wrap ((256 : Int) * IntKind.i64.wrap (b.snd.snd.snd.snd.snd.snd.snd.getD (Int.toNat (25 : Int)) (0 : Int)))) != b.snd.snd.snd.snd.snd.fst then some false else (L17_24 k k ((26 : Int), IntKind.i64.wrap ((8 : Int) + (↑b.snd.snd.snd.snd.fst.length : Int)), b.snd.snd.snd.snd.snd.snd.snd)).bind fun r => sumK r (fun a => some a.fst) fun b => (L17_36 k k (b.fst, b.snd)).bind fun r => sumK r (fun a => some a) fun b => (F53 k ()).bind fun r => some r else none else bif b.fst == (3 : Int) then (L17_31 k k ((22 : Int), (0 : Int), b.fst, b.snd.fst, b.snd.snd.fst, b.snd.snd.snd.fst, b.snd.snd.snd.snd.fst, b.snd.snd.snd.snd.snd.fst, b.snd.snd.snd.snd.snd.snd.fst, b.snd.snd.snd.snd.snd.snd.snd)).bind fun r => sumK r (fun a => some a.fst) fun b => (L17_36 k k (b.fst, b.snd)).bind fun r => sumK r (fun a => some a) fun b => (F53 k ()).bind fun r => some r else (L17_36 k k ((6 : Int), b.snd.snd.snd.snd.snd.snd.snd)).bind fun r => sumK r (fun a => some a) fun b => (F53 k ()).bind fun r => some r
noncomputable def sp17 : FSpec Ty := spec ag17 rs17 F17
theorem bo17 : Try.f17.body = some (bodyOf Try.f17) := by kernel_rfl
theorem nd17 : nodupB ((loopsIn (bodyOf Try.f17)).map firstRegion) = true := by kernel_rfl
theorem lo17_9 : LSOK fs16 kp17 tab Try.f17 ls17_9 := lsum2_ok bo17 nd17 (LSOK.none) oa17_9 (R := R17_9) fun k again x => by kernel_rfl
theorem lo17_36 : LSOK fs16 kp17 tab Try.f17 ls17_36 := lsum2_ok bo17 nd17 (lo17_9) oa17_36 (R := R17_36) fun k again x => by kernel_rfl
theorem lo17_24 : LSOK fs16 kp17 tab Try.f17 ls17_24 := lsum2_ok bo17 nd17 (lo17_36) oa17_24 (R := R17_24) fun k again x => by kernel_rfl
theorem lo17_31 : LSOK fs16 kp17 tab Try.f17 ls17_31 := lsum2_ok bo17 nd17 (lo17_24) oa17_31 (R := R17_31) fun k again x => by kernel_rfl
theorem ok17 : FOK Try.prog tab 17 sp17 := spec_ok (keeps := kp17) tabOK fs16OK Try.func17 bo17 (by kernel_rfl) nd17 (lo17_31) (F := F17) fun k x => by kernel_rfl
noncomputable def fs17 : Nat → Option (FSpec Ty) := addF 17 sp17 fs16
theorem fs17OK : SpecsOK Try.prog tab fs17 := fs16OK.add ok17 Try.call17
def ag18 : Args Ty (T87 × (List Int) × Unit) := V.arg (tab.den 88) (V.arg (tab.den 100) (noArgs))
def rs18 : Res Ty tab (Bool) false := V.oneRes (tab.den 4) (ent 4).ids (ent 4).plain (fun x _ => (ent 4).flat x rfl)
def of18_8 : Int × Int × Int × List Int × Int × List Int × Int × List Int × List Int × List Int × List Int → NSt Ty := fun x => ⟨[.ptr 100000 [], .ptr 100001 [], .ptr 100002 [], .ptr 100003 [], .int .i64 (x.1)], [.var (.cons (.int .i64 (x.2.1)) (.cons (.int .i64 (x.2.2.1)) (.cons (.arr 5 32 (x.2.2.2.1)) (.cons (.int .i64 (x.2.2.2.2.1)) (.cons (.slice 5 (x.2.2.2.2.2.1)) (.cons (.int .i64 (x.2.2.2.2.2.2.1)) (.cons (.arr 3 8 (x.2.2.2.2.2.2.2.1)) (.nil)))))))), .var (.arr 22 2 (x.2.2.2.2.2.2.2.2.1)), .var (.arr 5 64 (x.2.2.2.2.2.2.2.2.2.1)), .var (.arr 5 64 (x.2.2.2.2.2.2.2.2.2.2))]⟩
def ab18_8 : (n : NSt Ty) → Option {x : Int × Int × Int × List Int × Int × List Int × Int × List Int × List Int × List Int × List Int // of18_8 x = n}
  | ⟨[.ptr 100000 [], .ptr 100001 [], .ptr 100002 [], .ptr 100003 [], .int .i64 v0], [.var (.cons (.int .i64 v1) (.cons (.int .i64 v2) (.cons (.arr 5 32 v3) (.cons (.int .i64 v4) (.cons (.slice 5 v5) (.cons (.int .i64 v6) (.cons (.arr 3 8 v7) (.nil)))))))), .var (.arr 22 2 v8), .var (.arr 5 64 v9), .var (.arr 5 64 v10)]⟩ => some ⟨(v0, v1, v2, v3, v4, v5, v6, v7, v8, v9, v10), rfl⟩
  | _ => none
def on18_8a : Bool × Int × Int × List Int × Int × List Int × Int × List Int × List Int × List Int × List Int → NSt Ty := fun x => ⟨[.ptr 100000 [], .ptr 100001 [], .bool (x.1), .ptr 100002 [], .ptr 100003 []], [.var (.cons (.int .i64 (x.2.1)) (.cons (.int .i64 (x.2.2.1)) (.cons (.arr 5 32 (x.2.2.2.1)) (.cons (.int .i64 (x.2.2.2.2.1)) (.cons (.slice 5 (x.2.2.2.2.2.1)) (.cons (.int .i64 (x.2.2.2.2.2.2.1)) (.cons (.arr 3 8 (x.2.2.2.2.2.2.2.1)) (.nil)))))))), .var (.arr 22 2 (x.2.2.2.2.2.2.2.2.1)), .var (.arr 5 64 (x.2.2.2.2.2.2.2.2.2.1)), .var (.arr 5 64 (x.2.2.2.2.2.2.2.2.2.2))]⟩
def on18_8b : Int × Int × List Int × Int × List Int × Int × List Int × List Int × List Int × List Int → NSt Ty := fun x => ⟨[.ptr 100000 [], .ptr 100001 [], .undef, .ptr 100002 [], .ptr 100003 []], [.var (.cons (.int .i64 (x.1)) (.cons (.int .i64 (x.2.1)) (.cons (.arr 5 32 (x.2.2.1)) (.cons (.int .i64 (x.2.2.2.1)) (.cons (.slice 5 (x.2.2.2.2.1)) (.cons (.int .i64 (x.2.2.2.2.2.1)) (.cons (.arr 3 8 (x.2.2.2.2.2.2.1)) (.nil)))))))), .var (.arr 22 2 (x.2.2.2.2.2.2.2.1)), .var (.arr 5 64 (x.2.2.2.2.2.2.2.2.1)), .var (.arr 5 64 (x.2.2.2.2.2.2.2.2.2))]⟩
def oa18_8 : (e : Ex) → (n : NSt Ty) → Option {y : (Bool × Int × Int × List Int × Int × List Int × Int × List Int × List Int × List Int × List Int) ⊕ (Int × Int × List Int × Int × List Int × Int × List Int × List Int × List Int × List Int) // oe2 .ret (.exit 0) y = e ∧ on2 on18_8a on18_8b y = n}
  | .ret, ⟨[.ptr 100000 [], .ptr 100001 [], .bool v0, .ptr 100002 [], .ptr 100003 []], [.var (.cons (.int .i64 v1) (.cons (.int .i64 v2) (.cons (.arr 5 32 v3) (.cons (.int .i64 v4) (.cons (.slice 5 v5) (.cons (.int .i64 v6) (.cons (.arr 3 8 v7) (.nil)))))))), .var (.arr 22 2 v8), .var (.arr 5 64 v9), .var (.arr 5 64 v10)]⟩ => some ⟨.inl (v0, v1, v2, v3, v4, v5, v6, v7, v8, v9, v10), rfl, rfl⟩
  | .exit 0, ⟨[.ptr 100000 [], .ptr 100001 [], .undef, .ptr 100002 [], .ptr 100003 []], [.var (.cons (.int .i64 v0) (.cons (.int .i64 v1) (.cons (.arr 5 32 v2) (.cons (.int .i64 v3) (.cons (.slice 5 v4) (.cons (.int .i64 v5) (.cons (.arr 3 8 v6) (.nil)))))))), .var (.arr 22 2 v7), .var (.arr 5 64 v8), .var (.arr 5 64 v9)]⟩ => some ⟨.inr (v0, v1, v2, v3, v4, v5, v6, v7, v8, v9), rfl, rfl⟩
  | _, _ => none
/-- a round of the loop 8 of function 18 -/
def R18_8 (k : Nat) (again : Int × Int × Int × List Int × Int × List Int × Int × List Int × List Int × List Int × List Int → Option ((Bool × Int × Int × List Int × Int × List Int × Int × List Int × List Int × List Int × List Int) ⊕ (Int × Int × List Int × Int × List Int × Int × List Int × List Int × List Int × List Int))) (x : Int × Int × Int × List Int × Int × List Int × Int × List Int × List Int × List Int × List Int) : Option ((Bool × Int × Int × List Int × Int × List Int × Int × List Int × List Int × List Int × List Int) ⊕ (Int × Int × List Int × Int × List Int × Int × List Int × List Int × List Int × List Int)) :=
  match x with
  | (v0, v1, v2, v3, v4, v5, v6, v7, v8, v9, v10) => bif decide (v0 < (64 : Int)) then bif decide (v0 < (2 : Int)) then bif inRange v0 (64 : Nat) then bif inRange v0 (64 : Nat) then bif v9.getD v0.toNat (0 : Int) != v10.getD v0.toNat (0 : Int) then some (Sum.inl (false, v1, v2, v3, v4, v5, v6, v7, v8, v9, v10)) else again (IntKind.i64.wrap (v0 + (1 : Int)), v1, v2, v3, v4, v5, v6, v7, v8, v9, v10) else none else none else bif decide (v0 > (5 : Int)) then bif inRange v0 (64 : Nat) then bif inRange v0 (64 : Nat) then bif v9.getD v0.toNat (0 : Int) != v10.getD v0.toNat (0 : Int) then some (Sum.inl (false, v1, v2, v3, v4, v5, v6, v7, v8, v9, v10)) else again (IntKind.i64.wrap (v0 + (1 : Int)), v1, v2, v3, v4, v5, v6, v7, v8, v9, v10) else none else none else again (IntKind.i64.wrap (v0 + (1 : Int)), v1, v2, v3, v4, v5, v6, v7, v8, v9, v10) else some (Sum.inr (v1, v2, v3, v4, v5, v6, v7, v8, v9, v10))
def L18_8 (k n : Nat) (x : Int × Int × Int × List Int × Int × List Int × Int × List Int × List Int × List Int × List Int) : Option ((Bool × Int × Int × List Int × Int × List Int × Int × List Int × List Int × List Int × List Int) ⊕ (Int × Int × List Int × Int × List Int × Int × List Int × List Int × List Int × List Int)) := iterR (R18_8 k) n x
noncomputable def ls18_8 : Nat → Option (LSum Ty) := addL 8 (lsum2 of18_8 ab18_8 L18_8 .ret on18_8a (.exit 0) on18_8b) noL
def kp18 : Nat → Keep := fun i => cond (i == 8) ⟨[2, 3, 5, 7, 9], [2, 3, 4, 5, 7]⟩ (⟨[], []⟩)
/-- "silt/siltlaw04.BlockNumbers" -/
def F18 (k : Nat) (x : T87 × (List Int) × Unit) : Option (Bool) :=
  match x with
  | (a0, a1, ()) => bif decide ((↑a0.5.length : Int) > (300 : Int)) then (F53 k ()).bind fun r => some r else (F60 k (T87.mk a0.1 a0.2 a0.3 a0.4 a0.5 a0.6 a0.7, ())).bind fun r => bif !r then (F53 k ()).bind fun r => some r else (F55 k (T87.mk a0.1 a0.2 a0.3 a0.4 a0.5 a0.6 a0.7, a1.getD (Int.toNat (0 : Int)) (0 : Int), ())).bind fun r => (F55 k (T87.mk a0.1 a0.2 a0.3 a0.4 a0.5 a0.6 a0.7, a1.getD (Int.toNat (1 : Int)) (0 : Int), ())).bind fun r_1 => bif r.snd.fst != (0 : Int) then some false else bif r_1.snd.fst != (0 : Int) then some false else (L18_8 k k ((0 : Int), a0.1, a0.2, a0.3, a0.4, a0.5, a0.6, a0.7, a1, r.fst, r_1.fst)).bind fun r => sumK r (fun a => some a.fst) fun b => (F57 k (b.snd.snd.snd.snd.snd.snd.snd.snd.snd, ())).bind fun r => bif r.snd.snd.fst == (0 : Int) then bif r.snd.fst == b.snd.snd.snd.snd.snd.snd.snd.fst.getD (Int.toNat (1 : Int)) (0 : Int) then (F61 k (T87.mk b.fst b.snd.fst b.snd.snd.fst b.snd.snd.snd.fst b.snd.snd.snd.snd.fst b.snd.snd.snd.snd.snd.fst b.snd.snd.snd.snd.snd.snd.fst, T87.mk r.fst.1 r.fst.2 r.fst.3 r.fst.4 r.fst.5 r.fst.6 r.fst.7, ())).bind fun r => bif r then bif decide (b.snd.snd.snd.snd.snd.snd.snd.snd.fst = b.snd.snd.snd.snd.snd.snd.snd.snd.snd) == (b.snd.snd.snd.snd.snd.snd.snd.fst.getD (Int.toNat (0 : Int)) (0 : Int) == b.snd.snd.snd.snd.snd.snd.snd.fst.getD (Int.toNat (1 : Int)) (0 : Int)) then (F53 k ()).bind fun r => some r else some false else some false else some false else some false
noncomputable def sp18 : FSpec Ty := spec ag18 rs18 F18
theorem bo18 : Try.f18.body = some (bodyOf Try.f18) := by kernel_rfl
theorem nd18 : nodupB ((loopsIn (bodyOf Try.f18)).map firstRegion) = true := by kernel_rfl
theorem lo18_8 : LSOK fs17 kp18 tab Try.f18 ls18_8 := lsum2_ok bo18 nd18 (LSOK.none) oa18_8 (R := R18_8) fun k again x => by kernel_rfl
theorem ok18 : FOK Try.prog tab 18 sp18 := spec_ok (keeps := kp18) tabOK fs17OK Try.func18 bo18 (by kernel_rfl) nd18 (lo18_8) (F := F18) fun k x => by kernel_rfl
noncomputable def fs18 : Nat → Option (FSpec Ty) := addF 18 sp18 fs17
theorem fs18OK : SpecsOK Try.prog tab fs18 := fs17OK.add ok18 Try.call18
end Go.Proofs.Ytbhnkjnjeifdhaa.W
