/-
  The functions that the statement reaches, as typed functions, and that the program computes them. No conditions. Printed by program.
-/
import Derived.Test.YtpnnmpdjgnbkhaaVI
set_option linter.unusedVariables false
namespace Go.Proofs.Ytpnnmpdjgnbkhaa.W
open Go Go.Proofs V
theorem noFOK : SpecsOK Try.prog tab noF := SpecsOK.none cmpOK
def ag74 : Args Ty (T44 × Unit) := V.arg (tab.den 45) (noArgs)
def rs74 : Res Ty tab (Bool) false := V.oneRes (tab.den 4) (ent 4).ids (ent 4).plain (fun x _ => (ent 4).flat x rfl)
def kp74 : Nat → Keep := fun i => ⟨[], []⟩
/-- "silt/block.plain" -/
def F74 (k : Nat) (x : T44 × Unit) : Option (Bool) :=
  match x with
  | (a0, ()) => bif a0.4 == (0 : Int) then bif (↑a0.5.length : Int) == (0 : Int) then bif a0.1 == (1 : Int) then bif decide (a0.7 = List.replicate (8 : Nat) (0 : Int)) then some (a0.6 == (0 : Int)) else some false else bif a0.1 == (2 : Int) then bif decide (a0.7 = List.replicate (8 : Nat) (0 : Int)) then some (decide (a0.3 = List.replicate (32 : Nat) (0 : Int))) else some false else bif decide (a0.3 = List.replicate (32 : Nat) (0 : Int)) then some (a0.6 == (0 : Int)) else some false else bif a0.1 == (1 : Int) then bif decide (a0.7 = List.replicate (8 : Nat) (0 : Int)) then some false else some false else bif a0.1 == (2 : Int) then bif decide (a0.7 = List.replicate (8 : Nat) (0 : Int)) then some (decide (a0.3 = List.replicate (32 : Nat) (0 : Int))) else some false else bif decide (a0.3 = List.replicate (32 : Nat) (0 : Int)) then some false else some false else bif a0.1 == (1 : Int) then bif decide (a0.7 = List.replicate (8 : Nat) (0 : Int)) then some false else some false else bif a0.1 == (2 : Int) then bif decide (a0.7 = List.replicate (8 : Nat) (0 : Int)) then some (decide (a0.3 = List.replicate (32 : Nat) (0 : Int))) else some false else bif decide (a0.3 = List.replicate (32 : Nat) (0 : Int)) then some false else some false
noncomputable def sp74 : FSpec Ty := spec ag74 rs74 F74
theorem bo74 : Try.f74.body = some (bodyOf Try.f74) := by kernel_rfl
theorem nd74 : nodupB ((loopsIn (bodyOf Try.f74)).map firstRegion) = true := by kernel_rfl
theorem ok74 : FOK Try.prog tab 74 sp74 := spec_ok (keeps := kp74) tabOK noFOK Try.func74 bo74 (by kernel_rfl) nd74 (LSOK.none) (F := F74) fun k x => by kernel_rfl
noncomputable def fs74 : Nat → Option (FSpec Ty) := addF 74 sp74 noF
theorem fs74OK : SpecsOK Try.prog tab fs74 := noFOK.add ok74 Try.call74
def ag75 : Args Ty (Int × Unit) := V.arg (tab.den 3) (noArgs)
def rs75 : Res Ty tab (Bool) false := V.oneRes (tab.den 4) (ent 4).ids (ent 4).plain (fun x _ => (ent 4).flat x rfl)
def kp75 : Nat → Keep := fun i => ⟨[], []⟩
/-- "silt/block.head" -/
def F75 (k : Nat) (x : Int × Unit) : Option (Bool) :=
  match x with
  | (a0, ()) => bif a0 == (0 : Int) then some true else bif a0 == (1 : Int) then some true else bif decide (a0 ≥ (4 : Int)) then some (decide (a0 ≤ (1023 : Int))) else some false
noncomputable def sp75 : FSpec Ty := spec ag75 rs75 F75
theorem bo75 : Try.f75.body = some (bodyOf Try.f75) := by kernel_rfl
theorem nd75 : nodupB ((loopsIn (bodyOf Try.f75)).map firstRegion) = true := by kernel_rfl
theorem ok75 : FOK Try.prog tab 75 sp75 := spec_ok (keeps := kp75) tabOK fs74OK Try.func75 bo75 (by kernel_rfl) nd75 (LSOK.none) (F := F75) fun k x => by kernel_rfl
noncomputable def fs75 : Nat → Option (FSpec Ty) := addF 75 sp75 fs74
theorem fs75OK : SpecsOK Try.prog tab fs75 := fs74OK.add ok75 Try.call75
def ag77 : Args Ty (Int × Unit) := V.arg (tab.den 3) (noArgs)
def rs77 : Res Ty tab (Bool) false := V.oneRes (tab.den 4) (ent 4).ids (ent 4).plain (fun x _ => (ent 4).flat x rfl)
def kp77 : Nat → Keep := fun i => ⟨[], []⟩
/-- "silt/block.Good$1" -/
def F77 (k : Nat) (x : Int × Unit) : Option (Bool) :=
  match x with
  | (a0, ()) => (F75 k (a0, ())).bind fun r => some !r
noncomputable def sp77 : FSpec Ty := spec ag77 rs77 F77
theorem bo77 : Try.f77.body = some (bodyOf Try.f77) := by kernel_rfl
theorem nd77 : nodupB ((loopsIn (bodyOf Try.f77)).map firstRegion) = true := by kernel_rfl
theorem ok77 : FOK Try.prog tab 77 sp77 := spec_ok (keeps := kp77) tabOK fs75OK Try.func77 bo77 (by kernel_rfl) nd77 (LSOK.none) (F := F77) fun k x => by kernel_rfl
noncomputable def fs77 : Nat → Option (FSpec Ty) := addF 77 sp77 fs75
theorem fs77OK : SpecsOK Try.prog tab fs77 := fs75OK.add ok77 Try.call77
def ag85 : Args Ty ((List Int) × Unit × Unit) := V.arg (tab.den 22) (V.arg (tab.den 106) (noArgs))
def rs85 : Res Ty tab (Int) false := V.oneRes (tab.den 3) (ent 3).ids (ent 3).plain (fun x _ => (ent 3).flat x rfl)
def of85_2 : List Int × Int × Int → NSt Ty := fun x => ⟨[.slice 3 (x.1), .func 77, .int .i64 (x.2.1), .int .i64 (x.2.2)], []⟩
def ab85_2 : (n : NSt Ty) → Option {x : List Int × Int × Int // of85_2 x = n}
  | ⟨[.slice 3 v0, .func 77, .int .i64 v1, .int .i64 v2], []⟩ => some ⟨(v0, v1, v2), rfl⟩
  | _ => none
def on85_2a : Int → NSt Ty := fun x => ⟨[.int .i64 (x)], []⟩
def on85_2b : Unit → NSt Ty := fun x => ⟨[.undef], []⟩
def oa85_2 : (e : Ex) → (n : NSt Ty) → Option {y : (Int) ⊕ (Unit) // oe2 .ret (.exit 0) y = e ∧ on2 on85_2a on85_2b y = n}
  | .ret, ⟨[.int .i64 v0], []⟩ => some ⟨.inl v0, rfl, rfl⟩
  | .exit 0, ⟨[.undef], []⟩ => some ⟨.inr (), rfl, rfl⟩
  | _, _ => none
/-- a round of the loop 2 of function 85 -/
def R85_2 (k : Nat) (again : List Int × Int × Int → Option ((Int) ⊕ (Unit))) (x : List Int × Int × Int) : Option ((Int) ⊕ (Unit)) :=
  match x with
  | (v0, v1, v2) => bif decide (v2 < v1) then bif inRange v2 v0.length then (F77 k (v0.getD v2.toNat (0 : Int), ())).bind fun r => bif r then some (Sum.inl v2) else again (v0, v1, IntKind.i64.wrap (v2 + (1 : Int))) else none else some (Sum.inr ())
def L85_2 (k n : Nat) (x : List Int × Int × Int) : Option ((Int) ⊕ (Unit)) := iterR (R85_2 k) n x
noncomputable def ls85_2 : Nat → Option (LSum Ty) := addL 2 (lsum2 of85_2 ab85_2 L85_2 .ret on85_2a (.exit 0) on85_2b) noL
def kp85 : Nat → Keep := fun i => cond (i == 2) ⟨[0, 1, 7, 8], [4]⟩ (⟨[], []⟩)
/-- "slices.IndexFunc[[]int,int]" -/
def F85 (k : Nat) (x : (List Int) × Unit × Unit) : Option (Int) :=
  match x with
  | (a0, a1, ()) => (L85_2 k k (a0, (↑a0.length : Int), (0 : Int))).bind fun r => sumK r (fun a => some a) fun b => some (-1 : Int)
noncomputable def sp85 : FSpec Ty := spec ag85 rs85 F85
theorem bo85 : Try.f85.body = some (bodyOf Try.f85) := by kernel_rfl
theorem nd85 : nodupB ((loopsIn (bodyOf Try.f85)).map firstRegion) = true := by kernel_rfl
theorem lo85_2 : LSOK fs77 kp85 tab Try.f85 ls85_2 := lsum2_ok bo85 nd85 (LSOK.none) oa85_2 (R := R85_2) fun k again x => by kernel_rfl
theorem ok85 : FOK Try.prog tab 85 sp85 := spec_ok (keeps := kp85) tabOK fs77OK Try.func85 bo85 (by kernel_rfl) nd85 (lo85_2) (F := F85) fun k x => by kernel_rfl
noncomputable def fs85 : Nat → Option (FSpec Ty) := addF 85 sp85 fs77
theorem fs85OK : SpecsOK Try.prog tab fs85 := fs77OK.add ok85 Try.call85
def ag76 : Args Ty ((List Int) × Unit × Unit) := V.arg (tab.den 22) (V.arg (tab.den 106) (noArgs))
def rs76 : Res Ty tab (Bool) false := V.oneRes (tab.den 4) (ent 4).ids (ent 4).plain (fun x _ => (ent 4).flat x rfl)
def kp76 : Nat → Keep := fun i => ⟨[], []⟩
/-- "slices.ContainsFunc[[]int,int]" -/
def F76 (k : Nat) (x : (List Int) × Unit × Unit) : Option (Bool) :=
  match x with
  | (a0, a1, ()) => (F85 k (a0, (), ())).bind fun r => some (decide (r ≥ (0 : Int)))
noncomputable def sp76 : FSpec Ty := spec ag76 rs76 F76
theorem bo76 : Try.f76.body = some (bodyOf Try.f76) := by kernel_rfl
theorem nd76 : nodupB ((loopsIn (bodyOf Try.f76)).map firstRegion) = true := by kernel_rfl
theorem ok76 : FOK Try.prog tab 76 sp76 := spec_ok (keeps := kp76) tabOK fs85OK Try.func76 bo76 (by kernel_rfl) nd76 (LSOK.none) (F := F76) fun k x => by kernel_rfl
noncomputable def fs76 : Nat → Option (FSpec Ty) := addF 76 sp76 fs85
theorem fs76OK : SpecsOK Try.prog tab fs76 := fs85OK.add ok76 Try.call76
def ag52 : Args Ty (T44 × Unit) := V.arg (tab.den 45) (noArgs)
def rs52 : Res Ty tab (Bool) false := V.oneRes (tab.den 4) (ent 4).ids (ent 4).plain (fun x _ => (ent 4).flat x rfl)
def kp52 : Nat → Keep := fun i => ⟨[], []⟩
/-- "silt/block.Good" -/
def F52 (k : Nat) (x : T44 × Unit) : Option (Bool) :=
  match x with
  | (a0, ()) => bif decide (a0.2 < (0 : Int)) then some false else (F74 k (T44.mk a0.1 a0.2 a0.3 a0.4 a0.5 a0.6 a0.7, ())).bind fun r => bif !r then some false else bif a0.1 == (2 : Int) then bif decide (a0.4 < (0 : Int)) then some false else bif decide ((↑a0.5.length : Int) < (1 : Int)) then some false else bif decide ((↑a0.5.length : Int) > (16 : Int)) then some false else bif decide (a0.4 > IntKind.i64.wrap ((32 : Int) - (↑a0.5.length : Int))) then some false else bif a0.6 == (0 : Int) then some false else (F75 k (a0.6, ())).bind fun r => bif !r then some false else some (decide (a0.2 < (64 : Int))) else bif a0.1 == (1 : Int) then some (decide (a0.2 < (64 : Int))) else bif a0.1 == (3 : Int) then bif decide (a0.2 < (8 : Int)) then (F76 k (List.take ((↑(8 : Nat) : Int) - (0 : Int)).toNat (List.drop (Int.toNat (0 : Int)) a0.7), (), ())).bind fun r => some !r else some false else some false
noncomputable def sp52 : FSpec Ty := spec ag52 rs52 F52
theorem bo52 : Try.f52.body = some (bodyOf Try.f52) := by kernel_rfl
theorem nd52 : nodupB ((loopsIn (bodyOf Try.f52)).map firstRegion) = true := by kernel_rfl
theorem ok52 : FOK Try.prog tab 52 sp52 := spec_ok (keeps := kp52) tabOK fs76OK Try.func52 bo52 (by kernel_rfl) nd52 (LSOK.none) (F := F52) fun k x => by kernel_rfl
noncomputable def fs52 : Nat → Option (FSpec Ty) := addF 52 sp52 fs76
theorem fs52OK : SpecsOK Try.prog tab fs52 := fs76OK.add ok52 Try.call52
def ag48 : Args Ty (Int × T38 × Unit) := V.arg (tab.den 3) (V.arg (tab.den 39) (noArgs))
def rs48 : Res Ty tab (Bool) false := V.oneRes (tab.den 4) (ent 4).ids (ent 4).plain (fun x _ => (ent 4).flat x rfl)
def kp48 : Nat → Keep := fun i => ⟨[], []⟩
/-- "silt/policy.may" -/
def F48 (k : Nat) (x : Int × T38 × Unit) : Option (Bool) :=
  match x with
  | (a0, a1, ()) => bif decide (a0 < (0 : Int)) then some false else bif decide (a0 ≥ (64 : Int)) then some false else bif decide (a1.2 < (0 : Int)) then some false else bif decide (a1.2 > (3 : Int)) then some false else bif a1.1 == (0 : Int) then some (a1.2 == (0 : Int)) else bif a1.1 == (1 : Int) then some (a1.2 == (0 : Int)) else bif decide (a1.2 > (0 : Int)) then (F52 k (T44.mk (2 : Int) a0 (List.replicate (32 : Nat) (0 : Int)) (0 : Int) ((List.replicate (1 : Nat) (0 : Int)).set (0 : Nat) (0 : Int)) a1.1 (List.replicate (8 : Nat) (0 : Int)), ())).bind fun r => some r else some false
noncomputable def sp48 : FSpec Ty := spec ag48 rs48 F48
theorem bo48 : Try.f48.body = some (bodyOf Try.f48) := by kernel_rfl
theorem nd48 : nodupB ((loopsIn (bodyOf Try.f48)).map firstRegion) = true := by kernel_rfl
theorem ok48 : FOK Try.prog tab 48 sp48 := spec_ok (keeps := kp48) tabOK fs52OK Try.func48 bo48 (by kernel_rfl) nd48 (LSOK.none) (F := F48) fun k x => by kernel_rfl
noncomputable def fs48 : Nat → Option (FSpec Ty) := addF 48 sp48 fs52
theorem fs48OK : SpecsOK Try.prog tab fs48 := fs52OK.add ok48 Try.call48
def ag22 : Args Ty (Int × (List Int) × Unit) := V.arg (tab.den 3) (V.arg (tab.den 37) (noArgs))
def rs22 : Res Ty tab (T46 × Int × Unit) true := V.manyRes (V.part (tab.den 47) (ent 47).ids (ent 47).plain (fun _ h => by cases h) (V.part (tab.den 24) (ent 24).ids (ent 24).plain (fun _ h => by cases h) (noParts)))
def kp22 : Nat → Keep := fun i => ⟨[], []⟩
/-- "silt/policy.Whole" -/
def F22 (k : Nat) (x : Int × (List Int) × Unit) : Option (T46 × Int × Unit) :=
  match x with
  | (a0, a1, ()) => (F52 k (T44.mk (1 : Int) a0 a1 (0 : Int) [] (0 : Int) (List.replicate (8 : Nat) (0 : Int)), ())).bind fun r => bif !r then some (T46.mk (T40.mk (0 : Int) (0 : Int)) (T44.mk (0 : Int) (0 : Int) (List.replicate (32 : Nat) (0 : Int)) (0 : Int) [] (0 : Int) (List.replicate (8 : Nat) (0 : Int))), (1 : Int), ()) else some (T46.mk (T40.mk (1 : Int) a0) (T44.mk (1 : Int) a0 a1 (0 : Int) [] (0 : Int) (List.replicate (8 : Nat) (0 : Int))), (0 : Int), ())
noncomputable def sp22 : FSpec Ty := spec ag22 rs22 F22
theorem bo22 : Try.f22.body = some (bodyOf Try.f22) := by kernel_rfl
theorem nd22 : nodupB ((loopsIn (bodyOf Try.f22)).map firstRegion) = true := by kernel_rfl
theorem ok22 : FOK Try.prog tab 22 sp22 := spec_ok (keeps := kp22) tabOK fs48OK Try.func22 bo22 (by kernel_rfl) nd22 (LSOK.none) (F := F22) fun k x => by kernel_rfl
noncomputable def fs22 : Nat → Option (FSpec Ty) := addF 22 sp22 fs48
theorem fs22OK : SpecsOK Try.prog tab fs22 := fs48OK.add ok22 Try.call22
def ag49 : Args Ty ((List Int) × (List Int) × Unit) := V.arg (tab.den 37) (V.arg (tab.den 37) (noArgs))
def rs49 : Res Ty tab (Int × (List Int) × Bool × Unit) true := V.manyRes (V.part (tab.den 3) (ent 3).ids (ent 3).plain (fun _ h => by cases h) (V.part (tab.den 42) (ent 42).ids (ent 42).plain (fun _ h => by cases h) (V.part (tab.den 4) (ent 4).ids (ent 4).plain (fun _ h => by cases h) (noParts))))
def of49_3 : Int × Int × Int × List Int × List Int → NSt Ty := fun x => ⟨[.ptr 100000 [], .ptr 100001 [], .int .i64 (x.1), .int .i64 (x.2.1), .int .i64 (x.2.2.1)], [.var (.arr 5 32 (x.2.2.2.1)), .var (.arr 5 32 (x.2.2.2.2))]⟩
def ab49_3 : (n : NSt Ty) → Option {x : Int × Int × Int × List Int × List Int // of49_3 x = n}
  | ⟨[.ptr 100000 [], .ptr 100001 [], .int .i64 v0, .int .i64 v1, .int .i64 v2], [.var (.arr 5 32 v3), .var (.arr 5 32 v4)]⟩ => some ⟨(v0, v1, v2, v3, v4), rfl⟩
  | _ => none
def oe49_3 : Int × Int × List Int → Ex := fun _ => .exit 0
def on49_3 : Int × Int × List Int → NSt Ty := fun x => ⟨[.ptr 100000 [], .int .i64 (x.1), .int .i64 (x.2.1)], [.var (.arr 5 32 (x.2.2))]⟩
def oa49_3 : (e : Ex) → (n : NSt Ty) → Option {y : Int × Int × List Int // oe49_3 y = e ∧ on49_3 y = n}
  | .exit 0, ⟨[.ptr 100000 [], .int .i64 v0, .int .i64 v1], [.var (.arr 5 32 v2)]⟩ => some ⟨(v0, v1, v2), rfl, rfl⟩
  | _, _ => none
/-- a round of the loop 3 of function 49 -/
def R49_3 (k : Nat) (again : Int × Int × Int × List Int × List Int → Option (Int × Int × List Int)) (x : Int × Int × Int × List Int × List Int) : Option (Int × Int × List Int) :=
  match x with
  | (v0, v1, v2, v3, v4) => bif decide (v2 < (32 : Int)) then bif inRange v2 (32 : Nat) then bif inRange v2 (32 : Nat) then bif v3.getD v2.toNat (0 : Int) == v4.getD v2.toNat (0 : Int) then again (v0, v1, IntKind.i64.wrap (v2 + (1 : Int)), v3, v4) else bif decide (v0 < (0 : Int)) then again (v2, v2, IntKind.i64.wrap (v2 + (1 : Int)), v3, v4) else again (v0, v2, IntKind.i64.wrap (v2 + (1 : Int)), v3, v4) else none else none else some (v0, v1, v4)
def L49_3 (k n : Nat) (x : Int × Int × Int × List Int × List Int) : Option (Int × Int × List Int) := iterR (R49_3 k) n x
noncomputable def ls49_3 : Nat → Option (LSum Ty) := addL 3 (LSum.of of49_3 ab49_3 L49_3 oe49_3 on49_3) noL
def kp49 : Nat → Keep := fun i => cond (i == 3) ⟨[2, 3, 7, 8, 10], [3, 7, 8]⟩ (⟨[], []⟩)
/-- "silt/delta.Diff" -/
def F49 (k : Nat) (x : (List Int) × (List Int) × Unit) : Option (Int × (List Int) × Bool × Unit) :=
  match x with
  | (a0, a1, ()) => (L49_3 k k ((-1 : Int), (0 : Int), (0 : Int), a0, a1)).bind fun r => bif decide (r.fst < (0 : Int)) then some ((0 : Int), [], false, ()) else bif decide (IntKind.i64.wrap (r.snd.fst - r.fst) ≥ (16 : Int)) then some ((0 : Int), [], false, ()) else bif decide ((0 : Int) ≤ r.fst) && decide (r.fst ≤ IntKind.i64.wrap (r.snd.fst + (1 : Int))) && decide (IntKind.i64.wrap (r.snd.fst + (1 : Int)) ≤ (↑(32 : Nat) : Int)) then bif decide ((0 : Nat) + (List.take (IntKind.i64.wrap (r.snd.fst + (1 : Int)) - r.fst).toNat (List.drop r.fst.toNat r.snd.snd)).length ≤ roomMost) then some (r.fst, [] ++ List.take (IntKind.i64.wrap (r.snd.fst + (1 : Int)) - r.fst).toNat (List.drop r.fst.toNat r.snd.snd), true, ()) else none else none
noncomputable def sp49 : FSpec Ty := spec ag49 rs49 F49
theorem bo49 : Try.f49.body = some (bodyOf Try.f49) := by kernel_rfl
theorem nd49 : nodupB ((loopsIn (bodyOf Try.f49)).map firstRegion) = true := by kernel_rfl
theorem lo49_3 : LSOK fs22 kp49 tab Try.f49 ls49_3 := lsum_ok bo49 nd49 (LSOK.none) oa49_3 (R := R49_3) fun k again x => by kernel_rfl
theorem ok49 : FOK Try.prog tab 49 sp49 := spec_ok (keeps := kp49) tabOK fs22OK Try.func49 bo49 (by kernel_rfl) nd49 (lo49_3) (F := F49) fun k x => by kernel_rfl
noncomputable def fs49 : Nat → Option (FSpec Ty) := addF 49 sp49 fs22
theorem fs49OK : SpecsOK Try.prog tab fs49 := fs22OK.add ok49 Try.call49
def ag19 : Args Ty (Int × T38 × (List Int) × Unit) := V.arg (tab.den 3) (V.arg (tab.den 39) (V.arg (tab.den 37) (noArgs)))
def rs19 : Res Ty tab (T46 × Int × Unit) true := V.manyRes (V.part (tab.den 47) (ent 47).ids (ent 47).plain (fun _ h => by cases h) (V.part (tab.den 24) (ent 24).ids (ent 24).plain (fun _ h => by cases h) (noParts)))
def kp19 : Nat → Keep := fun i => ⟨[], []⟩
/-- "silt/policy.Item" -/
def F19 (k : Nat) (x : Int × T38 × (List Int) × Unit) : Option (T46 × Int × Unit) :=
  match x with
  | (a0, a1, a2, ()) => (F48 k (a0, T38.mk a1.1 a1.2 a1.3, ())).bind fun r => bif !r then some (T46.mk (T40.mk (0 : Int) (0 : Int)) (T44.mk (0 : Int) (0 : Int) (List.replicate (32 : Nat) (0 : Int)) (0 : Int) [] (0 : Int) (List.replicate (8 : Nat) (0 : Int))), (1 : Int), ()) else bif a1.1 == (0 : Int) then (F22 k (a0, a2, ())).bind fun r => some (T46.mk (T40.mk r.fst.1.1 r.fst.1.2) (T44.mk r.fst.2.1 r.fst.2.2 r.fst.2.3 r.fst.2.4 r.fst.2.5 r.fst.2.6 r.fst.2.7), r.snd.fst, ()) else bif decide (a1.3 = a2) then some (T46.mk (T40.mk (0 : Int) (0 : Int)) (T44.mk (0 : Int) (0 : Int) (List.replicate (32 : Nat) (0 : Int)) (0 : Int) [] (0 : Int) (List.replicate (8 : Nat) (0 : Int))), (17 : Int), ()) else (F49 k (a1.3, a2, ())).bind fun r => bif !r.snd.snd.fst then (F22 k (a0, a2, ())).bind fun r => some (T46.mk (T40.mk r.fst.1.1 r.fst.1.2) (T44.mk r.fst.2.1 r.fst.2.2 r.fst.2.3 r.fst.2.4 r.fst.2.5 r.fst.2.6 r.fst.2.7), r.snd.fst, ()) else bif decide (a1.2 ≥ (3 : Int)) then (F22 k (a0, a2, ())).bind fun r => some (T46.mk (T40.mk r.fst.1.1 r.fst.1.2) (T44.mk r.fst.2.1 r.fst.2.2 r.fst.2.3 r.fst.2.4 r.fst.2.5 r.fst.2.6 r.fst.2.7), r.snd.fst, ()) else some (T46.mk (T40.mk (2 : Int) a0) (T44.mk (2 : Int) a0 (List.replicate (32 : Nat) (0 : Int)) r.fst r.snd.fst a1.1 (List.replicate (8 : Nat) (0 : Int))), (0 : Int), ())
noncomputable def sp19 : FSpec Ty := spec ag19 rs19 F19
theorem bo19 : Try.f19.body = some (bodyOf Try.f19) := by kernel_rfl
theorem nd19 : nodupB ((loopsIn (bodyOf Try.f19)).map firstRegion) = true := by kernel_rfl
theorem ok19 : FOK Try.prog tab 19 sp19 := spec_ok (keeps := kp19) tabOK fs49OK Try.func19 bo19 (by kernel_rfl) nd19 (LSOK.none) (F := F19) fun k x => by kernel_rfl
noncomputable def fs19 : Nat → Option (FSpec Ty) := addF 19 sp19 fs49
theorem fs19OK : SpecsOK Try.prog tab fs19 := fs49OK.add ok19 Try.call19
def ag21 : Args Ty (T38 × Unit) := V.arg (tab.den 39) (noArgs)
def rs21 : Res Ty tab (T38) false := V.oneRes (tab.den 52) (ent 52).ids (ent 52).plain (fun x _ => (ent 52).flat x rfl)
def kp21 : Nat → Keep := fun i => ⟨[], []⟩
/-- "silt/siltlaw18.own" -/
def F21 (k : Nat) (x : T38 × Unit) : Option (T38) :=
  match x with
  | (a0, ()) => some (T38.mk a0.1 a0.2 a0.3)
noncomputable def sp21 : FSpec Ty := spec ag21 rs21 F21
theorem bo21 : Try.f21.body = some (bodyOf Try.f21) := by kernel_rfl
theorem nd21 : nodupB ((loopsIn (bodyOf Try.f21)).map firstRegion) = true := by kernel_rfl
theorem ok21 : FOK Try.prog tab 21 sp21 := spec_ok (keeps := kp21) tabOK fs19OK Try.func21 bo21 (by kernel_rfl) nd21 (LSOK.none) (F := F21) fun k x => by kernel_rfl
noncomputable def fs21 : Nat → Option (FSpec Ty) := addF 21 sp21 fs19
theorem fs21OK : SpecsOK Try.prog tab fs21 := fs19OK.add ok21 Try.call21
def ag50 : Args Ty (Int × Unit) := V.arg (tab.den 3) (noArgs)
def rs50 : Res Ty tab (Bool) false := V.oneRes (tab.den 4) (ent 4).ids (ent 4).plain (fun x _ => (ent 4).flat x rfl)
def kp50 : Nat → Keep := fun i => ⟨[], []⟩
/-- "silt/siltref04.Head" -/
def F50 (k : Nat) (x : Int × Unit) : Option (Bool) :=
  match x with
  | (a0, ()) => bif a0 == (0 : Int) then some true else bif a0 == (1 : Int) then some true else bif decide (a0 ≥ (4 : Int)) then some (decide (a0 ≤ (1023 : Int))) else some false
noncomputable def sp50 : FSpec Ty := spec ag50 rs50 F50
theorem bo50 : Try.f50.body = some (bodyOf Try.f50) := by kernel_rfl
theorem nd50 : nodupB ((loopsIn (bodyOf Try.f50)).map firstRegion) = true := by kernel_rfl
theorem ok50 : FOK Try.prog tab 50 sp50 := spec_ok (keeps := kp50) tabOK fs21OK Try.func50 bo50 (by kernel_rfl) nd50 (LSOK.none) (F := F50) fun k x => by kernel_rfl
noncomputable def fs50 : Nat → Option (FSpec Ty) := addF 50 sp50 fs21
theorem fs50OK : SpecsOK Try.prog tab fs50 := fs21OK.add ok50 Try.call50
def ag51 : Args Ty ((List Int) × (List Int) × Unit) := V.arg (tab.den 37) (V.arg (tab.den 37) (noArgs))
def rs51 : Res Ty tab (T107) true := V.oneRes (tab.den 108) (ent 108).ids (ent 108).plain (fun _ h => by cases h)
def of51_3 : Int × Int × Int × List Int × List Int × Int × Bool × List Int → NSt Ty := fun x => ⟨[.ptr 100000 [], .ptr 100001 [], .ptr 100002 [], .int .i64 (x.1), .int .i64 (x.2.1), .int .i64 (x.2.2.1)], [.var (.arr 5 32 (x.2.2.2.1)), .var (.arr 5 32 (x.2.2.2.2.1)), .var (.cons (.int .i64 (x.2.2.2.2.2.1)) (.cons (.row 100003) (.cons (.bool (x.2.2.2.2.2.2.1)) (.nil)))), .row 5 (x.2.2.2.2.2.2.2)]⟩
def ab51_3 : (n : NSt Ty) → Option {x : Int × Int × Int × List Int × List Int × Int × Bool × List Int // of51_3 x = n}
  | ⟨[.ptr 100000 [], .ptr 100001 [], .ptr 100002 [], .int .i64 v0, .int .i64 v1, .int .i64 v2], [.var (.arr 5 32 v3), .var (.arr 5 32 v4), .var (.cons (.int .i64 v5) (.cons (.row 100003) (.cons (.bool v6) (.nil)))), .row 5 v7]⟩ => some ⟨(v0, v1, v2, v3, v4, v5, v6, v7), rfl⟩
  | _ => none
def oe51_3 : Int × Int × List Int × Int × Bool × List Int → Ex := fun _ => .exit 0
def on51_3 : Int × Int × List Int × Int × Bool × List Int → NSt Ty := fun x => ⟨[.ptr 100000 [], .ptr 100001 [], .int .i64 (x.1), .int .i64 (x.2.1)], [.var (.arr 5 32 (x.2.2.1)), .var (.cons (.int .i64 (x.2.2.2.1)) (.cons (.row 100002) (.cons (.bool (x.2.2.2.2.1)) (.nil)))), .row 5 (x.2.2.2.2.2)]⟩
def oa51_3 : (e : Ex) → (n : NSt Ty) → Option {y : Int × Int × List Int × Int × Bool × List Int // oe51_3 y = e ∧ on51_3 y = n}
  | .exit 0, ⟨[.ptr 100000 [], .ptr 100001 [], .int .i64 v0, .int .i64 v1], [.var (.arr 5 32 v2), .var (.cons (.int .i64 v3) (.cons (.row 100002) (.cons (.bool v4) (.nil)))), .row 5 v5]⟩ => some ⟨(v0, v1, v2, v3, v4, v5), rfl, rfl⟩
  | _, _ => none
/-- a round of the loop 3 of function 51 -/
def R51_3 (k : Nat) (again : Int × Int × Int × List Int × List Int × Int × Bool × List Int → Option (Int × Int × List Int × Int × Bool × List Int)) (x : Int × Int × Int × List Int × List Int × Int × Bool × List Int) : Option (Int × Int × List Int × Int × Bool × List Int) :=
  match x with
  | (v0, v1, v2, v3, v4, v5, v6, v7) => bif decide (v2 < (32 : Int)) then bif inRange v2 (32 : Nat) then bif inRange v2 (32 : Nat) then bif v3.getD v2.toNat (0 : Int) != v4.getD v2.toNat (0 : Int) then bif decide (v0 < (0 : Int)) then again (v2, v2, IntKind.i64.wrap (v2 + (1 : Int)), v3, v4, v5, v6, v7) else again (v0, v2, IntKind.i64.wrap (v2 + (1 : Int)), v3, v4, v5, v6, v7) else again (v0, v1, IntKind.i64.wrap (v2 + (1 : Int)), v3, v4, v5, v6, v7) else none else none else some (v0, v1, v4, v5, v6, v7)
def L51_3 (k n : Nat) (x : Int × Int × Int × List Int × List Int × Int × Bool × List Int) : Option (Int × Int × List Int × Int × Bool × List Int) := iterR (R51_3 k) n x
noncomputable def ls51_3 : Nat → Option (LSum Ty) := addL 3 (LSum.of of51_3 ab51_3 L51_3 oe51_3 on51_3) noL
def kp51 : Nat → Keep := fun i => cond (i == 3) ⟨[2, 3, 4, 5, 6, 7], [3, 4, 5, 6]⟩ (⟨[], []⟩)
/-- "silt/siltref07.Diff" -/
def F51 (k : Nat) (x : (List Int) × (List Int) × Unit) : Option (T107) :=
  match x with
  | (a0, a1, ()) => (L51_3 k k ((-1 : Int), (-1 : Int), (0 : Int), a0, a1, (0 : Int), false, [])).bind fun r => bif decide (r.fst < (0 : Int)) then some (T107.mk (0 : Int) [] false) else bif decide (IntKind.i64.wrap (IntKind.i64.wrap (r.snd.fst - r.fst) + (1 : Int)) > (16 : Int)) then some (T107.mk (0 : Int) [] false) else bif decide ((0 : Int) ≤ r.fst) && decide (r.fst ≤ IntKind.i64.wrap (r.snd.fst + (1 : Int))) && decide (IntKind.i64.wrap (r.snd.fst + (1 : Int)) ≤ (↑(32 : Nat) : Int)) then bif decide ((List.replicate (0 : Nat) (0 : Int)).length + (List.take (IntKind.i64.wrap (r.snd.fst + (1 : Int)) - r.fst).toNat (List.drop r.fst.toNat r.snd.snd.fst)).length ≤ roomMost) then some (T107.mk r.fst (List.replicate (0 : Nat) (0 : Int) ++ List.take (IntKind.i64.wrap (r.snd.fst + (1 : Int)) - r.fst).toNat (List.drop r.fst.toNat r.snd.snd.fst)) true) else none else none
noncomputable def sp51 : FSpec Ty := spec ag51 rs51 F51
theorem bo51 : Try.f51.body = some (bodyOf Try.f51) := by kernel_rfl
theorem nd51 : nodupB ((loopsIn (bodyOf Try.f51)).map firstRegion) = true := by kernel_rfl
theorem lo51_3 : LSOK fs50 kp51 tab Try.f51 ls51_3 := lsum_ok bo51 nd51 (LSOK.none) oa51_3 (R := R51_3) fun k again x => by kernel_rfl
theorem ok51 : FOK Try.prog tab 51 sp51 := spec_ok (keeps := kp51) tabOK fs50OK Try.func51 bo51 (by kernel_rfl) nd51 (lo51_3) (F := F51) fun k x => by kernel_rfl
noncomputable def fs51 : Nat → Option (FSpec Ty) := addF 51 sp51 fs50
theorem fs51OK : SpecsOK Try.prog tab fs51 := fs50OK.add ok51 Try.call51
def ag23 : Args Ty (Int × (List Int) × Unit) := V.arg (tab.den 3) (V.arg (tab.den 37) (noArgs))
def rs23 : Res Ty tab (T46 × Int × Unit) true := V.manyRes (V.part (tab.den 47) (ent 47).ids (ent 47).plain (fun _ h => by cases h) (V.part (tab.den 3) (ent 3).ids (ent 3).plain (fun _ h => by cases h) (noParts)))
def kp23 : Nat → Keep := fun i => ⟨[], []⟩
/-- "silt/siltref18.Whole" -/
def F23 (k : Nat) (x : Int × (List Int) × Unit) : Option (T46 × Int × Unit) :=
  match x with
  | (a0, a1, ()) => bif decide (a0 < (0 : Int)) then some (T46.mk (T40.mk (0 : Int) (0 : Int)) (T44.mk (0 : Int) (0 : Int) (List.replicate (32 : Nat) (0 : Int)) (0 : Int) [] (0 : Int) (List.replicate (8 : Nat) (0 : Int))), (1 : Int), ()) else bif decide (a0 ≥ (64 : Int)) then some (T46.mk (T40.mk (0 : Int) (0 : Int)) (T44.mk (0 : Int) (0 : Int) (List.replicate (32 : Nat) (0 : Int)) (0 : Int) [] (0 : Int) (List.replicate (8 : Nat) (0 : Int))), (1 : Int), ()) else some (T46.mk (T40.mk (1 : Int) a0) (T44.mk (1 : Int) a0 a1 (0 : Int) [] (0 : Int) (List.replicate (8 : Nat) (0 : Int))), (0 : Int), ())
noncomputable def sp23 : FSpec Ty := spec ag23 rs23 F23
theorem bo23 : Try.f23.body = some (bodyOf Try.f23) := by kernel_rfl
theorem nd23 : nodupB ((loopsIn (bodyOf Try.f23)).map firstRegion) = true := by kernel_rfl
theorem ok23 : FOK Try.prog tab 23 sp23 := spec_ok (keeps := kp23) tabOK fs51OK Try.func23 bo23 (by kernel_rfl) nd23 (LSOK.none) (F := F23) fun k x => by kernel_rfl
noncomputable def fs23 : Nat → Option (FSpec Ty) := addF 23 sp23 fs51
theorem fs23OK : SpecsOK Try.prog tab fs23 := fs51OK.add ok23 Try.call23
def ag20 : Args Ty (Int × T38 × (List Int) × Unit) := V.arg (tab.den 3) (V.arg (tab.den 52) (V.arg (tab.den 37) (noArgs)))
def rs20 : Res Ty tab (T46 × Int × Unit) true := V.manyRes (V.part (tab.den 47) (ent 47).ids (ent 47).plain (fun _ h => by cases h) (V.part (tab.den 3) (ent 3).ids (ent 3).plain (fun _ h => by cases h) (noParts)))
def kp20 : Nat → Keep := fun i => ⟨[], []⟩
/-- "silt/siltref18.Item" -/
def F20 (k : Nat) (x : Int × T38 × (List Int) × Unit) : Option (T46 × Int × Unit) :=
  match x with
  | (a0, a1, a2, ()) => bif decide (a0 < (0 : Int)) then some (T46.mk (T40.mk (0 : Int) (0 : Int)) (T44.mk (0 : Int) (0 : Int) (List.replicate (32 : Nat) (0 : Int)) (0 : Int) [] (0 : Int) (List.replicate (8 : Nat) (0 : Int))), (1 : Int), ()) else bif decide (a0 ≥ (64 : Int)) then some (T46.mk (T40.mk (0 : Int) (0 : Int)) (T44.mk (0 : Int) (0 : Int) (List.replicate (32 : Nat) (0 : Int)) (0 : Int) [] (0 : Int) (List.replicate (8 : Nat) (0 : Int))), (1 : Int), ()) else (F50 k (a1.1, ())).bind fun r => bif !r then some (T46.mk (T40.mk (0 : Int) (0 : Int)) (T44.mk (0 : Int) (0 : Int) (List.replicate (32 : Nat) (0 : Int)) (0 : Int) [] (0 : Int) (List.replicate (8 : Nat) (0 : Int))), (1 : Int), ()) else bif decide (a1.2 < (0 : Int)) then some (T46.mk (T40.mk (0 : Int) (0 : Int)) (T44.mk (0 : Int) (0 : Int) (List.replicate (32 : Nat) (0 : Int)) (0 : Int) [] (0 : Int) (List.replicate (8 : Nat) (0 : Int))), (1 : Int), ()) else bif decide (a1.2 > (3 : Int)) then some (T46.mk (T40.mk (0 : Int) (0 : Int)) (T44.mk (0 : Int) (0 : Int) (List.replicate (32 : Nat) (0 : Int)) (0 : Int) [] (0 : Int) (List.replicate (8 : Nat) (0 : Int))), (1 : Int), ()) else bif !(a1.2 == (0 : Int)) == decide (a1.1 ≤ (1 : Int)) then some (T46.mk (T40.mk (0 : Int) (0 : Int)) (T44.mk (0 : Int) (0 : Int) (List.replicate (32 : Nat) (0 : Int)) (0 : Int) [] (0 : Int) (List.replicate (8 : Nat) (0 : Int))), (1 : Int), ()) else bif a1.1 != (0 : Int) then bif decide (a1.3 = a2) then some (T46.mk (T40.mk (0 : Int) (0 : Int)) (T44.mk (0 : Int) (0 : Int) (List.replicate (32 : Nat) (0 : Int)) (0 : Int) [] (0 : Int) (List.replicate (8 : Nat) (0 : Int))), (17 : Int), ()) else (F51 k (a1.3, a2, ())).bind fun r => bif a1.1 != (0 : Int) then bif decide (a1.2 < (3 : Int)) then bif r.3 then some (T46.mk (T40.mk (2 : Int) a0) (T44.mk (2 : Int) a0 (List.replicate (32 : Nat) (0 : Int)) r.1 r.2 a1.1 (List.replicate (8 : Nat) (0 : Int))), (0 : Int), ()) else (F23 k (a0, a2, ())).bind fun r => some (T46.mk (T40.mk r.fst.1.1 r.fst.1.2) (T44.mk r.fst.2.1 r.fst.2.2 r.fst.2.3 r.fst.2.4 r.fst.2.5 r.fst.2.6 r.fst.2.7), r.snd.fst, ()) else (F23 k (a0, a2, ())).bind fun r => some (T46.mk (T40.mk r.fst.1.1 r.fst.1.2) (T44.mk r.fst.2.1 r.fst.2.2 r.fst.2.3 r.fst.2.4 r.fst.2.5 r.fst.2.6 r.fst.2.7), r.snd.fst, ()) else (F23 k (a0, a2, ())).bind fun r => some (T46.mk (T40.mk r.fst.1.1 r.fst.1.2) (T44.mk r.fst.2.1 r.fst.2.2 r.fst.2.3 r.fst.2.4 r.fst.2.5 r.fst.2.6 r.fst.2.7), r.snd.fst, ()) else (F51 k (a1.3, a2, ())).bind fun r => bif a1.1 != (0 : Int) then bif decide (a1.2 < (3 : Int)) then bif r.3 then some (T46.mk (T40.mk (2 : Int) a0) (T44.mk (2 : Int) a0 (List.replicate (32 : Nat) (0 : Int)) r.1 r.2 a1.1 (List.replicate (8 : Nat) (0 : Int))), (0 : Int), ()) else (F23 k (a0, a2, ())).bind fun r => some (T46.mk (T40.mk r.fst.1.1 r.fst.1.2) (T44.mk r.fst.2.1 r.fst.2.2 r.fst.2.3 r.fst.2.4 r.fst.2.5 r.fst.2.6 r.fst.2.7), r.snd.fst, ()) else (F23 k (a0, a2, ())).bind fun r => some (T46.mk (T40.mk r.fst.1.1 r.fst.1.2) (T44.mk r.fst.2.1 r.fst.2.2 r.fst.2.3 r.fst.2.4 r.fst.2.5 r.fst.2.6 r.fst.2.7), r.snd.fst, ()) else (F23 k (a0, a2, ())).bind fun r => some (T46.mk (T40.mk r.fst.1.1 r.fst.1.2) (T44.mk r.fst.2.1 r.fst.2.2 r.fst.2.3 r.fst.2.4 r.fst.2.5 r.fst.2.6 r.fst.2.7), r.snd.fst, ())
noncomputable def sp20 : FSpec Ty := spec ag20 rs20 F20
theorem bo20 : Try.f20.body = some (bodyOf Try.f20) := by kernel_rfl
theorem nd20 : nodupB ((loopsIn (bodyOf Try.f20)).map firstRegion) = true := by kernel_rfl
theorem ok20 : FOK Try.prog tab 20 sp20 := spec_ok (keeps := kp20) tabOK fs23OK Try.func20 bo20 (by kernel_rfl) nd20 (LSOK.none) (F := F20) fun k x => by kernel_rfl
noncomputable def fs20 : Nat → Option (FSpec Ty) := addF 20 sp20 fs23
theorem fs20OK : SpecsOK Try.prog tab fs20 := fs23OK.add ok20 Try.call20
def ag39 : Args Ty ((List Int) × (List Int) × Unit) := V.arg (tab.den 42) (V.arg (tab.den 42) (noArgs))
def rs39 : Res Ty tab (Bool) false := V.oneRes (tab.den 4) (ent 4).ids (ent 4).plain (fun x _ => (ent 4).flat x rfl)
def kp39 : Nat → Keep := fun i => ⟨[], []⟩
/-- "silt/siltkeep.Bytes" -/
def F39 (k : Nat) (x : (List Int) × (List Int) × Unit) : Option (Bool) :=
  match x with
  | (a0, a1, ()) => some ((bytesStr (List.map (fun x => x) a0)).toList == (bytesStr (List.map (fun x => x) a1)).toList)
noncomputable def sp39 : FSpec Ty := spec ag39 rs39 F39
theorem bo39 : Try.f39.body = some (bodyOf Try.f39) := by kernel_rfl
theorem nd39 : nodupB ((loopsIn (bodyOf Try.f39)).map firstRegion) = true := by kernel_rfl
theorem ok39 : FOK Try.prog tab 39 sp39 := spec_ok (keeps := kp39) tabOK fs20OK Try.func39 bo39 (by kernel_rfl) nd39 (LSOK.none) (F := F39) fun k x => by kernel_rfl
noncomputable def fs39 : Nat → Option (FSpec Ty) := addF 39 sp39 fs20
theorem fs39OK : SpecsOK Try.prog tab fs39 := fs20OK.add ok39 Try.call39
def ag53 : Args Ty (T44 × T44 × Unit) := V.arg (tab.den 45) (V.arg (tab.den 45) (noArgs))
def rs53 : Res Ty tab (Bool) false := V.oneRes (tab.den 4) (ent 4).ids (ent 4).plain (fun x _ => (ent 4).flat x rfl)
def kp53 : Nat → Keep := fun i => ⟨[], []⟩
/-- "silt/siltkeep.Block" -/
def F53 (k : Nat) (x : T44 × T44 × Unit) : Option (Bool) :=
  match x with
  | (a0, a1, ()) => bif a0.1 == a1.1 then bif a0.2 == a1.2 then bif decide (a0.3 = a1.3) then bif a0.4 == a1.4 then (F39 k (a0.5, a1.5, ())).bind fun r => bif r then bif a0.6 == a1.6 then some (decide (a0.7 = a1.7)) else some false else some false else some false else some false else some false else some false
noncomputable def sp53 : FSpec Ty := spec ag53 rs53 F53
theorem bo53 : Try.f53.body = some (bodyOf Try.f53) := by kernel_rfl
theorem nd53 : nodupB ((loopsIn (bodyOf Try.f53)).map firstRegion) = true := by kernel_rfl
theorem ok53 : FOK Try.prog tab 53 sp53 := spec_ok (keeps := kp53) tabOK fs39OK Try.func53 bo53 (by kernel_rfl) nd53 (LSOK.none) (F := F53) fun k x => by kernel_rfl
noncomputable def fs53 : Nat → Option (FSpec Ty) := addF 53 sp53 fs39
theorem fs53OK : SpecsOK Try.prog tab fs53 := fs39OK.add ok53 Try.call53
def ag24 : Args Ty ((List T46) × (List T46) × Unit) := V.arg (tab.den 57) (V.arg (tab.den 57) (noArgs))
def rs24 : Res Ty tab (Bool) false := V.oneRes (tab.den 4) (ent 4).ids (ent 4).plain (fun x _ => (ent 4).flat x rfl)
def of24_4 : List T46 × List T46 × Int → NSt Ty := fun x => ⟨[.slice 47 (x.1), .slice 47 (x.2.1), .int .i64 (x.2.2)], []⟩
def ab24_4 : (n : NSt Ty) → Option {x : List T46 × List T46 × Int // of24_4 x = n}
  | ⟨[.slice 47 v0, .slice 47 v1, .int .i64 v2], []⟩ => some ⟨(v0, v1, v2), rfl⟩
  | _ => none
def on24_4a : Bool → NSt Ty := fun x => ⟨[.bool (x)], []⟩
def on24_4b : Unit → NSt Ty := fun x => ⟨[.undef], []⟩
def oa24_4 : (e : Ex) → (n : NSt Ty) → Option {y : (Bool) ⊕ (Unit) // oe2 .ret (.exit 0) y = e ∧ on2 on24_4a on24_4b y = n}
  | .ret, ⟨[.bool v0], []⟩ => some ⟨.inl v0, rfl, rfl⟩
  | .exit 0, ⟨[.undef], []⟩ => some ⟨.inr (), rfl, rfl⟩
  | _, _ => none
/-- a round of the loop 4 of function 24 -/
def R24_4 (k : Nat) (again : List T46 × List T46 × Int → Option ((Bool) ⊕ (Unit))) (x : List T46 × List T46 × Int) : Option ((Bool) ⊕ (Unit)) :=
  match x with
  | (v0, v1, v2) => bif decide (v2 < (↑v0.length : Int)) then bif inRange v2 v0.length then bif inRange v2 v1.length then bif !((v0.getD v2.toNat (T46.mk (T40.mk (0 : Int) (0 : Int)) (T44.mk (0 : Int) (0 : Int) (List.replicate (32 : Nat) (0 : Int)) (0 : Int) [] (0 : Int) (List.replicate (8 : Nat) (0 : Int))))).1.1 == (v1.getD v2.toNat (T46.mk (T40.mk (0 : Int) (0 : Int)) (T44.mk (0 : Int) (0 : Int) (List.replicate (32 : Nat) (0 : Int)) (0 : Int) [] (0 : Int) (List.replicate (8 : Nat) (0 : Int))))).1.1 && ((v0.getD v2.toNat (T46.mk (T40.mk (0 : Int) (0 : Int)) (T44.mk (0 : Int) (0 : Int) (List.replicate (32 : Nat) (0 : Int)) (0 : Int) [] (0 : Int) (List.replicate (8 : Nat) (0 : Int))))).1.2 == (v1.getD v2.toNat (T46.mk (T40.mk (0 : Int) (0 : Int)) (T44.mk (0 : Int) (0 : Int) (List.replicate (32 : Nat) (0 : Int)) (0 : Int) [] (0 : Int) (List.replicate (8 : Nat) (0 : Int))))).1.2 && true)) then some (Sum.inl false) else bif inRange v2 v0.length then bif inRange v2 v1.length then (F53 k (T44.mk (v0.getD v2.toNat (T46.mk (T40.mk (0 : Int) (0 : Int)) (T44.mk (0 : Int) (0 : Int) (List.replicate (32 : Nat) (0 : Int)) (0 : Int) [] (0 : Int) (List.replicate (8 : Nat) (0 : Int))))).2.1 (v0.getD v2.toNat (T46.mk (T40.mk (0 : Int) (0 : Int)) (T44.mk (0 : Int) (0 : Int) (List.replicate (32 : Nat) (0 : Int)) (0 : Int) [] (0 : Int) (List.replicate (8 : Nat) (0 : Int))))).2.2 (v0.getD v2.toNat (T46.mk (T40.mk (0 : Int) (0 : Int)) (T44.mk (0 : Int) (0 : Int) (List.replicate (32 : Nat) (0 : Int)) (0 : Int) [] (0 : Int) (List.replicate (8 : Nat) (0 : Int))))).2.3 (v0.getD v2.toNat (T46.mk (T40.mk (0 : Int) (0 : Int)) (T44.mk (0 : Int) (0 : Int) (List.replicate (32 : Nat) (0 : Int)) (0 : Int) [] (0 : Int) (List.replicate (8 : Nat) (0 : Int))))).2.4 (v0.getD v2.toNat (T46.mk (T40.mk (0 : Int) (0 : Int)) (T44.mk (0 : Int) (0 : Int) (List.replicate (32 : Nat) (0 : Int)) (0 : Int) [] (0 : Int) (List.replicate (8 : Nat) (0 : Int))))).2.5 (v0.getD v2.toNat (T46.mk (T40.mk (0 : Int) (0 : Int)) (T44.mk (0 : Int) (0 : Int) (List.replicate (32 : Nat) (0 : Int)) (0 : Int) [] (0 : Int) (List.replicate (8 : Nat) (0 : Int))))).2.6 (v0.getD v2.toNat (T46.mk (T40.mk (0 : Int) (0 : Int)) (T44.mk (0 : Int) (0 : Int) (List.replicate (32 : Nat) (0 : Int)) (0 : Int) [] (0 : Int) (List.replicate (8 : Nat) (0 : Int))))).2.7, T44.mk (v1.getD v2.toNat (T46.mk (T40.mk (0 : Int) (0 : Int)) (T44.mk (0 : Int) (0 : Int) (List.replicate (32 : Nat) (0 : Int)) (0 : Int) [] (0 : Int) (List.replicate (8 : Nat) (0 : Int))))).2.1 (v1.getD v2.toNat (T46.mk (T40.mk (0 : Int) (0 : Int)) (T44.mk (0 : Int) (0 : Int) (List.replicate (32 : Nat) (0 : Int)) (0 : Int) [] (0 : Int) (List.replicate (8 : Nat) (0 : Int))))).2.2 (v1.getD v2.toNat (T46.mk (T40.mk (0 : Int) (0 : Int)) (T44.mk (0 : Int) (0 : Int) (List.replicate (32 : Nat) (0 : Int)) (0 : Int) [] (0 : Int) (List.replicate (8 : Nat) (0 : Int))))).2.3 (v1.getD v2.toNat (T46.mk (T40.mk (0 : Int) (0 : Int)) (T44.mk (0 : Int) (0 : Int) (List.replicate (32 : Nat) (0 : Int)) (0 : Int) [] (0 : Int) (List.replicate (8 : Nat) (0 : Int))))).2.4 (v1.getD v2.toNat (T46.mk (T40.mk (0 : Int) (0 : Int)) (T44.mk (0 : Int) (0 : Int) (List.replicate (32 : Nat) (0 : Int)) (0 : Int) [] (0 : Int) (List.replicate (8 : Nat) (0 : Int))))).2.5 (v1.getD v2.toNat (T46.mk (T40.mk (0 : Int) (0 : Int)) (T44.mk (0 : Int) (0 : Int) (List.replicate (32 : Nat) (0 : Int)) (0 : Int) [] (0 : Int) (List.replicate (8 : Nat) (0 : Int))))).2.6 (v1.getD v2.toNat (T46.mk (T40.mk (0 : Int) (0 : Int)) (T44.mk (0 : Int) (0 : Int) (List.replicate (32 : Nat) (0 : Int)) (0 : Int) [] (0 : Int) (List.replicate (8 : Nat) (0 : Int))))).2.7, ())).bind fun r => bif !r then some (Sum.inl false) else again (v0, v1, IntKind.i64.wrap (v2 + (1 : Int))) else none else none else none else none else some (Sum.inr ())
def L24_4 (k n : Nat) (x : List T46 × List T46 × Int) : Option ((Bool) ⊕ (Unit)) := iterR (R24_4 k) n x
noncomputable def ls24_4 : Nat → Option (LSum Ty) := addL 4 (lsum2 of24_4 ab24_4 L24_4 .ret on24_4a (.exit 0) on24_4b) noL
def kp24 : Nat → Keep := fun i => cond (i == 4) ⟨[0, 1, 5], [4]⟩ (⟨[], []⟩)
/-- "silt/siltkeep.Items" -/
def F24 (k : Nat) (x : (List T46) × (List T46) × Unit) : Option (Bool) :=
  match x with
  | (a0, a1, ()) => bif (↑a0.length : Int) != (↑a1.length : Int) then some false else (L24_4 k k (a0, a1, (0 : Int))).bind fun r => sumK r (fun a => some a) fun b => some true
noncomputable def sp24 : FSpec Ty := spec ag24 rs24 F24
theorem bo24 : Try.f24.body = some (bodyOf Try.f24) := by kernel_rfl
theorem nd24 : nodupB ((loopsIn (bodyOf Try.f24)).map firstRegion) = true := by kernel_rfl
theorem lo24_4 : LSOK fs53 kp24 tab Try.f24 ls24_4 := lsum2_ok bo24 nd24 (LSOK.none) oa24_4 (R := R24_4) fun k again x => by kernel_rfl
theorem ok24 : FOK Try.prog tab 24 sp24 := spec_ok (keeps := kp24) tabOK fs53OK Try.func24 bo24 (by kernel_rfl) nd24 (lo24_4) (F := F24) fun k x => by kernel_rfl
noncomputable def fs24 : Nat → Option (FSpec Ty) := addF 24 sp24 fs53
theorem fs24OK : SpecsOK Try.prog tab fs24 := fs53OK.add ok24 Try.call24
def ag54 : Args Ty (Int × Unit) := V.arg (tab.den 5) (noArgs)
def rs54 : Res Ty tab ((List Int)) false := V.oneRes (tab.den 37) (ent 37).ids (ent 37).plain (fun x _ => (ent 37).flat x rfl)
def of54_3 : Int × Int × List Int × List Int → NSt Ty := fun x => ⟨[.int .u8 (x.1), .ptr 100000 [], .ptr 100001 [], .int .i64 (x.2.1)], [.var (.arr 5 32 (x.2.2.1)), .var (.arr 5 32 (x.2.2.2))]⟩
def ab54_3 : (n : NSt Ty) → Option {x : Int × Int × List Int × List Int // of54_3 x = n}
  | ⟨[.int .u8 v0, .ptr 100000 [], .ptr 100001 [], .int .i64 v1], [.var (.arr 5 32 v2), .var (.arr 5 32 v3)]⟩ => some ⟨(v0, v1, v2, v3), rfl⟩
  | _ => none
def oe54_3 : List Int × List Int → Ex := fun _ => .exit 0
def on54_3 : List Int × List Int → NSt Ty := fun x => ⟨[.ptr 100000 [], .ptr 100001 []], [.var (.arr 5 32 (x.1)), .var (.arr 5 32 (x.2))]⟩
def oa54_3 : (e : Ex) → (n : NSt Ty) → Option {y : List Int × List Int // oe54_3 y = e ∧ on54_3 y = n}
  | .exit 0, ⟨[.ptr 100000 [], .ptr 100001 []], [.var (.arr 5 32 v0), .var (.arr 5 32 v1)]⟩ => some ⟨(v0, v1), rfl, rfl⟩
  | _, _ => none
/-- a round of the loop 3 of function 54 -/
def R54_3 (k : Nat) (again : Int × Int × List Int × List Int → Option (List Int × List Int)) (x : Int × Int × List Int × List Int) : Option (List Int × List Int) :=
  match x with
  | (v0, v1, v2, v3) => bif decide (v1 < (32 : Int)) then bif inRange v1 (32 : Nat) then again (v0, IntKind.i64.wrap (v1 + (1 : Int)), v2, v3.set v1.toNat v0) else none else some (v2, v3)
def L54_3 (k n : Nat) (x : Int × Int × List Int × List Int) : Option (List Int × List Int) := iterR (R54_3 k) n x
noncomputable def ls54_3 : Nat → Option (LSum Ty) := addL 3 (LSum.of of54_3 ab54_3 L54_3 oe54_3 on54_3) noL
def kp54 : Nat → Keep := fun i => cond (i == 3) ⟨[0, 2, 3, 4], [2, 3]⟩ (⟨[], []⟩)
/-- "silt/siltkeep.Leaf" -/
def F54 (k : Nat) (x : Int × Unit) : Option ((List Int)) :=
  match x with
  | (a0, ()) => (L54_3 k k (a0, (0 : Int), List.replicate (32 : Nat) (0 : Int), List.replicate (32 : Nat) (0 : Int))).bind fun r => some r.snd
noncomputable def sp54 : FSpec Ty := spec ag54 rs54 F54
theorem bo54 : Try.f54.body = some (bodyOf Try.f54) := by kernel_rfl
theorem nd54 : nodupB ((loopsIn (bodyOf Try.f54)).map firstRegion) = true := by kernel_rfl
theorem lo54_3 : LSOK fs24 kp54 tab Try.f54 ls54_3 := lsum_ok bo54 nd54 (LSOK.none) oa54_3 (R := R54_3) fun k again x => by kernel_rfl
theorem ok54 : FOK Try.prog tab 54 sp54 := spec_ok (keeps := kp54) tabOK fs24OK Try.func54 bo54 (by kernel_rfl) nd54 (lo54_3) (F := F54) fun k x => by kernel_rfl
noncomputable def fs54 : Nat → Option (FSpec Ty) := addF 54 sp54 fs24
theorem fs54OK : SpecsOK Try.prog tab fs54 := fs24OK.add ok54 Try.call54
def ag25 : Args Ty (Unit) := noArgs
def rs25 : Res Ty tab (Bool) false := V.oneRes (tab.den 4) (ent 4).ids (ent 4).plain (fun x _ => (ent 4).flat x rfl)
def kp25 : Nat → Keep := fun i => ⟨[], []⟩
/-- "silt/siltlaw18.wakes" -/
def F25 (k : Nat) (x : Unit) : Option (Bool) :=
  match x with
  | () => (F54 k ((7 : Int), ())).bind fun r => (F54 k ((7 : Int), ())).bind fun r_1 => (F19 k ((5 : Int), T38.mk (30 : Int) (1 : Int) r_1, r.set (Int.toNat (3 : Int)) (9 : Int), ())).bind fun r_2 => (F54 k ((7 : Int), ())).bind fun r_3 => (F19 k ((5 : Int), T38.mk (30 : Int) (3 : Int) r_3, r.set (Int.toNat (3 : Int)) (9 : Int), ())).bind fun r_4 => (F19 k ((5 : Int), T38.mk (30 : Int) (1 : Int) (r.set (Int.toNat (3 : Int)) (9 : Int)), r.set (Int.toNat (3 : Int)) (9 : Int), ())).bind fun r_5 => (F22 k ((64 : Int), r.set (Int.toNat (3 : Int)) (9 : Int), ())).bind fun r_6 => bif r_2.snd.fst == (0 : Int) then bif r_2.fst.1.1 == (2 : Int) then bif r_2.fst.2.4 == (3 : Int) then bif r_2.fst.2.6 == (30 : Int) then bif r_4.snd.fst == (0 : Int) then bif r_4.fst.1.1 == (1 : Int) then bif decide (r_4.fst.2.3 = r.set (Int.toNat (3 : Int)) (9 : Int)) then bif r_5.snd.fst == (17 : Int) then some (r_6.snd.fst == (1 : Int)) else some false else some false else some false else some false else some false else some false else some false else some false
noncomputable def sp25 : FSpec Ty := spec ag25 rs25 F25
theorem bo25 : Try.f25.body = some (bodyOf Try.f25) := by kernel_rfl
theorem nd25 : nodupB ((loopsIn (bodyOf Try.f25)).map firstRegion) = true := by kernel_rfl
theorem ok25 : FOK Try.prog tab 25 sp25 := spec_ok (keeps := kp25) tabOK fs54OK Try.func25 bo25 (by kernel_rfl) nd25 (LSOK.none) (F := F25) fun k x => by kernel_rfl
noncomputable def fs25 : Nat → Option (FSpec Ty) := addF 25 sp25 fs54
theorem fs25OK : SpecsOK Try.prog tab fs25 := fs54OK.add ok25 Try.call25
def ag6 : Args Ty (Int × T38 × (List Int) × Unit) := V.arg (tab.den 3) (V.arg (tab.den 39) (V.arg (tab.den 37) (noArgs)))
def rs6 : Res Ty tab (Bool) false := V.oneRes (tab.den 4) (ent 4).ids (ent 4).plain (fun x _ => (ent 4).flat x rfl)
def kp6 : Nat → Keep := fun i => ⟨[], []⟩
/-- "silt/siltlaw18.PolicyTells" -/
def F6 (k : Nat) (x : Int × T38 × (List Int) × Unit) : Option (Bool) :=
  match x with
  | (a0, a1, a2, ()) => (F19 k (a0, T38.mk a1.1 a1.2 a1.3, a2, ())).bind fun r => (F21 k (T38.mk a1.1 a1.2 a1.3, ())).bind fun r_1 => (F20 k (a0, T38.mk r_1.1 r_1.2 r_1.3, a2, ())).bind fun r_2 => (F22 k (a0, a2, ())).bind fun r_3 => (F23 k (a0, a2, ())).bind fun r_4 => (F24 k ((List.replicate (1 : Nat) (T46.mk (T40.mk (0 : Int) (0 : Int)) (T44.mk (0 : Int) (0 : Int) (List.replicate (32 : Nat) (0 : Int)) (0 : Int) [] (0 : Int) (List.replicate (8 : Nat) (0 : Int))))).set (0 : Nat) (T46.mk (T40.mk r.fst.1.1 r.fst.1.2) (T44.mk r.fst.2.1 r.fst.2.2 r.fst.2.3 r.fst.2.4 r.fst.2.5 r.fst.2.6 r.fst.2.7)), (List.replicate (1 : Nat) (T46.mk (T40.mk (0 : Int) (0 : Int)) (T44.mk (0 : Int) (0 : Int) (List.replicate (32 : Nat) (0 : Int)) (0 : Int) [] (0 : Int) (List.replicate (8 : Nat) (0 : Int))))).set (0 : Nat) (T46.mk (T40.mk r_2.fst.1.1 r_2.fst.1.2) (T44.mk r_2.fst.2.1 r_2.fst.2.2 r_2.fst.2.3 r_2.fst.2.4 r_2.fst.2.5 r_2.fst.2.6 r_2.fst.2.7)), ())).bind fun r_5 => bif r_5 then bif r.snd.fst == r_2.snd.fst then (F24 k ((List.replicate (1 : Nat) (T46.mk (T40.mk (0 : Int) (0 : Int)) (T44.mk (0 : Int) (0 : Int) (List.replicate (32 : Nat) (0 : Int)) (0 : Int) [] (0 : Int) (List.replicate (8 : Nat) (0 : Int))))).set (0 : Nat) (T46.mk (T40.mk r_3.fst.1.1 r_3.fst.1.2) (T44.mk r_3.fst.2.1 r_3.fst.2.2 r_3.fst.2.3 r_3.fst.2.4 r_3.fst.2.5 r_3.fst.2.6 r_3.fst.2.7)), (List.replicate (1 : Nat) (T46.mk (T40.mk (0 : Int) (0 : Int)) (T44.mk (0 : Int) (0 : Int) (List.replicate (32 : Nat) (0 : Int)) (0 : Int) [] (0 : Int) (List.replicate (8 : Nat) (0 : Int))))).set (0 : Nat) (T46.mk (T40.mk r_4.fst.1.1 r_4.fst.1.2) (T44.mk r_4.fst.2.1 r_4.fst.2.2 r_4.fst.2.3 r_4.fst.2.4 r_4.fst.2.5 r_4.fst.2.6 r_4.fst.2.7)), ())).bind fun r => bif r then bif r_3.snd.fst == r_4.snd.fst then (F25 k ()).bind fun r => some r else some false else some false else some false else some false
noncomputable def sp6 : FSpec Ty := spec ag6 rs6 F6
theorem bo6 : Try.f6.body = some (bodyOf Try.f6) := by kernel_rfl
theorem nd6 : nodupB ((loopsIn (bodyOf Try.f6)).map firstRegion) = true := by kernel_rfl
theorem ok6 : FOK Try.prog tab 6 sp6 := spec_ok (keeps := kp6) tabOK fs25OK Try.func6 bo6 (by kernel_rfl) nd6 (LSOK.none) (F := F6) fun k x => by kernel_rfl
noncomputable def fs6 : Nat → Option (FSpec Ty) := addF 6 sp6 fs25
theorem fs6OK : SpecsOK Try.prog tab fs6 := fs25OK.add ok6 Try.call6
end Go.Proofs.Ytpnnmpdjgnbkhaa.W
