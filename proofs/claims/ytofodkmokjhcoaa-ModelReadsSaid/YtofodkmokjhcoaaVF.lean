/-
  The functions that the statement reaches, as typed functions, and that the program computes them. No conditions. Printed by program.
-/
import Derived.Test.YtofodkmokjhcoaaVI
set_option linter.unusedVariables false
namespace Go.Proofs.Ytofodkmokjhcoaa.W
open Go Go.Proofs V
theorem noFOK : SpecsOK Try.prog tab noF := SpecsOK.none cmpOK asOK
def ag24 : Args Ty (Unit) := noArgs
def rs24 : Res Ty tab (T22) false := V.oneRes (tab.den 23) (ent 23).ids (ent 23).plain (fun x _ => (ent 23).flat x rfl)
def kp24 : Nat → Keep := fun i => ⟨[], [], 0⟩
/-- "silt/siltlaw03.Small" -/
def F24 (k : Nat) (x : Unit) : Option (T22) :=
  match x with
  | () => some (T22.mk (16 : Int) (8 : Int) (24 : Int) (4 : Int))
noncomputable def sp24 : FSpec Ty := spec ag24 rs24 F24
theorem bo24 : Try.f24.body = some (bodyOf Try.f24) := by kernel_rfl
theorem nd24 : nodupB ((loopsIn (bodyOf Try.f24)).map firstRegion) = true := by kernel_rfl
theorem ok24 : FOK Try.prog tab 24 sp24 := spec_ok (keeps := kp24) tabOK noFOK Try.func24 bo24 (by kernel_rfl) nd24 (LSOK.none) (F := F24) fun k x => by kernel_rfl
noncomputable def fs24 : Nat → Option (FSpec Ty) := addF 24 sp24 noF
theorem fs24OK : SpecsOK Try.prog tab fs24 := noFOK.add ok24 Try.call24
def ag26 : Args Ty (T22 × Unit) := V.arg (tab.den 23) (noArgs)
def rs26 : Res Ty tab (Bool) false := V.oneRes (tab.den 4) (ent 4).ids (ent 4).plain (fun x _ => (ent 4).flat x rfl)
def kp26 : Nat → Keep := fun i => ⟨[], [], 0⟩
/-- "silt/plan.Good" -/
def F26 (k : Nat) (x : T22 × Unit) : Option (Bool) :=
  match x with
  | (a0, ()) => bif decide (a0.1 ≥ (1 : Int)) then bif decide (a0.1 ≤ (64 : Int)) then bif decide (a0.2 ≥ (6 : Int)) then bif decide (a0.2 ≤ (16 : Int)) then bif decide (a0.3 ≥ (24 : Int)) then bif decide (a0.3 ≤ (32 : Int)) then bif decide (a0.4 ≥ (2 : Int)) then some (decide (a0.4 ≤ (16 : Int))) else some false else some false else some false else some false else some false else some false else some false
noncomputable def sp26 : FSpec Ty := spec ag26 rs26 F26
theorem bo26 : Try.f26.body = some (bodyOf Try.f26) := by kernel_rfl
theorem nd26 : nodupB ((loopsIn (bodyOf Try.f26)).map firstRegion) = true := by kernel_rfl
theorem ok26 : FOK Try.prog tab 26 sp26 := spec_ok (keeps := kp26) tabOK fs24OK Try.func26 bo26 (by kernel_rfl) nd26 (LSOK.none) (F := F26) fun k x => by kernel_rfl
noncomputable def fs26 : Nat → Option (FSpec Ty) := addF 26 sp26 fs24
theorem fs26OK : SpecsOK Try.prog tab fs26 := fs24OK.add ok26 Try.call26
def ag42 : Args Ty (T22 × Unit) := V.arg (tab.den 23) (noArgs)
def rs42 : Res Ty tab (Int) false := V.oneRes (tab.den 3) (ent 3).ids (ent 3).plain (fun x _ => (ent 3).flat x rfl)
def kp42 : Nat → Keep := fun i => ⟨[], [], 0⟩
/-- "silt/plan.Maps" -/
def F42 (k : Nat) (x : T22 × Unit) : Option (Int) :=
  match x with
  | (a0, ()) => (F26 k (T22.mk a0.1 a0.2 a0.3 a0.4, ())).bind fun r => bif !r then some (0 : Int) else some (IntKind.i64.wrap (IntKind.i64.wrap ((IntKind.i64.wrap (a0.1 - (1 : Int))).tdiv (8 : Int)) + (1 : Int)))
noncomputable def sp42 : FSpec Ty := spec ag42 rs42 F42
theorem bo42 : Try.f42.body = some (bodyOf Try.f42) := by kernel_rfl
theorem nd42 : nodupB ((loopsIn (bodyOf Try.f42)).map firstRegion) = true := by kernel_rfl
theorem ok42 : FOK Try.prog tab 42 sp42 := spec_ok (keeps := kp42) tabOK fs26OK Try.func42 bo42 (by kernel_rfl) nd42 (LSOK.none) (F := F42) fun k x => by kernel_rfl
noncomputable def fs42 : Nat → Option (FSpec Ty) := addF 42 sp42 fs26
theorem fs42OK : SpecsOK Try.prog tab fs42 := fs26OK.add ok42 Try.call42
def ag27 : Args Ty (T22 × Unit) := V.arg (tab.den 23) (noArgs)
def rs27 : Res Ty tab (Int) false := V.oneRes (tab.den 3) (ent 3).ids (ent 3).plain (fun x _ => (ent 3).flat x rfl)
def kp27 : Nat → Keep := fun i => ⟨[], [], 0⟩
/-- "silt/plan.Cap" -/
def F27 (k : Nat) (x : T22 × Unit) : Option (Int) :=
  match x with
  | (a0, ()) => (F26 k (T22.mk a0.1 a0.2 a0.3 a0.4, ())).bind fun r => bif !r then some (0 : Int) else (F42 k (T22.mk a0.1 a0.2 a0.3 a0.4, ())).bind fun r => some (if (if IntKind.i64.wrap ((IntKind.i64.wrap (IntKind.i64.wrap ((4 : Int) * IntKind.i64.wrap (a0.2 - (4 : Int))) - r)).tdiv (3 : Int)) < a0.1 then IntKind.i64.wrap ((IntKind.i64.wrap (IntKind.i64.wrap ((4 : Int) * IntKind.i64.wrap (a0.2 - (4 : Int))) - r)).tdiv (3 : Int)) else a0.1) > (0 : Int) then if IntKind.i64.wrap ((IntKind.i64.wrap (IntKind.i64.wrap ((4 : Int) * IntKind.i64.wrap (a0.2 - (4 : Int))) - r)).tdiv (3 : Int)) < a0.1 then IntKind.i64.wrap ((IntKind.i64.wrap (IntKind.i64.wrap ((4 : Int) * IntKind.i64.wrap (a0.2 - (4 : Int))) - r)).tdiv (3 : Int)) else a0.1 else (0 : Int))
noncomputable def sp27 : FSpec Ty := spec ag27 rs27 F27
theorem bo27 : Try.f27.body = some (bodyOf Try.f27) := by kernel_rfl
theorem nd27 : nodupB ((loopsIn (bodyOf Try.f27)).map firstRegion) = true := by kernel_rfl
theorem ok27 : FOK Try.prog tab 27 sp27 := spec_ok (keeps := kp27) tabOK fs42OK Try.func27 bo27 (by kernel_rfl) nd27 (LSOK.none) (F := F27) fun k x => by kernel_rfl
noncomputable def fs27 : Nat → Option (FSpec Ty) := addF 27 sp27 fs42
theorem fs27OK : SpecsOK Try.prog tab fs27 := fs42OK.add ok27 Try.call27
def ag58 : Args Ty ((List Int) × Unit) := V.arg (tab.den 57) (noArgs)
def rs58 : Res Ty tab (Int) false := V.oneRes (tab.den 3) (ent 3).ids (ent 3).plain (fun x _ => (ent 3).flat x rfl)
def of58_3 : Int × List Int × Int × Int → NSt Ty := fun x => ⟨[.int .i64 (x.1), .slice 3 (x.2.1), .int .i64 (x.2.2.1), .int .i64 (x.2.2.2)], []⟩
def ab58_3 : (n : NSt Ty) → Option {x : Int × List Int × Int × Int // of58_3 x = n}
  | ⟨[.int .i64 v0, .slice 3 v1, .int .i64 v2, .int .i64 v3], []⟩ => some ⟨(v0, v1, v2, v3), rfl⟩
  | _ => none
def oe58_3 : Int → Ex := fun _ => .exit 0
def on58_3 : Int → NSt Ty := fun x => ⟨[.int .i64 (x)], []⟩
def oa58_3 : (e : Ex) → (n : NSt Ty) → Option {y : Int // oe58_3 y = e ∧ on58_3 y = n}
  | .exit 0, ⟨[.int .i64 v0], []⟩ => some ⟨v0, rfl, rfl⟩
  | _, _ => none
/-- a round of the loop 3 of function 58 -/
def R58_3 (k : Nat) (again : Int × List Int × Int × Int → Option (Int)) (x : Int × List Int × Int × Int) : Option (Int) :=
  match x with
  | (v0, v1, v2, v3) => bif decide (v3 < v2) then bif inRange v3 v1.length then bif v1.getD v3.toNat (0 : Int) != (0 : Int) then again (IntKind.i64.wrap (v0 + (1 : Int)), v1, v2, IntKind.i64.wrap (v3 + (1 : Int))) else again (v0, v1, v2, IntKind.i64.wrap (v3 + (1 : Int))) else none else some v0
def L58_3 (k n : Nat) (x : Int × List Int × Int × Int) : Option (Int) := iterR (R58_3 k) n x
def kp58 : Nat → Keep := fun i => cond (i == 3) ⟨[3, 6, 7, 8], [3], 0⟩ (⟨[], [], 0⟩)
/-- "silt/heads.Count" -/
def F58 (k : Nat) (x : (List Int) × Unit) : Option (Int) :=
  match x with
  | (a0, ()) => (L58_3 k k ((0 : Int), a0, (↑a0.length : Int), (0 : Int))).bind fun r => some r
noncomputable def sp58 : FSpec Ty := spec ag58 rs58 F58
theorem bo58 : Try.f58.body = some (bodyOf Try.f58) := by kernel_rfl
theorem nd58 : nodupB ((loopsIn (bodyOf Try.f58)).map firstRegion) = true := by kernel_rfl
noncomputable def ls58_3 : Nat → Option (LSum Ty) := addL 3 (LSum.of of58_3 ab58_3 L58_3 oe58_3 on58_3) noL
theorem lo58_3 : LSOK fs27 kp58 tab Try.f58 ls58_3 := lsum_ok bo58 nd58 (LSOK.none) oa58_3 (R := R58_3) fun k again x => by kernel_rfl
theorem ok58 : FOK Try.prog tab 58 sp58 := spec_ok (keeps := kp58) tabOK fs27OK Try.func58 bo58 (by kernel_rfl) nd58 (lo58_3) (F := F58) fun k x => by kernel_rfl
noncomputable def fs58 : Nat → Option (FSpec Ty) := addF 58 sp58 fs27
theorem fs58OK : SpecsOK Try.prog tab fs58 := fs27OK.add ok58 Try.call58
def ag59 : Args Ty (Int × ByteArray × Unit) := V.arg (tab.den 28) (V.arg (tab.den 9) (noArgs))
def rs59 : Res Ty tab (GErr) true := V.oneRes (tab.den 101) (ent 101).ids (ent 101).plain (fun _ h => by cases h)
def kp59 : Nat → Keep := fun i => ⟨[], [], 0⟩
/-- "silt/fault.New" -/
def F59 (k : Nat) (x : Int × ByteArray × Unit) : Option (GErr) :=
  match x with
  | (a0, a1, ()) => bif a0 == (0 : Int) then some GErr.nil else some (GErr.flt a1 (GErr.num a0) false)
noncomputable def sp59 : FSpec Ty := spec ag59 rs59 F59
theorem bo59 : Try.f59.body = some (bodyOf Try.f59) := by kernel_rfl
theorem nd59 : nodupB ((loopsIn (bodyOf Try.f59)).map firstRegion) = true := by kernel_rfl
theorem ok59 : FOK Try.prog tab 59 sp59 := spec_ok (keeps := kp59) tabOK fs58OK Try.func59 bo59 (by kernel_rfl) nd59 (LSOK.none) (F := F59) fun k x => by kernel_rfl
noncomputable def fs59 : Nat → Option (FSpec Ty) := addF 59 sp59 fs58
theorem fs59OK : SpecsOK Try.prog tab fs59 := fs58OK.add ok59 Try.call59
def ag53 : Args Ty ((List Int) × Int × Unit) := V.arg (tab.den 57) (V.arg (tab.den 3) (noArgs))
def rs53 : Res Ty tab (Int) false := V.oneRes (tab.den 3) (ent 3).ids (ent 3).plain (fun x _ => (ent 3).flat x rfl)
def of53_2 : List Int × Int × Int × Int → NSt Ty := fun x => ⟨[.slice 3 (x.1), .int .i64 (x.2.1), .int .i64 (x.2.2.1), .int .i64 (x.2.2.2)], []⟩
def ab53_2 : (n : NSt Ty) → Option {x : List Int × Int × Int × Int // of53_2 x = n}
  | ⟨[.slice 3 v0, .int .i64 v1, .int .i64 v2, .int .i64 v3], []⟩ => some ⟨(v0, v1, v2, v3), rfl⟩
  | _ => none
def on53_2a : Int → NSt Ty := fun x => ⟨[.int .i64 (x)], []⟩
def on53_2b : Unit → NSt Ty := fun x => ⟨[.undef], []⟩
def oa53_2 : (e : Ex) → (n : NSt Ty) → Option {y : (Int) ⊕ (Unit) // oe2 .ret (.exit 0) y = e ∧ on2 on53_2a on53_2b y = n}
  | .ret, ⟨[.int .i64 v0], []⟩ => some ⟨.inl v0, rfl, rfl⟩
  | .exit 0, ⟨[.undef], []⟩ => some ⟨.inr (), rfl, rfl⟩
  | _, _ => none
/-- a round of the loop 2 of function 53 -/
def R53_2 (k : Nat) (again : List Int × Int × Int × Int → Option ((Int) ⊕ (Unit))) (x : List Int × Int × Int × Int) : Option ((Int) ⊕ (Unit)) :=
  match x with
  | (v0, v1, v2, v3) => bif decide (v3 < v2) then bif inRange v3 v0.length then bif v1 == v0.getD v3.toNat (0 : Int) then some (Sum.inl v3) else again (v0, v1, v2, IntKind.i64.wrap (v3 + (1 : Int))) else none else some (Sum.inr ())
def L53_2 (k n : Nat) (x : List Int × Int × Int × Int) : Option ((Int) ⊕ (Unit)) := iterR (R53_2 k) n x
def kp53 : Nat → Keep := fun i => cond (i == 2) ⟨[0, 1, 7, 8], [4], 0⟩ (⟨[], [], 0⟩)
/-- "slices.Index[[]int,int]" -/
def F53 (k : Nat) (x : (List Int) × Int × Unit) : Option (Int) :=
  match x with
  | (a0, a1, ()) => (L53_2 k k (a0, a1, (↑a0.length : Int), (0 : Int))).bind fun r => sumK r (fun a => some a) fun b => some (-1 : Int)
noncomputable def sp53 : FSpec Ty := spec ag53 rs53 F53
theorem bo53 : Try.f53.body = some (bodyOf Try.f53) := by kernel_rfl
theorem nd53 : nodupB ((loopsIn (bodyOf Try.f53)).map firstRegion) = true := by kernel_rfl
noncomputable def ls53_2 : Nat → Option (LSum Ty) := addL 2 (lsum2 of53_2 ab53_2 L53_2 .ret on53_2a (.exit 0) on53_2b) noL
theorem lo53_2 : LSOK fs59 kp53 tab Try.f53 ls53_2 := lsum2_ok bo53 nd53 (LSOK.none) oa53_2 (R := R53_2) fun k again x => by kernel_rfl
theorem ok53 : FOK Try.prog tab 53 sp53 := spec_ok (keeps := kp53) tabOK fs59OK Try.func53 bo53 (by kernel_rfl) nd53 (lo53_2) (F := F53) fun k x => by kernel_rfl
noncomputable def fs53 : Nat → Option (FSpec Ty) := addF 53 sp53 fs59
theorem fs53OK : SpecsOK Try.prog tab fs53 := fs59OK.add ok53 Try.call53
def ag60 : Args Ty ((List Int) × Int × Unit) := V.arg (tab.den 57) (V.arg (tab.den 3) (noArgs))
def rs60 : Res Ty tab (Bool) false := V.oneRes (tab.den 4) (ent 4).ids (ent 4).plain (fun x _ => (ent 4).flat x rfl)
def kp60 : Nat → Keep := fun i => ⟨[], [], 0⟩
/-- "slices.Contains[[]int,int]" -/
def F60 (k : Nat) (x : (List Int) × Int × Unit) : Option (Bool) :=
  match x with
  | (a0, a1, ()) => (F53 k (a0, a1, ())).bind fun r => some (decide (r ≥ (0 : Int)))
noncomputable def sp60 : FSpec Ty := spec ag60 rs60 F60
theorem bo60 : Try.f60.body = some (bodyOf Try.f60) := by kernel_rfl
theorem nd60 : nodupB ((loopsIn (bodyOf Try.f60)).map firstRegion) = true := by kernel_rfl
theorem ok60 : FOK Try.prog tab 60 sp60 := spec_ok (keeps := kp60) tabOK fs53OK Try.func60 bo60 (by kernel_rfl) nd60 (LSOK.none) (F := F60) fun k x => by kernel_rfl
noncomputable def fs60 : Nat → Option (FSpec Ty) := addF 60 sp60 fs53
theorem fs60OK : SpecsOK Try.prog tab fs60 := fs53OK.add ok60 Try.call60
def ag52 : Args Ty ((List Int) × Int × Unit) := V.arg (tab.den 57) (V.arg (tab.den 3) (noArgs))
def rs52 : Res Ty tab (GErr) true := V.oneRes (tab.den 101) (ent 101).ids (ent 101).plain (fun _ h => by cases h)
def kp52 : Nat → Keep := fun i => ⟨[], [], 0⟩
/-- "silt/heads.room" -/
def F52 (k : Nat) (x : (List Int) × Int × Unit) : Option (GErr) :=
  match x with
  | (a0, a1, ()) => (F58 k (a0, ())).bind fun r => bif decide (r ≥ a1) then (F59 k ((14 : Int), ByteArray.mk (Array.mk [(109 : UInt8), (111 : UInt8), (115 : UInt8), (116 : UInt8)]), ())).bind fun r => some r else (F60 k (a0, (0 : Int), ())).bind fun r => bif !r then (F59 k ((14 : Int), ByteArray.mk (Array.mk [(97 : UInt8), (108 : UInt8), (108 : UInt8)]), ())).bind fun r => some r else some GErr.nil
noncomputable def sp52 : FSpec Ty := spec ag52 rs52 F52
theorem bo52 : Try.f52.body = some (bodyOf Try.f52) := by kernel_rfl
theorem nd52 : nodupB ((loopsIn (bodyOf Try.f52)).map firstRegion) = true := by kernel_rfl
theorem ok52 : FOK Try.prog tab 52 sp52 := spec_ok (keeps := kp52) tabOK fs60OK Try.func52 bo52 (by kernel_rfl) nd52 (LSOK.none) (F := F52) fun k x => by kernel_rfl
noncomputable def fs52 : Nat → Option (FSpec Ty) := addF 52 sp52 fs60
theorem fs52OK : SpecsOK Try.prog tab fs52 := fs60OK.add ok52 Try.call52
def ag51 : Args Ty (GErr × GErr × Unit) := V.arg (tab.den 101) (V.arg (tab.den 101) noArgs)
def rs51 : Res Ty tab Bool false := V.oneRes (tab.den 4) (ent 4).ids (ent 4).plain (fun x _ => (ent 4).flat x rfl)
/-- errors.Is -/
def F51 : Nat → (GErr × GErr × Unit) → Option Bool := errIsF
noncomputable def sp51 : FSpec Ty := spec ag51 rs51 F51
theorem ok51 : FOK Try.prog tab 51 sp51 := errIs_ok (A := ag51) (B := rs51) (fun _ _ => rfl) (fun _ => rfl) (fun _ _ n e x h => is_calls n e x h)
noncomputable def fs51 : Nat → Option (FSpec Ty) := addF 51 sp51 fs52
theorem fs51OK : SpecsOK Try.prog tab fs51 := fs52OK.add ok51 Try.call51
def ag43 : Args Ty ((List Int) × Int × Unit) := V.arg (tab.den 57) (V.arg (tab.den 3) (noArgs))
def rs43 : Res Ty tab (Int × Int × Unit) false := V.manyRes (V.part (tab.den 3) (ent 3).ids (ent 3).plain (fun x _ => (ent 3).flat x rfl) (V.part (tab.den 28) (ent 28).ids (ent 28).plain (fun x _ => (ent 28).flat x rfl) (noParts)))
def kp43 : Nat → Keep := fun i => ⟨[], [], 0⟩
/-- "silt/heads.Least" -/
def F43 (k : Nat) (x : (List Int) × Int × Unit) : Option (Int × Int × Unit) :=
  match x with
  | (a0, a1, ()) => (F52 k (a0, a1, ())).bind fun r => (F51 k (r, GErr.num (14 : Int), ())).bind fun r => bif r then some ((0 : Int), (14 : Int), ()) else (F53 k (a0, (0 : Int), ())).bind fun r => some (r, (0 : Int), ())
noncomputable def sp43 : FSpec Ty := spec ag43 rs43 F43
theorem bo43 : Try.f43.body = some (bodyOf Try.f43) := by kernel_rfl
theorem nd43 : nodupB ((loopsIn (bodyOf Try.f43)).map firstRegion) = true := by kernel_rfl
theorem ok43 : FOK Try.prog tab 43 sp43 := spec_ok (keeps := kp43) tabOK fs51OK Try.func43 bo43 (by kernel_rfl) nd43 (LSOK.none) (F := F43) fun k x => by kernel_rfl
noncomputable def fs43 : Nat → Option (FSpec Ty) := addF 43 sp43 fs51
theorem fs43OK : SpecsOK Try.prog tab fs43 := fs51OK.add ok43 Try.call43
theorem bo29 : Try.f29.body = some (bodyOf Try.f29) := by kernel_rfl
theorem nd29 : nodupB ((loopsIn (bodyOf Try.f29)).map firstRegion) = true := by kernel_rfl
noncomputable def sp29 : FSpec Ty := primSpec (clonePrim tab 3)
theorem ok29 : FOK Try.prog tab 29 sp29 := clonePrim_ok tabOK noFOK Try.func29 bo29 (by kernel_rfl) nd29 rfl (by kernel_rfl) (fun xs => by kernel_rfl)
noncomputable def fs29 : Nat → Option (FSpec Ty) := addF 29 sp29 fs43
theorem fs29OK : SpecsOK Try.prog tab fs29 := fs43OK.add ok29 Try.call29
theorem bo30 : Try.f30.body = some (bodyOf Try.f30) := by kernel_rfl
theorem nd30 : nodupB ((loopsIn (bodyOf Try.f30)).map firstRegion) = true := by kernel_rfl
noncomputable def sp30 : FSpec Ty := primSpec (clonePrim tab 50)
theorem ok30 : FOK Try.prog tab 30 sp30 := clonePrim_ok tabOK noFOK Try.func30 bo30 (by kernel_rfl) nd30 rfl (by kernel_rfl) (fun xs => by kernel_rfl)
noncomputable def fs30 : Nat → Option (FSpec Ty) := addF 30 sp30 fs29
theorem fs30OK : SpecsOK Try.prog tab fs30 := fs29OK.add ok30 Try.call30
def ag50 : Args Ty ((List Int) × Int × Unit) := V.arg (tab.den 57) (V.arg (tab.den 3) (noArgs))
def rs50 : Res Ty tab (Int) false := V.oneRes (tab.den 3) (ent 3).ids (ent 3).plain (fun x _ => (ent 3).flat x rfl)
def kp50 : Nat → Keep := fun i => ⟨[], [], 0⟩
/-- "silt/heads.at" -/
def F50 (k : Nat) (x : (List Int) × Int × Unit) : Option (Int) :=
  match x with
  | (a0, a1, ()) => bif decide (a1 < (↑a0.length : Int)) then bif inRange a1 a0.length then some (a0.getD a1.toNat (0 : Int)) else none else some (0 : Int)
noncomputable def sp50 : FSpec Ty := spec ag50 rs50 F50
theorem bo50 : Try.f50.body = some (bodyOf Try.f50) := by kernel_rfl
theorem nd50 : nodupB ((loopsIn (bodyOf Try.f50)).map firstRegion) = true := by kernel_rfl
theorem ok50 : FOK Try.prog tab 50 sp50 := spec_ok (keeps := kp50) tabOK fs30OK Try.func50 bo50 (by kernel_rfl) nd50 (LSOK.none) (F := F50) fun k x => by kernel_rfl
noncomputable def fs50 : Nat → Option (FSpec Ty) := addF 50 sp50 fs30
theorem fs50OK : SpecsOK Try.prog tab fs50 := fs30OK.add ok50 Try.call50
def ag25 : Args Ty ((List Int) × (List Int) × Unit) := V.arg (tab.den 57) (V.arg (tab.den 57) (noArgs))
def rs25 : Res Ty tab (Bool) false := V.oneRes (tab.den 4) (ent 4).ids (ent 4).plain (fun x _ => (ent 4).flat x rfl)
def of25_4 : List Int × List Int × Int → NSt Ty := fun x => ⟨[.slice 3 (x.1), .slice 3 (x.2.1), .int .i64 (x.2.2)], []⟩
def ab25_4 : (n : NSt Ty) → Option {x : List Int × List Int × Int // of25_4 x = n}
  | ⟨[.slice 3 v0, .slice 3 v1, .int .i64 v2], []⟩ => some ⟨(v0, v1, v2), rfl⟩
  | _ => none
def on25_4a : Bool → NSt Ty := fun x => ⟨[.bool (x)], []⟩
def on25_4b : Unit → NSt Ty := fun x => ⟨[.undef], []⟩
def oa25_4 : (e : Ex) → (n : NSt Ty) → Option {y : (Bool) ⊕ (Unit) // oe2 .ret (.exit 0) y = e ∧ on2 on25_4a on25_4b y = n}
  | .ret, ⟨[.bool v0], []⟩ => some ⟨.inl v0, rfl, rfl⟩
  | .exit 0, ⟨[.undef], []⟩ => some ⟨.inr (), rfl, rfl⟩
  | _, _ => none
/-- a round of the loop 4 of function 25 -/
def R25_4 (k : Nat) (again : List Int × List Int × Int → Option ((Bool) ⊕ (Unit))) (x : List Int × List Int × Int) : Option ((Bool) ⊕ (Unit)) :=
  match x with
  | (v0, v1, v2) => bif decide (v2 < (↑v0.length : Int)) then bif inRange v2 v0.length then bif inRange v2 v1.length then bif v0.getD v2.toNat (0 : Int) != v1.getD v2.toNat (0 : Int) then some (Sum.inl false) else again (v0, v1, IntKind.i64.wrap (v2 + (1 : Int))) else none else none else some (Sum.inr ())
def L25_4 (k n : Nat) (x : List Int × List Int × Int) : Option ((Bool) ⊕ (Unit)) := iterR (R25_4 k) n x
def kp25 : Nat → Keep := fun i => cond (i == 4) ⟨[0, 1, 5], [4], 0⟩ (⟨[], [], 0⟩)
/-- "silt/siltkeep.Ints" -/
def F25 (k : Nat) (x : (List Int) × (List Int) × Unit) : Option (Bool) :=
  match x with
  | (a0, a1, ()) => bif (↑a0.length : Int) != (↑a1.length : Int) then some false else (L25_4 k k (a0, a1, (0 : Int))).bind fun r => sumK r (fun a => some a) fun b => some true
noncomputable def sp25 : FSpec Ty := spec ag25 rs25 F25
theorem bo25 : Try.f25.body = some (bodyOf Try.f25) := by kernel_rfl
theorem nd25 : nodupB ((loopsIn (bodyOf Try.f25)).map firstRegion) = true := by kernel_rfl
noncomputable def ls25_4 : Nat → Option (LSum Ty) := addL 4 (lsum2 of25_4 ab25_4 L25_4 .ret on25_4a (.exit 0) on25_4b) noL
theorem lo25_4 : LSOK fs50 kp25 tab Try.f25 ls25_4 := lsum2_ok bo25 nd25 (LSOK.none) oa25_4 (R := R25_4) fun k again x => by kernel_rfl
theorem ok25 : FOK Try.prog tab 25 sp25 := spec_ok (keeps := kp25) tabOK fs50OK Try.func25 bo25 (by kernel_rfl) nd25 (lo25_4) (F := F25) fun k x => by kernel_rfl
noncomputable def fs25 : Nat → Option (FSpec Ty) := addF 25 sp25 fs50
theorem fs25OK : SpecsOK Try.prog tab fs25 := fs50OK.add ok25 Try.call25
theorem bo9 : Try.f9.body = some (bodyOf Try.f9) := by kernel_rfl
theorem nd9 : nodupB ((loopsIn (bodyOf Try.f9)).map firstRegion) = true := by kernel_rfl
def of9 : Int × Int × Int × Int → NSt Ty := fun x => ⟨[.cons (.int .i64 (x.1)) (.cons (.int .i64 (x.2.1)) (.cons (.int .i64 (x.2.2.1)) (.cons (.int .i64 (x.2.2.2)) (.nil))))], []⟩
def ab9 : (n : NSt Ty) → Option {x : Int × Int × Int × Int // of9 x = n}
  | ⟨[.cons (.int .i64 v0) (.cons (.int .i64 v1) (.cons (.int .i64 v2) (.cons (.int .i64 v3) (.nil))))], []⟩ => some ⟨(v0, v1, v2, v3), rfl⟩
  | _ => none
def on9a : Unit → NSt Ty := fun x => ⟨[.tup (.cons (.nilp) (.cons (.int .i64 1) (.nil)))], []⟩
def on9b : Int × List Int × List (List Int) × List Int × List Int × List Int × List Int → NSt Ty := fun x => ⟨[.tup (.cons (.ptr 100000 []) (.cons (.int .i64 0) (.nil)))], [.var (.cons (.row 100001) (.cons (.row 100002) (.cons (.int .i64 (x.1)) (.cons (.cons (.row 100003) (.cons (.row 100004) (.cons (.row 100005) (.cons (.row 100006) (.nil))))) (.nil))))), .row 3 (x.2.1), .row 50 (x.2.2.1), .row 3 (x.2.2.2.1), .row 3 (x.2.2.2.2.1), .row 3 (x.2.2.2.2.2.1), .row 3 (x.2.2.2.2.2.2)]⟩
def oa9 : (n : NSt Ty) → Option {y : (Unit) ⊕ (Int × List Int × List (List Int) × List Int × List Int × List Int × List Int) // on2 on9a on9b y = n}
  | ⟨[.tup (.cons (.nilp) (.cons (.int .i64 1) (.nil)))], []⟩ => some ⟨.inl (), rfl⟩
  | ⟨[.tup (.cons (.ptr 100000 []) (.cons (.int .i64 0) (.nil)))], [.var (.cons (.row 100001) (.cons (.row 100002) (.cons (.int .i64 v0) (.cons (.cons (.row 100003) (.cons (.row 100004) (.cons (.row 100005) (.cons (.row 100006) (.nil))))) (.nil))))), .row 3 v1, .row 50 v2, .row 3 v3, .row 3 v4, .row 3 v5, .row 3 v6]⟩ => some ⟨.inr (v0, v1, v2, v3, v4, v5, v6), rfl⟩
  | _ => none
def kp9 : Nat → Keep := pinned 0 fun i => ⟨[], [], 0⟩
/-- "silt/model.New"  -/
def F9 (k : Nat) (x : Int × Int × Int × Int) : Option ((Unit) ⊕ (Int × List Int × List (List Int) × List Int × List Int × List Int × List Int)) :=
  match x with
  | (v0, v1, v2, v3) => (F26 k (T22.mk v0 v1 v2 v3, ())).bind fun r => bif !r then some (Sum.inl ()) else bif decide (v0 = v0) && decide ((0 : Int) ≤ v0) && decide (v0 ≤ (↑roomMost : Int)) then bif decide (v0 = v0) && decide ((0 : Int) ≤ v0) && decide (v0 ≤ (↑roomMost : Int)) then (F27 k (T22.mk v0 v1 v2 v3, ())).bind fun r => some (Sum.inr (r, List.replicate v0.toNat (0 : Int), List.replicate v0.toNat (List.replicate (32 : Nat) (0 : Int)), [], [], [], [])) else none else none
noncomputable def sp9 : FSpec Ty := addH2 0 ab9 F9 on9a on9b (noHX false false)
theorem ok9 : FOK Try.prog tab 9 sp9 := addH2_ok (keeps := kp9) tabOK fs25OK Try.func9 bo9 (by kernel_rfl) nd9 (LSOK.none) oa9 (F := F9) (fun k x => by kernel_rfl) (pinned_le (Nat.le_refl _) _) FOK.noneX rfl
noncomputable def fs9 : Nat → Option (FSpec Ty) := addF 9 sp9 fs25
theorem fs9OK : SpecsOK Try.prog tab fs9 := fs25OK.add ok9 Try.call9
theorem bo31 : Try.f31.body = some (bodyOf Try.f31) := by kernel_rfl
theorem nd31 : nodupB ((loopsIn (bodyOf Try.f31)).map firstRegion) = true := by kernel_rfl
def of31 : Int × List Int × List (List Int) × List Int × List Int × List Int × List Int → NSt Ty := fun x => ⟨[.ptr 100000 []], [.var (.cons (.row 100001) (.cons (.row 100002) (.cons (.int .i64 (x.1)) (.cons (.cons (.row 100003) (.cons (.row 100004) (.cons (.row 100005) (.cons (.row 100006) (.nil))))) (.nil))))), .row 3 (x.2.1), .row 50 (x.2.2.1), .row 3 (x.2.2.2.1), .row 3 (x.2.2.2.2.1), .row 3 (x.2.2.2.2.2.1), .row 3 (x.2.2.2.2.2.2)]⟩
def ab31 : (n : NSt Ty) → Option {x : Int × List Int × List (List Int) × List Int × List Int × List Int × List Int // of31 x = n}
  | ⟨[.ptr 100000 []], [.var (.cons (.row 100001) (.cons (.row 100002) (.cons (.int .i64 v0) (.cons (.cons (.row 100003) (.cons (.row 100004) (.cons (.row 100005) (.cons (.row 100006) (.nil))))) (.nil))))), .row 3 v1, .row 50 v2, .row 3 v3, .row 3 v4, .row 3 v5, .row 3 v6]⟩ => some ⟨(v0, v1, v2, v3, v4, v5, v6), rfl⟩
  | _ => none
def on31 : Int × Int × Int × List Int × List Int × List (List Int) × List Int × List Int × List Int × List Int → NSt Ty := fun x => ⟨[.cons (.int .i64 (x.1)) (.cons (.int .i64 (x.2.1)) (.cons (.row 100001) (.nil)))], [.var (.cons (.row 100002) (.cons (.row 100003) (.cons (.int .i64 (x.2.2.1)) (.cons (.cons (.row 100004) (.cons (.row 100005) (.cons (.row 100006) (.cons (.row 100007) (.nil))))) (.nil))))), .row 5 (x.2.2.2.1), .row 3 (x.2.2.2.2.1), .row 50 (x.2.2.2.2.2.1), .row 3 (x.2.2.2.2.2.2.1), .row 3 (x.2.2.2.2.2.2.2.1), .row 3 (x.2.2.2.2.2.2.2.2.1), .row 3 (x.2.2.2.2.2.2.2.2.2)]⟩
def oa31 : (n : NSt Ty) → Option {y : Int × Int × Int × List Int × List Int × List (List Int) × List Int × List Int × List Int × List Int // on31 y = n}
  | ⟨[.cons (.int .i64 v0) (.cons (.int .i64 v1) (.cons (.row 100001) (.nil)))], [.var (.cons (.row 100002) (.cons (.row 100003) (.cons (.int .i64 v2) (.cons (.cons (.row 100004) (.cons (.row 100005) (.cons (.row 100006) (.cons (.row 100007) (.nil))))) (.nil))))), .row 5 v3, .row 3 v4, .row 50 v5, .row 3 v6, .row 3 v7, .row 3 v8, .row 3 v9]⟩ => some ⟨(v0, v1, v2, v3, v4, v5, v6, v7, v8, v9), rfl⟩
  | _ => none
def kp31 : Nat → Keep := pinned 1 fun i => ⟨[], [], 0⟩
/-- "(*silt/model.Model).alloc"  -/
def F31 (k : Nat) (x : Int × List Int × List (List Int) × List Int × List Int × List Int × List Int) : Option (Int × Int × Int × List Int × List Int × List (List Int) × List Int × List Int × List Int × List Int) :=
  match x with
  | (v0, v1, v2, v3, v4, v5, v6) => (F43 k (v1, v0, ())).bind fun r => bif r.snd.fst != (0 : Int) then some (r.snd.fst, (0 : Int), v0, [], v1, v2, v3, v4, v5, v6) else bif inRange r.fst v1.length then bif inRange r.fst v2.length then some ((0 : Int), r.fst, v0, [], v1.set r.fst.toNat (1 : Int), v2.set r.fst.toNat (List.replicate (32 : Nat) (0 : Int)), v3, v4, v5, v6) else none else none
noncomputable def sp31 : FSpec Ty := addH 1 ab31 F31 on31 (noHX false false)
theorem ok31 : FOK Try.prog tab 31 sp31 := addH_ok (keeps := kp31) tabOK fs9OK Try.func31 bo31 (by kernel_rfl) nd31 (LSOK.none) oa31 (F := F31) (fun k x => by kernel_rfl) (pinned_le (Nat.le_refl _) _) FOK.noneX rfl
noncomputable def fs31 : Nat → Option (FSpec Ty) := addF 31 sp31 fs9
theorem fs31OK : SpecsOK Try.prog tab fs31 := fs9OK.add ok31 Try.call31
theorem bo32 : Try.f32.body = some (bodyOf Try.f32) := by kernel_rfl
theorem nd32 : nodupB ((loopsIn (bodyOf Try.f32)).map firstRegion) = true := by kernel_rfl
def of32 : Int × Int × List Int × List (List Int) × List Int × List Int × List Int × List Int → NSt Ty := fun x => ⟨[.ptr 100000 [], .int .i64 (x.1)], [.fvar (.cons (.row 100001) (.cons (.row 100002) (.cons (.int .i64 (x.2.1)) (.cons (.cons (.row 100003) (.cons (.row 100004) (.cons (.row 100005) (.cons (.row 100006) (.nil))))) (.nil))))), .frow 3 (x.2.2.1), .frow 50 (x.2.2.2.1), .frow 3 (x.2.2.2.2.1), .frow 3 (x.2.2.2.2.2.1), .frow 3 (x.2.2.2.2.2.2.1), .frow 3 (x.2.2.2.2.2.2.2)]⟩
def ab32 : (n : NSt Ty) → Option {x : Int × Int × List Int × List (List Int) × List Int × List Int × List Int × List Int // of32 x = n}
  | ⟨[.ptr 100000 [], .int .i64 v0], [.fvar (.cons (.row 100001) (.cons (.row 100002) (.cons (.int .i64 v1) (.cons (.cons (.row 100003) (.cons (.row 100004) (.cons (.row 100005) (.cons (.row 100006) (.nil))))) (.nil))))), .frow 3 v2, .frow 50 v3, .frow 3 v4, .frow 3 v5, .frow 3 v6, .frow 3 v7]⟩ => some ⟨(v0, v1, v2, v3, v4, v5, v6, v7), rfl⟩
  | _ => none
def on32 : Int → NSt Ty := fun x => ⟨[.int .i64 (x)], []⟩
def oa32 : (n : NSt Ty) → Option {y : Int // on32 y = n}
  | ⟨[.int .i64 v0], []⟩ => some ⟨v0, rfl⟩
  | _ => none
def kp32 : Nat → Keep := pinned 0 fun i => ⟨[], [], 0⟩
/-- "(*silt/model.Model).check"  -/
def F32 (k : Nat) (x : Int × Int × List Int × List (List Int) × List Int × List Int × List Int × List Int) : Option (Int) :=
  match x with
  | (v0, v1, v2, v3, v4, v5, v6, v7) => bif decide (v0 < (0 : Int)) then some (16 : Int) else bif decide (v0 ≥ (↑v2.length : Int)) then some (16 : Int) else bif inRange v0 v2.length then bif v2.getD v0.toNat (0 : Int) == (0 : Int) then some (17 : Int) else some (0 : Int) else none
noncomputable def sp32 : FSpec Ty := addH 0 ab32 F32 on32 (noHX false true)
theorem ok32 : FOK Try.prog tab 32 sp32 := addH_ok (keeps := kp32) tabOK fs31OK Try.func32 bo32 (by kernel_rfl) nd32 (LSOK.none) oa32 (F := F32) (fun k x => by kernel_rfl) (pinned_le (Nat.le_refl _) _) FOK.noneX rfl
noncomputable def fs32 : Nat → Option (FSpec Ty) := addF 32 sp32 fs31
theorem fs32OK : SpecsOK Try.prog tab fs32 := fs31OK.add ok32 Try.call32
theorem bo44 : Try.f44.body = some (bodyOf Try.f44) := by kernel_rfl
theorem nd44 : nodupB ((loopsIn (bodyOf Try.f44)).map firstRegion) = true := by kernel_rfl
def of44 : Int × Int × Int × List Int × Int × List Int × List (List Int) × List Int × List Int × List Int × List Int → NSt Ty := fun x => ⟨[.ptr 100000 [], .cons (.int .i64 (x.1)) (.cons (.int .i64 (x.2.1)) (.cons (.int .i64 (x.2.2.1)) (.cons (.slice 5 (x.2.2.2.1)) (.nil))))], [.var (.cons (.row 100001) (.cons (.row 100002) (.cons (.int .i64 (x.2.2.2.2.1)) (.cons (.cons (.row 100003) (.cons (.row 100004) (.cons (.row 100005) (.cons (.row 100006) (.nil))))) (.nil))))), .row 3 (x.2.2.2.2.2.1), .row 50 (x.2.2.2.2.2.2.1), .row 3 (x.2.2.2.2.2.2.2.1), .row 3 (x.2.2.2.2.2.2.2.2.1), .row 3 (x.2.2.2.2.2.2.2.2.2.1), .row 3 (x.2.2.2.2.2.2.2.2.2.2)]⟩
def ab44 : (n : NSt Ty) → Option {x : Int × Int × Int × List Int × Int × List Int × List (List Int) × List Int × List Int × List Int × List Int // of44 x = n}
  | ⟨[.ptr 100000 [], .cons (.int .i64 v0) (.cons (.int .i64 v1) (.cons (.int .i64 v2) (.cons (.slice 5 v3) (.nil))))], [.var (.cons (.row 100001) (.cons (.row 100002) (.cons (.int .i64 v4) (.cons (.cons (.row 100003) (.cons (.row 100004) (.cons (.row 100005) (.cons (.row 100006) (.nil))))) (.nil))))), .row 3 v5, .row 50 v6, .row 3 v7, .row 3 v8, .row 3 v9, .row 3 v10]⟩ => some ⟨(v0, v1, v2, v3, v4, v5, v6, v7, v8, v9, v10), rfl⟩
  | _ => none
def on44 : Int × Int × List Int × List (List Int) × List Int × List Int × List Int × List Int → NSt Ty := fun x => ⟨[.int .i64 (x.1)], [.var (.cons (.row 100001) (.cons (.row 100002) (.cons (.int .i64 (x.2.1)) (.cons (.cons (.row 100003) (.cons (.row 100004) (.cons (.row 100005) (.cons (.row 100006) (.nil))))) (.nil))))), .row 3 (x.2.2.1), .row 50 (x.2.2.2.1), .row 3 (x.2.2.2.2.1), .row 3 (x.2.2.2.2.2.1), .row 3 (x.2.2.2.2.2.2.1), .row 3 (x.2.2.2.2.2.2.2)]⟩
def oa44 : (n : NSt Ty) → Option {y : Int × Int × List Int × List (List Int) × List Int × List Int × List Int × List Int // on44 y = n}
  | ⟨[.int .i64 v0], [.var (.cons (.row 100001) (.cons (.row 100002) (.cons (.int .i64 v1) (.cons (.cons (.row 100003) (.cons (.row 100004) (.cons (.row 100005) (.cons (.row 100006) (.nil))))) (.nil))))), .row 3 v2, .row 50 v3, .row 3 v4, .row 3 v5, .row 3 v6, .row 3 v7]⟩ => some ⟨(v0, v1, v2, v3, v4, v5, v6, v7), rfl⟩
  | _ => none
def kp44 : Nat → Keep := pinned 1 fun i => ⟨[], [], 0⟩
/-- "(*silt/model.Model).write"  -/
def F44 (k : Nat) (x : Int × Int × Int × List Int × Int × List Int × List (List Int) × List Int × List Int × List Int × List Int) : Option (Int × Int × List Int × List (List Int) × List Int × List Int × List Int × List Int) :=
  match x with
  | (v0, v1, v2, v3, v4, v5, v6, v7, v8, v9, v10) => bif decide ((↑v3.length : Int) < (1 : Int)) then some ((18 : Int), v4, v5, v6, v7, v8, v9, v10) else bif decide ((↑v3.length : Int) > (32 : Int)) then some ((18 : Int), v4, v5, v6, v7, v8, v9, v10) else bif decide (v2 < (0 : Int)) then some ((18 : Int), v4, v5, v6, v7, v8, v9, v10) else bif decide (v2 > IntKind.i64.wrap ((32 : Int) - (↑v3.length : Int))) then some ((18 : Int), v4, v5, v6, v7, v8, v9, v10) else bif inRange v1 v6.length then bif decide ((0 : Int) ≤ v2) && decide (v2 ≤ (↑(32 : Nat) : Int)) && decide ((↑(32 : Nat) : Int) ≤ (↑(32 : Nat) : Int)) then some ((0 : Int), v4, v5, v6.set v1.toNat (splice (v6.getD v1.toNat (List.replicate (32 : Nat) (0 : Int))) v3 v2.toNat (min v3.length ((↑(32 : Nat) : Int) - v2).toNat)), v7, v8, v9, v10) else none else none
noncomputable def sp44 : FSpec Ty := addH 1 ab44 F44 on44 (noHX false false)
theorem ok44 : FOK Try.prog tab 44 sp44 := addH_ok (keeps := kp44) tabOK fs32OK Try.func44 bo44 (by kernel_rfl) nd44 (LSOK.none) oa44 (F := F44) (fun k x => by kernel_rfl) (pinned_le (Nat.le_refl _) _) FOK.noneX rfl
noncomputable def fs44 : Nat → Option (FSpec Ty) := addF 44 sp44 fs32
theorem fs44OK : SpecsOK Try.prog tab fs44 := fs32OK.add ok44 Try.call44
theorem bo62 : Try.f62.body = some (bodyOf Try.f62) := by kernel_rfl
theorem nd62 : nodupB ((loopsIn (bodyOf Try.f62)).map firstRegion) = true := by kernel_rfl
def of62 : List Int × Int → NSt Ty := fun x => ⟨[.row 100000, .ptr 100001 []], [.frow 3 (x.1), .fvar (.int .i64 (x.2))]⟩
def ab62 : (n : NSt Ty) → Option {x : List Int × Int // of62 x = n}
  | ⟨[.row 100000, .ptr 100001 []], [.frow 3 v0, .fvar (.int .i64 v1)]⟩ => some ⟨(v0, v1), rfl⟩
  | _ => none
def on62 : Bool → NSt Ty := fun x => ⟨[.bool (x)], []⟩
def oa62 : (n : NSt Ty) → Option {y : Bool // on62 y = n}
  | ⟨[.bool v0], []⟩ => some ⟨v0, rfl⟩
  | _ => none
def kp62 : Nat → Keep := pinned 0 fun i => ⟨[], [], 0⟩
/-- "(*silt/model.Model).pinned$1"  -/
def F62 (k : Nat) (x : List Int × Int) : Option (Bool) :=
  match x with
  | (v0, v1) => (F60 k (v0, v1, ())).bind fun r => some r
noncomputable def sp62 : FSpec Ty := addH 0 ab62 F62 on62 (noHX true true)
theorem ok62 : FOK Try.prog tab 62 sp62 := addH_ok (keeps := kp62) tabOK fs44OK Try.func62 bo62 (by kernel_rfl) nd62 (LSOK.none) oa62 (F := F62) (fun k x => by kernel_rfl) (pinned_le (Nat.le_refl _) _) FOK.noneX rfl
noncomputable def fs62 : Nat → Option (FSpec Ty) := addF 62 sp62 fs44
theorem fs62OK : SpecsOK Try.prog tab fs62 := fs44OK.add ok62 Try.call62
theorem bo63 : Try.f63.body = some (bodyOf Try.f63) := by kernel_rfl
theorem nd63 : nodupB ((loopsIn (bodyOf Try.f63)).map firstRegion) = true := by kernel_rfl
def of63 : Int × Int × List Int × List (List Int) × List Int × List Int × List Int × List Int → NSt Ty := fun x => ⟨[.view 100000 [.fld 3 3] 57 4 0 4, .clo 62 0 (.cons (.ptr 100001 []) (.nil))], [.fvar (.cons (.row 100002) (.cons (.row 100003) (.cons (.int .i64 (x.1)) (.cons (.cons (.row 100004) (.cons (.row 100005) (.cons (.row 100006) (.cons (.row 100007) (.nil))))) (.nil))))), .fvar (.int .i64 (x.2.1)), .frow 3 (x.2.2.1), .frow 50 (x.2.2.2.1), .frow 3 (x.2.2.2.2.1), .frow 3 (x.2.2.2.2.2.1), .frow 3 (x.2.2.2.2.2.2.1), .frow 3 (x.2.2.2.2.2.2.2)]⟩
def ab63 : (n : NSt Ty) → Option {x : Int × Int × List Int × List (List Int) × List Int × List Int × List Int × List Int // of63 x = n}
  | ⟨[.view 100000 [.fld 3 3] 57 4 0 4, .clo 62 0 (.cons (.ptr 100001 []) (.nil))], [.fvar (.cons (.row 100002) (.cons (.row 100003) (.cons (.int .i64 v0) (.cons (.cons (.row 100004) (.cons (.row 100005) (.cons (.row 100006) (.cons (.row 100007) (.nil))))) (.nil))))), .fvar (.int .i64 v1), .frow 3 v2, .frow 50 v3, .frow 3 v4, .frow 3 v5, .frow 3 v6, .frow 3 v7]⟩ => some ⟨(v0, v1, v2, v3, v4, v5, v6, v7), rfl⟩
  | _ => none
def on63 : Int → NSt Ty := fun x => ⟨[.int .i64 (x)], []⟩
def oa63 : (n : NSt Ty) → Option {y : Int // on63 y = n}
  | ⟨[.int .i64 v0], []⟩ => some ⟨v0, rfl⟩
  | _ => none
def kp63 : Nat → Keep := pinned 0 fun i => cond (i == 2) ⟨[0, 1, 7, 8], [4], 0⟩ (⟨[], [], 0⟩)
/-- "slices.IndexFunc[[][]int,[]int]"  -/
def F63 (k : Nat) (x : Int × Int × List Int × List (List Int) × List Int × List Int × List Int × List Int) : Option (Int) :=
  match x with
  | (v0, v1, v2, v3, v4, v5, v6, v7) => bif Nat.ble (5 : Nat) k then (F62 k (v4, v1)).bind fun r => bif r then some (0 : Int) else (F62 k (v5, v1)).bind fun r => bif r then some (IntKind.i64.wrap ((0 : Int) + (1 : Int))) else (F62 k (v6, v1)).bind fun r => bif r then some (IntKind.i64.wrap (IntKind.i64.wrap ((0 : Int) + (1 : Int)) + (1 : Int))) else (F62 k (v7, v1)).bind fun r => bif r then some (IntKind.i64.wrap (IntKind.i64.wrap (IntKind.i64.wrap ((0 : Int) + (1 : Int)) + (1 : Int)) + (1 : Int))) else some (-1 : Int) else none
noncomputable def sp63 : FSpec Ty := addH 0 ab63 F63 on63 (noHX true true)
noncomputable def ls63_2 : Nat → Option (LSum Ty) := addL 2 (LSum.unroll fs62 kp63 noL tab (bodyAt Try.f63 2) 5) noL
theorem lo63_2 : LSOK fs62 kp63 tab Try.f63 ls63_2 := lunroll_ok bo63 nd63 (LSOK.none)
theorem ok63 : FOK Try.prog tab 63 sp63 := addH_ok (keeps := kp63) tabOK fs62OK Try.func63 bo63 (by kernel_rfl) nd63 (lo63_2) oa63 (F := F63) (fun k x => by kernel_rfl) (pinned_le (Nat.le_refl _) _) FOK.noneX rfl
noncomputable def fs63 : Nat → Option (FSpec Ty) := addF 63 sp63 fs62
theorem fs63OK : SpecsOK Try.prog tab fs63 := fs62OK.add ok63 Try.call63
theorem bo61 : Try.f61.body = some (bodyOf Try.f61) := by kernel_rfl
theorem nd61 : nodupB ((loopsIn (bodyOf Try.f61)).map firstRegion) = true := by kernel_rfl
def of61 : Int × Int × List Int × List (List Int) × List Int × List Int × List Int × List Int → NSt Ty := fun x => ⟨[.view 100000 [.fld 3 3] 57 4 0 4, .clo 62 0 (.cons (.ptr 100001 []) (.nil))], [.fvar (.cons (.row 100002) (.cons (.row 100003) (.cons (.int .i64 (x.1)) (.cons (.cons (.row 100004) (.cons (.row 100005) (.cons (.row 100006) (.cons (.row 100007) (.nil))))) (.nil))))), .fvar (.int .i64 (x.2.1)), .frow 3 (x.2.2.1), .frow 50 (x.2.2.2.1), .frow 3 (x.2.2.2.2.1), .frow 3 (x.2.2.2.2.2.1), .frow 3 (x.2.2.2.2.2.2.1), .frow 3 (x.2.2.2.2.2.2.2)]⟩
def ab61 : (n : NSt Ty) → Option {x : Int × Int × List Int × List (List Int) × List Int × List Int × List Int × List Int // of61 x = n}
  | ⟨[.view 100000 [.fld 3 3] 57 4 0 4, .clo 62 0 (.cons (.ptr 100001 []) (.nil))], [.fvar (.cons (.row 100002) (.cons (.row 100003) (.cons (.int .i64 v0) (.cons (.cons (.row 100004) (.cons (.row 100005) (.cons (.row 100006) (.cons (.row 100007) (.nil))))) (.nil))))), .fvar (.int .i64 v1), .frow 3 v2, .frow 50 v3, .frow 3 v4, .frow 3 v5, .frow 3 v6, .frow 3 v7]⟩ => some ⟨(v0, v1, v2, v3, v4, v5, v6, v7), rfl⟩
  | _ => none
def on61 : Bool → NSt Ty := fun x => ⟨[.bool (x)], []⟩
def oa61 : (n : NSt Ty) → Option {y : Bool // on61 y = n}
  | ⟨[.bool v0], []⟩ => some ⟨v0, rfl⟩
  | _ => none
def kp61 : Nat → Keep := pinned 0 fun i => ⟨[], [], 0⟩
/-- "slices.ContainsFunc[[][]int,[]int]"  -/
def F61 (k : Nat) (x : Int × Int × List Int × List (List Int) × List Int × List Int × List Int × List Int) : Option (Bool) :=
  match x with
  | (v0, v1, v2, v3, v4, v5, v6, v7) => (F63 k (v0, v1, v2, v3, v4, v5, v6, v7)).bind fun r => some (decide (r ≥ (0 : Int)))
noncomputable def sp61 : FSpec Ty := addH 0 ab61 F61 on61 (noHX true true)
theorem ok61 : FOK Try.prog tab 61 sp61 := addH_ok (keeps := kp61) tabOK fs63OK Try.func61 bo61 (by kernel_rfl) nd61 (LSOK.none) oa61 (F := F61) (fun k x => by kernel_rfl) (pinned_le (Nat.le_refl _) _) FOK.noneX rfl
noncomputable def fs61 : Nat → Option (FSpec Ty) := addF 61 sp61 fs63
theorem fs61OK : SpecsOK Try.prog tab fs61 := fs63OK.add ok61 Try.call61
theorem bo54 : Try.f54.body = some (bodyOf Try.f54) := by kernel_rfl
theorem nd54 : nodupB ((loopsIn (bodyOf Try.f54)).map firstRegion) = true := by kernel_rfl
def of54 : Int × Int × List Int × List (List Int) × List Int × List Int × List Int × List Int → NSt Ty := fun x => ⟨[.ptr 100000 [], .int .i64 (x.1)], [.fvar (.cons (.row 100001) (.cons (.row 100002) (.cons (.int .i64 (x.2.1)) (.cons (.cons (.row 100003) (.cons (.row 100004) (.cons (.row 100005) (.cons (.row 100006) (.nil))))) (.nil))))), .frow 3 (x.2.2.1), .frow 50 (x.2.2.2.1), .frow 3 (x.2.2.2.2.1), .frow 3 (x.2.2.2.2.2.1), .frow 3 (x.2.2.2.2.2.2.1), .frow 3 (x.2.2.2.2.2.2.2)]⟩
def ab54 : (n : NSt Ty) → Option {x : Int × Int × List Int × List (List Int) × List Int × List Int × List Int × List Int // of54 x = n}
  | ⟨[.ptr 100000 [], .int .i64 v0], [.fvar (.cons (.row 100001) (.cons (.row 100002) (.cons (.int .i64 v1) (.cons (.cons (.row 100003) (.cons (.row 100004) (.cons (.row 100005) (.cons (.row 100006) (.nil))))) (.nil))))), .frow 3 v2, .frow 50 v3, .frow 3 v4, .frow 3 v5, .frow 3 v6, .frow 3 v7]⟩ => some ⟨(v0, v1, v2, v3, v4, v5, v6, v7), rfl⟩
  | _ => none
def on54 : Bool → NSt Ty := fun x => ⟨[.bool (x)], []⟩
def oa54 : (n : NSt Ty) → Option {y : Bool // on54 y = n}
  | ⟨[.bool v0], []⟩ => some ⟨v0, rfl⟩
  | _ => none
def kp54 : Nat → Keep := pinned 0 fun i => ⟨[], [], 0⟩
/-- "(*silt/model.Model).pinned"  -/
def F54 (k : Nat) (x : Int × Int × List Int × List (List Int) × List Int × List Int × List Int × List Int) : Option (Bool) :=
  match x with
  | (v0, v1, v2, v3, v4, v5, v6, v7) => (F61 k (v1, v0, v2, v3, v4, v5, v6, v7)).bind fun r => some r
noncomputable def sp54 : FSpec Ty := addH 0 ab54 F54 on54 (noHX false true)
theorem ok54 : FOK Try.prog tab 54 sp54 := addH_ok (keeps := kp54) tabOK fs61OK Try.func54 bo54 (by kernel_rfl) nd54 (LSOK.none) oa54 (F := F54) (fun k x => by kernel_rfl) (pinned_le (Nat.le_refl _) _) FOK.noneX rfl
noncomputable def fs54 : Nat → Option (FSpec Ty) := addF 54 sp54 fs61
theorem fs54OK : SpecsOK Try.prog tab fs54 := fs61OK.add ok54 Try.call54
theorem bo45 : Try.f45.body = some (bodyOf Try.f45) := by kernel_rfl
theorem nd45 : nodupB ((loopsIn (bodyOf Try.f45)).map firstRegion) = true := by kernel_rfl
def of45 : Int × Int × List Int × List (List Int) × List Int × List Int × List Int × List Int → NSt Ty := fun x => ⟨[.ptr 100000 [], .int .i64 (x.1)], [.var (.cons (.row 100001) (.cons (.row 100002) (.cons (.int .i64 (x.2.1)) (.cons (.cons (.row 100003) (.cons (.row 100004) (.cons (.row 100005) (.cons (.row 100006) (.nil))))) (.nil))))), .row 3 (x.2.2.1), .row 50 (x.2.2.2.1), .row 3 (x.2.2.2.2.1), .row 3 (x.2.2.2.2.2.1), .row 3 (x.2.2.2.2.2.2.1), .row 3 (x.2.2.2.2.2.2.2)]⟩
def ab45 : (n : NSt Ty) → Option {x : Int × Int × List Int × List (List Int) × List Int × List Int × List Int × List Int // of45 x = n}
  | ⟨[.ptr 100000 [], .int .i64 v0], [.var (.cons (.row 100001) (.cons (.row 100002) (.cons (.int .i64 v1) (.cons (.cons (.row 100003) (.cons (.row 100004) (.cons (.row 100005) (.cons (.row 100006) (.nil))))) (.nil))))), .row 3 v2, .row 50 v3, .row 3 v4, .row 3 v5, .row 3 v6, .row 3 v7]⟩ => some ⟨(v0, v1, v2, v3, v4, v5, v6, v7), rfl⟩
  | _ => none
def on45 : Int × Int × List Int × List (List Int) × List Int × List Int × List Int × List Int → NSt Ty := fun x => ⟨[.int .i64 (x.1)], [.var (.cons (.row 100001) (.cons (.row 100002) (.cons (.int .i64 (x.2.1)) (.cons (.cons (.row 100003) (.cons (.row 100004) (.cons (.row 100005) (.cons (.row 100006) (.nil))))) (.nil))))), .row 3 (x.2.2.1), .row 50 (x.2.2.2.1), .row 3 (x.2.2.2.2.1), .row 3 (x.2.2.2.2.2.1), .row 3 (x.2.2.2.2.2.2.1), .row 3 (x.2.2.2.2.2.2.2)]⟩
def oa45 : (n : NSt Ty) → Option {y : Int × Int × List Int × List (List Int) × List Int × List Int × List Int × List Int // on45 y = n}
  | ⟨[.int .i64 v0], [.var (.cons (.row 100001) (.cons (.row 100002) (.cons (.int .i64 v1) (.cons (.cons (.row 100003) (.cons (.row 100004) (.cons (.row 100005) (.cons (.row 100006) (.nil))))) (.nil))))), .row 3 v2, .row 50 v3, .row 3 v4, .row 3 v5, .row 3 v6, .row 3 v7]⟩ => some ⟨(v0, v1, v2, v3, v4, v5, v6, v7), rfl⟩
  | _ => none
def kp45 : Nat → Keep := pinned 1 fun i => ⟨[], [], 0⟩
/-- "(*silt/model.Model).free"  -/
def F45 (k : Nat) (x : Int × Int × List Int × List (List Int) × List Int × List Int × List Int × List Int) : Option (Int × Int × List Int × List (List Int) × List Int × List Int × List Int × List Int) :=
  match x with
  | (v0, v1, v2, v3, v4, v5, v6, v7) => (F54 k (v0, v1, v2, v3, v4, v5, v6, v7)).bind fun r => bif r then some ((19 : Int), v1, v2, v3, v4, v5, v6, v7) else bif inRange v0 v2.length then some ((0 : Int), v1, v2.set v0.toNat (0 : Int), v3, v4, v5, v6, v7) else none
noncomputable def sp45 : FSpec Ty := addH 1 ab45 F45 on45 (noHX false false)
theorem ok45 : FOK Try.prog tab 45 sp45 := addH_ok (keeps := kp45) tabOK fs54OK Try.func45 bo45 (by kernel_rfl) nd45 (LSOK.none) oa45 (F := F45) (fun k x => by kernel_rfl) (pinned_le (Nat.le_refl _) _) FOK.noneX rfl
noncomputable def fs45 : Nat → Option (FSpec Ty) := addF 45 sp45 fs54
theorem fs45OK : SpecsOK Try.prog tab fs45 := fs54OK.add ok45 Try.call45
theorem bo46 : Try.f46.body = some (bodyOf Try.f46) := by kernel_rfl
theorem nd46 : nodupB ((loopsIn (bodyOf Try.f46)).map firstRegion) = true := by kernel_rfl
def of46f0 : Int × Int × List Int × List (List Int) × List Int × List Int × List Int × List Int → NSt Ty := fun x => ⟨[.ptr 100000 [], .int .i64 0, .int .i64 (x.1)], [.var (.cons (.row 100001) (.cons (.row 100002) (.cons (.int .i64 (x.2.1)) (.cons (.cons (.row 100003) (.cons (.row 100004) (.cons (.row 100005) (.cons (.row 100006) (.nil))))) (.nil))))), .row 3 (x.2.2.1), .row 50 (x.2.2.2.1), .row 3 (x.2.2.2.2.1), .row 3 (x.2.2.2.2.2.1), .row 3 (x.2.2.2.2.2.2.1), .row 3 (x.2.2.2.2.2.2.2)]⟩
def ab46f0 : (n : NSt Ty) → Option {x : Int × Int × List Int × List (List Int) × List Int × List Int × List Int × List Int // of46f0 x = n}
  | ⟨[.ptr 100000 [], .int .i64 0, .int .i64 v0], [.var (.cons (.row 100001) (.cons (.row 100002) (.cons (.int .i64 v1) (.cons (.cons (.row 100003) (.cons (.row 100004) (.cons (.row 100005) (.cons (.row 100006) (.nil))))) (.nil))))), .row 3 v2, .row 50 v3, .row 3 v4, .row 3 v5, .row 3 v6, .row 3 v7]⟩ => some ⟨(v0, v1, v2, v3, v4, v5, v6, v7), rfl⟩
  | _ => none
def of46f1 : Int × Int × List Int × List (List Int) × List Int × List Int × List Int × List Int → NSt Ty := fun x => ⟨[.ptr 100000 [], .int .i64 1, .int .i64 (x.1)], [.var (.cons (.row 100001) (.cons (.row 100002) (.cons (.int .i64 (x.2.1)) (.cons (.cons (.row 100003) (.cons (.row 100004) (.cons (.row 100005) (.cons (.row 100006) (.nil))))) (.nil))))), .row 3 (x.2.2.1), .row 50 (x.2.2.2.1), .row 3 (x.2.2.2.2.1), .row 3 (x.2.2.2.2.2.1), .row 3 (x.2.2.2.2.2.2.1), .row 3 (x.2.2.2.2.2.2.2)]⟩
def ab46f1 : (n : NSt Ty) → Option {x : Int × Int × List Int × List (List Int) × List Int × List Int × List Int × List Int // of46f1 x = n}
  | ⟨[.ptr 100000 [], .int .i64 1, .int .i64 v0], [.var (.cons (.row 100001) (.cons (.row 100002) (.cons (.int .i64 v1) (.cons (.cons (.row 100003) (.cons (.row 100004) (.cons (.row 100005) (.cons (.row 100006) (.nil))))) (.nil))))), .row 3 v2, .row 50 v3, .row 3 v4, .row 3 v5, .row 3 v6, .row 3 v7]⟩ => some ⟨(v0, v1, v2, v3, v4, v5, v6, v7), rfl⟩
  | _ => none
def of46f2 : Int × Int × List Int × List (List Int) × List Int × List Int × List Int × List Int → NSt Ty := fun x => ⟨[.ptr 100000 [], .int .i64 2, .int .i64 (x.1)], [.var (.cons (.row 100001) (.cons (.row 100002) (.cons (.int .i64 (x.2.1)) (.cons (.cons (.row 100003) (.cons (.row 100004) (.cons (.row 100005) (.cons (.row 100006) (.nil))))) (.nil))))), .row 3 (x.2.2.1), .row 50 (x.2.2.2.1), .row 3 (x.2.2.2.2.1), .row 3 (x.2.2.2.2.2.1), .row 3 (x.2.2.2.2.2.2.1), .row 3 (x.2.2.2.2.2.2.2)]⟩
def ab46f2 : (n : NSt Ty) → Option {x : Int × Int × List Int × List (List Int) × List Int × List Int × List Int × List Int // of46f2 x = n}
  | ⟨[.ptr 100000 [], .int .i64 2, .int .i64 v0], [.var (.cons (.row 100001) (.cons (.row 100002) (.cons (.int .i64 v1) (.cons (.cons (.row 100003) (.cons (.row 100004) (.cons (.row 100005) (.cons (.row 100006) (.nil))))) (.nil))))), .row 3 v2, .row 50 v3, .row 3 v4, .row 3 v5, .row 3 v6, .row 3 v7]⟩ => some ⟨(v0, v1, v2, v3, v4, v5, v6, v7), rfl⟩
  | _ => none
def of46f3 : Int × Int × List Int × List (List Int) × List Int × List Int × List Int × List Int → NSt Ty := fun x => ⟨[.ptr 100000 [], .int .i64 3, .int .i64 (x.1)], [.var (.cons (.row 100001) (.cons (.row 100002) (.cons (.int .i64 (x.2.1)) (.cons (.cons (.row 100003) (.cons (.row 100004) (.cons (.row 100005) (.cons (.row 100006) (.nil))))) (.nil))))), .row 3 (x.2.2.1), .row 50 (x.2.2.2.1), .row 3 (x.2.2.2.2.1), .row 3 (x.2.2.2.2.2.1), .row 3 (x.2.2.2.2.2.2.1), .row 3 (x.2.2.2.2.2.2.2)]⟩
def ab46f3 : (n : NSt Ty) → Option {x : Int × Int × List Int × List (List Int) × List Int × List Int × List Int × List Int // of46f3 x = n}
  | ⟨[.ptr 100000 [], .int .i64 3, .int .i64 v0], [.var (.cons (.row 100001) (.cons (.row 100002) (.cons (.int .i64 v1) (.cons (.cons (.row 100003) (.cons (.row 100004) (.cons (.row 100005) (.cons (.row 100006) (.nil))))) (.nil))))), .row 3 v2, .row 50 v3, .row 3 v4, .row 3 v5, .row 3 v6, .row 3 v7]⟩ => some ⟨(v0, v1, v2, v3, v4, v5, v6, v7), rfl⟩
  | _ => none
def on46 : Int × Int × List Int × List (List Int) × List Int × List Int × List Int × List Int → NSt Ty := fun x => ⟨[.int .i64 (x.1)], [.var (.cons (.row 100001) (.cons (.row 100002) (.cons (.int .i64 (x.2.1)) (.cons (.cons (.row 100003) (.cons (.row 100004) (.cons (.row 100005) (.cons (.row 100006) (.nil))))) (.nil))))), .row 3 (x.2.2.1), .row 50 (x.2.2.2.1), .row 3 (x.2.2.2.2.1), .row 3 (x.2.2.2.2.2.1), .row 3 (x.2.2.2.2.2.2.1), .row 3 (x.2.2.2.2.2.2.2)]⟩
def oa46 : (n : NSt Ty) → Option {y : Int × Int × List Int × List (List Int) × List Int × List Int × List Int × List Int // on46 y = n}
  | ⟨[.int .i64 v0], [.var (.cons (.row 100001) (.cons (.row 100002) (.cons (.int .i64 v1) (.cons (.cons (.row 100003) (.cons (.row 100004) (.cons (.row 100005) (.cons (.row 100006) (.nil))))) (.nil))))), .row 3 v2, .row 50 v3, .row 3 v4, .row 3 v5, .row 3 v6, .row 3 v7]⟩ => some ⟨(v0, v1, v2, v3, v4, v5, v6, v7), rfl⟩
  | _ => none
def kp46f0 : Nat → Keep := pinned 1 fun i => ⟨[], [], 0⟩
/-- "(*silt/model.Model).pin" f0 -/
def F46f0 (k : Nat) (x : Int × Int × List Int × List (List Int) × List Int × List Int × List Int × List Int) : Option (Int × Int × List Int × List (List Int) × List Int × List Int × List Int × List Int) :=
  match x with
  | (v0, v1, v2, v3, v4, v5, v6, v7) => bif decide ((↑v4.length : Int) ≥ (16 : Int)) then some ((19 : Int), v1, v2, v3, v4, v5, v6, v7) else bif decide (v4.length + ((List.replicate (1 : Nat) (0 : Int)).set (0 : Nat) v0).length ≤ roomMost) then some ((0 : Int), v1, v2, v3, v4 ++ (List.replicate (1 : Nat) (0 : Int)).set (0 : Nat) v0, v5, v6, v7) else none
noncomputable def sp46f0 : FSpec Ty := addH 1 ab46f0 F46f0 on46 noH
theorem ok46f0 : FOK Try.prog tab 46 sp46f0 := addH_ok (keeps := kp46f0) tabOK fs45OK Try.func46 bo46 (by kernel_rfl) nd46 (LSOK.none) oa46 (F := F46f0) (fun k x => by kernel_rfl) (pinned_le (Nat.le_refl _) _) FOK.none rfl
def kp46f1 : Nat → Keep := pinned 1 fun i => ⟨[], [], 0⟩
/-- "(*silt/model.Model).pin" f1 -/
def F46f1 (k : Nat) (x : Int × Int × List Int × List (List Int) × List Int × List Int × List Int × List Int) : Option (Int × Int × List Int × List (List Int) × List Int × List Int × List Int × List Int) :=
  match x with
  | (v0, v1, v2, v3, v4, v5, v6, v7) => bif decide ((↑v5.length : Int) ≥ (16 : Int)) then some ((19 : Int), v1, v2, v3, v4, v5, v6, v7) else bif decide (v5.length + ((List.replicate (1 : Nat) (0 : Int)).set (0 : Nat) v0).length ≤ roomMost) then some ((0 : Int), v1, v2, v3, v4, v5 ++ (List.replicate (1 : Nat) (0 : Int)).set (0 : Nat) v0, v6, v7) else none
noncomputable def sp46f1 : FSpec Ty := addH 1 ab46f1 F46f1 on46 noH
theorem ok46f1 : FOK Try.prog tab 46 sp46f1 := addH_ok (keeps := kp46f1) tabOK fs45OK Try.func46 bo46 (by kernel_rfl) nd46 (LSOK.none) oa46 (F := F46f1) (fun k x => by kernel_rfl) (pinned_le (Nat.le_refl _) _) FOK.none rfl
def kp46f2 : Nat → Keep := pinned 1 fun i => ⟨[], [], 0⟩
/-- "(*silt/model.Model).pin" f2 -/
def F46f2 (k : Nat) (x : Int × Int × List Int × List (List Int) × List Int × List Int × List Int × List Int) : Option (Int × Int × List Int × List (List Int) × List Int × List Int × List Int × List Int) :=
  match x with
  | (v0, v1, v2, v3, v4, v5, v6, v7) => bif decide ((↑v6.length : Int) ≥ (16 : Int)) then some ((19 : Int), v1, v2, v3, v4, v5, v6, v7) else bif decide (v6.length + ((List.replicate (1 : Nat) (0 : Int)).set (0 : Nat) v0).length ≤ roomMost) then some ((0 : Int), v1, v2, v3, v4, v5, v6 ++ (List.replicate (1 : Nat) (0 : Int)).set (0 : Nat) v0, v7) else none
noncomputable def sp46f2 : FSpec Ty := addH 1 ab46f2 F46f2 on46 noH
theorem ok46f2 : FOK Try.prog tab 46 sp46f2 := addH_ok (keeps := kp46f2) tabOK fs45OK Try.func46 bo46 (by kernel_rfl) nd46 (LSOK.none) oa46 (F := F46f2) (fun k x => by kernel_rfl) (pinned_le (Nat.le_refl _) _) FOK.none rfl
def kp46f3 : Nat → Keep := pinned 1 fun i => ⟨[], [], 0⟩
/-- "(*silt/model.Model).pin" f3 -/
def F46f3 (k : Nat) (x : Int × Int × List Int × List (List Int) × List Int × List Int × List Int × List Int) : Option (Int × Int × List Int × List (List Int) × List Int × List Int × List Int × List Int) :=
  match x with
  | (v0, v1, v2, v3, v4, v5, v6, v7) => bif decide ((↑v7.length : Int) ≥ (16 : Int)) then some ((19 : Int), v1, v2, v3, v4, v5, v6, v7) else bif decide (v7.length + ((List.replicate (1 : Nat) (0 : Int)).set (0 : Nat) v0).length ≤ roomMost) then some ((0 : Int), v1, v2, v3, v4, v5, v6, v7 ++ (List.replicate (1 : Nat) (0 : Int)).set (0 : Nat) v0) else none
noncomputable def sp46f3 : FSpec Ty := addH 1 ab46f3 F46f3 on46 noH
theorem ok46f3 : FOK Try.prog tab 46 sp46f3 := addH_ok (keeps := kp46f3) tabOK fs45OK Try.func46 bo46 (by kernel_rfl) nd46 (LSOK.none) oa46 (F := F46f3) (fun k x => by kernel_rfl) (pinned_le (Nat.le_refl _) _) FOK.none rfl
def of46 : Int × Int × Int × List Int × List (List Int) × List Int × List Int × List Int × List Int → NSt Ty := fun x => ⟨[.ptr 100000 [], .int .i64 (x.1), .int .i64 (x.2.1)], [.var (.cons (.row 100001) (.cons (.row 100002) (.cons (.int .i64 (x.2.2.1)) (.cons (.cons (.row 100003) (.cons (.row 100004) (.cons (.row 100005) (.cons (.row 100006) (.nil))))) (.nil))))), .row 3 (x.2.2.2.1), .row 50 (x.2.2.2.2.1), .row 3 (x.2.2.2.2.2.1), .row 3 (x.2.2.2.2.2.2.1), .row 3 (x.2.2.2.2.2.2.2.1), .row 3 (x.2.2.2.2.2.2.2.2)]⟩
def ab46 : (n : NSt Ty) → Option {x : Int × Int × Int × List Int × List (List Int) × List Int × List Int × List Int × List Int // of46 x = n}
  | ⟨[.ptr 100000 [], .int .i64 v0, .int .i64 v1], [.var (.cons (.row 100001) (.cons (.row 100002) (.cons (.int .i64 v2) (.cons (.cons (.row 100003) (.cons (.row 100004) (.cons (.row 100005) (.cons (.row 100006) (.nil))))) (.nil))))), .row 3 v3, .row 50 v4, .row 3 v5, .row 3 v6, .row 3 v7, .row 3 v8]⟩ => some ⟨(v0, v1, v2, v3, v4, v5, v6, v7, v8), rfl⟩
  | _ => none
/-- "(*silt/model.Model).pin", its number told apart -/
def F46 (k : Nat) (x : Int × Int × Int × List Int × List (List Int) × List Int × List Int × List Int × List Int) : Option (Int × Int × List Int × List (List Int) × List Int × List Int × List Int × List Int) :=
  match x with
  | (v0, v1, v2, v3, v4, v5, v6, v7, v8) => bif v0 == (0 : Int) then F46f0 k (v1, v2, v3, v4, v5, v6, v7, v8) else bif v0 == (1 : Int) then F46f1 k (v1, v2, v3, v4, v5, v6, v7, v8) else bif v0 == (2 : Int) then F46f2 k (v1, v2, v3, v4, v5, v6, v7, v8) else bif v0 == (3 : Int) then F46f3 k (v1, v2, v3, v4, v5, v6, v7, v8) else none
noncomputable def sp46 : FSpec Ty := addH 1 ab46 F46 on46 (noHX false false)
theorem ok46 : FOK Try.prog tab 46 sp46 := addH_of (fun k x y h => by
  obtain ⟨v0, v1, v2, v3, v4, v5, v6, v7, v8⟩ := x; 
  rcases forkK h with ⟨rfl, h1⟩ | h
  · exact addH_run ok46f0 (x := (v1, v2, v3, v4, v5, v6, v7, v8)) rfl h1
  rcases forkK h with ⟨rfl, h1⟩ | h
  · exact addH_run ok46f1 (x := (v1, v2, v3, v4, v5, v6, v7, v8)) rfl h1
  rcases forkK h with ⟨rfl, h1⟩ | h
  · exact addH_run ok46f2 (x := (v1, v2, v3, v4, v5, v6, v7, v8)) rfl h1
  rcases forkK h with ⟨rfl, h1⟩ | h
  · exact addH_run ok46f3 (x := (v1, v2, v3, v4, v5, v6, v7, v8)) rfl h1
  cases h) FOK.noneX rfl
noncomputable def fs46 : Nat → Option (FSpec Ty) := addF 46 sp46 fs45
theorem fs46OK : SpecsOK Try.prog tab fs46 := fs45OK.add ok46 Try.call46
theorem bo55 : Try.f55.body = some (bodyOf Try.f55) := by kernel_rfl
theorem nd55 : nodupB ((loopsIn (bodyOf Try.f55)).map firstRegion) = true := by kernel_rfl
def of55 : Int × Int × List Int → NSt Ty := fun x => ⟨[.row 100000, .int .i64 (x.1), .int .i64 (x.2.1)], [.row 3 (x.2.2)]⟩
def ab55 : (n : NSt Ty) → Option {x : Int × Int × List Int // of55 x = n}
  | ⟨[.row 100000, .int .i64 v0, .int .i64 v1], [.row 3 v2]⟩ => some ⟨(v0, v1, v2), rfl⟩
  | _ => none
def on55a : List Int → NSt Ty := fun x => ⟨[.row 100000], [.row 3 (x)]⟩
def on55b : List Int → NSt Ty := fun x => ⟨[.row 100001], [.dead, .row 3 (x)]⟩
def oa55 : (n : NSt Ty) → Option {y : (List Int) ⊕ (List Int) // on2 on55a on55b y = n}
  | ⟨[.row 100000], [.row 3 v0]⟩ => some ⟨.inl v0, rfl⟩
  | ⟨[.row 100001], [.dead, .row 3 v0]⟩ => some ⟨.inr v0, rfl⟩
  | _ => none
def kp55 : Nat → Keep := pinned 1 fun i => ⟨[], [], 0⟩
/-- "slices.Delete[[]int,int]"  -/
def F55 (k : Nat) (x : Int × Int × List Int) : Option ((List Int) ⊕ (List Int)) :=
  match x with
  | (v0, v1, v2) => bif decide ((0 : Int) ≤ v0) && decide (v0 ≤ v1) && decide (v1 ≤ (↑v2.length : Int)) && decide ((↑v2.length : Int) ≤ (↑v2.length : Int)) then bif v0 == v1 then some (Sum.inl v2) else bif decide ((0 : Int) ≤ (0 : Int)) && decide ((0 : Int) ≤ v0) && decide (v0 ≤ (↑v2.length : Int)) then bif decide ((0 : Int) ≤ v1) && decide (v1 ≤ (↑v2.length : Int)) && decide ((↑v2.length : Int) ≤ (↑v2.length : Int)) then bif decide ((v0 - (0 : Int)).toNat + (List.take ((↑v2.length : Int) - v1).toNat (List.drop v1.toNat v2)).length ≤ v2.length) then bif decide ((0 : Int) ≤ (↑((v0 - (0 : Int)).toNat + (List.take ((↑v2.length : Int) - v1).toNat (List.drop v1.toNat v2)).length) : Int)) && decide ((↑((v0 - (0 : Int)).toNat + (List.take ((↑v2.length : Int) - v1).toNat (List.drop v1.toNat v2)).length) : Int) ≤ (↑v2.length : Int)) && decide ((↑v2.length : Int) ≤ (↑(splice v2 (List.take ((↑v2.length : Int) - v1).toNat (List.drop v1.toNat v2)) (v0 - (0 : Int)).toNat (List.take ((↑v2.length : Int) - v1).toNat (List.drop v1.toNat v2)).length).length : Int)) then some (Sum.inr (List.take ((v0 - (0 : Int)).toNat + (List.take ((↑v2.length : Int) - v1).toNat (List.drop v1.toNat v2)).length) (splice (splice v2 (List.take ((↑v2.length : Int) - v1).toNat (List.drop v1.toNat v2)) (v0 - (0 : Int)).toNat (List.take ((↑v2.length : Int) - v1).toNat (List.drop v1.toNat v2)).length) (List.replicate ((↑v2.length : Int) - (↑((v0 - (0 : Int)).toNat + (List.take ((↑v2.length : Int) - v1).toNat (List.drop v1.toNat v2)).length) : Int)).toNat (0 : Int)) (↑((v0 - (0 : Int)).toNat + (List.take ((↑v2.length : Int) - v1).toNat (List.drop v1.toNat v2)).length) : Int).toNat ((↑v2.length : Int) - (↑((v0 - (0 : Int)).toNat + (List.take ((↑v2.length : Int) - v1).toNat (List.drop v1.toNat v2)).length) : Int)).toNat))) else none else none else none else none else none
noncomputable def sp55 : FSpec Ty := addH2 1 ab55 F55 on55a on55b (noHX true false)
theorem ok55 : FOK Try.prog tab 55 sp55 := addH2_ok (keeps := kp55) tabOK fs46OK Try.func55 bo55 (by kernel_rfl) nd55 (LSOK.none) oa55 (F := F55) (fun k x => by kernel_rfl) (pinned_le (Nat.le_refl _) _) FOK.noneX rfl
noncomputable def fs55 : Nat → Option (FSpec Ty) := addF 55 sp55 fs46
theorem fs55OK : SpecsOK Try.prog tab fs55 := fs46OK.add ok55 Try.call55
theorem bo47 : Try.f47.body = some (bodyOf Try.f47) := by kernel_rfl
theorem nd47 : nodupB ((loopsIn (bodyOf Try.f47)).map firstRegion) = true := by kernel_rfl
def of47f0 : Int × Int × List Int × List (List Int) × List Int × List Int × List Int × List Int → NSt Ty := fun x => ⟨[.ptr 100000 [], .int .i64 0, .int .i64 (x.1)], [.var (.cons (.row 100001) (.cons (.row 100002) (.cons (.int .i64 (x.2.1)) (.cons (.cons (.row 100003) (.cons (.row 100004) (.cons (.row 100005) (.cons (.row 100006) (.nil))))) (.nil))))), .row 3 (x.2.2.1), .row 50 (x.2.2.2.1), .row 3 (x.2.2.2.2.1), .row 3 (x.2.2.2.2.2.1), .row 3 (x.2.2.2.2.2.2.1), .row 3 (x.2.2.2.2.2.2.2)]⟩
def ab47f0 : (n : NSt Ty) → Option {x : Int × Int × List Int × List (List Int) × List Int × List Int × List Int × List Int // of47f0 x = n}
  | ⟨[.ptr 100000 [], .int .i64 0, .int .i64 v0], [.var (.cons (.row 100001) (.cons (.row 100002) (.cons (.int .i64 v1) (.cons (.cons (.row 100003) (.cons (.row 100004) (.cons (.row 100005) (.cons (.row 100006) (.nil))))) (.nil))))), .row 3 v2, .row 50 v3, .row 3 v4, .row 3 v5, .row 3 v6, .row 3 v7]⟩ => some ⟨(v0, v1, v2, v3, v4, v5, v6, v7), rfl⟩
  | _ => none
def of47f1 : Int × Int × List Int × List (List Int) × List Int × List Int × List Int × List Int → NSt Ty := fun x => ⟨[.ptr 100000 [], .int .i64 1, .int .i64 (x.1)], [.var (.cons (.row 100001) (.cons (.row 100002) (.cons (.int .i64 (x.2.1)) (.cons (.cons (.row 100003) (.cons (.row 100004) (.cons (.row 100005) (.cons (.row 100006) (.nil))))) (.nil))))), .row 3 (x.2.2.1), .row 50 (x.2.2.2.1), .row 3 (x.2.2.2.2.1), .row 3 (x.2.2.2.2.2.1), .row 3 (x.2.2.2.2.2.2.1), .row 3 (x.2.2.2.2.2.2.2)]⟩
def ab47f1 : (n : NSt Ty) → Option {x : Int × Int × List Int × List (List Int) × List Int × List Int × List Int × List Int // of47f1 x = n}
  | ⟨[.ptr 100000 [], .int .i64 1, .int .i64 v0], [.var (.cons (.row 100001) (.cons (.row 100002) (.cons (.int .i64 v1) (.cons (.cons (.row 100003) (.cons (.row 100004) (.cons (.row 100005) (.cons (.row 100006) (.nil))))) (.nil))))), .row 3 v2, .row 50 v3, .row 3 v4, .row 3 v5, .row 3 v6, .row 3 v7]⟩ => some ⟨(v0, v1, v2, v3, v4, v5, v6, v7), rfl⟩
  | _ => none
def of47f2 : Int × Int × List Int × List (List Int) × List Int × List Int × List Int × List Int → NSt Ty := fun x => ⟨[.ptr 100000 [], .int .i64 2, .int .i64 (x.1)], [.var (.cons (.row 100001) (.cons (.row 100002) (.cons (.int .i64 (x.2.1)) (.cons (.cons (.row 100003) (.cons (.row 100004) (.cons (.row 100005) (.cons (.row 100006) (.nil))))) (.nil))))), .row 3 (x.2.2.1), .row 50 (x.2.2.2.1), .row 3 (x.2.2.2.2.1), .row 3 (x.2.2.2.2.2.1), .row 3 (x.2.2.2.2.2.2.1), .row 3 (x.2.2.2.2.2.2.2)]⟩
def ab47f2 : (n : NSt Ty) → Option {x : Int × Int × List Int × List (List Int) × List Int × List Int × List Int × List Int // of47f2 x = n}
  | ⟨[.ptr 100000 [], .int .i64 2, .int .i64 v0], [.var (.cons (.row 100001) (.cons (.row 100002) (.cons (.int .i64 v1) (.cons (.cons (.row 100003) (.cons (.row 100004) (.cons (.row 100005) (.cons (.row 100006) (.nil))))) (.nil))))), .row 3 v2, .row 50 v3, .row 3 v4, .row 3 v5, .row 3 v6, .row 3 v7]⟩ => some ⟨(v0, v1, v2, v3, v4, v5, v6, v7), rfl⟩
  | _ => none
def of47f3 : Int × Int × List Int × List (List Int) × List Int × List Int × List Int × List Int → NSt Ty := fun x => ⟨[.ptr 100000 [], .int .i64 3, .int .i64 (x.1)], [.var (.cons (.row 100001) (.cons (.row 100002) (.cons (.int .i64 (x.2.1)) (.cons (.cons (.row 100003) (.cons (.row 100004) (.cons (.row 100005) (.cons (.row 100006) (.nil))))) (.nil))))), .row 3 (x.2.2.1), .row 50 (x.2.2.2.1), .row 3 (x.2.2.2.2.1), .row 3 (x.2.2.2.2.2.1), .row 3 (x.2.2.2.2.2.2.1), .row 3 (x.2.2.2.2.2.2.2)]⟩
def ab47f3 : (n : NSt Ty) → Option {x : Int × Int × List Int × List (List Int) × List Int × List Int × List Int × List Int // of47f3 x = n}
  | ⟨[.ptr 100000 [], .int .i64 3, .int .i64 v0], [.var (.cons (.row 100001) (.cons (.row 100002) (.cons (.int .i64 v1) (.cons (.cons (.row 100003) (.cons (.row 100004) (.cons (.row 100005) (.cons (.row 100006) (.nil))))) (.nil))))), .row 3 v2, .row 50 v3, .row 3 v4, .row 3 v5, .row 3 v6, .row 3 v7]⟩ => some ⟨(v0, v1, v2, v3, v4, v5, v6, v7), rfl⟩
  | _ => none
def on47 : Int × Int × List Int × List (List Int) × List Int × List Int × List Int × List Int → NSt Ty := fun x => ⟨[.int .i64 (x.1)], [.var (.cons (.row 100001) (.cons (.row 100002) (.cons (.int .i64 (x.2.1)) (.cons (.cons (.row 100003) (.cons (.row 100004) (.cons (.row 100005) (.cons (.row 100006) (.nil))))) (.nil))))), .row 3 (x.2.2.1), .row 50 (x.2.2.2.1), .row 3 (x.2.2.2.2.1), .row 3 (x.2.2.2.2.2.1), .row 3 (x.2.2.2.2.2.2.1), .row 3 (x.2.2.2.2.2.2.2)]⟩
def oa47 : (n : NSt Ty) → Option {y : Int × Int × List Int × List (List Int) × List Int × List Int × List Int × List Int // on47 y = n}
  | ⟨[.int .i64 v0], [.var (.cons (.row 100001) (.cons (.row 100002) (.cons (.int .i64 v1) (.cons (.cons (.row 100003) (.cons (.row 100004) (.cons (.row 100005) (.cons (.row 100006) (.nil))))) (.nil))))), .row 3 v2, .row 50 v3, .row 3 v4, .row 3 v5, .row 3 v6, .row 3 v7]⟩ => some ⟨(v0, v1, v2, v3, v4, v5, v6, v7), rfl⟩
  | _ => none
def kp47f0 : Nat → Keep := pinned 1 fun i => ⟨[], [], 0⟩
/-- "(*silt/model.Model).unpin" f0 -/
def F47f0 (k : Nat) (x : Int × Int × List Int × List (List Int) × List Int × List Int × List Int × List Int) : Option (Int × Int × List Int × List (List Int) × List Int × List Int × List Int × List Int) :=
  match x with
  | (v0, v1, v2, v3, v4, v5, v6, v7) => (F53 k (v4, v0, ())).bind fun r => bif decide (r < (0 : Int)) then some ((19 : Int), v1, v2, v3, v4, v5, v6, v7) else (F55 k (r, IntKind.i64.wrap (r + (1 : Int)), v4)).bind fun r => sumK r (fun a => some ((0 : Int), v1, v2, v3, a, v5, v6, v7)) fun b => some ((0 : Int), v1, v2, v3, b, v5, v6, v7)
noncomputable def sp47f0 : FSpec Ty := addH 1 ab47f0 F47f0 on47 noH
theorem ok47f0 : FOK Try.prog tab 47 sp47f0 := addH_ok (keeps := kp47f0) tabOK fs55OK Try.func47 bo47 (by kernel_rfl) nd47 (LSOK.none) oa47 (F := F47f0) (fun k x => by kernel_rfl) (pinned_le (Nat.le_refl _) _) FOK.none rfl
def kp47f1 : Nat → Keep := pinned 1 fun i => ⟨[], [], 0⟩
/-- "(*silt/model.Model).unpin" f1 -/
def F47f1 (k : Nat) (x : Int × Int × List Int × List (List Int) × List Int × List Int × List Int × List Int) : Option (Int × Int × List Int × List (List Int) × List Int × List Int × List Int × List Int) :=
  match x with
  | (v0, v1, v2, v3, v4, v5, v6, v7) => (F53 k (v5, v0, ())).bind fun r => bif decide (r < (0 : Int)) then some ((19 : Int), v1, v2, v3, v4, v5, v6, v7) else (F55 k (r, IntKind.i64.wrap (r + (1 : Int)), v5)).bind fun r => sumK r (fun a => some ((0 : Int), v1, v2, v3, v4, a, v6, v7)) fun b => some ((0 : Int), v1, v2, v3, v4, b, v6, v7)
noncomputable def sp47f1 : FSpec Ty := addH 1 ab47f1 F47f1 on47 noH
theorem ok47f1 : FOK Try.prog tab 47 sp47f1 := addH_ok (keeps := kp47f1) tabOK fs55OK Try.func47 bo47 (by kernel_rfl) nd47 (LSOK.none) oa47 (F := F47f1) (fun k x => by kernel_rfl) (pinned_le (Nat.le_refl _) _) FOK.none rfl
def kp47f2 : Nat → Keep := pinned 1 fun i => ⟨[], [], 0⟩
/-- "(*silt/model.Model).unpin" f2 -/
def F47f2 (k : Nat) (x : Int × Int × List Int × List (List Int) × List Int × List Int × List Int × List Int) : Option (Int × Int × List Int × List (List Int) × List Int × List Int × List Int × List Int) :=
  match x with
  | (v0, v1, v2, v3, v4, v5, v6, v7) => (F53 k (v6, v0, ())).bind fun r => bif decide (r < (0 : Int)) then some ((19 : Int), v1, v2, v3, v4, v5, v6, v7) else (F55 k (r, IntKind.i64.wrap (r + (1 : Int)), v6)).bind fun r => sumK r (fun a => some ((0 : Int), v1, v2, v3, v4, v5, a, v7)) fun b => some ((0 : Int), v1, v2, v3, v4, v5, b, v7)
noncomputable def sp47f2 : FSpec Ty := addH 1 ab47f2 F47f2 on47 noH
theorem ok47f2 : FOK Try.prog tab 47 sp47f2 := addH_ok (keeps := kp47f2) tabOK fs55OK Try.func47 bo47 (by kernel_rfl) nd47 (LSOK.none) oa47 (F := F47f2) (fun k x => by kernel_rfl) (pinned_le (Nat.le_refl _) _) FOK.none rfl
def kp47f3 : Nat → Keep := pinned 1 fun i => ⟨[], [], 0⟩
/-- "(*silt/model.Model).unpin" f3 -/
def F47f3 (k : Nat) (x : Int × Int × List Int × List (List Int) × List Int × List Int × List Int × List Int) : Option (Int × Int × List Int × List (List Int) × List Int × List Int × List Int × List Int) :=
  match x with
  | (v0, v1, v2, v3, v4, v5, v6, v7) => (F53 k (v7, v0, ())).bind fun r => bif decide (r < (0 : Int)) then some ((19 : Int), v1, v2, v3, v4, v5, v6, v7) else (F55 k (r, IntKind.i64.wrap (r + (1 : Int)), v7)).bind fun r => sumK r (fun a => some ((0 : Int), v1, v2, v3, v4, v5, v6, a)) fun b => some ((0 : Int), v1, v2, v3, v4, v5, v6, b)
noncomputable def sp47f3 : FSpec Ty := addH 1 ab47f3 F47f3 on47 noH
theorem ok47f3 : FOK Try.prog tab 47 sp47f3 := addH_ok (keeps := kp47f3) tabOK fs55OK Try.func47 bo47 (by kernel_rfl) nd47 (LSOK.none) oa47 (F := F47f3) (fun k x => by kernel_rfl) (pinned_le (Nat.le_refl _) _) FOK.none rfl
def of47 : Int × Int × Int × List Int × List (List Int) × List Int × List Int × List Int × List Int → NSt Ty := fun x => ⟨[.ptr 100000 [], .int .i64 (x.1), .int .i64 (x.2.1)], [.var (.cons (.row 100001) (.cons (.row 100002) (.cons (.int .i64 (x.2.2.1)) (.cons (.cons (.row 100003) (.cons (.row 100004) (.cons (.row 100005) (.cons (.row 100006) (.nil))))) (.nil))))), .row 3 (x.2.2.2.1), .row 50 (x.2.2.2.2.1), .row 3 (x.2.2.2.2.2.1), .row 3 (x.2.2.2.2.2.2.1), .row 3 (x.2.2.2.2.2.2.2.1), .row 3 (x.2.2.2.2.2.2.2.2)]⟩
def ab47 : (n : NSt Ty) → Option {x : Int × Int × Int × List Int × List (List Int) × List Int × List Int × List Int × List Int // of47 x = n}
  | ⟨[.ptr 100000 [], .int .i64 v0, .int .i64 v1], [.var (.cons (.row 100001) (.cons (.row 100002) (.cons (.int .i64 v2) (.cons (.cons (.row 100003) (.cons (.row 100004) (.cons (.row 100005) (.cons (.row 100006) (.nil))))) (.nil))))), .row 3 v3, .row 50 v4, .row 3 v5, .row 3 v6, .row 3 v7, .row 3 v8]⟩ => some ⟨(v0, v1, v2, v3, v4, v5, v6, v7, v8), rfl⟩
  | _ => none
/-- "(*silt/model.Model).unpin", its number told apart -/
def F47 (k : Nat) (x : Int × Int × Int × List Int × List (List Int) × List Int × List Int × List Int × List Int) : Option (Int × Int × List Int × List (List Int) × List Int × List Int × List Int × List Int) :=
  match x with
  | (v0, v1, v2, v3, v4, v5, v6, v7, v8) => bif v0 == (0 : Int) then F47f0 k (v1, v2, v3, v4, v5, v6, v7, v8) else bif v0 == (1 : Int) then F47f1 k (v1, v2, v3, v4, v5, v6, v7, v8) else bif v0 == (2 : Int) then F47f2 k (v1, v2, v3, v4, v5, v6, v7, v8) else bif v0 == (3 : Int) then F47f3 k (v1, v2, v3, v4, v5, v6, v7, v8) else none
noncomputable def sp47 : FSpec Ty := addH 1 ab47 F47 on47 (noHX false false)
theorem ok47 : FOK Try.prog tab 47 sp47 := addH_of (fun k x y h => by
  obtain ⟨v0, v1, v2, v3, v4, v5, v6, v7, v8⟩ := x; 
  rcases forkK h with ⟨rfl, h1⟩ | h
  · exact addH_run ok47f0 (x := (v1, v2, v3, v4, v5, v6, v7, v8)) rfl h1
  rcases forkK h with ⟨rfl, h1⟩ | h
  · exact addH_run ok47f1 (x := (v1, v2, v3, v4, v5, v6, v7, v8)) rfl h1
  rcases forkK h with ⟨rfl, h1⟩ | h
  · exact addH_run ok47f2 (x := (v1, v2, v3, v4, v5, v6, v7, v8)) rfl h1
  rcases forkK h with ⟨rfl, h1⟩ | h
  · exact addH_run ok47f3 (x := (v1, v2, v3, v4, v5, v6, v7, v8)) rfl h1
  cases h) FOK.noneX rfl
noncomputable def fs47 : Nat → Option (FSpec Ty) := addF 47 sp47 fs55
theorem fs47OK : SpecsOK Try.prog tab fs47 := fs55OK.add ok47 Try.call47
theorem bo33 : Try.f33.body = some (bodyOf Try.f33) := by kernel_rfl
theorem nd33 : nodupB ((loopsIn (bodyOf Try.f33)).map firstRegion) = true := by kernel_rfl
def of33 : Int × Int × Int × Int × List Int × Int × List Int × List (List Int) × List Int × List Int × List Int × List Int → NSt Ty := fun x => ⟨[.ptr 100000 [], .int .i64 (x.1), .cons (.int .i64 (x.2.1)) (.cons (.int .i64 (x.2.2.1)) (.cons (.int .i64 (x.2.2.2.1)) (.cons (.slice 5 (x.2.2.2.2.1)) (.nil))))], [.var (.cons (.row 100001) (.cons (.row 100002) (.cons (.int .i64 (x.2.2.2.2.2.1)) (.cons (.cons (.row 100003) (.cons (.row 100004) (.cons (.row 100005) (.cons (.row 100006) (.nil))))) (.nil))))), .row 3 (x.2.2.2.2.2.2.1), .row 50 (x.2.2.2.2.2.2.2.1), .row 3 (x.2.2.2.2.2.2.2.2.1), .row 3 (x.2.2.2.2.2.2.2.2.2.1), .row 3 (x.2.2.2.2.2.2.2.2.2.2.1), .row 3 (x.2.2.2.2.2.2.2.2.2.2.2)]⟩
def ab33 : (n : NSt Ty) → Option {x : Int × Int × Int × Int × List Int × Int × List Int × List (List Int) × List Int × List Int × List Int × List Int // of33 x = n}
  | ⟨[.ptr 100000 [], .int .i64 v0, .cons (.int .i64 v1) (.cons (.int .i64 v2) (.cons (.int .i64 v3) (.cons (.slice 5 v4) (.nil))))], [.var (.cons (.row 100001) (.cons (.row 100002) (.cons (.int .i64 v5) (.cons (.cons (.row 100003) (.cons (.row 100004) (.cons (.row 100005) (.cons (.row 100006) (.nil))))) (.nil))))), .row 3 v6, .row 50 v7, .row 3 v8, .row 3 v9, .row 3 v10, .row 3 v11]⟩ => some ⟨(v0, v1, v2, v3, v4, v5, v6, v7, v8, v9, v10, v11), rfl⟩
  | _ => none
def on33 : Int × Int × List Int × Int × List Int × List (List Int) × List Int × List Int × List Int × List Int → NSt Ty := fun x => ⟨[.cons (.int .i64 (x.1)) (.cons (.int .i64 (x.2.1)) (.cons (.slice 5 (x.2.2.1)) (.nil)))], [.var (.cons (.row 100001) (.cons (.row 100002) (.cons (.int .i64 (x.2.2.2.1)) (.cons (.cons (.row 100003) (.cons (.row 100004) (.cons (.row 100005) (.cons (.row 100006) (.nil))))) (.nil))))), .row 3 (x.2.2.2.2.1), .row 50 (x.2.2.2.2.2.1), .row 3 (x.2.2.2.2.2.2.1), .row 3 (x.2.2.2.2.2.2.2.1), .row 3 (x.2.2.2.2.2.2.2.2.1), .row 3 (x.2.2.2.2.2.2.2.2.2)]⟩
def oa33 : (n : NSt Ty) → Option {y : Int × Int × List Int × Int × List Int × List (List Int) × List Int × List Int × List Int × List Int // on33 y = n}
  | ⟨[.cons (.int .i64 v0) (.cons (.int .i64 v1) (.cons (.slice 5 v2) (.nil)))], [.var (.cons (.row 100001) (.cons (.row 100002) (.cons (.int .i64 v3) (.cons (.cons (.row 100003) (.cons (.row 100004) (.cons (.row 100005) (.cons (.row 100006) (.nil))))) (.nil))))), .row 3 v4, .row 50 v5, .row 3 v6, .row 3 v7, .row 3 v8, .row 3 v9]⟩ => some ⟨(v0, v1, v2, v3, v4, v5, v6, v7, v8, v9), rfl⟩
  | _ => none
def kp33 : Nat → Keep := pinned 1 fun i => ⟨[], [], 0⟩
/-- "(*silt/model.Model).page"  -/
def F33 (k : Nat) (x : Int × Int × Int × Int × List Int × Int × List Int × List (List Int) × List Int × List Int × List Int × List Int) : Option (Int × Int × List Int × Int × List Int × List (List Int) × List Int × List Int × List Int × List Int) :=
  match x with
  | (v0, v1, v2, v3, v4, v5, v6, v7, v8, v9, v10, v11) => bif v1 == (1 : Int) then bif inRange v2 v7.length then some ((0 : Int), (0 : Int), List.take ((↑(32 : Nat) : Int) - (0 : Int)).toNat (List.drop (Int.toNat (0 : Int)) (v7.getD v2.toNat (List.replicate (32 : Nat) (0 : Int)))), v5, v6, v7, v8, v9, v10, v11) else none else bif v1 == (2 : Int) then (F44 k (v1, v2, v3, v4, v5, v6, v7, v8, v9, v10, v11)).bind fun r => some (r.fst, (0 : Int), [], r.snd.fst, r.snd.snd.fst, r.snd.snd.snd.fst, r.snd.snd.snd.snd.fst, r.snd.snd.snd.snd.snd.fst, r.snd.snd.snd.snd.snd.snd.fst, r.snd.snd.snd.snd.snd.snd.snd) else bif v1 == (4 : Int) then (F45 k (v2, v5, v6, v7, v8, v9, v10, v11)).bind fun r => some (r.fst, (0 : Int), [], r.snd.fst, r.snd.snd.fst, r.snd.snd.snd.fst, r.snd.snd.snd.snd.fst, r.snd.snd.snd.snd.snd.fst, r.snd.snd.snd.snd.snd.snd.fst, r.snd.snd.snd.snd.snd.snd.snd) else bif v1 == (6 : Int) then (F46 k (v0, v2, v5, v6, v7, v8, v9, v10, v11)).bind fun r => some (r.fst, (0 : Int), [], r.snd.fst, r.snd.snd.fst, r.snd.snd.snd.fst, r.snd.snd.snd.snd.fst, r.snd.snd.snd.snd.snd.fst, r.snd.snd.snd.snd.snd.snd.fst, r.snd.snd.snd.snd.snd.snd.snd) else bif v1 == (7 : Int) then (F47 k (v0, v2, v5, v6, v7, v8, v9, v10, v11)).bind fun r => some (r.fst, (0 : Int), [], r.snd.fst, r.snd.snd.fst, r.snd.snd.snd.fst, r.snd.snd.snd.snd.fst, r.snd.snd.snd.snd.snd.fst, r.snd.snd.snd.snd.snd.snd.fst, r.snd.snd.snd.snd.snd.snd.snd) else some ((0 : Int), (0 : Int), [], v5, v6, v7, v8, v9, v10, v11)
noncomputable def sp33 : FSpec Ty := addH 1 ab33 F33 on33 (noHX false false)
theorem ok33 : FOK Try.prog tab 33 sp33 := addH_ok (keeps := kp33) tabOK fs47OK Try.func33 bo33 (by kernel_rfl) nd33 (LSOK.none) oa33 (F := F33) (fun k x => by kernel_rfl) (pinned_le (Nat.le_refl _) _) FOK.noneX rfl
noncomputable def fs33 : Nat → Option (FSpec Ty) := addF 33 sp33 fs47
theorem fs33OK : SpecsOK Try.prog tab fs33 := fs47OK.add ok33 Try.call33
theorem bo14 : Try.f14.body = some (bodyOf Try.f14) := by kernel_rfl
theorem nd14 : nodupB ((loopsIn (bodyOf Try.f14)).map firstRegion) = true := by kernel_rfl
def of14 : Int × Int × Int × Int × List Int × Int × List Int × List (List Int) × List Int × List Int × List Int × List Int → NSt Ty := fun x => ⟨[.ptr 100000 [], .int .i64 (x.1), .cons (.int .i64 (x.2.1)) (.cons (.int .i64 (x.2.2.1)) (.cons (.int .i64 (x.2.2.2.1)) (.cons (.slice 5 (x.2.2.2.2.1)) (.nil))))], [.var (.cons (.row 100001) (.cons (.row 100002) (.cons (.int .i64 (x.2.2.2.2.2.1)) (.cons (.cons (.row 100003) (.cons (.row 100004) (.cons (.row 100005) (.cons (.row 100006) (.nil))))) (.nil))))), .row 3 (x.2.2.2.2.2.2.1), .row 50 (x.2.2.2.2.2.2.2.1), .row 3 (x.2.2.2.2.2.2.2.2.1), .row 3 (x.2.2.2.2.2.2.2.2.2.1), .row 3 (x.2.2.2.2.2.2.2.2.2.2.1), .row 3 (x.2.2.2.2.2.2.2.2.2.2.2)]⟩
def ab14 : (n : NSt Ty) → Option {x : Int × Int × Int × Int × List Int × Int × List Int × List (List Int) × List Int × List Int × List Int × List Int // of14 x = n}
  | ⟨[.ptr 100000 [], .int .i64 v0, .cons (.int .i64 v1) (.cons (.int .i64 v2) (.cons (.int .i64 v3) (.cons (.slice 5 v4) (.nil))))], [.var (.cons (.row 100001) (.cons (.row 100002) (.cons (.int .i64 v5) (.cons (.cons (.row 100003) (.cons (.row 100004) (.cons (.row 100005) (.cons (.row 100006) (.nil))))) (.nil))))), .row 3 v6, .row 50 v7, .row 3 v8, .row 3 v9, .row 3 v10, .row 3 v11]⟩ => some ⟨(v0, v1, v2, v3, v4, v5, v6, v7, v8, v9, v10, v11), rfl⟩
  | _ => none
def on14 : Int × Int × List Int × Int × List Int × List (List Int) × List Int × List Int × List Int × List Int → NSt Ty := fun x => ⟨[.cons (.int .i64 (x.1)) (.cons (.int .i64 (x.2.1)) (.cons (.slice 5 (x.2.2.1)) (.nil)))], [.var (.cons (.row 100001) (.cons (.row 100002) (.cons (.int .i64 (x.2.2.2.1)) (.cons (.cons (.row 100003) (.cons (.row 100004) (.cons (.row 100005) (.cons (.row 100006) (.nil))))) (.nil))))), .row 3 (x.2.2.2.2.1), .row 50 (x.2.2.2.2.2.1), .row 3 (x.2.2.2.2.2.2.1), .row 3 (x.2.2.2.2.2.2.2.1), .row 3 (x.2.2.2.2.2.2.2.2.1), .row 3 (x.2.2.2.2.2.2.2.2.2)]⟩
def oa14 : (n : NSt Ty) → Option {y : Int × Int × List Int × Int × List Int × List (List Int) × List Int × List Int × List Int × List Int // on14 y = n}
  | ⟨[.cons (.int .i64 v0) (.cons (.int .i64 v1) (.cons (.slice 5 v2) (.nil)))], [.var (.cons (.row 100001) (.cons (.row 100002) (.cons (.int .i64 v3) (.cons (.cons (.row 100003) (.cons (.row 100004) (.cons (.row 100005) (.cons (.row 100006) (.nil))))) (.nil))))), .row 3 v4, .row 50 v5, .row 3 v6, .row 3 v7, .row 3 v8, .row 3 v9]⟩ => some ⟨(v0, v1, v2, v3, v4, v5, v6, v7, v8, v9), rfl⟩
  | _ => none
def kp14 : Nat → Keep := pinned 1 fun i => ⟨[], [], 0⟩
/-- "(*silt/model.Model).Do"  -/
def F14 (k : Nat) (x : Int × Int × Int × Int × List Int × Int × List Int × List (List Int) × List Int × List Int × List Int × List Int) : Option (Int × Int × List Int × Int × List Int × List (List Int) × List Int × List Int × List Int × List Int) :=
  match x with
  | (v0, v1, v2, v3, v4, v5, v6, v7, v8, v9, v10, v11) => bif decide (v0 < (0 : Int)) then some ((20 : Int), (0 : Int), [], v5, v6, v7, v8, v9, v10, v11) else bif decide (v0 ≥ (4 : Int)) then some ((20 : Int), (0 : Int), [], v5, v6, v7, v8, v9, v10, v11) else bif v1 == (3 : Int) then (F31 k (v5, v6, v7, v8, v9, v10, v11)).bind fun r => some (r.fst, r.snd.fst, r.snd.snd.snd.fst, r.snd.snd.fst, r.snd.snd.snd.snd.fst, r.snd.snd.snd.snd.snd.fst, r.snd.snd.snd.snd.snd.snd.fst, r.snd.snd.snd.snd.snd.snd.snd.fst, r.snd.snd.snd.snd.snd.snd.snd.snd.fst, r.snd.snd.snd.snd.snd.snd.snd.snd.snd) else bif v1 == (5 : Int) then some ((0 : Int), (0 : Int), [], v5, v6, v7, v8, v9, v10, v11) else bif v1 == (1 : Int) then (F32 k (v2, v5, v6, v7, v8, v9, v10, v11)).bind fun r => bif r != (0 : Int) then some (r, (0 : Int), [], v5, v6, v7, v8, v9, v10, v11) else (F33 k (v0, v1, v2, v3, v4, v5, v6, v7, v8, v9, v10, v11)).bind fun r => some (r.fst, r.snd.fst, r.snd.snd.fst, r.snd.snd.snd.fst, r.snd.snd.snd.snd.fst, r.snd.snd.snd.snd.snd.fst, r.snd.snd.snd.snd.snd.snd.fst, r.snd.snd.snd.snd.snd.snd.snd.fst, r.snd.snd.snd.snd.snd.snd.snd.snd.fst, r.snd.snd.snd.snd.snd.snd.snd.snd.snd) else bif v1 == (2 : Int) then (F32 k (v2, v5, v6, v7, v8, v9, v10, v11)).bind fun r => bif r != (0 : Int) then some (r, (0 : Int), [], v5, v6, v7, v8, v9, v10, v11) else (F33 k (v0, v1, v2, v3, v4, v5, v6, v7, v8, v9, v10, v11)).bind fun r => some (r.fst, r.snd.fst, r.snd.snd.fst, r.snd.snd.snd.fst, r.snd.snd.snd.snd.fst, r.snd.snd.snd.snd.snd.fst, r.snd.snd.snd.snd.snd.snd.fst, r.snd.snd.snd.snd.snd.snd.snd.fst, r.snd.snd.snd.snd.snd.snd.snd.snd.fst, r.snd.snd.snd.snd.snd.snd.snd.snd.snd) else bif v1 == (4 : Int) then (F32 k (v2, v5, v6, v7, v8, v9, v10, v11)).bind fun r => bif r != (0 : Int) then some (r, (0 : Int), [], v5, v6, v7, v8, v9, v10, v11) else (F33 k (v0, v1, v2, v3, v4, v5, v6, v7, v8, v9, v10, v11)).bind fun r => some (r.fst, r.snd.fst, r.snd.snd.fst, r.snd.snd.snd.fst, r.snd.snd.snd.snd.fst, r.snd.snd.snd.snd.snd.fst, r.snd.snd.snd.snd.snd.snd.fst, r.snd.snd.snd.snd.snd.snd.snd.fst, r.snd.snd.snd.snd.snd.snd.snd.snd.fst, r.snd.snd.snd.snd.snd.snd.snd.snd.snd) else bif v1 == (6 : Int) then (F32 k (v2, v5, v6, v7, v8, v9, v10, v11)).bind fun r => bif r != (0 : Int) then some (r, (0 : Int), [], v5, v6, v7, v8, v9, v10, v11) else (F33 k (v0, v1, v2, v3, v4, v5, v6, v7, v8, v9, v10, v11)).bind fun r => some (r.fst, r.snd.fst, r.snd.snd.fst, r.snd.snd.snd.fst, r.snd.snd.snd.snd.fst, r.snd.snd.snd.snd.snd.fst, r.snd.snd.snd.snd.snd.snd.fst, r.snd.snd.snd.snd.snd.snd.snd.fst, r.snd.snd.snd.snd.snd.snd.snd.snd.fst, r.snd.snd.snd.snd.snd.snd.snd.snd.snd) else bif v1 == (7 : Int) then (F32 k (v2, v5, v6, v7, v8, v9, v10, v11)).bind fun r => bif r != (0 : Int) then some (r, (0 : Int), [], v5, v6, v7, v8, v9, v10, v11) else (F33 k (v0, v1, v2, v3, v4, v5, v6, v7, v8, v9, v10, v11)).bind fun r => some (r.fst, r.snd.fst, r.snd.snd.fst, r.snd.snd.snd.fst, r.snd.snd.snd.snd.fst, r.snd.snd.snd.snd.snd.fst, r.snd.snd.snd.snd.snd.snd.fst, r.snd.snd.snd.snd.snd.snd.snd.fst, r.snd.snd.snd.snd.snd.snd.snd.snd.fst, r.snd.snd.snd.snd.snd.snd.snd.snd.snd) else some ((1 : Int), (0 : Int), [], v5, v6, v7, v8, v9, v10, v11)
noncomputable def sp14 : FSpec Ty := addH 1 ab14 F14 on14 (noHX false false)
theorem ok14 : FOK Try.prog tab 14 sp14 := addH_ok (keeps := kp14) tabOK fs33OK Try.func14 bo14 (by kernel_rfl) nd14 (LSOK.none) oa14 (F := F14) (fun k x => by kernel_rfl) (pinned_le (Nat.le_refl _) _) FOK.noneX rfl
noncomputable def fs14 : Nat → Option (FSpec Ty) := addF 14 sp14 fs33
theorem fs14OK : SpecsOK Try.prog tab fs14 := fs33OK.add ok14 Try.call14
theorem bo11 : Try.f11.body = some (bodyOf Try.f11) := by kernel_rfl
theorem nd11 : nodupB ((loopsIn (bodyOf Try.f11)).map firstRegion) = true := by kernel_rfl
def of11 : Int × List Int × List (List Int) × List Int × List Int × List Int × List Int → NSt Ty := fun x => ⟨[.ptr 100000 []], [.var (.cons (.row 100001) (.cons (.row 100002) (.cons (.int .i64 (x.1)) (.cons (.cons (.row 100003) (.cons (.row 100004) (.cons (.row 100005) (.cons (.row 100006) (.nil))))) (.nil))))), .row 3 (x.2.1), .row 50 (x.2.2.1), .row 3 (x.2.2.2.1), .row 3 (x.2.2.2.2.1), .row 3 (x.2.2.2.2.2.1), .row 3 (x.2.2.2.2.2.2)]⟩
def ab11 : (n : NSt Ty) → Option {x : Int × List Int × List (List Int) × List Int × List Int × List Int × List Int // of11 x = n}
  | ⟨[.ptr 100000 []], [.var (.cons (.row 100001) (.cons (.row 100002) (.cons (.int .i64 v0) (.cons (.cons (.row 100003) (.cons (.row 100004) (.cons (.row 100005) (.cons (.row 100006) (.nil))))) (.nil))))), .row 3 v1, .row 50 v2, .row 3 v3, .row 3 v4, .row 3 v5, .row 3 v6]⟩ => some ⟨(v0, v1, v2, v3, v4, v5, v6), rfl⟩
  | _ => none
def on11 : Int × Int × List Int × List (List Int) × List Int × List Int × List Int × List Int × List Int × List (List Int) × List Int × List Int × List Int × List Int → NSt Ty := fun x => ⟨[.ptr 100001 []], [.var (.cons (.row 100002) (.cons (.row 100003) (.cons (.int .i64 (x.1)) (.cons (.cons (.row 100004) (.cons (.row 100005) (.cons (.row 100006) (.cons (.row 100007) (.nil))))) (.nil))))), .var (.cons (.row 100008) (.cons (.row 100009) (.cons (.int .i64 (x.2.1)) (.cons (.cons (.row 100010) (.cons (.row 100011) (.cons (.row 100012) (.cons (.row 100013) (.nil))))) (.nil))))), .row 3 (x.2.2.1), .row 50 (x.2.2.2.1), .row 3 (x.2.2.2.2.1), .row 3 (x.2.2.2.2.2.1), .row 3 (x.2.2.2.2.2.2.1), .row 3 (x.2.2.2.2.2.2.2.1), .row 3 (x.2.2.2.2.2.2.2.2.1), .row 50 (x.2.2.2.2.2.2.2.2.2.1), .row 3 (x.2.2.2.2.2.2.2.2.2.2.1), .row 3 (x.2.2.2.2.2.2.2.2.2.2.2.1), .row 3 (x.2.2.2.2.2.2.2.2.2.2.2.2.1), .row 3 (x.2.2.2.2.2.2.2.2.2.2.2.2.2)]⟩
def oa11 : (n : NSt Ty) → Option {y : Int × Int × List Int × List (List Int) × List Int × List Int × List Int × List Int × List Int × List (List Int) × List Int × List Int × List Int × List Int // on11 y = n}
  | ⟨[.ptr 100001 []], [.var (.cons (.row 100002) (.cons (.row 100003) (.cons (.int .i64 v0) (.cons (.cons (.row 100004) (.cons (.row 100005) (.cons (.row 100006) (.cons (.row 100007) (.nil))))) (.nil))))), .var (.cons (.row 100008) (.cons (.row 100009) (.cons (.int .i64 v1) (.cons (.cons (.row 100010) (.cons (.row 100011) (.cons (.row 100012) (.cons (.row 100013) (.nil))))) (.nil))))), .row 3 v2, .row 50 v3, .row 3 v4, .row 3 v5, .row 3 v6, .row 3 v7, .row 3 v8, .row 50 v9, .row 3 v10, .row 3 v11, .row 3 v12, .row 3 v13]⟩ => some ⟨(v0, v1, v2, v3, v4, v5, v6, v7, v8, v9, v10, v11, v12, v13), rfl⟩
  | _ => none
def kp11 : Nat → Keep := pinned 1 fun i => cond (i == 5) ⟨[3, 27, 28], [3], 0⟩ (⟨[], [], 0⟩)
/-- "(*silt/model.Model).Copy"  -/
def F11 (k : Nat) (x : Int × List Int × List (List Int) × List Int × List Int × List Int × List Int) : Option (Int × Int × List Int × List (List Int) × List Int × List Int × List Int × List Int × List Int × List (List Int) × List Int × List Int × List Int × List Int) :=
  match x with
  | (v0, v1, v2, v3, v4, v5, v6) => bif decide (v1.length ≤ roomMost) then bif decide (v2.length ≤ roomMost) then bif Nat.ble (5 : Nat) k then bif decide (v3.length ≤ roomMost) then bif decide (v4.length ≤ roomMost) then bif decide (v5.length ≤ roomMost) then bif decide (v6.length ≤ roomMost) then some (v0, v0, v1, v2, v3, v4, v5, v6, v1, v2, v3, v4, v5, v6) else none else none else none else none else none else none else none
noncomputable def sp11 : FSpec Ty := addH 1 ab11 F11 on11 (noHX false false)
noncomputable def ls11_5 : Nat → Option (LSum Ty) := addL 5 (LSum.unroll fs14 kp11 noL tab (bodyAt Try.f11 5) 5) noL
theorem lo11_5 : LSOK fs14 kp11 tab Try.f11 ls11_5 := lunroll_ok bo11 nd11 (LSOK.none)
theorem ok11 : FOK Try.prog tab 11 sp11 := addH_ok (keeps := kp11) tabOK fs14OK Try.func11 bo11 (by kernel_rfl) nd11 (lo11_5) oa11 (F := F11) (fun k x => by kernel_rfl) (pinned_le (Nat.le_refl _) _) FOK.noneX rfl
noncomputable def fs11 : Nat → Option (FSpec Ty) := addF 11 sp11 fs14
theorem fs11OK : SpecsOK Try.prog tab fs11 := fs14OK.add ok11 Try.call11
theorem bo21 : Try.f21.body = some (bodyOf Try.f21) := by kernel_rfl
theorem nd21 : nodupB ((loopsIn (bodyOf Try.f21)).map firstRegion) = true := by kernel_rfl
def of21 : Int × Int × List Int × List (List Int) × List Int × List Int × List Int × List Int → NSt Ty := fun x => ⟨[.ptr 100000 [], .int .i64 (x.1)], [.fvar (.cons (.row 100001) (.cons (.row 100002) (.cons (.int .i64 (x.2.1)) (.cons (.cons (.row 100003) (.cons (.row 100004) (.cons (.row 100005) (.cons (.row 100006) (.nil))))) (.nil))))), .frow 3 (x.2.2.1), .frow 50 (x.2.2.2.1), .frow 3 (x.2.2.2.2.1), .frow 3 (x.2.2.2.2.2.1), .frow 3 (x.2.2.2.2.2.2.1), .frow 3 (x.2.2.2.2.2.2.2)]⟩
def ab21 : (n : NSt Ty) → Option {x : Int × Int × List Int × List (List Int) × List Int × List Int × List Int × List Int // of21 x = n}
  | ⟨[.ptr 100000 [], .int .i64 v0], [.fvar (.cons (.row 100001) (.cons (.row 100002) (.cons (.int .i64 v1) (.cons (.cons (.row 100003) (.cons (.row 100004) (.cons (.row 100005) (.cons (.row 100006) (.nil))))) (.nil))))), .frow 3 v2, .frow 50 v3, .frow 3 v4, .frow 3 v5, .frow 3 v6, .frow 3 v7]⟩ => some ⟨(v0, v1, v2, v3, v4, v5, v6, v7), rfl⟩
  | _ => none
def on21 : List Int × Bool → NSt Ty := fun x => ⟨[.tup (.cons (.arr 5 32 (x.1)) (.cons (.bool (x.2)) (.nil)))], []⟩
def oa21 : (n : NSt Ty) → Option {y : List Int × Bool // on21 y = n}
  | ⟨[.tup (.cons (.arr 5 32 v0) (.cons (.bool v1) (.nil)))], []⟩ => some ⟨(v0, v1), rfl⟩
  | _ => none
def kp21 : Nat → Keep := pinned 0 fun i => ⟨[], [], 0⟩
/-- "(*silt/model.Model).Page"  -/
def F21 (k : Nat) (x : Int × Int × List Int × List (List Int) × List Int × List Int × List Int × List Int) : Option (List Int × Bool) :=
  match x with
  | (v0, v1, v2, v3, v4, v5, v6, v7) => (F32 k (v0, v1, v2, v3, v4, v5, v6, v7)).bind fun r => bif r != (0 : Int) then some (List.replicate (32 : Nat) (0 : Int), false) else bif inRange v0 v3.length then some (v3.getD v0.toNat (List.replicate (32 : Nat) (0 : Int)), true) else none
noncomputable def sp21 : FSpec Ty := addH 0 ab21 F21 on21 (noHX false true)
theorem ok21 : FOK Try.prog tab 21 sp21 := addH_ok (keeps := kp21) tabOK fs11OK Try.func21 bo21 (by kernel_rfl) nd21 (LSOK.none) oa21 (F := F21) (fun k x => by kernel_rfl) (pinned_le (Nat.le_refl _) _) FOK.noneX rfl
noncomputable def fs21 : Nat → Option (FSpec Ty) := addF 21 sp21 fs11
theorem fs21OK : SpecsOK Try.prog tab fs21 := fs11OK.add ok21 Try.call21
theorem bo41 : Try.f41.body = some (bodyOf Try.f41) := by kernel_rfl
theorem nd41 : nodupB ((loopsIn (bodyOf Try.f41)).map firstRegion) = true := by kernel_rfl
def of41 : List Int × List Int → NSt Ty := fun x => ⟨[.slice 3 (x.1), .slice 3 (x.2)], []⟩
def ab41 : (n : NSt Ty) → Option {x : List Int × List Int // of41 x = n}
  | ⟨[.slice 3 v0, .slice 3 v1], []⟩ => some ⟨(v0, v1), rfl⟩
  | _ => none
def of41_3 : List Int × List Int × Int × Int × List Int → NSt Ty := fun x => ⟨[.slice 3 (x.1), .slice 3 (x.2.1), .row 100000, .int .i64 (x.2.2.1), .int .i64 (x.2.2.2.1)], [.row 3 (x.2.2.2.2)]⟩
def ab41_3 : (n : NSt Ty) → Option {x : List Int × List Int × Int × Int × List Int // of41_3 x = n}
  | ⟨[.slice 3 v0, .slice 3 v1, .row 100000, .int .i64 v2, .int .i64 v3], [.row 3 v4]⟩ => some ⟨(v0, v1, v2, v3, v4), rfl⟩
  | _ => none
def oe41_3 : List Int → Ex := fun _ => .exit 0
def on41_3 : List Int → NSt Ty := fun x => ⟨[.row 100000], [.row 3 (x)]⟩
def oa41_3 : (e : Ex) → (n : NSt Ty) → Option {y : List Int // oe41_3 y = e ∧ on41_3 y = n}
  | .exit 0, ⟨[.row 100000], [.row 3 v0]⟩ => some ⟨v0, rfl, rfl⟩
  | _, _ => none
/-- a round of the loop 3 of function 41 -/
def R41_3 (k : Nat) (again : List Int × List Int × Int × Int × List Int → Option (List Int)) (x : List Int × List Int × Int × Int × List Int) : Option (List Int) :=
  match x with
  | (v0, v1, v2, v3, v4) => bif decide (v3 < v2) then (F50 k (v0, v3, ())).bind fun r => (F50 k (v1, v3, ())).bind fun r_1 => bif r != r_1 then bif decide (v4.length + ((List.replicate (1 : Nat) (0 : Int)).set (0 : Nat) v3).length ≤ roomMost) then again (v0, v1, v2, IntKind.i64.wrap (v3 + (1 : Int)), v4 ++ (List.replicate (1 : Nat) (0 : Int)).set (0 : Nat) v3) else none else again (v0, v1, v2, IntKind.i64.wrap (v3 + (1 : Int)), v4) else some v4
def L41_3 (k n : Nat) (x : List Int × List Int × Int × Int × List Int) : Option (List Int) := iterR (R41_3 k) n x
def on41 : List Int → NSt Ty := fun x => ⟨[.row 100000], [.row 3 (x)]⟩
def oa41 : (n : NSt Ty) → Option {y : List Int // on41 y = n}
  | ⟨[.row 100000], [.row 3 v0]⟩ => some ⟨v0, rfl⟩
  | _ => none
def kp41 : Nat → Keep := pinned 0 fun i => cond (i == 3) ⟨[0, 1, 5, 11, 12], [5], 0⟩ (⟨[], [], 0⟩)
/-- "silt/heads.Changed"  -/
def F41 (k : Nat) (x : List Int × List Int) : Option (List Int) :=
  match x with
  | (v0, v1) => (L41_3 k k (v0, v1, if (↑v1.length : Int) > (↑v0.length : Int) then (↑v1.length : Int) else (↑v0.length : Int), (0 : Int), [])).bind fun r => some r
noncomputable def sp41 : FSpec Ty := addH 0 ab41 F41 on41 (noHX false true)
noncomputable def ls41_3 : Nat → Option (LSum Ty) := addL 3 (LSum.of of41_3 ab41_3 L41_3 oe41_3 on41_3) noL
theorem lo41_3 : LSOK fs21 kp41 tab Try.f41 ls41_3 := lsum_ok bo41 nd41 (LSOK.none) oa41_3 (R := R41_3) fun k again x => by kernel_rfl
theorem ok41 : FOK Try.prog tab 41 sp41 := addH_ok (keeps := kp41) tabOK fs21OK Try.func41 bo41 (by kernel_rfl) nd41 (lo41_3) oa41 (F := F41) (fun k x => by kernel_rfl) (pinned_le (Nat.le_refl _) _) FOK.noneX rfl
noncomputable def fs41 : Nat → Option (FSpec Ty) := addF 41 sp41 fs21
theorem fs41OK : SpecsOK Try.prog tab fs41 := fs21OK.add ok41 Try.call41
theorem bo22 : Try.f22.body = some (bodyOf Try.f22) := by kernel_rfl
theorem nd22 : nodupB ((loopsIn (bodyOf Try.f22)).map firstRegion) = true := by kernel_rfl
def of22 : Int × List Int × List (List Int) × List Int × List Int × List Int × List Int → NSt Ty := fun x => ⟨[.ptr 100000 []], [.fvar (.cons (.row 100001) (.cons (.row 100002) (.cons (.int .i64 (x.1)) (.cons (.cons (.row 100003) (.cons (.row 100004) (.cons (.row 100005) (.cons (.row 100006) (.nil))))) (.nil))))), .frow 3 (x.2.1), .frow 50 (x.2.2.1), .frow 3 (x.2.2.2.1), .frow 3 (x.2.2.2.2.1), .frow 3 (x.2.2.2.2.2.1), .frow 3 (x.2.2.2.2.2.2)]⟩
def ab22 : (n : NSt Ty) → Option {x : Int × List Int × List (List Int) × List Int × List Int × List Int × List Int // of22 x = n}
  | ⟨[.ptr 100000 []], [.fvar (.cons (.row 100001) (.cons (.row 100002) (.cons (.int .i64 v0) (.cons (.cons (.row 100003) (.cons (.row 100004) (.cons (.row 100005) (.cons (.row 100006) (.nil))))) (.nil))))), .frow 3 v1, .frow 50 v2, .frow 3 v3, .frow 3 v4, .frow 3 v5, .frow 3 v6]⟩ => some ⟨(v0, v1, v2, v3, v4, v5, v6), rfl⟩
  | _ => none
def on22 : List Int → NSt Ty := fun x => ⟨[.row 100000], [.row 3 (x)]⟩
def oa22 : (n : NSt Ty) → Option {y : List Int // on22 y = n}
  | ⟨[.row 100000], [.row 3 v0]⟩ => some ⟨v0, rfl⟩
  | _ => none
def kp22 : Nat → Keep := pinned 0 fun i => ⟨[], [], 0⟩
/-- "(*silt/model.Model).Pages"  -/
def F22 (k : Nat) (x : Int × List Int × List (List Int) × List Int × List Int × List Int × List Int) : Option (List Int) :=
  match x with
  | (v0, v1, v2, v3, v4, v5, v6) => (F41 k (v1, [])).bind fun r => some r
noncomputable def sp22 : FSpec Ty := addH 0 ab22 F22 on22 (noHX false true)
theorem ok22 : FOK Try.prog tab 22 sp22 := addH_ok (keeps := kp22) tabOK fs41OK Try.func22 bo22 (by kernel_rfl) nd22 (LSOK.none) oa22 (F := F22) (fun k x => by kernel_rfl) (pinned_le (Nat.le_refl _) _) FOK.noneX rfl
noncomputable def fs22 : Nat → Option (FSpec Ty) := addF 22 sp22 fs41
theorem fs22OK : SpecsOK Try.prog tab fs22 := fs41OK.add ok22 Try.call22
def ag8 : Args Ty (Unit) := noArgs
def rs8 : Res Ty tab (Bool) false := V.oneRes (tab.den 4) (ent 4).ids (ent 4).plain (fun x _ => (ent 4).flat x rfl)
def kp8 : Nat → Keep := fun i => ⟨[], [], 0⟩
/-- "silt/siltlaw27.wakes" -/
def F8 (k : Nat) (x : Unit) : Option (Bool) :=
  match x with
  | () => (F24 k ()).bind fun r => (F9 k (r.1, r.2, r.3, r.4)).bind fun r => sumK r (fun a => some false) fun b => (F14 k ((0 : Int), (3 : Int), (0 : Int), (0 : Int), [], b.fst, b.snd.fst, b.snd.snd.fst, b.snd.snd.snd.fst, b.snd.snd.snd.snd.fst, b.snd.snd.snd.snd.snd.fst, b.snd.snd.snd.snd.snd.snd)).bind fun r => (F14 k ((0 : Int), (2 : Int), (0 : Int), (3 : Int), (List.replicate (1 : Nat) (0 : Int)).set (0 : Nat) (7 : Int), r.snd.snd.snd.fst, r.snd.snd.snd.snd.fst, r.snd.snd.snd.snd.snd.fst, r.snd.snd.snd.snd.snd.snd.fst, r.snd.snd.snd.snd.snd.snd.snd.fst, r.snd.snd.snd.snd.snd.snd.snd.snd.fst, r.snd.snd.snd.snd.snd.snd.snd.snd.snd)).bind fun r_1 => (F11 k (r_1.snd.snd.snd.fst, r_1.snd.snd.snd.snd.fst, r_1.snd.snd.snd.snd.snd.fst, r_1.snd.snd.snd.snd.snd.snd.fst, r_1.snd.snd.snd.snd.snd.snd.snd.fst, r_1.snd.snd.snd.snd.snd.snd.snd.snd.fst, r_1.snd.snd.snd.snd.snd.snd.snd.snd.snd)).bind fun r_2 => (F14 k ((0 : Int), (4 : Int), (0 : Int), (0 : Int), [], r_2.fst, r_2.snd.snd.fst, r_2.snd.snd.snd.fst, r_2.snd.snd.snd.snd.fst, r_2.snd.snd.snd.snd.snd.fst, r_2.snd.snd.snd.snd.snd.snd.fst, r_2.snd.snd.snd.snd.snd.snd.snd.fst)).bind fun r_3 => (F14 k ((1 : Int), (1 : Int), (0 : Int), (0 : Int), [], r_2.snd.fst, r_2.snd.snd.snd.snd.snd.snd.snd.snd.fst, r_2.snd.snd.snd.snd.snd.snd.snd.snd.snd.fst, r_2.snd.snd.snd.snd.snd.snd.snd.snd.snd.snd.fst, r_2.snd.snd.snd.snd.snd.snd.snd.snd.snd.snd.snd.fst, r_2.snd.snd.snd.snd.snd.snd.snd.snd.snd.snd.snd.snd.fst, r_2.snd.snd.snd.snd.snd.snd.snd.snd.snd.snd.snd.snd.snd)).bind fun r_4 => (F14 k ((1 : Int), (1 : Int), (0 : Int), (0 : Int), [], r_3.snd.snd.snd.fst, r_3.snd.snd.snd.snd.fst, r_3.snd.snd.snd.snd.snd.fst, r_3.snd.snd.snd.snd.snd.snd.fst, r_3.snd.snd.snd.snd.snd.snd.snd.fst, r_3.snd.snd.snd.snd.snd.snd.snd.snd.fst, r_3.snd.snd.snd.snd.snd.snd.snd.snd.snd)).bind fun r_5 => (F14 k ((4 : Int), (1 : Int), (0 : Int), (0 : Int), [], r_5.snd.snd.snd.fst, r_5.snd.snd.snd.snd.fst, r_5.snd.snd.snd.snd.snd.fst, r_5.snd.snd.snd.snd.snd.snd.fst, r_5.snd.snd.snd.snd.snd.snd.snd.fst, r_5.snd.snd.snd.snd.snd.snd.snd.snd.fst, r_5.snd.snd.snd.snd.snd.snd.snd.snd.snd)).bind fun r_6 => (F21 k ((0 : Int), r_4.snd.snd.snd.fst, r_4.snd.snd.snd.snd.fst, r_4.snd.snd.snd.snd.snd.fst, r_4.snd.snd.snd.snd.snd.snd.fst, r_4.snd.snd.snd.snd.snd.snd.snd.fst, r_4.snd.snd.snd.snd.snd.snd.snd.snd.fst, r_4.snd.snd.snd.snd.snd.snd.snd.snd.snd)).bind fun r_7 => bif r.fst == (0 : Int) then bif r_1.fst == (0 : Int) then bif r_3.fst == (0 : Int) then bif (↑r_4.snd.snd.fst.length : Int) == (32 : Int) then bif inRange (3 : Int) r_4.snd.snd.fst.length then bif r_4.snd.snd.fst.getD (Int.toNat (3 : Int)) (0 : Int) == (7 : Int) then bif r_5.fst == (17 : Int) then bif r_6.fst == (20 : Int) then bif r_7.snd then bif r_7.fst.getD (Int.toNat (3 : Int)) (0 : Int) == (7 : Int) then (F22 k (r_6.snd.snd.snd.fst, r_6.snd.snd.snd.snd.fst, r_6.snd.snd.snd.snd.snd.fst, r_6.snd.snd.snd.snd.snd.snd.fst, r_6.snd.snd.snd.snd.snd.snd.snd.fst, r_6.snd.snd.snd.snd.snd.snd.snd.snd.fst, r_6.snd.snd.snd.snd.snd.snd.snd.snd.snd)).bind fun r => bif (↑r.length : Int) == (0 : Int) then (F22 k (r_4.snd.snd.snd.fst, r_4.snd.snd.snd.snd.fst, r_4.snd.snd.snd.snd.snd.fst, r_4.snd.snd.snd.snd.snd.snd.fst, r_4.snd.snd.snd.snd.snd.snd.snd.fst, r_4.snd.snd.snd.snd.snd.snd.snd.snd.fst, r_4.snd.snd.snd.snd.snd.snd.snd.snd.snd)).bind fun r => (F25 k (r, (List.replicate (1 : Nat) (0 : Int)).set (0 : Nat) (0 : Int), ())).bind fun r => some r else some false else some false else some false else some false else some false else some false else none else some false else some false else some false else some false
noncomputable def sp8 : FSpec Ty := spec ag8 rs8 F8
theorem bo8 : Try.f8.body = some (bodyOf Try.f8) := by kernel_rfl
theorem nd8 : nodupB ((loopsIn (bodyOf Try.f8)).map firstRegion) = true := by kernel_rfl
theorem ok8 : FOK Try.prog tab 8 sp8 := spec_ok (keeps := kp8) tabOK fs22OK Try.func8 bo8 (by kernel_rfl) nd8 (LSOK.none) (F := F8) fun k x => by kernel_rfl
noncomputable def fs8 : Nat → Option (FSpec Ty) := addF 8 sp8 fs22
theorem fs8OK : SpecsOK Try.prog tab fs8 := fs22OK.add ok8 Try.call8
def ag7 : Args Ty ((List T43) × Unit) := V.arg (tab.den 24) (noArgs)
def rs7 : Res Ty tab (Bool) false := V.oneRes (tab.den 4) (ent 4).ids (ent 4).plain (fun x _ => (ent 4).flat x rfl)
def of7_2 : List T43 × Int → NSt Ty := fun x => ⟨[.slice 44 (x.1), .int .i64 (x.2)], []⟩
def ab7_2 : (n : NSt Ty) → Option {x : List T43 × Int // of7_2 x = n}
  | ⟨[.slice 44 v0, .int .i64 v1], []⟩ => some ⟨(v0, v1), rfl⟩
  | _ => none
def on7_2a : List T43 × Bool → NSt Ty := fun x => ⟨[.slice 44 (x.1), .bool (x.2)], []⟩
def on7_2b : List T43 → NSt Ty := fun x => ⟨[.slice 44 (x), .undef], []⟩
def oa7_2 : (e : Ex) → (n : NSt Ty) → Option {y : (List T43 × Bool) ⊕ (List T43) // oe2 .ret (.exit 0) y = e ∧ on2 on7_2a on7_2b y = n}
  | .ret, ⟨[.slice 44 v0, .bool v1], []⟩ => some ⟨.inl (v0, v1), rfl, rfl⟩
  | .exit 0, ⟨[.slice 44 v0, .undef], []⟩ => some ⟨.inr v0, rfl, rfl⟩
  | _, _ => none
/-- a round of the loop 2 of function 7 -/
def R7_2 (k : Nat) (again : List T43 × Int → Option ((List T43 × Bool) ⊕ (List T43))) (x : List T43 × Int) : Option ((List T43 × Bool) ⊕ (List T43)) :=
  match x with
  | (v0, v1) => bif decide (v1 < (↑v0.length : Int)) then bif inRange v1 v0.length then bif decide ((↑(v0.getD v1.toNat (T43.mk (0 : Int) (T41.mk (0 : Int) (0 : Int) (0 : Int) []) false)).2.4.length : Int) > (100 : Int)) then some (Sum.inl (v0, false)) else again (v0, IntKind.i64.wrap (v1 + (1 : Int))) else none else some (Sum.inr v0)
def L7_2 (k n : Nat) (x : List T43 × Int) : Option ((List T43 × Bool) ⊕ (List T43)) := iterR (R7_2 k) n x
def kp7 : Nat → Keep := fun i => cond (i == 2) ⟨[0, 3], [0, 2], 0⟩ (⟨[], [], 0⟩)
/-- "silt/siltlaw25.Fair" -/
def F7 (k : Nat) (x : (List T43) × Unit) : Option (Bool) :=
  match x with
  | (a0, ()) => (L7_2 k k (a0, (0 : Int))).bind fun r => sumK r (fun a => some a.snd) fun b => some (decide ((↑b.length : Int) ≤ (150 : Int)))
noncomputable def sp7 : FSpec Ty := spec ag7 rs7 F7
theorem bo7 : Try.f7.body = some (bodyOf Try.f7) := by kernel_rfl
theorem nd7 : nodupB ((loopsIn (bodyOf Try.f7)).map firstRegion) = true := by kernel_rfl
noncomputable def ls7_2 : Nat → Option (LSum Ty) := addL 2 (lsum2 of7_2 ab7_2 L7_2 .ret on7_2a (.exit 0) on7_2b) noL
theorem lo7_2 : LSOK fs8 kp7 tab Try.f7 ls7_2 := lsum2_ok bo7 nd7 (LSOK.none) oa7_2 (R := R7_2) fun k again x => by kernel_rfl
theorem ok7 : FOK Try.prog tab 7 sp7 := spec_ok (keeps := kp7) tabOK fs8OK Try.func7 bo7 (by kernel_rfl) nd7 (lo7_2) (F := F7) fun k x => by kernel_rfl
noncomputable def fs7 : Nat → Option (FSpec Ty) := addF 7 sp7 fs8
theorem fs7OK : SpecsOK Try.prog tab fs7 := fs8OK.add ok7 Try.call7
def ag18 : Args Ty (T22 × Unit) := V.arg (tab.den 23) (noArgs)
def rs18 : Res Ty tab (Bool) false := V.oneRes (tab.den 4) (ent 4).ids (ent 4).plain (fun x _ => (ent 4).flat x rfl)
def kp18 : Nat → Keep := fun i => ⟨[], [], 0⟩
/-- "silt/siltref03.Good" -/
def F18 (k : Nat) (x : T22 × Unit) : Option (Bool) :=
  match x with
  | (a0, ()) => bif decide (a0.1 ≥ (1 : Int)) then bif decide (a0.1 ≤ (64 : Int)) then bif decide (a0.2 ≥ (6 : Int)) then bif decide (a0.2 ≤ (16 : Int)) then bif decide (a0.3 ≥ (24 : Int)) then bif decide (a0.3 ≤ (32 : Int)) then bif decide (a0.4 ≥ (2 : Int)) then some (decide (a0.4 ≤ (16 : Int))) else some false else some false else some false else some false else some false else some false else some false
noncomputable def sp18 : FSpec Ty := spec ag18 rs18 F18
theorem bo18 : Try.f18.body = some (bodyOf Try.f18) := by kernel_rfl
theorem nd18 : nodupB ((loopsIn (bodyOf Try.f18)).map firstRegion) = true := by kernel_rfl
theorem ok18 : FOK Try.prog tab 18 sp18 := spec_ok (keeps := kp18) tabOK fs7OK Try.func18 bo18 (by kernel_rfl) nd18 (LSOK.none) (F := F18) fun k x => by kernel_rfl
noncomputable def fs18 : Nat → Option (FSpec Ty) := addF 18 sp18 fs7
theorem fs18OK : SpecsOK Try.prog tab fs18 := fs7OK.add ok18 Try.call18
def ag19 : Args Ty (Int × Int × Unit) := V.arg (tab.den 3) (V.arg (tab.den 3) (noArgs))
def rs19 : Res Ty tab (Int) false := V.oneRes (tab.den 3) (ent 3).ids (ent 3).plain (fun x _ => (ent 3).flat x rfl)
def kp19 : Nat → Keep := fun i => ⟨[], [], 0⟩
/-- "silt/siltkeep.Mod" -/
def F19 (k : Nat) (x : Int × Int × Unit) : Option (Int) :=
  match x with
  | (a0, a1, ()) => bif decide (a1 < (1 : Int)) then some (0 : Int) else bif a1 != (0 : Int) then bif a1 != (0 : Int) then some ((IntKind.i64.wrap (a0.tmod a1 + a1)).tmod a1) else none else none
noncomputable def sp19 : FSpec Ty := spec ag19 rs19 F19
theorem bo19 : Try.f19.body = some (bodyOf Try.f19) := by kernel_rfl
theorem nd19 : nodupB ((loopsIn (bodyOf Try.f19)).map firstRegion) = true := by kernel_rfl
theorem ok19 : FOK Try.prog tab 19 sp19 := spec_ok (keeps := kp19) tabOK fs18OK Try.func19 bo19 (by kernel_rfl) nd19 (LSOK.none) (F := F19) fun k x => by kernel_rfl
noncomputable def fs19 : Nat → Option (FSpec Ty) := addF 19 sp19 fs18
theorem fs19OK : SpecsOK Try.prog tab fs19 := fs18OK.add ok19 Try.call19
def ag15 : Args Ty (T41 × Unit) := V.arg (tab.den 42) (noArgs)
def rs15 : Res Ty tab (T41) true := V.oneRes (tab.den 42) (ent 42).ids (ent 42).plain (fun _ h => by cases h)
def kp15 : Nat → Keep := fun i => ⟨[], [], 0⟩
/-- "silt/siltkeep.OwnOp" -/
def F15 (k : Nat) (x : T41 × Unit) : Option (T41) :=
  match x with
  | (a0, ()) => bif decide ((List.replicate (0 : Nat) (0 : Int)).length + a0.4.length ≤ roomMost) then some (T41.mk a0.1 a0.2 a0.3 (List.replicate (0 : Nat) (0 : Int) ++ a0.4)) else none
noncomputable def sp15 : FSpec Ty := spec ag15 rs15 F15
theorem bo15 : Try.f15.body = some (bodyOf Try.f15) := by kernel_rfl
theorem nd15 : nodupB ((loopsIn (bodyOf Try.f15)).map firstRegion) = true := by kernel_rfl
theorem ok15 : FOK Try.prog tab 15 sp15 := spec_ok (keeps := kp15) tabOK fs19OK Try.func15 bo15 (by kernel_rfl) nd15 (LSOK.none) (F := F15) fun k x => by kernel_rfl
noncomputable def fs15 : Nat → Option (FSpec Ty) := addF 15 sp15 fs19
theorem fs15OK : SpecsOK Try.prog tab fs15 := fs19OK.add ok15 Try.call15
def ag20 : Args Ty ((List Int) × (List Int) × Unit) := V.arg (tab.den 37) (V.arg (tab.den 37) (noArgs))
def rs20 : Res Ty tab (Bool) false := V.oneRes (tab.den 4) (ent 4).ids (ent 4).plain (fun x _ => (ent 4).flat x rfl)
def kp20 : Nat → Keep := fun i => ⟨[], [], 0⟩
/-- "silt/siltkeep.Bytes" -/
def F20 (k : Nat) (x : (List Int) × (List Int) × Unit) : Option (Bool) :=
  match x with
  | (a0, a1, ()) => some ((bytesStr (List.map (fun x => x) a0)).toList == (bytesStr (List.map (fun x => x) a1)).toList)
noncomputable def sp20 : FSpec Ty := spec ag20 rs20 F20
theorem bo20 : Try.f20.body = some (bodyOf Try.f20) := by kernel_rfl
theorem nd20 : nodupB ((loopsIn (bodyOf Try.f20)).map firstRegion) = true := by kernel_rfl
theorem ok20 : FOK Try.prog tab 20 sp20 := spec_ok (keeps := kp20) tabOK fs15OK Try.func20 bo20 (by kernel_rfl) nd20 (LSOK.none) (F := F20) fun k x => by kernel_rfl
noncomputable def fs20 : Nat → Option (FSpec Ty) := addF 20 sp20 fs15
theorem fs20OK : SpecsOK Try.prog tab fs20 := fs15OK.add ok20 Try.call20
def ag23 : Args Ty (T22 × Unit) := V.arg (tab.den 23) (noArgs)
def rs23 : Res Ty tab (T59) false := V.oneRes (tab.den 60) (ent 60).ids (ent 60).plain (fun x _ => (ent 60).flat x rfl)
def kp23 : Nat → Keep := fun i => ⟨[], [], 0⟩
/-- "silt/siltref03.Of" -/
def F23 (k : Nat) (x : T22 × Unit) : Option (T59) :=
  match x with
  | (a0, ()) => (F18 k (T22.mk a0.1 a0.2 a0.3 a0.4, ())).bind fun r => bif !r then some (T59.mk (0 : Int) (0 : Int) (0 : Int)) else some (T59.mk (IntKind.i64.wrap ((IntKind.i64.wrap (a0.1 + (7 : Int))).tdiv (8 : Int))) (IntKind.i64.wrap ((4 : Int) + IntKind.i64.wrap (a0.2 * a0.3))) (if (if IntKind.i64.wrap ((IntKind.i64.wrap (IntKind.i64.wrap ((4 : Int) * IntKind.i64.wrap (a0.2 - (4 : Int))) - IntKind.i64.wrap ((IntKind.i64.wrap (a0.1 + (7 : Int))).tdiv (8 : Int)))).tdiv (3 : Int)) < a0.1 then IntKind.i64.wrap ((IntKind.i64.wrap (IntKind.i64.wrap ((4 : Int) * IntKind.i64.wrap (a0.2 - (4 : Int))) - IntKind.i64.wrap ((IntKind.i64.wrap (a0.1 + (7 : Int))).tdiv (8 : Int)))).tdiv (3 : Int)) else a0.1) > (0 : Int) then if IntKind.i64.wrap ((IntKind.i64.wrap (IntKind.i64.wrap ((4 : Int) * IntKind.i64.wrap (a0.2 - (4 : Int))) - IntKind.i64.wrap ((IntKind.i64.wrap (a0.1 + (7 : Int))).tdiv (8 : Int)))).tdiv (3 : Int)) < a0.1 then IntKind.i64.wrap ((IntKind.i64.wrap (IntKind.i64.wrap ((4 : Int) * IntKind.i64.wrap (a0.2 - (4 : Int))) - IntKind.i64.wrap ((IntKind.i64.wrap (a0.1 + (7 : Int))).tdiv (8 : Int)))).tdiv (3 : Int)) else a0.1 else (0 : Int)))
noncomputable def sp23 : FSpec Ty := spec ag23 rs23 F23
theorem bo23 : Try.f23.body = some (bodyOf Try.f23) := by kernel_rfl
theorem nd23 : nodupB ((loopsIn (bodyOf Try.f23)).map firstRegion) = true := by kernel_rfl
theorem ok23 : FOK Try.prog tab 23 sp23 := spec_ok (keeps := kp23) tabOK fs20OK Try.func23 bo23 (by kernel_rfl) nd23 (LSOK.none) (F := F23) fun k x => by kernel_rfl
noncomputable def fs23 : Nat → Option (FSpec Ty) := addF 23 sp23 fs20
theorem fs23OK : SpecsOK Try.prog tab fs23 := fs20OK.add ok23 Try.call23
def ag4 : Args Ty (T22 × (List T43) × Unit) := V.arg (tab.den 23) (V.arg (tab.den 24) (noArgs))
def rs4 : Res Ty tab (Bool) false := V.oneRes (tab.den 4) (ent 4).ids (ent 4).plain (fun x _ => (ent 4).flat x rfl)
def of4_9 : List T43 × Int × Int × Int × Int × Int × Int × List (List Int) × List Bool × List Int × List (List Int) × List Int × List Int × List Int × List Int → NSt Ty := fun x => ⟨[.slice 44 (x.1), .ptr 100000 [], .ptr 100001 [], .ptr 100002 [], .ptr 100003 [], .int .i64 (x.2.1)], [.var (.cons (.int .i64 (x.2.2.1)) (.cons (.int .i64 (x.2.2.2.1)) (.cons (.int .i64 (x.2.2.2.2.1)) (.cons (.int .i64 (x.2.2.2.2.2.1)) (.nil))))), .var (.cons (.row 100004) (.cons (.row 100005) (.cons (.int .i64 (x.2.2.2.2.2.2.1)) (.cons (.cons (.row 100006) (.cons (.row 100007) (.cons (.row 100008) (.cons (.row 100009) (.nil))))) (.nil))))), .var (.arr 50 64 (x.2.2.2.2.2.2.2.1)), .var (.arr 4 64 (x.2.2.2.2.2.2.2.2.1)), .row 3 (x.2.2.2.2.2.2.2.2.2.1), .row 50 (x.2.2.2.2.2.2.2.2.2.2.1), .row 3 (x.2.2.2.2.2.2.2.2.2.2.2.1), .row 3 (x.2.2.2.2.2.2.2.2.2.2.2.2.1), .row 3 (x.2.2.2.2.2.2.2.2.2.2.2.2.2.1), .row 3 (x.2.2.2.2.2.2.2.2.2.2.2.2.2.2)]⟩
def ab4_9 : (n : NSt Ty) → Option {x : List T43 × Int × Int × Int × Int × Int × Int × List (List Int) × List Bool × List Int × List (List Int) × List Int × List Int × List Int × List Int // of4_9 x = n}
  | ⟨[.slice 44 v0, .ptr 100000 [], .ptr 100001 [], .ptr 100002 [], .ptr 100003 [], .int .i64 v1], [.var (.cons (.int .i64 v2) (.cons (.int .i64 v3) (.cons (.int .i64 v4) (.cons (.int .i64 v5) (.nil))))), .var (.cons (.row 100004) (.cons (.row 100005) (.cons (.int .i64 v6) (.cons (.cons (.row 100006) (.cons (.row 100007) (.cons (.row 100008) (.cons (.row 100009) (.nil))))) (.nil))))), .var (.arr 50 64 v7), .var (.arr 4 64 v8), .row 3 v9, .row 50 v10, .row 3 v11, .row 3 v12, .row 3 v13, .row 3 v14]⟩ => some ⟨(v0, v1, v2, v3, v4, v5, v6, v7, v8, v9, v10, v11, v12, v13, v14), rfl⟩
  | _ => none
def on4_9a : Bool × Int × Int × Int × Int × Int × List (List Int) × List Bool × List Int × List (List Int) × List Int × List Int × List Int × List Int → NSt Ty := fun x => ⟨[.ptr 100000 [], .bool (x.1), .ptr 100001 [], .ptr 100002 [], .ptr 100003 []], [.var (.cons (.int .i64 (x.2.1)) (.cons (.int .i64 (x.2.2.1)) (.cons (.int .i64 (x.2.2.2.1)) (.cons (.int .i64 (x.2.2.2.2.1)) (.nil))))), .var (.cons (.row 100004) (.cons (.row 100005) (.cons (.int .i64 (x.2.2.2.2.2.1)) (.cons (.cons (.row 100006) (.cons (.row 100007) (.cons (.row 100008) (.cons (.row 100009) (.nil))))) (.nil))))), .var (.arr 50 64 (x.2.2.2.2.2.2.1)), .var (.arr 4 64 (x.2.2.2.2.2.2.2.1)), .row 3 (x.2.2.2.2.2.2.2.2.1), .row 50 (x.2.2.2.2.2.2.2.2.2.1), .row 3 (x.2.2.2.2.2.2.2.2.2.2.1), .row 3 (x.2.2.2.2.2.2.2.2.2.2.2.1), .row 3 (x.2.2.2.2.2.2.2.2.2.2.2.2.1), .row 3 (x.2.2.2.2.2.2.2.2.2.2.2.2.2)]⟩
def on4_9b : Int × Int × Int × Int × Int × List (List Int) × List Bool × List Int × List (List Int) × List Int × List Int × List Int × List Int → NSt Ty := fun x => ⟨[.ptr 100000 [], .undef, .ptr 100001 [], .ptr 100002 [], .ptr 100003 []], [.var (.cons (.int .i64 (x.1)) (.cons (.int .i64 (x.2.1)) (.cons (.int .i64 (x.2.2.1)) (.cons (.int .i64 (x.2.2.2.1)) (.nil))))), .var (.cons (.row 100004) (.cons (.row 100005) (.cons (.int .i64 (x.2.2.2.2.1)) (.cons (.cons (.row 100006) (.cons (.row 100007) (.cons (.row 100008) (.cons (.row 100009) (.nil))))) (.nil))))), .var (.arr 50 64 (x.2.2.2.2.2.1)), .var (.arr 4 64 (x.2.2.2.2.2.2.1)), .row 3 (x.2.2.2.2.2.2.2.1), .row 50 (x.2.2.2.2.2.2.2.2.1), .row 3 (x.2.2.2.2.2.2.2.2.2.1), .row 3 (x.2.2.2.2.2.2.2.2.2.2.1), .row 3 (x.2.2.2.2.2.2.2.2.2.2.2.1), .row 3 (x.2.2.2.2.2.2.2.2.2.2.2.2)]⟩
def oa4_9 : (e : Ex) → (n : NSt Ty) → Option {y : (Bool × Int × Int × Int × Int × Int × List (List Int) × List Bool × List Int × List (List Int) × List Int × List Int × List Int × List Int) ⊕ (Int × Int × Int × Int × Int × List (List Int) × List Bool × List Int × List (List Int) × List Int × List Int × List Int × List Int) // oe2 .ret (.exit 0) y = e ∧ on2 on4_9a on4_9b y = n}
  | .ret, ⟨[.ptr 100000 [], .bool v0, .ptr 100001 [], .ptr 100002 [], .ptr 100003 []], [.var (.cons (.int .i64 v1) (.cons (.int .i64 v2) (.cons (.int .i64 v3) (.cons (.int .i64 v4) (.nil))))), .var (.cons (.row 100004) (.cons (.row 100005) (.cons (.int .i64 v5) (.cons (.cons (.row 100006) (.cons (.row 100007) (.cons (.row 100008) (.cons (.row 100009) (.nil))))) (.nil))))), .var (.arr 50 64 v6), .var (.arr 4 64 v7), .row 3 v8, .row 50 v9, .row 3 v10, .row 3 v11, .row 3 v12, .row 3 v13]⟩ => some ⟨.inl (v0, v1, v2, v3, v4, v5, v6, v7, v8, v9, v10, v11, v12, v13), rfl, rfl⟩
  | .exit 0, ⟨[.ptr 100000 [], .undef, .ptr 100001 [], .ptr 100002 [], .ptr 100003 []], [.var (.cons (.int .i64 v0) (.cons (.int .i64 v1) (.cons (.int .i64 v2) (.cons (.int .i64 v3) (.nil))))), .var (.cons (.row 100004) (.cons (.row 100005) (.cons (.int .i64 v4) (.cons (.cons (.row 100006) (.cons (.row 100007) (.cons (.row 100008) (.cons (.row 100009) (.nil))))) (.nil))))), .var (.arr 50 64 v5), .var (.arr 4 64 v6), .row 3 v7, .row 50 v8, .row 3 v9, .row 3 v10, .row 3 v11, .row 3 v12]⟩ => some ⟨.inr (v0, v1, v2, v3, v4, v5, v6, v7, v8, v9, v10, v11, v12), rfl, rfl⟩
  | _, _ => none
/-- a round of the loop 9 of function 4 -/
def R4_9 (k : Nat) (again : List T43 × Int × Int × Int × Int × Int × Int × List (List Int) × List Bool × List Int × List (List Int) × List Int × List Int × List Int × List Int → Option ((Bool × Int × Int × Int × Int × Int × List (List Int) × List Bool × List Int × List (List Int) × List Int × List Int × List Int × List Int) ⊕ (Int × Int × Int × Int × Int × List (List Int) × List Bool × List Int × List (List Int) × List Int × List Int × List Int × List Int))) (x : List T43 × Int × Int × Int × Int × Int × Int × List (List Int) × List Bool × List Int × List (List Int) × List Int × List Int × List Int × List Int) : Option ((Bool × Int × Int × Int × Int × Int × List (List Int) × List Bool × List Int × List (List Int) × List Int × List Int × List Int × List Int) ⊕ (Int × Int × Int × Int × Int × List (List Int) × List Bool × List Int × List (List Int) × List Int × List Int × List Int × List Int)) :=
  match x with
  | (v0, v1, v2, v3, v4, v5, v6, v7, v8, v9, v10, v11, v12, v13, v14) => bif decide (v1 < (↑v0.length : Int)) then bif inRange v1 v0.length then bif inRange v1 v0.length then (F19 k ((v0.getD v1.toNat (T43.mk (0 : Int) (T41.mk (0 : Int) (0 : Int) (0 : Int) []) false)).1, (4 : Int), ())).bind fun r => (F15 k (T41.mk (v0.getD v1.toNat (T43.mk (0 : Int) (T41.mk (0 : Int) (0 : Int) (0 : Int) []) false)).2.1 (v0.getD v1.toNat (T43.mk (0 : Int) (T41.mk (0 : Int) (0 : Int) (0 : Int) []) false)).2.2 (v0.getD v1.toNat (T43.mk (0 : Int) (T41.mk (0 : Int) (0 : Int) (0 : Int) []) false)).2.3 (v0.getD v1.toNat (T43.mk (0 : Int) (T41.mk (0 : Int) (0 : Int) (0 : Int) []) false)).2.4, ())).bind fun r_1 => (F14 k (r, r_1.1, r_1.2, r_1.3, r_1.4, v6, v9, v10, v11, v12, v13, v14)).bind fun r => bif r.fst != (0 : Int) then bif r.snd.fst != (0 : Int) then some (Sum.inl (false, v2, v3, v4, v5, r.snd.snd.snd.fst, v7, v8, r.snd.snd.snd.snd.fst, r.snd.snd.snd.snd.snd.fst, r.snd.snd.snd.snd.snd.snd.fst, r.snd.snd.snd.snd.snd.snd.snd.fst, r.snd.snd.snd.snd.snd.snd.snd.snd.fst, r.snd.snd.snd.snd.snd.snd.snd.snd.snd)) else bif (↑r.snd.snd.fst.length : Int) != (0 : Int) then some (Sum.inl (false, v2, v3, v4, v5, r.snd.snd.snd.fst, v7, v8, r.snd.snd.snd.snd.fst, r.snd.snd.snd.snd.snd.fst, r.snd.snd.snd.snd.snd.snd.fst, r.snd.snd.snd.snd.snd.snd.snd.fst, r.snd.snd.snd.snd.snd.snd.snd.snd.fst, r.snd.snd.snd.snd.snd.snd.snd.snd.snd)) else again (v0, IntKind.i64.wrap (v1 + (1 : Int)), v2, v3, v4, v5, r.snd.snd.snd.fst, v7, v8, r.snd.snd.snd.snd.fst, r.snd.snd.snd.snd.snd.fst, r.snd.snd.snd.snd.snd.snd.fst, r.snd.snd.snd.snd.snd.snd.snd.fst, r.snd.snd.snd.snd.snd.snd.snd.snd.fst, r.snd.snd.snd.snd.snd.snd.snd.snd.snd) else bif (v0.getD v1.toNat (T43.mk (0 : Int) (T41.mk (0 : Int) (0 : Int) (0 : Int) []) false)).2.1 != (3 : Int) then bif (v0.getD v1.toNat (T43.mk (0 : Int) (T41.mk (0 : Int) (0 : Int) (0 : Int) []) false)).2.1 != (5 : Int) then bif decide ((v0.getD v1.toNat (T43.mk (0 : Int) (T41.mk (0 : Int) (0 : Int) (0 : Int) []) false)).2.2 < (0 : Int)) then some (Sum.inl (false, v2, v3, v4, v5, r.snd.snd.snd.fst, v7, v8, r.snd.snd.snd.snd.fst, r.snd.snd.snd.snd.snd.fst, r.snd.snd.snd.snd.snd.snd.fst, r.snd.snd.snd.snd.snd.snd.snd.fst, r.snd.snd.snd.snd.snd.snd.snd.snd.fst, r.snd.snd.snd.snd.snd.snd.snd.snd.snd)) else bif decide ((v0.getD v1.toNat (T43.mk (0 : Int) (T41.mk (0 : Int) (0 : Int) (0 : Int) []) false)).2.2 ≥ v2) then some (Sum.inl (false, v2, v3, v4, v5, r.snd.snd.snd.fst, v7, v8, r.snd.snd.snd.snd.fst, r.snd.snd.snd.snd.snd.fst, r.snd.snd.snd.snd.snd.snd.fst, r.snd.snd.snd.snd.snd.snd.snd.fst, r.snd.snd.snd.snd.snd.snd.snd.snd.fst, r.snd.snd.snd.snd.snd.snd.snd.snd.snd)) else bif inRange (v0.getD v1.toNat (T43.mk (0 : Int) (T41.mk (0 : Int) (0 : Int) (0 : Int) []) false)).2.2 (64 : Nat) then bif !v8.getD (v0.getD v1.toNat (T43.mk (0 : Int) (T41.mk (0 : Int) (0 : Int) (0 : Int) []) false)).2.2.toNat false then some (Sum.inl (false, v2, v3, v4, v5, r.snd.snd.snd.fst, v7, v8, r.snd.snd.snd.snd.fst, r.snd.snd.snd.snd.snd.fst, r.snd.snd.snd.snd.snd.snd.fst, r.snd.snd.snd.snd.snd.snd.snd.fst, r.snd.snd.snd.snd.snd.snd.snd.snd.fst, r.snd.snd.snd.snd.snd.snd.snd.snd.snd)) else bif (v0.getD v1.toNat (T43.mk (0 : Int) (T41.mk (0 : Int) (0 : Int) (0 : Int) []) false)).2.1 == (3 : Int) then bif decide (r.snd.fst < (0 : Int)) then some (Sum.inl (false, v2, v3, v4, v5, r.snd.snd.snd.fst, v7, v8, r.snd.snd.snd.snd.fst, r.snd.snd.snd.snd.snd.fst, r.snd.snd.snd.snd.snd.snd.fst, r.snd.snd.snd.snd.snd.snd.snd.fst, r.snd.snd.snd.snd.snd.snd.snd.snd.fst, r.snd.snd.snd.snd.snd.snd.snd.snd.snd)) else bif decide (r.snd.fst ≥ v2) then some (Sum.inl (false, v2, v3, v4, v5, r.snd.snd.snd.fst, v7, v8, r.snd.snd.snd.snd.fst, r.snd.snd.snd.snd.snd.fst, r.snd.snd.snd.snd.snd.snd.fst, r.snd.snd.snd.snd.snd.snd.snd.fst, r.snd.snd.snd.snd.snd.snd.snd.snd.fst, r.snd.snd.snd.snd.snd.snd.snd.snd.snd)) else bif inRange r.snd.fst (64 : Nat) then bif v8.getD r.snd.fst.toNat false then some (Sum.inl (false, v2, v3, v4, v5, r.snd.snd.snd.fst, v7, v8, r.snd.snd.snd.snd.fst, r.snd.snd.snd.snd.snd.fst, r.snd.snd.snd.snd.snd.snd.fst, r.snd.snd.snd.snd.snd.snd.snd.fst, r.snd.snd.snd.snd.snd.snd.snd.snd.fst, r.snd.snd.snd.snd.snd.snd.snd.snd.snd)) else bif inRange r.snd.fst (64 : Nat) then bif inRange r.snd.fst (64 : Nat) then again (v0, IntKind.i64.wrap (v1 + (1 : Int)), v2, v3, v4, v5, r.snd.snd.snd.fst, v7.set r.snd.fst.toNat (List.replicate (32 : Nat) (0 : Int)), v8.set r.snd.fst.toNat true, r.snd.snd.snd.snd.fst, r.snd.snd.snd.snd.snd.fst, r.snd.snd.snd.snd.snd.snd.fst, r.snd.snd.snd.snd.snd.snd.snd.fst, r.snd.snd.snd.snd.snd.snd.snd.snd.fst, r.snd.snd.snd.snd.snd.snd.snd.snd.snd) else none else none else none else bif (v0.getD v1.toNat (T43.mk (0 : Int) (T41.mk (0 : Int) (0 : Int) (0 : Int) []) false)).2.1 == (4 : Int) then bif inRange (v0.getD v1.toNat (T43.mk (0 : Int) (T41.mk (0 : Int) (0 : Int) (0 : Int) []) false)).2.2 (64 : Nat) then again (v0, IntKind.i64.wrap (v1 + (1 : Int)), v2, v3, v4, v5, r.snd.snd.snd.fst, v7, v8.set (v0.getD v1.toNat (T43.mk (0 : Int) (T41.mk (0 : Int) (0 : Int) (0 : Int) []) false)).2.2.toNat false, r.snd.snd.snd.snd.fst, r.snd.snd.snd.snd.snd.fst, r.snd.snd.snd.snd.snd.snd.fst, r.snd.snd.snd.snd.snd.snd.snd.fst, r.snd.snd.snd.snd.snd.snd.snd.snd.fst, r.snd.snd.snd.snd.snd.snd.snd.snd.snd) else none else bif (v0.getD v1.toNat (T43.mk (0 : Int) (T41.mk (0 : Int) (0 : Int) (0 : Int) []) false)).2.1 == (2 : Int) then bif decide ((v0.getD v1.toNat (T43.mk (0 : Int) (T41.mk (0 : Int) (0 : Int) (0 : Int) []) false)).2.3 < (0 : Int)) then some (Sum.inl (false, v2, v3, v4, v5, r.snd.snd.snd.fst, v7, v8, r.snd.snd.snd.snd.fst, r.snd.snd.snd.snd.snd.fst, r.snd.snd.snd.snd.snd.snd.fst, r.snd.snd.snd.snd.snd.snd.snd.fst, r.snd.snd.snd.snd.snd.snd.snd.snd.fst, r.snd.snd.snd.snd.snd.snd.snd.snd.snd)) else bif decide (IntKind.i64.wrap ((v0.getD v1.toNat (T43.mk (0 : Int) (T41.mk (0 : Int) (0 : Int) (0 : Int) []) false)).2.3 + (↑(v0.getD v1.toNat (T43.mk (0 : Int) (T41.mk (0 : Int) (0 : Int) (0 : Int) []) false)).2.4.length : Int)) > (32 : Int)) then some (Sum.inl (false, v2, v3, v4, v5, r.snd.snd.snd.fst, v7, v8, r.snd.snd.snd.snd.fst, r.snd.snd.snd.snd.snd.fst, r.snd.snd.snd.snd.snd.snd.fst, r.snd.snd.snd.snd.snd.snd.snd.fst, r.snd.snd.snd.snd.snd.snd.snd.snd.fst, r.snd.snd.snd.snd.snd.snd.snd.snd.snd)) else bif (↑(v0.getD v1.toNat (T43.mk (0 : Int) (T41.mk (0 : Int) (0 : Int) (0 : Int) []) false)).2.4.length : Int) == (0 : Int) then some (Sum.inl (false, v2, v3, v4, v5, r.snd.snd.snd.fst, v7, v8, r.snd.snd.snd.snd.fst, r.snd.snd.snd.snd.snd.fst, r.snd.snd.snd.snd.snd.snd.fst, r.snd.snd.snd.snd.snd.snd.snd.fst, r.snd.snd.snd.snd.snd.snd.snd.snd.fst, r.snd.snd.snd.snd.snd.snd.snd.snd.snd)) else bif inRange (v0.getD v1.toNat (T43.mk (0 : Int) (T41.mk (0 : Int) (0 : Int) (0 : Int) []) false)).2.2 (64 : Nat) then bif decide ((0 : Int) ≤ (v0.getD v1.toNat (T43.mk (0 : Int) (T41.mk (0 : Int) (0 : Int) (0 : Int) []) false)).2.3) && decide ((v0.getD v1.toNat (T43.mk (0 : Int) (T41.mk (0 : Int) (0 : Int) (0 : Int) []) false)).2.3 ≤ (↑(32 : Nat) : Int)) && decide ((↑(32 : Nat) : Int) ≤ (↑(32 : Nat) : Int)) then again (v0, IntKind.i64.wrap (v1 + (1 : Int)), v2, v3, v4, v5, r.snd.snd.snd.fst, v7.set (v0.getD v1.toNat (T43.mk (0 : Int) (T41.mk (0 : Int) (0 : Int) (0 : Int) []) false)).2.2.toNat (splice (v7.getD (v0.getD v1.toNat (T43.mk (0 : Int) (T41.mk (0 : Int) (0 : Int) (0 : Int) []) false)).2.2.toNat (List.replicate (32 : Nat) (0 : Int))) (v0.getD v1.toNat (T43.mk (0 : Int) (T41.mk (0 : Int) (0 : Int) (0 : Int) []) false)).2.4 (v0.getD v1.toNat (T43.mk (0 : Int) (T41.mk (0 : Int) (0 : Int) (0 : Int) []) false)).2.3.toNat (min (v0.getD v1.toNat (T43.mk (0 : Int) (T41.mk (0 : Int) (0 : Int) (0 : Int) []) false)).2.4.length ((↑(32 : Nat) : Int) - (v0.getD v1.toNat (T43.mk (0 : Int) (T41.mk (0 : Int) (0 : Int) (0 : Int) []) false)).2.3).toNat)), v8, r.snd.snd.snd.snd.fst, r.snd.snd.snd.snd.snd.fst, r.snd.snd.snd.snd.snd.snd.fst, r.snd.snd.snd.snd.snd.snd.snd.fst, r.snd.snd.snd.snd.snd.snd.snd.snd.fst, r.snd.snd.snd.snd.snd.snd.snd.snd.snd) else none else none else bif (v0.getD v1.toNat (T43.mk (0 : Int) (T41.mk (0 : Int) (0 : Int) (0 : Int) []) false)).2.1 == (1 : Int) then bif inRange (v0.getD v1.toNat (T43.mk (0 : Int) (T41.mk (0 : Int) (0 : Int) (0 : Int) []) false)).2.2 (64 : Nat) then (F20 k (r.snd.snd.fst, List.take ((↑(32 : Nat) : Int) - (0 : Int)).toNat (List.drop (Int.toNat (0 : Int)) (v7.getD (v0.getD v1.toNat (T43.mk (0 : Int) (T41.mk (0 : Int) (0 : Int) (0 : Int) []) false)).2.2.toNat (List.replicate (32 : Nat) (0 : Int)))), ())).bind fun r_2 => bif !r_2 then some (Sum.inl (false, v2, v3, v4, v5, r.snd.snd.snd.fst, v7, v8, r.snd.snd.snd.snd.fst, r.snd.snd.snd.snd.snd.fst, r.snd.snd.snd.snd.snd.snd.fst, r.snd.snd.snd.snd.snd.snd.snd.fst, r.snd.snd.snd.snd.snd.snd.snd.snd.fst, r.snd.snd.snd.snd.snd.snd.snd.snd.snd)) else again (v0, IntKind.i64.wrap (v1 + (1 : Int)), v2, v3, v4, v5, r.snd.snd.snd.fst, v7, v8, r.snd.snd.snd.snd.fst, r.snd.snd.snd.snd.snd.fst, r.snd.snd.snd.snd.snd.snd.fst, r.snd.snd.snd.snd.snd.snd.snd.fst, r.snd.snd.snd.snd.snd.snd.snd.snd.fst, r.snd.snd.snd.snd.snd.snd.snd.snd.snd) else none else again (v0, IntKind.i64.wrap (v1 + (1 : Int)), v2, v3, v4, v5, r.snd.snd.snd.fst, v7, v8, r.snd.snd.snd.snd.fst, r.snd.snd.snd.snd.snd.fst, r.snd.snd.snd.snd.snd.snd.fst, r.snd.snd.snd.snd.snd.snd.snd.fst, r.snd.snd.snd.snd.snd.snd.snd.snd.fst, r.snd.snd.snd.snd.snd.snd.snd.snd.snd) else none else bif (v0.getD v1.toNat (T43.mk (0 : Int) (T41.mk (0 : Int) (0 : Int) (0 : Int) []) false)).2.1 == (3 : Int) then bif decide (r.snd.fst < (0 : Int)) then some (Sum.inl (false, v2, v3, v4, v5, r.snd.snd.snd.fst, v7, v8, r.snd.snd.snd.snd.fst, r.snd.snd.snd.snd.snd.fst, r.snd.snd.snd.snd.snd.snd.fst, r.snd.snd.snd.snd.snd.snd.snd.fst, r.snd.snd.snd.snd.snd.snd.snd.snd.fst, r.snd.snd.snd.snd.snd.snd.snd.snd.snd)) else bif decide (r.snd.fst ≥ v2) then some (Sum.inl (false, v2, v3, v4, v5, r.snd.snd.snd.fst, v7, v8, r.snd.snd.snd.snd.fst, r.snd.snd.snd.snd.snd.fst, r.snd.snd.snd.snd.snd.snd.fst, r.snd.snd.snd.snd.snd.snd.snd.fst, r.snd.snd.snd.snd.snd.snd.snd.snd.fst, r.snd.snd.snd.snd.snd.snd.snd.snd.snd)) else bif inRange r.snd.fst (64 : Nat) then bif v8.getD r.snd.fst.toNat false then some (Sum.inl (false, v2, v3, v4, v5, r.snd.snd.snd.fst, v7, v8, r.snd.snd.snd.snd.fst, r.snd.snd.snd.snd.snd.fst, r.snd.snd.snd.snd.snd.snd.fst, r.snd.snd.snd.snd.snd.snd.snd.fst, r.snd.snd.snd.snd.snd.snd.snd.snd.fst, r.snd.snd.snd.snd.snd.snd.snd.snd.snd)) else bif inRange r.snd.fst (64 : Nat) then bif inRange r.snd.fst (64 : Nat) then again (v0, IntKind.i64.wrap (v1 + (1 : Int)), v2, v3, v4, v5, r.snd.snd.snd.fst, v7.set r.snd.fst.toNat (List.replicate (32 : Nat) (0 : Int)), v8.set r.snd.fst.toNat true, r.snd.snd.snd.snd.fst, r.snd.snd.snd.snd.snd.fst, r.snd.snd.snd.snd.snd.snd.fst, r.snd.snd.snd.snd.snd.snd.snd.fst, r.snd.snd.snd.snd.snd.snd.snd.snd.fst, r.snd.snd.snd.snd.snd.snd.snd.snd.snd) else none else none else none else bif (v0.getD v1.toNat (T43.mk (0 : Int) (T41.mk (0 : Int) (0 : Int) (0 : Int) []) false)).2.1 == (4 : Int) then bif inRange (v0.getD v1.toNat (T43.mk (0 : Int) (T41.mk (0 : Int) (0 : Int) (0 : Int) []) false)).2.2 (64 : Nat) then again (v0, IntKind.i64.wrap (v1 + (1 : Int)), v2, v3, v4, v5, r.snd.snd.snd.fst, v7, v8.set (v0.getD v1.toNat (T43.mk (0 : Int) (T41.mk (0 : Int) (0 : Int) (0 : Int) []) false)).2.2.toNat false, r.snd.snd.snd.snd.fst, r.snd.snd.snd.snd.snd.fst, r.snd.snd.snd.snd.snd.snd.fst, r.snd.snd.snd.snd.snd.snd.snd.fst, r.snd.snd.snd.snd.snd.snd.snd.snd.fst, r.snd.snd.snd.snd.snd.snd.snd.snd.snd) else none else bif (v0.getD v1.toNat (T43.mk (0 : Int) (T41.mk (0 : Int) (0 : Int) (0 : Int) []) false)).2.1 == (2 : Int) then bif decide ((v0.getD v1.toNat (T43.mk (0 : Int) (T41.mk (0 : Int) (0 : Int) (0 : Int) []) false)).2.3 < (0 : Int)) then some (Sum.inl (false, v2, v3, v4, v5, r.snd.snd.snd.fst, v7, v8, r.snd.snd.snd.snd.fst, r.snd.snd.snd.snd.snd.fst, r.snd.snd.snd.snd.snd.snd.fst, r.snd.snd.snd.snd.snd.snd.snd.fst, r.snd.snd.snd.snd.snd.snd.snd.snd.fst, r.snd.snd.snd.snd.snd.snd.snd.snd.snd)) else bif decide (IntKind.i64.wrap ((v0.getD v1.toNat (T43.mk (0 : Int) (T41.mk (0 : Int) (0 : Int) (0 : Int) []) false)).2.3 + (↑(v0.getD v1.toNat (T43.mk (0 : Int) (T41.mk (0 : Int) (0 : Int) (0 : Int) []) false)).2.4.length : Int)) > (32 : Int)) then some (Sum.inl (false, v2, v3, v4, v5, r.snd.snd.snd.fst, v7, v8, r.snd.snd.snd.snd.fst, r.snd.snd.snd.snd.snd.fst, r.snd.snd.snd.snd.snd.snd.fst, r.snd.snd.snd.snd.snd.snd.snd.fst, r.snd.snd.snd.snd.snd.snd.snd.snd.fst, r.snd.snd.snd.snd.snd.snd.snd.snd.snd)) else bif (↑(v0.getD v1.toNat (T43.mk (0 : Int) (T41.mk (0 : Int) (0 : Int) (0 : Int) []) false)).2.4.length : Int) == (0 : Int) then some (Sum.inl (false, v2, v3, v4, v5, r.snd.snd.snd.fst, v7, v8, r.snd.snd.snd.snd.fst, r.snd.snd.snd.snd.snd.fst, r.snd.snd.snd.snd.snd.snd.fst, r.snd.snd.snd.snd.snd.snd.snd.fst, r.snd.snd.snd.snd.snd.snd.snd.snd.fst, r.snd.snd.snd.snd.snd.snd.snd.snd.snd)) else bif inRange (v0.getD v1.toNat (T43.mk (0 : Int) (T41.mk (0 : Int) (0 : Int) (0 : Int) []) false)).2.2 (64 : Nat) then bif decide ((0 : Int) ≤ (v0.getD v1.toNat (T43.mk (0 : Int) (T41.mk (0 : Int) (0 : Int) (0 : Int) []) false)).2.3) && decide ((v0.getD v1.toNat (T43.mk (0 : Int) (T41.mk (0 : Int) (0 : Int) (0 : Int) []) false)).2.3 ≤ (↑(32 : Nat) : Int)) && decide ((↑(32 : Nat) : Int) ≤ (↑(32 : Nat) : Int)) then again (v0, IntKind.i64.wrap (v1 + (1 : Int)), v2, v3, v4, v5, r.snd.snd.snd.fst, v7.set (v0.getD v1.toNat (T43.mk (0 : Int) (T41.mk (0 : Int) (0 : Int) (0 : Int) []) false)).2.2.toNat (splice (v7.getD (v0.getD v1.toNat (T43.mk (0 : Int) (T41.mk (0 : Int) (0 : Int) (0 : Int) []) false)).2.2.toNat (List.replicate (32 : Nat) (0 : Int))) (v0.getD v1.toNat (T43.mk (0 : Int) (T41.mk (0 : Int) (0 : Int) (0 : Int) []) false)).2.4 (v0.getD v1.toNat (T43.mk (0 : Int) (T41.mk (0 : Int) (0 : Int) (0 : Int) []) false)).2.3.toNat (min (v0.getD v1.toNat (T43.mk (0 : Int) (T41.mk (0 : Int) (0 : Int) (0 : Int) []) false)).2.4.length ((↑(32 : Nat) : Int) - (v0.getD v1.toNat (T43.mk (0 : Int) (T41.mk (0 : Int) (0 : Int) (0 : Int) []) false)).2.3).toNat)), v8, r.snd.snd.snd.snd.fst, r.snd.snd.snd.snd.snd.fst, r.snd.snd.snd.snd.snd.snd.fst, r.snd.snd.snd.snd.snd.snd.snd.fst, r.snd.snd.snd.snd.snd.snd.snd.snd.fst, r.snd.snd.snd.snd.snd.snd.snd.snd.snd) else none else none else bif (v0.getD v1.toNat (T43.mk (0 : Int) (T41.mk (0 : Int) (0 : Int) (0 : Int) []) false)).2.1 == (1 : Int) then bif inRange (v0.getD v1.toNat (T43.mk (0 : Int) (T41.mk (0 : Int) (0 : Int) (0 : Int) []) false)).2.2 (64 : Nat) then (F20 k (r.snd.snd.fst, List.take ((↑(32 : Nat) : Int) - (0 : Int)).toNat (List.drop (Int.toNat (0 : Int)) (v7.getD (v0.getD v1.toNat (T43.mk (0 : Int) (T41.mk (0 : Int) (0 : Int) (0 : Int) []) false)).2.2.toNat (List.replicate (32 : Nat) (0 : Int)))), ())).bind fun r_2 => bif !r_2 then some (Sum.inl (false, v2, v3, v4, v5, r.snd.snd.snd.fst, v7, v8, r.snd.snd.snd.snd.fst, r.snd.snd.snd.snd.snd.fst, r.snd.snd.snd.snd.snd.snd.fst, r.snd.snd.snd.snd.snd.snd.snd.fst, r.snd.snd.snd.snd.snd.snd.snd.snd.fst, r.snd.snd.snd.snd.snd.snd.snd.snd.snd)) else again (v0, IntKind.i64.wrap (v1 + (1 : Int)), v2, v3, v4, v5, r.snd.snd.snd.fst, v7, v8, r.snd.snd.snd.snd.fst, r.snd.snd.snd.snd.snd.fst, r.snd.snd.snd.snd.snd.snd.fst, r.snd.snd.snd.snd.snd.snd.snd.fst, r.snd.snd.snd.snd.snd.snd.snd.snd.fst, r.snd.snd.snd.snd.snd.snd.snd.snd.snd) else none else again (v0, IntKind.i64.wrap (v1 + (1 : Int)), v2, v3, v4, v5, r.snd.snd.snd.fst, v7, v8, r.snd.snd.snd.snd.fst, r.snd.snd.snd.snd.snd.fst, r.snd.snd.snd.snd.snd.snd.fst, r.snd.snd.snd.snd.snd.snd.snd.fst, r.snd.snd.snd.snd.snd.snd.snd.snd.fst, r.snd.snd.snd.snd.snd.snd.snd.snd.snd) else bif (v0.getD v1.toNat (T43.mk (0 : Int) (T41.mk (0 : Int) (0 : Int) (0 : Int) []) false)).2.1 == (3 : Int) then bif decide (r.snd.fst < (0 : Int)) then some (Sum.inl (false, v2, v3, v4, v5, r.snd.snd.snd.fst, v7, v8, r.snd.snd.snd.snd.fst, r.snd.snd.snd.snd.snd.fst, r.snd.snd.snd.snd.snd.snd.fst, r.snd.snd.snd.snd.snd.snd.snd.fst, r.snd.snd.snd.snd.snd.snd.snd.snd.fst, r.snd.snd.snd.snd.snd.snd.snd.snd.snd)) else bif decide (r.snd.fst ≥ v2) then some (Sum.inl (false, v2, v3, v4, v5, r.snd.snd.snd.fst, v7, v8, r.snd.snd.snd.snd.fst, r.snd.snd.snd.snd.snd.fst, r.snd.snd.snd.snd.snd.snd.fst, r.snd.snd.snd.snd.snd.snd.snd.fst, r.snd.snd.snd.snd.snd.snd.snd.snd.fst, r.snd.snd.snd.snd.snd.snd.snd.snd.snd)) else bif inRange r.snd.fst (64 : Nat) then bif v8.getD r.snd.fst.toNat false then some (Sum.inl (false, v2, v3, v4, v5, r.snd.snd.snd.fst, v7, v8, r.snd.snd.snd.snd.fst, r.snd.snd.snd.snd.snd.fst, r.snd.snd.snd.snd.snd.snd.fst, r.snd.snd.snd.snd.snd.snd.snd.fst, r.snd.snd.snd.snd.snd.snd.snd.snd.fst, r.snd.snd.snd.snd.snd.snd.snd.snd.snd)) else bif inRange r.snd.fst (64 : Nat) then bif inRange r.snd.fst (64 : Nat) then again (v0, IntKind.i64.wrap (v1 + (1 : Int)), v2, v3, v4, v5, r.snd.snd.snd.fst, v7.set r.snd.fst.toNat (List.replicate (32 : Nat) (0 : Int)), v8.set r.snd.fst.toNat true, r.snd.snd.snd.snd.fst, r.snd.snd.snd.snd.snd.fst, r.snd.snd.snd.snd.snd.snd.fst, r.snd.snd.snd.snd.snd.snd.snd.fst, r.snd.snd.snd.snd.snd.snd.snd.snd.fst, r.snd.snd.snd.snd.snd.snd.snd.snd.snd) else none else none else none else bif (v0.getD v1.toNat (T43.mk (0 : Int) (T41.mk (0 : Int) (0 : Int) (0 : Int) []) false)).2.1 == (4 : Int) then bif inRange (v0.getD v1.toNat (T43.mk (0 : Int) (T41.mk (0 : Int) (0 : Int) (0 : Int) []) false)).2.2 (64 : Nat) then again (v0, IntKind.i64.wrap (v1 + (1 : Int)), v2, v3, v4, v5, r.snd.snd.snd.fst, v7, v8.set (v0.getD v1.toNat (T43.mk (0 : Int) (T41.mk (0 : Int) (0 : Int) (0 : Int) []) false)).2.2.toNat false, r.snd.snd.snd.snd.fst, r.snd.snd.snd.snd.snd.fst, r.snd.snd.snd.snd.snd.snd.fst, r.snd.snd.snd.snd.snd.snd.snd.fst, r.snd.snd.snd.snd.snd.snd.snd.snd.fst, r.snd.snd.snd.snd.snd.snd.snd.snd.snd) else none else bif (v0.getD v1.toNat (T43.mk (0 : Int) (T41.mk (0 : Int) (0 : Int) (0 : Int) []) false)).2.1 == (2 : Int) then bif decide ((v0.getD v1.toNat (T43.mk (0 : Int) (T41.mk (0 : Int) (0 : Int) (0 : Int) []) false)).2.3 < (0 : Int)) then some (Sum.inl (false, v2, v3, v4, v5, r.snd.snd.snd.fst, v7, v8, r.snd.snd.snd.snd.fst, r.snd.snd.snd.snd.snd.fst, r.snd.snd.snd.snd.snd.snd.fst, r.snd.snd.snd.snd.snd.snd.snd.fst, r.snd.snd.snd.snd.snd.snd.snd.snd.fst, r.snd.snd.snd.snd.snd.snd.snd.snd.snd)) else bif decide (IntKind.i64.wrap ((v0.getD v1.toNat (T43.mk (0 : Int) (T41.mk (0 : Int) (0 : Int) (0 : Int) []) false)).2.3 + (↑(v0.getD v1.toNat (T43.mk (0 : Int) (T41.mk (0 : Int) (0 : Int) (0 : Int) []) false)).2.4.length : Int)) > (32 : Int)) then some (Sum.inl (false, v2, v3, v4, v5, r.snd.snd.snd.fst, v7, v8, r.snd.snd.snd.snd.fst, r.snd.snd.snd.snd.snd.fst, r.snd.snd.snd.snd.snd.snd.fst, r.snd.snd.snd.snd.snd.snd.snd.fst, r.snd.snd.snd.snd.snd.snd.snd.snd.fst, r.snd.snd.snd.snd.snd.snd.snd.snd.snd)) else bif (↑(v0.getD v1.toNat (T43.mk (0 : Int) (T41.mk (0 : Int) (0 : Int) (0 : Int) []) false)).2.4.length : Int) == (0 : Int) then some (Sum.inl (false, v2, v3, v4, v5, r.snd.snd.snd.fst, v7, v8, r.snd.snd.snd.snd.fst, r.snd.snd.snd.snd.snd.fst, r.snd.snd.snd.snd.snd.snd.fst, r.snd.snd.snd.snd.snd.snd.snd.fst, r.snd.snd.snd.snd.snd.snd.snd.snd.fst, r.snd.snd.snd.snd.snd.snd.snd.snd.snd)) else bif inRange (v0.getD v1.toNat (T43.mk (0 : Int) (T41.mk (0 : Int) (0 : Int) (0 : Int) []) false)).2.2 (64 : Nat) then bif decide ((0 : Int) ≤ (v0.getD v1.toNat (T43.mk (0 : Int) (T41.mk (0 : Int) (0 : Int) (0 : Int) []) false)).2.3) && decide ((v0.getD v1.toNat (T43.mk (0 : Int) (T41.mk (0 : Int) (0 : Int) (0 : Int) []) false)).2.3 ≤ (↑(32 : Nat) : Int)) && decide ((↑(32 : Nat) : Int) ≤ (↑(32 : Nat) : Int)) then again (v0, IntKind.i64.wrap (v1 + (1 : Int)), v2, v3, v4, v5, r.snd.snd.snd.fst, v7.set (v0.getD v1.toNat (T43.mk (0 : Int) (T41.mk (0 : Int) (0 : Int) (0 : Int) []) false)).2.2.toNat (splice (v7.getD (v0.getD v1.toNat (T43.mk (0 : Int) (T41.mk (0 : Int) (0 : Int) (0 : Int) []) false)).2.2.toNat (List.replicate (32 : Nat) (0 : Int))) (v0.getD v1.toNat (T43.mk (0 : Int) (T41.mk (0 : Int) (0 : Int) (0 : Int) []) false)).2.4 (v0.getD v1.toNat (T43.mk (0 : Int) (T41.mk (0 : Int) (0 : Int) (0 : Int) []) false)).2.3.toNat (min (v0.getD v1.toNat (T43.mk (0 : Int) (T41.mk (0 : Int) (0 : Int) (0 : Int) []) false)).2.4.length ((↑(32 : Nat) : Int) - (v0.getD v1.toNat (T43.mk (0 : Int) (T41.mk (0 : Int) (0 : Int) (0 : Int) []) false)).2.3).toNat)), v8, r.snd.snd.snd.snd.fst, r.snd.snd.snd.snd.snd.fst, r.snd.snd.snd.snd.snd.snd.fst, r.snd.snd.snd.snd.snd.snd.snd.fst, r.snd.snd.snd.snd.snd.snd.snd.snd.fst, r.snd.snd.snd.snd.snd.snd.snd.snd.snd) else none else none else bif (v0.getD v1.toNat (T43.mk (0 : Int) (T41.mk (0 : Int) (0 : Int) (0 : Int) []) false)).2.1 == (1 : Int) then bif inRange (v0.getD v1.toNat (T43.mk (0 : Int) (T41.mk (0 : Int) (0 : Int) (0 : Int) []) false)).2.2 (64 : Nat) then (F20 k (r.snd.snd.fst, List.take ((↑(32 : Nat) : Int) - (0 : Int)).toNat (List.drop (Int.toNat (0 : Int)) (v7.getD (v0.getD v1.toNat (T43.mk (0 : Int) (T41.mk (0 : Int) (0 : Int) (0 : Int) []) false)).2.2.toNat (List.replicate (32 : Nat) (0 : Int)))), ())).bind fun r_2 => bif !r_2 then some (Sum.inl (false, v2, v3, v4, v5, r.snd.snd.snd.fst, v7, v8, r.snd.snd.snd.snd.fst, r.snd.snd.snd.snd.snd.fst, r.snd.snd.snd.snd.snd.snd.fst, r.snd.snd.snd.snd.snd.snd.snd.fst, r.snd.snd.snd.snd.snd.snd.snd.snd.fst, r.snd.snd.snd.snd.snd.snd.snd.snd.snd)) else again (v0, IntKind.i64.wrap (v1 + (1 : Int)), v2, v3, v4, v5, r.snd.snd.snd.fst, v7, v8, r.snd.snd.snd.snd.fst, r.snd.snd.snd.snd.snd.fst, r.snd.snd.snd.snd.snd.snd.fst, r.snd.snd.snd.snd.snd.snd.snd.fst, r.snd.snd.snd.snd.snd.snd.snd.snd.fst, r.snd.snd.snd.snd.snd.snd.snd.snd.snd) else none else again (v0, IntKind.i64.wrap (v1 + (1 : Int)), v2, v3, v4, v5, r.snd.snd.snd.fst, v7, v8, r.snd.snd.snd.snd.fst, r.snd.snd.snd.snd.snd.fst, r.snd.snd.snd.snd.snd.snd.fst, r.snd.snd.snd.snd.snd.snd.snd.fst, r.snd.snd.snd.snd.snd.snd.snd.snd.fst, r.snd.snd.snd.snd.snd.snd.snd.snd.snd) else none else none else some (Sum.inr (v2, v3, v4, v5, v6, v7, v8, v9, v10, v11, v12, v13, v14))
def L4_9 (k n : Nat) (x : List T43 × Int × Int × Int × Int × Int × Int × List (List Int) × List Bool × List Int × List (List Int) × List Int × List Int × List Int × List Int) : Option ((Bool × Int × Int × Int × Int × Int × List (List Int) × List Bool × List Int × List (List Int) × List Int × List Int × List Int × List Int) ⊕ (Int × Int × Int × Int × Int × List (List Int) × List Bool × List Int × List (List Int) × List Int × List Int × List Int × List Int)) := iterR (R4_9 k) n x
def of4_33 : Int × Int × Int × Int × Int × Int × List (List Int) × List Bool × List Int × List (List Int) × List Int × List Int × List Int × List Int → NSt Ty := fun x => ⟨[.ptr 100000 [], .ptr 100001 [], .ptr 100002 [], .ptr 100003 [], .int .i64 (x.1)], [.var (.cons (.int .i64 (x.2.1)) (.cons (.int .i64 (x.2.2.1)) (.cons (.int .i64 (x.2.2.2.1)) (.cons (.int .i64 (x.2.2.2.2.1)) (.nil))))), .var (.cons (.row 100004) (.cons (.row 100005) (.cons (.int .i64 (x.2.2.2.2.2.1)) (.cons (.cons (.row 100006) (.cons (.row 100007) (.cons (.row 100008) (.cons (.row 100009) (.nil))))) (.nil))))), .var (.arr 50 64 (x.2.2.2.2.2.2.1)), .var (.arr 4 64 (x.2.2.2.2.2.2.2.1)), .row 3 (x.2.2.2.2.2.2.2.2.1), .row 50 (x.2.2.2.2.2.2.2.2.2.1), .row 3 (x.2.2.2.2.2.2.2.2.2.2.1), .row 3 (x.2.2.2.2.2.2.2.2.2.2.2.1), .row 3 (x.2.2.2.2.2.2.2.2.2.2.2.2.1), .row 3 (x.2.2.2.2.2.2.2.2.2.2.2.2.2)]⟩
def ab4_33 : (n : NSt Ty) → Option {x : Int × Int × Int × Int × Int × Int × List (List Int) × List Bool × List Int × List (List Int) × List Int × List Int × List Int × List Int // of4_33 x = n}
  | ⟨[.ptr 100000 [], .ptr 100001 [], .ptr 100002 [], .ptr 100003 [], .int .i64 v0], [.var (.cons (.int .i64 v1) (.cons (.int .i64 v2) (.cons (.int .i64 v3) (.cons (.int .i64 v4) (.nil))))), .var (.cons (.row 100004) (.cons (.row 100005) (.cons (.int .i64 v5) (.cons (.cons (.row 100006) (.cons (.row 100007) (.cons (.row 100008) (.cons (.row 100009) (.nil))))) (.nil))))), .var (.arr 50 64 v6), .var (.arr 4 64 v7), .row 3 v8, .row 50 v9, .row 3 v10, .row 3 v11, .row 3 v12, .row 3 v13]⟩ => some ⟨(v0, v1, v2, v3, v4, v5, v6, v7, v8, v9, v10, v11, v12, v13), rfl⟩
  | _ => none
def on4_33a : Bool × Int × Int × Int × Int × Int × List Int × List (List Int) × List Int × List Int × List Int × List Int → NSt Ty := fun x => ⟨[.ptr 100000 [], .bool (x.1), .ptr 100001 []], [.var (.cons (.int .i64 (x.2.1)) (.cons (.int .i64 (x.2.2.1)) (.cons (.int .i64 (x.2.2.2.1)) (.cons (.int .i64 (x.2.2.2.2.1)) (.nil))))), .var (.cons (.row 100002) (.cons (.row 100003) (.cons (.int .i64 (x.2.2.2.2.2.1)) (.cons (.cons (.row 100004) (.cons (.row 100005) (.cons (.row 100006) (.cons (.row 100007) (.nil))))) (.nil))))), .row 3 (x.2.2.2.2.2.2.1), .row 50 (x.2.2.2.2.2.2.2.1), .row 3 (x.2.2.2.2.2.2.2.2.1), .row 3 (x.2.2.2.2.2.2.2.2.2.1), .row 3 (x.2.2.2.2.2.2.2.2.2.2.1), .row 3 (x.2.2.2.2.2.2.2.2.2.2.2)]⟩
def on4_33b : Int × Int × Int × Int × Int × List Int × List (List Int) × List Int × List Int × List Int × List Int → NSt Ty := fun x => ⟨[.ptr 100000 [], .undef, .ptr 100001 []], [.var (.cons (.int .i64 (x.1)) (.cons (.int .i64 (x.2.1)) (.cons (.int .i64 (x.2.2.1)) (.cons (.int .i64 (x.2.2.2.1)) (.nil))))), .var (.cons (.row 100002) (.cons (.row 100003) (.cons (.int .i64 (x.2.2.2.2.1)) (.cons (.cons (.row 100004) (.cons (.row 100005) (.cons (.row 100006) (.cons (.row 100007) (.nil))))) (.nil))))), .row 3 (x.2.2.2.2.2.1), .row 50 (x.2.2.2.2.2.2.1), .row 3 (x.2.2.2.2.2.2.2.1), .row 3 (x.2.2.2.2.2.2.2.2.1), .row 3 (x.2.2.2.2.2.2.2.2.2.1), .row 3 (x.2.2.2.2.2.2.2.2.2.2)]⟩
def oa4_33 : (e : Ex) → (n : NSt Ty) → Option {y : (Bool × Int × Int × Int × Int × Int × List Int × List (List Int) × List Int × List Int × List Int × List Int) ⊕ (Int × Int × Int × Int × Int × List Int × List (List Int) × List Int × List Int × List Int × List Int) // oe2 .ret (.exit 3) y = e ∧ on2 on4_33a on4_33b y = n}
  | .ret, ⟨[.ptr 100000 [], .bool v0, .ptr 100001 []], [.var (.cons (.int .i64 v1) (.cons (.int .i64 v2) (.cons (.int .i64 v3) (.cons (.int .i64 v4) (.nil))))), .var (.cons (.row 100002) (.cons (.row 100003) (.cons (.int .i64 v5) (.cons (.cons (.row 100004) (.cons (.row 100005) (.cons (.row 100006) (.cons (.row 100007) (.nil))))) (.nil))))), .row 3 v6, .row 50 v7, .row 3 v8, .row 3 v9, .row 3 v10, .row 3 v11]⟩ => some ⟨.inl (v0, v1, v2, v3, v4, v5, v6, v7, v8, v9, v10, v11), rfl, rfl⟩
  | .exit 3, ⟨[.ptr 100000 [], .undef, .ptr 100001 []], [.var (.cons (.int .i64 v0) (.cons (.int .i64 v1) (.cons (.int .i64 v2) (.cons (.int .i64 v3) (.nil))))), .var (.cons (.row 100002) (.cons (.row 100003) (.cons (.int .i64 v4) (.cons (.cons (.row 100004) (.cons (.row 100005) (.cons (.row 100006) (.cons (.row 100007) (.nil))))) (.nil))))), .row 3 v5, .row 50 v6, .row 3 v7, .row 3 v8, .row 3 v9, .row 3 v10]⟩ => some ⟨.inr (v0, v1, v2, v3, v4, v5, v6, v7, v8, v9, v10), rfl, rfl⟩
  | _, _ => none
/-- a round of the loop 33 of function 4 -/
def R4_33 (k : Nat) (again : Int × Int × Int × Int × Int × Int × List (List Int) × List Bool × List Int × List (List Int) × List Int × List Int × List Int × List Int → Option ((Bool × Int × Int × Int × Int × Int × List Int × List (List Int) × List Int × List Int × List Int × List Int) ⊕ (Int × Int × Int × Int × Int × List Int × List (List Int) × List Int × List Int × List Int × List Int))) (x : Int × Int × Int × Int × Int × Int × List (List Int) × List Bool × List Int × List (List Int) × List Int × List Int × List Int × List Int) : Option ((Bool × Int × Int × Int × Int × Int × List Int × List (List Int) × List Int × List Int × List Int × List Int) ⊕ (Int × Int × Int × Int × Int × List Int × List (List Int) × List Int × List Int × List Int × List Int)) :=
  match x with
  | (v0, v1, v2, v3, v4, v5, v6, v7, v8, v9, v10, v11, v12, v13) => bif decide (v0 < (64 : Int)) then (F21 k (v0, v5, v8, v9, v10, v11, v12, v13)).bind fun r => bif inRange v0 (64 : Nat) then bif !r.snd == v7.getD v0.toNat false then some (Sum.inl (false, v1, v2, v3, v4, v5, v8, v9, v10, v11, v12, v13)) else bif r.snd then bif inRange v0 (64 : Nat) then bif !decide (r.fst = v6.getD v0.toNat (List.replicate (32 : Nat) (0 : Int))) then some (Sum.inl (false, v1, v2, v3, v4, v5, v8, v9, v10, v11, v12, v13)) else again (IntKind.i64.wrap (v0 + (1 : Int)), v1, v2, v3, v4, v5, v6, v7, v8, v9, v10, v11, v12, v13) else none else again (IntKind.i64.wrap (v0 + (1 : Int)), v1, v2, v3, v4, v5, v6, v7, v8, v9, v10, v11, v12, v13) else none else some (Sum.inr (v1, v2, v3, v4, v5, v8, v9, v10, v11, v12, v13))
def L4_33 (k n : Nat) (x : Int × Int × Int × Int × Int × Int × List (List Int) × List Bool × List Int × List (List Int) × List Int × List Int × List Int × List Int) : Option ((Bool × Int × Int × Int × Int × Int × List Int × List (List Int) × List Int × List Int × List Int × List Int) ⊕ (Int × Int × Int × Int × Int × List Int × List (List Int) × List Int × List Int × List Int × List Int)) := iterR (R4_33 k) n x
def kp4 : Nat → Keep := fun i => cond (i == 9) ⟨[1, 2, 5, 7, 8, 9], [2, 4, 5, 7, 8], 0⟩ (cond (i == 33) ⟨[2, 5, 7, 8, 12], [2, 4, 5], 0⟩ (⟨[], [], 0⟩))
/-- "silt/siltlaw27.ModelReads" -/
def F4 (k : Nat) (x : T22 × (List T43) × Unit) : Option (Bool) :=
  match x with
  | (a0, a1, ()) => (F7 k (a1, ())).bind fun r => bif !r then (F8 k ()).bind fun r => some r else (F18 k (T22.mk a0.1 a0.2 a0.3 a0.4, ())).bind fun r => bif !r then (F8 k ()).bind fun r => some r else (F9 k (a0.1, a0.2, a0.3, a0.4)).bind fun r => sumK r (fun a => some false) fun b => (L4_9 k k (a1, (0 : Int), a0.1, a0.2, a0.3, a0.4, b.fst, List.replicate (64 : Nat) (List.replicate (32 : Nat) (0 : Int)), List.replicate (64 : Nat) false, b.snd.fst, b.snd.snd.fst, b.snd.snd.snd.fst, b.snd.snd.snd.snd.fst, b.snd.snd.snd.snd.snd.fst, b.snd.snd.snd.snd.snd.snd)).bind fun r => sumK r (fun a => some a.fst) fun b => (L4_33 k k ((0 : Int), b.fst, b.snd.fst, b.snd.snd.fst, b.snd.snd.snd.fst, b.snd.snd.snd.snd.fst, b.snd.snd.snd.snd.snd.fst, b.snd.snd.snd.snd.snd.snd.fst, b.snd.snd.snd.snd.snd.snd.snd.fst, b.snd.snd.snd.snd.snd.snd.snd.snd.fst, b.snd.snd.snd.snd.snd.snd.snd.snd.snd.fst, b.snd.snd.snd.snd.snd.snd.snd.snd.snd.snd.fst, b.snd.snd.snd.snd.snd.snd.snd.snd.snd.snd.snd.fst, b.snd.snd.snd.snd.snd.snd.snd.snd.snd.snd.snd.snd)).bind fun r => sumK r (fun a => some a.fst) fun b => (F22 k (b.snd.snd.snd.snd.fst, b.snd.snd.snd.snd.snd.fst, b.snd.snd.snd.snd.snd.snd.fst, b.snd.snd.snd.snd.snd.snd.snd.fst, b.snd.snd.snd.snd.snd.snd.snd.snd.fst, b.snd.snd.snd.snd.snd.snd.snd.snd.snd.fst, b.snd.snd.snd.snd.snd.snd.snd.snd.snd.snd)).bind fun r => (F23 k (T22.mk b.fst b.snd.fst b.snd.snd.fst b.snd.snd.snd.fst, ())).bind fun r_1 => bif decide ((↑r.length : Int) ≤ r_1.3) then (F8 k ()).bind fun r => some r else some false
noncomputable def sp4 : FSpec Ty := spec ag4 rs4 F4
theorem bo4 : Try.f4.body = some (bodyOf Try.f4) := by kernel_rfl
theorem nd4 : nodupB ((loopsIn (bodyOf Try.f4)).map firstRegion) = true := by kernel_rfl
noncomputable def ls4_9 : Nat → Option (LSum Ty) := addL 9 (lsum2 of4_9 ab4_9 L4_9 .ret on4_9a (.exit 0) on4_9b) noL
theorem lo4_9 : LSOK fs23 kp4 tab Try.f4 ls4_9 := lsum2_ok bo4 nd4 (LSOK.none) oa4_9 (R := R4_9) fun k again x => by kernel_rfl
noncomputable def ls4_33 : Nat → Option (LSum Ty) := addL 33 (lsum2 of4_33 ab4_33 L4_33 .ret on4_33a (.exit 3) on4_33b) ls4_9
theorem lo4_33 : LSOK fs23 kp4 tab Try.f4 ls4_33 := lsum2_ok bo4 nd4 (lo4_9) oa4_33 (R := R4_33) fun k again x => by kernel_rfl
theorem ok4 : FOK Try.prog tab 4 sp4 := spec_ok (keeps := kp4) tabOK fs23OK Try.func4 bo4 (by kernel_rfl) nd4 (lo4_33) (F := F4) fun k x => by kernel_rfl
noncomputable def fs4 : Nat → Option (FSpec Ty) := addF 4 sp4 fs23
theorem fs4OK : SpecsOK Try.prog tab fs4 := fs23OK.add ok4 Try.call4
end Go.Proofs.Ytofodkmokjhcoaa.W
