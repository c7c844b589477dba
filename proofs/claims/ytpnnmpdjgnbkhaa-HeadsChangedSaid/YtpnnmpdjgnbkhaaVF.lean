/-
  The functions that the statement reaches, as typed functions, and that the program computes them. No conditions. Printed by program.
-/
import Derived.Test.YtpnnmpdjgnbkhaaVI
set_option linter.unusedVariables false
namespace Go.Proofs.Ytpnnmpdjgnbkhaa.W
open Go Go.Proofs V
theorem noFOK : SpecsOK Try.prog tab noF := SpecsOK.none cmpOK
def ag14 : Args Ty ((List Int) × Unit) := V.arg (tab.den 22) (noArgs)
def rs14 : Res Ty tab (Int) false := V.oneRes (tab.den 3) (ent 3).ids (ent 3).plain (fun x _ => (ent 3).flat x rfl)
def of14_3 : Int × List Int × Int × Int → NSt Ty := fun x => ⟨[.int .i64 (x.1), .slice 3 (x.2.1), .int .i64 (x.2.2.1), .int .i64 (x.2.2.2)], []⟩
def ab14_3 : (n : NSt Ty) → Option {x : Int × List Int × Int × Int // of14_3 x = n}
  | ⟨[.int .i64 v0, .slice 3 v1, .int .i64 v2, .int .i64 v3], []⟩ => some ⟨(v0, v1, v2, v3), rfl⟩
  | _ => none
def oe14_3 : Int → Ex := fun _ => .exit 0
def on14_3 : Int → NSt Ty := fun x => ⟨[.int .i64 (x)], []⟩
def oa14_3 : (e : Ex) → (n : NSt Ty) → Option {y : Int // oe14_3 y = e ∧ on14_3 y = n}
  | .exit 0, ⟨[.int .i64 v0], []⟩ => some ⟨v0, rfl, rfl⟩
  | _, _ => none
/-- a round of the loop 3 of function 14 -/
def R14_3 (k : Nat) (again : Int × List Int × Int × Int → Option (Int)) (x : Int × List Int × Int × Int) : Option (Int) :=
  match x with
  | (v0, v1, v2, v3) => bif decide (v3 < v2) then bif inRange v3 v1.length then bif v1.getD v3.toNat (0 : Int) != (0 : Int) then again (IntKind.i64.wrap (v0 + (1 : Int)), v1, v2, IntKind.i64.wrap (v3 + (1 : Int))) else again (v0, v1, v2, IntKind.i64.wrap (v3 + (1 : Int))) else none else some v0
def L14_3 (k n : Nat) (x : Int × List Int × Int × Int) : Option (Int) := iterR (R14_3 k) n x
noncomputable def ls14_3 : Nat → Option (LSum Ty) := addL 3 (LSum.of of14_3 ab14_3 L14_3 oe14_3 on14_3) noL
def kp14 : Nat → Keep := fun i => cond (i == 3) ⟨[3, 6, 7, 8], [3]⟩ (⟨[], []⟩)
/-- "silt/heads.Count" -/
def F14 (k : Nat) (x : (List Int) × Unit) : Option (Int) :=
  match x with
  | (a0, ()) => (L14_3 k k ((0 : Int), a0, (↑a0.length : Int), (0 : Int))).bind fun r => some r
noncomputable def sp14 : FSpec Ty := spec ag14 rs14 F14
theorem bo14 : Try.f14.body = some (bodyOf Try.f14) := by kernel_rfl
theorem nd14 : nodupB ((loopsIn (bodyOf Try.f14)).map firstRegion) = true := by kernel_rfl
theorem lo14_3 : LSOK noF kp14 tab Try.f14 ls14_3 := lsum_ok bo14 nd14 (LSOK.none) oa14_3 (R := R14_3) fun k again x => by kernel_rfl
theorem ok14 : FOK Try.prog tab 14 sp14 := spec_ok (keeps := kp14) tabOK noFOK Try.func14 bo14 (by kernel_rfl) nd14 (lo14_3) (F := F14) fun k x => by kernel_rfl
noncomputable def fs14 : Nat → Option (FSpec Ty) := addF 14 sp14 noF
theorem fs14OK : SpecsOK Try.prog tab fs14 := noFOK.add ok14 Try.call14
def ag72 : Args Ty (Int × ByteArray × Unit) := V.arg (tab.den 24) (V.arg (tab.den 9) (noArgs))
def rs72 : Res Ty tab (GErr) true := V.oneRes (tab.den 100) (ent 100).ids (ent 100).plain (fun _ h => by cases h)
def kp72 : Nat → Keep := fun i => ⟨[], []⟩
/-- "silt/fault.New" -/
def F72 (k : Nat) (x : Int × ByteArray × Unit) : Option (GErr) :=
  match x with
  | (a0, a1, ()) => bif a0 == (0 : Int) then some GErr.nil else some (GErr.flt a1 (GErr.num a0) false)
noncomputable def sp72 : FSpec Ty := spec ag72 rs72 F72
theorem bo72 : Try.f72.body = some (bodyOf Try.f72) := by kernel_rfl
theorem nd72 : nodupB ((loopsIn (bodyOf Try.f72)).map firstRegion) = true := by kernel_rfl
theorem ok72 : FOK Try.prog tab 72 sp72 := spec_ok (keeps := kp72) tabOK fs14OK Try.func72 bo72 (by kernel_rfl) nd72 (LSOK.none) (F := F72) fun k x => by kernel_rfl
noncomputable def fs72 : Nat → Option (FSpec Ty) := addF 72 sp72 fs14
theorem fs72OK : SpecsOK Try.prog tab fs72 := fs14OK.add ok72 Try.call72
def ag46 : Args Ty ((List Int) × Int × Unit) := V.arg (tab.den 22) (V.arg (tab.den 3) (noArgs))
def rs46 : Res Ty tab (Int) false := V.oneRes (tab.den 3) (ent 3).ids (ent 3).plain (fun x _ => (ent 3).flat x rfl)
def of46_2 : List Int × Int × Int × Int → NSt Ty := fun x => ⟨[.slice 3 (x.1), .int .i64 (x.2.1), .int .i64 (x.2.2.1), .int .i64 (x.2.2.2)], []⟩
def ab46_2 : (n : NSt Ty) → Option {x : List Int × Int × Int × Int // of46_2 x = n}
  | ⟨[.slice 3 v0, .int .i64 v1, .int .i64 v2, .int .i64 v3], []⟩ => some ⟨(v0, v1, v2, v3), rfl⟩
  | _ => none
def on46_2a : Int → NSt Ty := fun x => ⟨[.int .i64 (x)], []⟩
def on46_2b : Unit → NSt Ty := fun x => ⟨[.undef], []⟩
def oa46_2 : (e : Ex) → (n : NSt Ty) → Option {y : (Int) ⊕ (Unit) // oe2 .ret (.exit 0) y = e ∧ on2 on46_2a on46_2b y = n}
  | .ret, ⟨[.int .i64 v0], []⟩ => some ⟨.inl v0, rfl, rfl⟩
  | .exit 0, ⟨[.undef], []⟩ => some ⟨.inr (), rfl, rfl⟩
  | _, _ => none
/-- a round of the loop 2 of function 46 -/
def R46_2 (k : Nat) (again : List Int × Int × Int × Int → Option ((Int) ⊕ (Unit))) (x : List Int × Int × Int × Int) : Option ((Int) ⊕ (Unit)) :=
  match x with
  | (v0, v1, v2, v3) => bif decide (v3 < v2) then bif inRange v3 v0.length then bif v1 == v0.getD v3.toNat (0 : Int) then some (Sum.inl v3) else again (v0, v1, v2, IntKind.i64.wrap (v3 + (1 : Int))) else none else some (Sum.inr ())
def L46_2 (k n : Nat) (x : List Int × Int × Int × Int) : Option ((Int) ⊕ (Unit)) := iterR (R46_2 k) n x
noncomputable def ls46_2 : Nat → Option (LSum Ty) := addL 2 (lsum2 of46_2 ab46_2 L46_2 .ret on46_2a (.exit 0) on46_2b) noL
def kp46 : Nat → Keep := fun i => cond (i == 2) ⟨[0, 1, 7, 8], [4]⟩ (⟨[], []⟩)
/-- "slices.Index[[]int,int]" -/
def F46 (k : Nat) (x : (List Int) × Int × Unit) : Option (Int) :=
  match x with
  | (a0, a1, ()) => (L46_2 k k (a0, a1, (↑a0.length : Int), (0 : Int))).bind fun r => sumK r (fun a => some a) fun b => some (-1 : Int)
noncomputable def sp46 : FSpec Ty := spec ag46 rs46 F46
theorem bo46 : Try.f46.body = some (bodyOf Try.f46) := by kernel_rfl
theorem nd46 : nodupB ((loopsIn (bodyOf Try.f46)).map firstRegion) = true := by kernel_rfl
theorem lo46_2 : LSOK fs72 kp46 tab Try.f46 ls46_2 := lsum2_ok bo46 nd46 (LSOK.none) oa46_2 (R := R46_2) fun k again x => by kernel_rfl
theorem ok46 : FOK Try.prog tab 46 sp46 := spec_ok (keeps := kp46) tabOK fs72OK Try.func46 bo46 (by kernel_rfl) nd46 (lo46_2) (F := F46) fun k x => by kernel_rfl
noncomputable def fs46 : Nat → Option (FSpec Ty) := addF 46 sp46 fs72
theorem fs46OK : SpecsOK Try.prog tab fs46 := fs72OK.add ok46 Try.call46
def ag73 : Args Ty ((List Int) × Int × Unit) := V.arg (tab.den 22) (V.arg (tab.den 3) (noArgs))
def rs73 : Res Ty tab (Bool) false := V.oneRes (tab.den 4) (ent 4).ids (ent 4).plain (fun x _ => (ent 4).flat x rfl)
def kp73 : Nat → Keep := fun i => ⟨[], []⟩
/-- "slices.Contains[[]int,int]" -/
def F73 (k : Nat) (x : (List Int) × Int × Unit) : Option (Bool) :=
  match x with
  | (a0, a1, ()) => (F46 k (a0, a1, ())).bind fun r => some (decide (r ≥ (0 : Int)))
noncomputable def sp73 : FSpec Ty := spec ag73 rs73 F73
theorem bo73 : Try.f73.body = some (bodyOf Try.f73) := by kernel_rfl
theorem nd73 : nodupB ((loopsIn (bodyOf Try.f73)).map firstRegion) = true := by kernel_rfl
theorem ok73 : FOK Try.prog tab 73 sp73 := spec_ok (keeps := kp73) tabOK fs46OK Try.func73 bo73 (by kernel_rfl) nd73 (LSOK.none) (F := F73) fun k x => by kernel_rfl
noncomputable def fs73 : Nat → Option (FSpec Ty) := addF 73 sp73 fs46
theorem fs73OK : SpecsOK Try.prog tab fs73 := fs46OK.add ok73 Try.call73
def ag45 : Args Ty ((List Int) × Int × Unit) := V.arg (tab.den 22) (V.arg (tab.den 3) (noArgs))
def rs45 : Res Ty tab (GErr) true := V.oneRes (tab.den 100) (ent 100).ids (ent 100).plain (fun _ h => by cases h)
def kp45 : Nat → Keep := fun i => ⟨[], []⟩
/-- "silt/heads.room" -/
def F45 (k : Nat) (x : (List Int) × Int × Unit) : Option (GErr) :=
  match x with
  | (a0, a1, ()) => (F14 k (a0, ())).bind fun r => bif decide (r ≥ a1) then (F72 k ((14 : Int), ByteArray.mk (Array.mk [(109 : UInt8), (111 : UInt8), (115 : UInt8), (116 : UInt8)]), ())).bind fun r => some r else (F73 k (a0, (0 : Int), ())).bind fun r => bif !r then (F72 k ((14 : Int), ByteArray.mk (Array.mk [(97 : UInt8), (108 : UInt8), (108 : UInt8)]), ())).bind fun r => some r else some GErr.nil
noncomputable def sp45 : FSpec Ty := spec ag45 rs45 F45
theorem bo45 : Try.f45.body = some (bodyOf Try.f45) := by kernel_rfl
theorem nd45 : nodupB ((loopsIn (bodyOf Try.f45)).map firstRegion) = true := by kernel_rfl
theorem ok45 : FOK Try.prog tab 45 sp45 := spec_ok (keeps := kp45) tabOK fs73OK Try.func45 bo45 (by kernel_rfl) nd45 (LSOK.none) (F := F45) fun k x => by kernel_rfl
noncomputable def fs45 : Nat → Option (FSpec Ty) := addF 45 sp45 fs73
theorem fs45OK : SpecsOK Try.prog tab fs45 := fs73OK.add ok45 Try.call45
def ag44 : Args Ty (GErr × GErr × Unit) := V.arg (tab.den 100) (V.arg (tab.den 100) noArgs)
def rs44 : Res Ty tab Bool false := V.oneRes (tab.den 4) (ent 4).ids (ent 4).plain (fun x _ => (ent 4).flat x rfl)
/-- errors.Is -/
def F44 : Nat → (GErr × GErr × Unit) → Option Bool := errIsF
noncomputable def sp44 : FSpec Ty := spec ag44 rs44 F44
theorem ok44 : FOK Try.prog tab 44 sp44 := errIs_ok (A := ag44) (B := rs44) (fun _ _ => rfl) (fun _ => rfl) (fun _ _ n e x h => is_calls n e x h)
noncomputable def fs44 : Nat → Option (FSpec Ty) := addF 44 sp44 fs45
theorem fs44OK : SpecsOK Try.prog tab fs44 := fs45OK.add ok44 Try.call44
def ag12 : Args Ty ((List Int) × Int × Unit) := V.arg (tab.den 22) (V.arg (tab.den 3) (noArgs))
def rs12 : Res Ty tab (Int × Int × Unit) false := V.manyRes (V.part (tab.den 3) (ent 3).ids (ent 3).plain (fun x _ => (ent 3).flat x rfl) (V.part (tab.den 24) (ent 24).ids (ent 24).plain (fun x _ => (ent 24).flat x rfl) (noParts)))
def kp12 : Nat → Keep := fun i => ⟨[], []⟩
/-- "silt/heads.Least" -/
def F12 (k : Nat) (x : (List Int) × Int × Unit) : Option (Int × Int × Unit) :=
  match x with
  | (a0, a1, ()) => (F45 k (a0, a1, ())).bind fun r => (F44 k (r, GErr.num (14 : Int), ())).bind fun r => bif r then some ((0 : Int), (14 : Int), ()) else (F46 k (a0, (0 : Int), ())).bind fun r => some (r, (0 : Int), ())
noncomputable def sp12 : FSpec Ty := spec ag12 rs12 F12
theorem bo12 : Try.f12.body = some (bodyOf Try.f12) := by kernel_rfl
theorem nd12 : nodupB ((loopsIn (bodyOf Try.f12)).map firstRegion) = true := by kernel_rfl
theorem ok12 : FOK Try.prog tab 12 sp12 := spec_ok (keeps := kp12) tabOK fs44OK Try.func12 bo12 (by kernel_rfl) nd12 (LSOK.none) (F := F12) fun k x => by kernel_rfl
noncomputable def fs12 : Nat → Option (FSpec Ty) := addF 12 sp12 fs44
theorem fs12OK : SpecsOK Try.prog tab fs12 := fs44OK.add ok12 Try.call12
def ag47 : Args Ty ((List Int) × Int × Unit) := V.arg (tab.den 22) (V.arg (tab.den 3) (noArgs))
def rs47 : Res Ty tab (Int) false := V.oneRes (tab.den 3) (ent 3).ids (ent 3).plain (fun x _ => (ent 3).flat x rfl)
def kp47 : Nat → Keep := fun i => ⟨[], []⟩
/-- "silt/heads.at" -/
def F47 (k : Nat) (x : (List Int) × Int × Unit) : Option (Int) :=
  match x with
  | (a0, a1, ()) => bif decide (a1 < (↑a0.length : Int)) then bif inRange a1 a0.length then some (a0.getD a1.toNat (0 : Int)) else none else some (0 : Int)
noncomputable def sp47 : FSpec Ty := spec ag47 rs47 F47
theorem bo47 : Try.f47.body = some (bodyOf Try.f47) := by kernel_rfl
theorem nd47 : nodupB ((loopsIn (bodyOf Try.f47)).map firstRegion) = true := by kernel_rfl
theorem ok47 : FOK Try.prog tab 47 sp47 := spec_ok (keeps := kp47) tabOK fs12OK Try.func47 bo47 (by kernel_rfl) nd47 (LSOK.none) (F := F47) fun k x => by kernel_rfl
noncomputable def fs47 : Nat → Option (FSpec Ty) := addF 47 sp47 fs12
theorem fs47OK : SpecsOK Try.prog tab fs47 := fs12OK.add ok47 Try.call47
def ag17 : Args Ty ((List Int) × (List Int) × Unit) := V.arg (tab.den 22) (V.arg (tab.den 22) (noArgs))
def rs17 : Res Ty tab ((List Int)) true := V.oneRes (tab.den 22) (ent 22).ids (ent 22).plain (fun _ h => by cases h)
def of17_3 : List Int × List Int × Int × Int × List Int → NSt Ty := fun x => ⟨[.slice 3 (x.1), .slice 3 (x.2.1), .row 100000, .int .i64 (x.2.2.1), .int .i64 (x.2.2.2.1)], [.row 3 (x.2.2.2.2)]⟩
def ab17_3 : (n : NSt Ty) → Option {x : List Int × List Int × Int × Int × List Int // of17_3 x = n}
  | ⟨[.slice 3 v0, .slice 3 v1, .row 100000, .int .i64 v2, .int .i64 v3], [.row 3 v4]⟩ => some ⟨(v0, v1, v2, v3, v4), rfl⟩
  | _ => none
def oe17_3 : List Int → Ex := fun _ => .exit 0
def on17_3 : List Int → NSt Ty := fun x => ⟨[.row 100000], [.row 3 (x)]⟩
def oa17_3 : (e : Ex) → (n : NSt Ty) → Option {y : List Int // oe17_3 y = e ∧ on17_3 y = n}
  | .exit 0, ⟨[.row 100000], [.row 3 v0]⟩ => some ⟨v0, rfl, rfl⟩
  | _, _ => none
/-- a round of the loop 3 of function 17 -/
def R17_3 (k : Nat) (again : List Int × List Int × Int × Int × List Int → Option (List Int)) (x : List Int × List Int × Int × Int × List Int) : Option (List Int) :=
  match x with
  | (v0, v1, v2, v3, v4) => bif decide (v3 < v2) then (F47 k (v0, v3, ())).bind fun r => (F47 k (v1, v3, ())).bind fun r_1 => bif r != r_1 then bif decide (v4.length + ((List.replicate (1 : Nat) (0 : Int)).set (0 : Nat) v3).length ≤ roomMost) then again (v0, v1, v2, IntKind.i64.wrap (v3 + (1 : Int)), v4 ++ (List.replicate (1 : Nat) (0 : Int)).set (0 : Nat) v3) else none else again (v0, v1, v2, IntKind.i64.wrap (v3 + (1 : Int)), v4) else some v4
def L17_3 (k n : Nat) (x : List Int × List Int × Int × Int × List Int) : Option (List Int) := iterR (R17_3 k) n x
noncomputable def ls17_3 : Nat → Option (LSum Ty) := addL 3 (LSum.of of17_3 ab17_3 L17_3 oe17_3 on17_3) noL
def kp17 : Nat → Keep := fun i => cond (i == 3) ⟨[0, 1, 5, 11, 12], [5]⟩ (⟨[], []⟩)
/-- "silt/heads.Changed" -/
def F17 (k : Nat) (x : (List Int) × (List Int) × Unit) : Option ((List Int)) :=
  match x with
  | (a0, a1, ()) => (L17_3 k k (a0, a1, if (↑a1.length : Int) > (↑a0.length : Int) then (↑a1.length : Int) else (↑a0.length : Int), (0 : Int), [])).bind fun r => some r
noncomputable def sp17 : FSpec Ty := spec ag17 rs17 F17
theorem bo17 : Try.f17.body = some (bodyOf Try.f17) := by kernel_rfl
theorem nd17 : nodupB ((loopsIn (bodyOf Try.f17)).map firstRegion) = true := by kernel_rfl
theorem lo17_3 : LSOK fs47 kp17 tab Try.f17 ls17_3 := lsum_ok bo17 nd17 (LSOK.none) oa17_3 (R := R17_3) fun k again x => by kernel_rfl
theorem ok17 : FOK Try.prog tab 17 sp17 := spec_ok (keeps := kp17) tabOK fs47OK Try.func17 bo17 (by kernel_rfl) nd17 (lo17_3) (F := F17) fun k x => by kernel_rfl
noncomputable def fs17 : Nat → Option (FSpec Ty) := addF 17 sp17 fs47
theorem fs17OK : SpecsOK Try.prog tab fs17 := fs47OK.add ok17 Try.call17
def ag16 : Args Ty ((List Int) × (List Int) × Unit) := V.arg (tab.den 22) (V.arg (tab.den 22) (noArgs))
def rs16 : Res Ty tab (Bool) false := V.oneRes (tab.den 4) (ent 4).ids (ent 4).plain (fun x _ => (ent 4).flat x rfl)
def of16_4 : List Int × List Int × Int → NSt Ty := fun x => ⟨[.slice 3 (x.1), .slice 3 (x.2.1), .int .i64 (x.2.2)], []⟩
def ab16_4 : (n : NSt Ty) → Option {x : List Int × List Int × Int // of16_4 x = n}
  | ⟨[.slice 3 v0, .slice 3 v1, .int .i64 v2], []⟩ => some ⟨(v0, v1, v2), rfl⟩
  | _ => none
def on16_4a : Bool → NSt Ty := fun x => ⟨[.bool (x)], []⟩
def on16_4b : Unit → NSt Ty := fun x => ⟨[.undef], []⟩
def oa16_4 : (e : Ex) → (n : NSt Ty) → Option {y : (Bool) ⊕ (Unit) // oe2 .ret (.exit 0) y = e ∧ on2 on16_4a on16_4b y = n}
  | .ret, ⟨[.bool v0], []⟩ => some ⟨.inl v0, rfl, rfl⟩
  | .exit 0, ⟨[.undef], []⟩ => some ⟨.inr (), rfl, rfl⟩
  | _, _ => none
/-- a round of the loop 4 of function 16 -/
def R16_4 (k : Nat) (again : List Int × List Int × Int → Option ((Bool) ⊕ (Unit))) (x : List Int × List Int × Int) : Option ((Bool) ⊕ (Unit)) :=
  match x with
  | (v0, v1, v2) => bif decide (v2 < (↑v0.length : Int)) then bif inRange v2 v0.length then bif inRange v2 v1.length then bif v0.getD v2.toNat (0 : Int) != v1.getD v2.toNat (0 : Int) then some (Sum.inl false) else again (v0, v1, IntKind.i64.wrap (v2 + (1 : Int))) else none else none else some (Sum.inr ())
def L16_4 (k n : Nat) (x : List Int × List Int × Int) : Option ((Bool) ⊕ (Unit)) := iterR (R16_4 k) n x
noncomputable def ls16_4 : Nat → Option (LSum Ty) := addL 4 (lsum2 of16_4 ab16_4 L16_4 .ret on16_4a (.exit 0) on16_4b) noL
def kp16 : Nat → Keep := fun i => cond (i == 4) ⟨[0, 1, 5], [4]⟩ (⟨[], []⟩)
/-- "silt/siltkeep.Ints" -/
def F16 (k : Nat) (x : (List Int) × (List Int) × Unit) : Option (Bool) :=
  match x with
  | (a0, a1, ()) => bif (↑a0.length : Int) != (↑a1.length : Int) then some false else (L16_4 k k (a0, a1, (0 : Int))).bind fun r => sumK r (fun a => some a) fun b => some true
noncomputable def sp16 : FSpec Ty := spec ag16 rs16 F16
theorem bo16 : Try.f16.body = some (bodyOf Try.f16) := by kernel_rfl
theorem nd16 : nodupB ((loopsIn (bodyOf Try.f16)).map firstRegion) = true := by kernel_rfl
theorem lo16_4 : LSOK fs17 kp16 tab Try.f16 ls16_4 := lsum2_ok bo16 nd16 (LSOK.none) oa16_4 (R := R16_4) fun k again x => by kernel_rfl
theorem ok16 : FOK Try.prog tab 16 sp16 := spec_ok (keeps := kp16) tabOK fs17OK Try.func16 bo16 (by kernel_rfl) nd16 (lo16_4) (F := F16) fun k x => by kernel_rfl
noncomputable def fs16 : Nat → Option (FSpec Ty) := addF 16 sp16 fs17
theorem fs16OK : SpecsOK Try.prog tab fs16 := fs17OK.add ok16 Try.call16
def ag11 : Args Ty (Unit) := noArgs
def rs11 : Res Ty tab (Bool) false := V.oneRes (tab.den 4) (ent 4).ids (ent 4).plain (fun x _ => (ent 4).flat x rfl)
def kp11 : Nat → Keep := fun i => ⟨[], []⟩
/-- "silt/siltlaw09.wakes" -/
def F11 (k : Nat) (x : Unit) : Option (Bool) :=
  match x with
  | () => (F12 k ((((List.replicate (3 : Nat) (0 : Int)).set (0 : Nat) (4 : Int)).set (1 : Nat) (0 : Int)).set (2 : Nat) (0 : Int), (3 : Int), ())).bind fun r => (F12 k (((List.replicate (2 : Nat) (0 : Int)).set (0 : Nat) (4 : Int)).set (1 : Nat) (0 : Int), (1 : Int), ())).bind fun r_1 => (F14 k ((((List.replicate (3 : Nat) (0 : Int)).set (0 : Nat) (4 : Int)).set (1 : Nat) (0 : Int)).set (2 : Nat) (1 : Int), ())).bind fun r_2 => bif r_2 == (2 : Int) then bif r.snd.fst == (0 : Int) then bif r.fst == (1 : Int) then bif r_1.snd.fst == (14 : Int) then (F17 k (((List.replicate (2 : Nat) (0 : Int)).set (0 : Nat) (1 : Int)).set (1 : Nat) (2 : Int), (((List.replicate (3 : Nat) (0 : Int)).set (0 : Nat) (1 : Int)).set (1 : Nat) (3 : Int)).set (2 : Nat) (4 : Int), ())).bind fun r => (F16 k (r, ((List.replicate (2 : Nat) (0 : Int)).set (0 : Nat) (1 : Int)).set (1 : Nat) (2 : Int), ())).bind fun r => some r else some false else some false else some false else some false
noncomputable def sp11 : FSpec Ty := spec ag11 rs11 F11
theorem bo11 : Try.f11.body = some (bodyOf Try.f11) := by kernel_rfl
theorem nd11 : nodupB ((loopsIn (bodyOf Try.f11)).map firstRegion) = true := by kernel_rfl
theorem ok11 : FOK Try.prog tab 11 sp11 := spec_ok (keeps := kp11) tabOK fs16OK Try.func11 bo11 (by kernel_rfl) nd11 (LSOK.none) (F := F11) fun k x => by kernel_rfl
noncomputable def fs11 : Nat → Option (FSpec Ty) := addF 11 sp11 fs16
theorem fs11OK : SpecsOK Try.prog tab fs11 := fs16OK.add ok11 Try.call11
def ag15 : Args Ty ((List Int) × Unit) := V.arg (tab.den 22) (noArgs)
def rs15 : Res Ty tab (Int) false := V.oneRes (tab.den 3) (ent 3).ids (ent 3).plain (fun x _ => (ent 3).flat x rfl)
def of15_3 : List Int × Int × Int → NSt Ty := fun x => ⟨[.slice 3 (x.1), .int .i64 (x.2.1), .int .i64 (x.2.2)], []⟩
def ab15_3 : (n : NSt Ty) → Option {x : List Int × Int × Int // of15_3 x = n}
  | ⟨[.slice 3 v0, .int .i64 v1, .int .i64 v2], []⟩ => some ⟨(v0, v1, v2), rfl⟩
  | _ => none
def oe15_3 : Int → Ex := fun _ => .exit 0
def on15_3 : Int → NSt Ty := fun x => ⟨[.int .i64 (x)], []⟩
def oa15_3 : (e : Ex) → (n : NSt Ty) → Option {y : Int // oe15_3 y = e ∧ on15_3 y = n}
  | .exit 0, ⟨[.int .i64 v0], []⟩ => some ⟨v0, rfl, rfl⟩
  | _, _ => none
/-- a round of the loop 3 of function 15 -/
def R15_3 (k : Nat) (again : List Int × Int × Int → Option (Int)) (x : List Int × Int × Int) : Option (Int) :=
  match x with
  | (v0, v1, v2) => bif decide (v2 < (↑v0.length : Int)) then bif inRange v2 v0.length then bif v0.getD v2.toNat (0 : Int) != (0 : Int) then again (v0, IntKind.i64.wrap (v1 + (1 : Int)), IntKind.i64.wrap (v2 + (1 : Int))) else again (v0, v1, IntKind.i64.wrap (v2 + (1 : Int))) else none else some v1
def L15_3 (k n : Nat) (x : List Int × Int × Int) : Option (Int) := iterR (R15_3 k) n x
noncomputable def ls15_3 : Nat → Option (LSum Ty) := addL 3 (LSum.of of15_3 ab15_3 L15_3 oe15_3 on15_3) noL
def kp15 : Nat → Keep := fun i => cond (i == 3) ⟨[0, 3, 4], [3]⟩ (⟨[], []⟩)
/-- "silt/siltref09.Count" -/
def F15 (k : Nat) (x : (List Int) × Unit) : Option (Int) :=
  match x with
  | (a0, ()) => (L15_3 k k (a0, (0 : Int), (0 : Int))).bind fun r => some r
noncomputable def sp15 : FSpec Ty := spec ag15 rs15 F15
theorem bo15 : Try.f15.body = some (bodyOf Try.f15) := by kernel_rfl
theorem nd15 : nodupB ((loopsIn (bodyOf Try.f15)).map firstRegion) = true := by kernel_rfl
theorem lo15_3 : LSOK fs11 kp15 tab Try.f15 ls15_3 := lsum_ok bo15 nd15 (LSOK.none) oa15_3 (R := R15_3) fun k again x => by kernel_rfl
theorem ok15 : FOK Try.prog tab 15 sp15 := spec_ok (keeps := kp15) tabOK fs11OK Try.func15 bo15 (by kernel_rfl) nd15 (lo15_3) (F := F15) fun k x => by kernel_rfl
noncomputable def fs15 : Nat → Option (FSpec Ty) := addF 15 sp15 fs11
theorem fs15OK : SpecsOK Try.prog tab fs15 := fs11OK.add ok15 Try.call15
def ag13 : Args Ty ((List Int) × Int × Unit) := V.arg (tab.den 22) (V.arg (tab.den 3) (noArgs))
def rs13 : Res Ty tab (Int × Int × Unit) false := V.manyRes (V.part (tab.den 3) (ent 3).ids (ent 3).plain (fun x _ => (ent 3).flat x rfl) (V.part (tab.den 3) (ent 3).ids (ent 3).plain (fun x _ => (ent 3).flat x rfl) (noParts)))
def of13_2 : List Int × Int × Int → NSt Ty := fun x => ⟨[.slice 3 (x.1), .int .i64 (x.2.1), .int .i64 (x.2.2)], []⟩
def ab13_2 : (n : NSt Ty) → Option {x : List Int × Int × Int // of13_2 x = n}
  | ⟨[.slice 3 v0, .int .i64 v1, .int .i64 v2], []⟩ => some ⟨(v0, v1, v2), rfl⟩
  | _ => none
def on13_2a : Int × Int → NSt Ty := fun x => ⟨[.int .i64 (x.1), .int .i64 (x.2)], []⟩
def on13_2b : Unit → NSt Ty := fun x => ⟨[.undef, .undef], []⟩
def oa13_2 : (e : Ex) → (n : NSt Ty) → Option {y : (Int × Int) ⊕ (Unit) // oe2 .ret (.exit 0) y = e ∧ on2 on13_2a on13_2b y = n}
  | .ret, ⟨[.int .i64 v0, .int .i64 v1], []⟩ => some ⟨.inl (v0, v1), rfl, rfl⟩
  | .exit 0, ⟨[.undef, .undef], []⟩ => some ⟨.inr (), rfl, rfl⟩
  | _, _ => none
/-- a round of the loop 2 of function 13 -/
def R13_2 (k : Nat) (again : List Int × Int × Int → Option ((Int × Int) ⊕ (Unit))) (x : List Int × Int × Int) : Option ((Int × Int) ⊕ (Unit)) :=
  match x with
  | (v0, v1, v2) => bif decide (v2 < (↑v0.length : Int)) then (F15 k (v0, ())).bind fun r => bif decide (r < v1) then bif inRange v2 v0.length then bif v0.getD v2.toNat (0 : Int) == (0 : Int) then some (Sum.inl (v2, (0 : Int))) else again (v0, v1, IntKind.i64.wrap (v2 + (1 : Int))) else none else some (Sum.inr ()) else some (Sum.inr ())
def L13_2 (k n : Nat) (x : List Int × Int × Int) : Option ((Int × Int) ⊕ (Unit)) := iterR (R13_2 k) n x
noncomputable def ls13_2 : Nat → Option (LSum Ty) := addL 2 (lsum2 of13_2 ab13_2 L13_2 .ret on13_2a (.exit 0) on13_2b) noL
def kp13 : Nat → Keep := fun i => cond (i == 2) ⟨[0, 1, 6], [4, 5]⟩ (⟨[], []⟩)
/-- "silt/siltref09.Least" -/
def F13 (k : Nat) (x : (List Int) × Int × Unit) : Option (Int × Int × Unit) :=
  match x with
  | (a0, a1, ()) => (L13_2 k k (a0, a1, (0 : Int))).bind fun r => sumK r (fun a => some (a.fst, a.snd, ())) fun b => some ((0 : Int), (14 : Int), ())
noncomputable def sp13 : FSpec Ty := spec ag13 rs13 F13
theorem bo13 : Try.f13.body = some (bodyOf Try.f13) := by kernel_rfl
theorem nd13 : nodupB ((loopsIn (bodyOf Try.f13)).map firstRegion) = true := by kernel_rfl
theorem lo13_2 : LSOK fs15 kp13 tab Try.f13 ls13_2 := lsum2_ok bo13 nd13 (LSOK.none) oa13_2 (R := R13_2) fun k again x => by kernel_rfl
theorem ok13 : FOK Try.prog tab 13 sp13 := spec_ok (keeps := kp13) tabOK fs15OK Try.func13 bo13 (by kernel_rfl) nd13 (lo13_2) (F := F13) fun k x => by kernel_rfl
noncomputable def fs13 : Nat → Option (FSpec Ty) := addF 13 sp13 fs15
theorem fs13OK : SpecsOK Try.prog tab fs13 := fs15OK.add ok13 Try.call13
def ag18 : Args Ty ((List Int) × (List Int) × Unit) := V.arg (tab.den 22) (V.arg (tab.den 22) (noArgs))
def rs18 : Res Ty tab ((List Int)) true := V.oneRes (tab.den 22) (ent 22).ids (ent 22).plain (fun _ h => by cases h)
def of18_3 : List Int × List Int × Int × List Int → NSt Ty := fun x => ⟨[.slice 3 (x.1), .slice 3 (x.2.1), .row 100000, .int .i64 (x.2.2.1)], [.row 3 (x.2.2.2)]⟩
def ab18_3 : (n : NSt Ty) → Option {x : List Int × List Int × Int × List Int // of18_3 x = n}
  | ⟨[.slice 3 v0, .slice 3 v1, .row 100000, .int .i64 v2], [.row 3 v3]⟩ => some ⟨(v0, v1, v2, v3), rfl⟩
  | _ => none
def oe18_3 : List Int → Ex := fun _ => .exit 0
def on18_3 : List Int → NSt Ty := fun x => ⟨[.row 100000], [.row 3 (x)]⟩
def oa18_3 : (e : Ex) → (n : NSt Ty) → Option {y : List Int // oe18_3 y = e ∧ on18_3 y = n}
  | .exit 0, ⟨[.row 100000], [.row 3 v0]⟩ => some ⟨v0, rfl, rfl⟩
  | _, _ => none
/-- a round of the loop 3 of function 18 -/
def R18_3 (k : Nat) (again : List Int × List Int × Int × List Int → Option (List Int)) (x : List Int × List Int × Int × List Int) : Option (List Int) :=
  match x with
  | (v0, v1, v2, v3) => bif decide (v2 < if (↑v1.length : Int) > (↑v0.length : Int) then (↑v1.length : Int) else (↑v0.length : Int)) then bif decide (v2 < (↑v0.length : Int)) then bif inRange v2 v0.length then bif decide (v2 < (↑v1.length : Int)) then bif inRange v2 v1.length then bif v0.getD v2.toNat (0 : Int) != v1.getD v2.toNat (0 : Int) then bif decide (v3.length + ((List.replicate (1 : Nat) (0 : Int)).set (0 : Nat) v2).length ≤ roomMost) then again (v0, v1, IntKind.i64.wrap (v2 + (1 : Int)), v3 ++ (List.replicate (1 : Nat) (0 : Int)).set (0 : Nat) v2) else none else again (v0, v1, IntKind.i64.wrap (v2 + (1 : Int)), v3) else none else bif v0.getD v2.toNat (0 : Int) != (0 : Int) then bif decide (v3.length + ((List.replicate (1 : Nat) (0 : Int)).set (0 : Nat) v2).length ≤ roomMost) then again (v0, v1, IntKind.i64.wrap (v2 + (1 : Int)), v3 ++ (List.replicate (1 : Nat) (0 : Int)).set (0 : Nat) v2) else none else again (v0, v1, IntKind.i64.wrap (v2 + (1 : Int)), v3) else none else bif decide (v2 < (↑v1.length : Int)) then bif inRange v2 v1.length then bif (0 : Int) != v1.getD v2.toNat (0 : Int) then bif decide (v3.length + ((List.replicate (1 : Nat) (0 : Int)).set (0 : Nat) v2).length ≤ roomMost) then again (v0, v1, IntKind.i64.wrap (v2 + (1 : Int)), v3 ++ (List.replicate (1 : Nat) (0 : Int)).set (0 : Nat) v2) else none else again (v0, v1, IntKind.i64.wrap (v2 + (1 : Int)), v3) else none else again (v0, v1, IntKind.i64.wrap (v2 + (1 : Int)), v3) else some v3
def L18_3 (k n : Nat) (x : List Int × List Int × Int × List Int) : Option (List Int) := iterR (R18_3 k) n x
noncomputable def ls18_3 : Nat → Option (LSum Ty) := addL 3 (LSum.of of18_3 ab18_3 L18_3 oe18_3 on18_3) noL
def kp18 : Nat → Keep := fun i => cond (i == 3) ⟨[0, 1, 5, 6], [5]⟩ (⟨[], []⟩)
/-- "silt/siltref09.Changed" -/
def F18 (k : Nat) (x : (List Int) × (List Int) × Unit) : Option ((List Int)) :=
  match x with
  | (a0, a1, ()) => (L18_3 k k (a0, a1, (0 : Int), [])).bind fun r => some r
noncomputable def sp18 : FSpec Ty := spec ag18 rs18 F18
theorem bo18 : Try.f18.body = some (bodyOf Try.f18) := by kernel_rfl
theorem nd18 : nodupB ((loopsIn (bodyOf Try.f18)).map firstRegion) = true := by kernel_rfl
theorem lo18_3 : LSOK fs13 kp18 tab Try.f18 ls18_3 := lsum_ok bo18 nd18 (LSOK.none) oa18_3 (R := R18_3) fun k again x => by kernel_rfl
theorem ok18 : FOK Try.prog tab 18 sp18 := spec_ok (keeps := kp18) tabOK fs13OK Try.func18 bo18 (by kernel_rfl) nd18 (lo18_3) (F := F18) fun k x => by kernel_rfl
noncomputable def fs18 : Nat → Option (FSpec Ty) := addF 18 sp18 fs13
theorem fs18OK : SpecsOK Try.prog tab fs18 := fs13OK.add ok18 Try.call18
def ag3 : Args Ty ((List Int) × (List Int) × Int × Unit) := V.arg (tab.den 22) (V.arg (tab.den 22) (V.arg (tab.den 3) (noArgs)))
def rs3 : Res Ty tab (Bool) false := V.oneRes (tab.den 4) (ent 4).ids (ent 4).plain (fun x _ => (ent 4).flat x rfl)
def kp3 : Nat → Keep := fun i => ⟨[], []⟩
/-- "silt/siltlaw09.HeadsTell" -/
def F3 (k : Nat) (x : (List Int) × (List Int) × Int × Unit) : Option (Bool) :=
  match x with
  | (a0, a1, a2, ()) => bif decide ((↑a0.length : Int) > (100 : Int)) then (F11 k ()).bind fun r => some r else bif decide ((↑a1.length : Int) > (100 : Int)) then (F11 k ()).bind fun r => some r else bif decide ((List.replicate (0 : Nat) (0 : Int)).length + a0.length ≤ roomMost) then bif decide ((List.replicate (0 : Nat) (0 : Int)).length + a1.length ≤ roomMost) then (F12 k (List.replicate (0 : Nat) (0 : Int) ++ a0, a2, ())).bind fun r => (F13 k (a0, a2, ())).bind fun r_1 => (F14 k (List.replicate (0 : Nat) (0 : Int) ++ a0, ())).bind fun r_2 => (F15 k (a0, ())).bind fun r_3 => bif r_2 == r_3 then bif r.fst == r_1.fst then bif r.snd.fst == r_1.snd.fst then (F17 k (List.replicate (0 : Nat) (0 : Int) ++ a0, List.replicate (0 : Nat) (0 : Int) ++ a1, ())).bind fun r => (F18 k (a0, a1, ())).bind fun r_4 => (F16 k (r, r_4, ())).bind fun r => bif r then (F16 k (List.replicate (0 : Nat) (0 : Int) ++ a0, a0, ())).bind fun r => bif r then (F16 k (List.replicate (0 : Nat) (0 : Int) ++ a1, a1, ())).bind fun r => bif r then (F11 k ()).bind fun r => some r else some false else some false else some false else some false else some false else some false else none else none
noncomputable def sp3 : FSpec Ty := spec ag3 rs3 F3
theorem bo3 : Try.f3.body = some (bodyOf Try.f3) := by kernel_rfl
theorem nd3 : nodupB ((loopsIn (bodyOf Try.f3)).map firstRegion) = true := by kernel_rfl
theorem ok3 : FOK Try.prog tab 3 sp3 := spec_ok (keeps := kp3) tabOK fs18OK Try.func3 bo3 (by kernel_rfl) nd3 (LSOK.none) (F := F3) fun k x => by kernel_rfl
noncomputable def fs3 : Nat → Option (FSpec Ty) := addF 3 sp3 fs18
theorem fs3OK : SpecsOK Try.prog tab fs3 := fs18OK.add ok3 Try.call3
def ag4 : Args Ty ((List Bool) × Int × Unit) := V.arg (tab.den 33) (V.arg (tab.den 5) (noArgs))
def rs4 : Res Ty tab (Bool) false := V.oneRes (tab.den 4) (ent 4).ids (ent 4).plain (fun x _ => (ent 4).flat x rfl)
def of4_6 : List Bool × Int × Int × Int × List Int → NSt Ty := fun x => ⟨[.slice 4 (x.1), .int .u8 (x.2.1), .row 100000, .int .i64 (x.2.2.1), .int .i64 (x.2.2.2.1)], [.row 3 (x.2.2.2.2)]⟩
def ab4_6 : (n : NSt Ty) → Option {x : List Bool × Int × Int × Int × List Int // of4_6 x = n}
  | ⟨[.slice 4 v0, .int .u8 v1, .row 100000, .int .i64 v2, .int .i64 v3], [.row 3 v4]⟩ => some ⟨(v0, v1, v2, v3, v4), rfl⟩
  | _ => none
def oe4_6 : Int × Int × List Int → Ex := fun _ => .exit 0
def on4_6 : Int × Int × List Int → NSt Ty := fun x => ⟨[.int .u8 (x.1), .row 100000, .int .i64 (x.2.1)], [.row 3 (x.2.2)]⟩
def oa4_6 : (e : Ex) → (n : NSt Ty) → Option {y : Int × Int × List Int // oe4_6 y = e ∧ on4_6 y = n}
  | .exit 0, ⟨[.int .u8 v0, .row 100000, .int .i64 v1], [.row 3 v2]⟩ => some ⟨(v0, v1, v2), rfl, rfl⟩
  | _, _ => none
/-- a round of the loop 6 of function 4 -/
def R4_6 (k : Nat) (again : List Bool × Int × Int × Int × List Int → Option (Int × Int × List Int)) (x : List Bool × Int × Int × Int × List Int) : Option (Int × Int × List Int) :=
  match x with
  | (v0, v1, v2, v3, v4) => bif decide (v3 < (↑v0.length : Int)) then bif inRange v3 v0.length then bif v0.getD v3.toNat false then bif decide (v4.length + ((List.replicate (1 : Nat) (0 : Int)).set (0 : Nat) (1 : Int)).length ≤ roomMost) then again (v0, v1, IntKind.i64.wrap (v2 + (1 : Int)), IntKind.i64.wrap (v3 + (1 : Int)), v4 ++ (List.replicate (1 : Nat) (0 : Int)).set (0 : Nat) (1 : Int)) else none else bif decide (v4.length + ((List.replicate (1 : Nat) (0 : Int)).set (0 : Nat) (0 : Int)).length ≤ roomMost) then again (v0, v1, v2, IntKind.i64.wrap (v3 + (1 : Int)), v4 ++ (List.replicate (1 : Nat) (0 : Int)).set (0 : Nat) (0 : Int)) else none else none else some (v1, v2, v4)
def L4_6 (k n : Nat) (x : List Bool × Int × Int × Int × List Int) : Option (Int × Int × List Int) := iterR (R4_6 k) n x
noncomputable def ls4_6 : Nat → Option (LSum Ty) := addL 6 (LSum.of of4_6 ab4_6 L4_6 oe4_6 on4_6) noL
def of4_23 : Int × Int × Int × Int × Int × List Int → NSt Ty := fun x => ⟨[.row 100000, .int .i64 (x.1), .int .i64 (x.2.1), .int .i64 (x.2.2.1), .int .i64 (x.2.2.2.1), .int .i64 (x.2.2.2.2.1)], [.row 3 (x.2.2.2.2.2)]⟩
def ab4_23 : (n : NSt Ty) → Option {x : Int × Int × Int × Int × Int × List Int // of4_23 x = n}
  | ⟨[.row 100000, .int .i64 v0, .int .i64 v1, .int .i64 v2, .int .i64 v3, .int .i64 v4], [.row 3 v5]⟩ => some ⟨(v0, v1, v2, v3, v4, v5), rfl⟩
  | _ => none
def on4_23a : Bool × Int × Int × Int × Int × List Int → NSt Ty := fun x => ⟨[.bool (x.1), .row 100000, .int .i64 (x.2.1), .int .i64 (x.2.2.1), .int .i64 (x.2.2.2.1), .int .i64 (x.2.2.2.2.1)], [.row 3 (x.2.2.2.2.2)]⟩
def on4_23b : Int × Int × Int × Int × List Int → NSt Ty := fun x => ⟨[.undef, .row 100000, .int .i64 (x.1), .int .i64 (x.2.1), .int .i64 (x.2.2.1), .int .i64 (x.2.2.2.1)], [.row 3 (x.2.2.2.2)]⟩
def oa4_23 : (e : Ex) → (n : NSt Ty) → Option {y : (Bool × Int × Int × Int × Int × List Int) ⊕ (Int × Int × Int × Int × List Int) // oe2 .ret (.exit 4) y = e ∧ on2 on4_23a on4_23b y = n}
  | .ret, ⟨[.bool v0, .row 100000, .int .i64 v1, .int .i64 v2, .int .i64 v3, .int .i64 v4], [.row 3 v5]⟩ => some ⟨.inl (v0, v1, v2, v3, v4, v5), rfl, rfl⟩
  | .exit 4, ⟨[.undef, .row 100000, .int .i64 v0, .int .i64 v1, .int .i64 v2, .int .i64 v3], [.row 3 v4]⟩ => some ⟨.inr (v0, v1, v2, v3, v4), rfl, rfl⟩
  | _, _ => none
/-- a round of the loop 23 of function 4 -/
def R4_23 (k : Nat) (again : Int × Int × Int × Int × Int × List Int → Option ((Bool × Int × Int × Int × Int × List Int) ⊕ (Int × Int × Int × Int × List Int))) (x : Int × Int × Int × Int × Int × List Int) : Option ((Bool × Int × Int × Int × Int × List Int) ⊕ (Int × Int × Int × Int × List Int)) :=
  match x with
  | (v0, v1, v2, v3, v4, v5) => bif decide (v4 < v3) then bif inRange v4 v5.length then bif v5.getD v4.toNat (0 : Int) == (0 : Int) then some (Sum.inl (false, v0, v1, v2, v3, v5)) else again (v0, v1, v2, v3, IntKind.i64.wrap (v4 + (1 : Int)), v5) else none else some (Sum.inr (v0, v1, v2, v3, v5))
def L4_23 (k n : Nat) (x : Int × Int × Int × Int × Int × List Int) : Option ((Bool × Int × Int × Int × Int × List Int) ⊕ (Int × Int × Int × Int × List Int)) := iterR (R4_23 k) n x
noncomputable def ls4_23 : Nat → Option (LSum Ty) := addL 23 (lsum2 of4_23 ab4_23 L4_23 .ret on4_23a (.exit 4) on4_23b) ls4_6
def of4_15 : Int × Int × Int × List Int → NSt Ty := fun x => ⟨[.row 100000, .int .i64 (x.1), .int .i64 (x.2.1), .int .i64 (x.2.2.1)], [.row 3 (x.2.2.2)]⟩
def ab4_15 : (n : NSt Ty) → Option {x : Int × Int × Int × List Int // of4_15 x = n}
  | ⟨[.row 100000, .int .i64 v0, .int .i64 v1, .int .i64 v2], [.row 3 v3]⟩ => some ⟨(v0, v1, v2, v3), rfl⟩
  | _ => none
def on4_15a : Bool → NSt Ty := fun x => ⟨[.bool (x)], []⟩
def on4_15b : Unit → NSt Ty := fun x => ⟨[.undef], []⟩
def oa4_15 : (e : Ex) → (n : NSt Ty) → Option {y : (Bool) ⊕ (Unit) // oe2 .ret (.exit 2) y = e ∧ on2 on4_15a on4_15b y = n}
  | .ret, ⟨[.bool v0], []⟩ => some ⟨.inl v0, rfl, rfl⟩
  | .exit 2, ⟨[.undef], []⟩ => some ⟨.inr (), rfl, rfl⟩
  | _, _ => none
/-- a round of the loop 15 of function 4 -/
def R4_15 (k : Nat) (again : Int × Int × Int × List Int → Option ((Bool) ⊕ (Unit))) (x : Int × Int × Int × List Int) : Option ((Bool) ⊕ (Unit)) :=
  match x with
  | (v0, v1, v2, v3) => bif decide (v2 < (70 : Int)) then (F12 k (v3, v1, ())).bind fun r => bif r.snd.fst != (0 : Int) then bif r.snd.fst == (14 : Int) then bif r.fst == (0 : Int) then bif decide (v0 ≥ v1) then (F11 k ()).bind fun r => some (Sum.inl r) else bif v0 == (↑v3.length : Int) then (F11 k ()).bind fun r => some (Sum.inl r) else some (Sum.inl false) else some (Sum.inl false) else some (Sum.inl false) else bif decide (r.fst < (0 : Int)) then some (Sum.inl false) else bif decide (r.fst ≥ (↑v3.length : Int)) then some (Sum.inl false) else bif inRange r.fst v3.length then bif v3.getD r.fst.toNat (0 : Int) != (0 : Int) then some (Sum.inl false) else bif decide (v0 ≥ v1) then some (Sum.inl false) else (L4_23 k k (v0, v1, v2, r.fst, (0 : Int), v3)).bind fun r => sumK r (fun a => some (Sum.inl a.fst)) fun b => bif inRange b.snd.snd.snd.fst b.snd.snd.snd.snd.length then (F14 k (b.snd.snd.snd.snd.set b.snd.snd.snd.fst.toNat (1 : Int), ())).bind fun r => bif r != IntKind.i64.wrap (b.fst + (1 : Int)) then some (Sum.inl false) else again (IntKind.i64.wrap (b.fst + (1 : Int)), b.snd.fst, IntKind.i64.wrap (b.snd.snd.fst + (1 : Int)), b.snd.snd.snd.snd.set b.snd.snd.snd.fst.toNat (1 : Int)) else none else none else some (Sum.inr ())
def L4_15 (k n : Nat) (x : Int × Int × Int × List Int) : Option ((Bool) ⊕ (Unit)) := iterR (R4_15 k) n x
noncomputable def ls4_15 : Nat → Option (LSum Ty) := addL 15 (lsum2 of4_15 ab4_15 L4_15 .ret on4_15a (.exit 2) on4_15b) ls4_23
def kp4 : Nat → Keep := fun i => cond (i == 6) ⟨[0, 1, 5, 6, 7], [1, 5, 6]⟩ (cond (i == 15) ⟨[5, 6, 9, 10], [4]⟩ (cond (i == 23) ⟨[5, 6, 9, 10, 11, 13], [4, 5, 6, 9, 10, 11]⟩ (⟨[], []⟩)))
/-- "silt/siltlaw09.HeadsLeast" -/
def F4 (k : Nat) (x : (List Bool) × Int × Unit) : Option (Bool) :=
  match x with
  | (a0, a1, ()) => bif decide ((↑a0.length : Int) > (64 : Int)) then (F11 k ()).bind fun r => some r else (L4_6 k k (a0, a1, (0 : Int), (0 : Int), [])).bind fun r => (L4_15 k k (r.snd.fst, (IntKind.i64.wrap r.fst).tmod (70 : Int), (0 : Int), r.snd.snd)).bind fun r => sumK r (fun a => some a) fun b => some false
noncomputable def sp4 : FSpec Ty := spec ag4 rs4 F4
theorem bo4 : Try.f4.body = some (bodyOf Try.f4) := by kernel_rfl
theorem nd4 : nodupB ((loopsIn (bodyOf Try.f4)).map firstRegion) = true := by kernel_rfl
theorem lo4_6 : LSOK fs3 kp4 tab Try.f4 ls4_6 := lsum_ok bo4 nd4 (LSOK.none) oa4_6 (R := R4_6) fun k again x => by kernel_rfl
theorem lo4_23 : LSOK fs3 kp4 tab Try.f4 ls4_23 := lsum2_ok bo4 nd4 (lo4_6) oa4_23 (R := R4_23) fun k again x => by kernel_rfl
theorem lo4_15 : LSOK fs3 kp4 tab Try.f4 ls4_15 := lsum2_ok bo4 nd4 (lo4_23) oa4_15 (R := R4_15) fun k again x => by kernel_rfl
theorem ok4 : FOK Try.prog tab 4 sp4 := spec_ok (keeps := kp4) tabOK fs3OK Try.func4 bo4 (by kernel_rfl) nd4 (lo4_15) (F := F4) fun k x => by kernel_rfl
noncomputable def fs4 : Nat → Option (FSpec Ty) := addF 4 sp4 fs3
theorem fs4OK : SpecsOK Try.prog tab fs4 := fs3OK.add ok4 Try.call4
def ag5 : Args Ty ((List Int) × (List Int) × (List Int) × Unit) := V.arg (tab.den 22) (V.arg (tab.den 22) (V.arg (tab.den 22) (noArgs)))
def rs5 : Res Ty tab (Bool) false := V.oneRes (tab.den 4) (ent 4).ids (ent 4).plain (fun x _ => (ent 4).flat x rfl)
def of5_11 : List Int × List Int × List Int × Int × Bool × Int → NSt Ty := fun x => ⟨[.slice 3 (x.1), .slice 3 (x.2.1), .slice 3 (x.2.2.1), .int .i64 (x.2.2.2.1), .bool (x.2.2.2.2.1), .int .i64 (x.2.2.2.2.2)], []⟩
def ab5_11 : (n : NSt Ty) → Option {x : List Int × List Int × List Int × Int × Bool × Int // of5_11 x = n}
  | ⟨[.slice 3 v0, .slice 3 v1, .slice 3 v2, .int .i64 v3, .bool v4, .int .i64 v5], []⟩ => some ⟨(v0, v1, v2, v3, v4, v5), rfl⟩
  | _ => none
def oe5_11 : List Int × List Int × List Int × Int × Bool → Ex := fun _ => .exit 2
def on5_11 : List Int × List Int × List Int × Int × Bool → NSt Ty := fun x => ⟨[.slice 3 (x.1), .slice 3 (x.2.1), .slice 3 (x.2.2.1), .int .i64 (x.2.2.2.1), .bool (x.2.2.2.2)], []⟩
def oa5_11 : (e : Ex) → (n : NSt Ty) → Option {y : List Int × List Int × List Int × Int × Bool // oe5_11 y = e ∧ on5_11 y = n}
  | .exit 2, ⟨[.slice 3 v0, .slice 3 v1, .slice 3 v2, .int .i64 v3, .bool v4], []⟩ => some ⟨(v0, v1, v2, v3, v4), rfl, rfl⟩
  | _, _ => none
/-- a round of the loop 11 of function 5 -/
def R5_11 (k : Nat) (again : List Int × List Int × List Int × Int × Bool × Int → Option (List Int × List Int × List Int × Int × Bool)) (x : List Int × List Int × List Int × Int × Bool × Int) : Option (List Int × List Int × List Int × Int × Bool) :=
  match x with
  | (v0, v1, v2, v3, v4, v5) => bif decide (v5 < (↑v0.length : Int)) then bif v4 then again (v0, v1, v2, v3, true, IntKind.i64.wrap (v5 + (1 : Int))) else bif inRange v5 v0.length then bif inRange v3 v2.length then again (v0, v1, v2, v3, v0.getD v5.toNat (0 : Int) == v2.getD v3.toNat (0 : Int), IntKind.i64.wrap (v5 + (1 : Int))) else none else none else some (v0, v1, v2, v3, v4)
def L5_11 (k n : Nat) (x : List Int × List Int × List Int × Int × Bool × Int) : Option (List Int × List Int × List Int × Int × Bool) := iterR (R5_11 k) n x
noncomputable def ls5_11 : Nat → Option (LSum Ty) := addL 11 (LSum.of of5_11 ab5_11 L5_11 oe5_11 on5_11) noL
def of5_15 : List Int × List Int × List Int × Int × Bool × Int → NSt Ty := fun x => ⟨[.slice 3 (x.1), .slice 3 (x.2.1), .slice 3 (x.2.2.1), .int .i64 (x.2.2.2.1), .bool (x.2.2.2.2.1), .int .i64 (x.2.2.2.2.2)], []⟩
def ab5_15 : (n : NSt Ty) → Option {x : List Int × List Int × List Int × Int × Bool × Int // of5_15 x = n}
  | ⟨[.slice 3 v0, .slice 3 v1, .slice 3 v2, .int .i64 v3, .bool v4, .int .i64 v5], []⟩ => some ⟨(v0, v1, v2, v3, v4, v5), rfl⟩
  | _ => none
def oe5_15 : List Int × List Int × List Int × Int × Bool → Ex := fun _ => .exit 4
def on5_15 : List Int × List Int × List Int × Int × Bool → NSt Ty := fun x => ⟨[.slice 3 (x.1), .slice 3 (x.2.1), .slice 3 (x.2.2.1), .int .i64 (x.2.2.2.1), .bool (x.2.2.2.2)], []⟩
def oa5_15 : (e : Ex) → (n : NSt Ty) → Option {y : List Int × List Int × List Int × Int × Bool // oe5_15 y = e ∧ on5_15 y = n}
  | .exit 4, ⟨[.slice 3 v0, .slice 3 v1, .slice 3 v2, .int .i64 v3, .bool v4], []⟩ => some ⟨(v0, v1, v2, v3, v4), rfl, rfl⟩
  | _, _ => none
/-- a round of the loop 15 of function 5 -/
def R5_15 (k : Nat) (again : List Int × List Int × List Int × Int × Bool × Int → Option (List Int × List Int × List Int × Int × Bool)) (x : List Int × List Int × List Int × Int × Bool × Int) : Option (List Int × List Int × List Int × Int × Bool) :=
  match x with
  | (v0, v1, v2, v3, v4, v5) => bif decide (v5 < (↑v1.length : Int)) then bif v4 then again (v0, v1, v2, v3, true, IntKind.i64.wrap (v5 + (1 : Int))) else bif inRange v5 v1.length then bif inRange v3 v2.length then again (v0, v1, v2, v3, v1.getD v5.toNat (0 : Int) == v2.getD v3.toNat (0 : Int), IntKind.i64.wrap (v5 + (1 : Int))) else none else none else some (v0, v1, v2, v3, v4)
def L5_15 (k n : Nat) (x : List Int × List Int × List Int × Int × Bool × Int) : Option (List Int × List Int × List Int × Int × Bool) := iterR (R5_15 k) n x
noncomputable def ls5_15 : Nat → Option (LSum Ty) := addL 15 (LSum.of of5_15 ab5_15 L5_15 oe5_15 on5_15) ls5_11
def of5_7 : List Int × List Int × List Int × Int → NSt Ty := fun x => ⟨[.slice 3 (x.1), .slice 3 (x.2.1), .slice 3 (x.2.2.1), .int .i64 (x.2.2.2)], []⟩
def ab5_7 : (n : NSt Ty) → Option {x : List Int × List Int × List Int × Int // of5_7 x = n}
  | ⟨[.slice 3 v0, .slice 3 v1, .slice 3 v2, .int .i64 v3], []⟩ => some ⟨(v0, v1, v2, v3), rfl⟩
  | _ => none
def on5_7a : Bool → NSt Ty := fun x => ⟨[.bool (x)], []⟩
def on5_7b : Unit → NSt Ty := fun x => ⟨[.undef], []⟩
def oa5_7 : (e : Ex) → (n : NSt Ty) → Option {y : (Bool) ⊕ (Unit) // oe2 .ret (.exit 0) y = e ∧ on2 on5_7a on5_7b y = n}
  | .ret, ⟨[.bool v0], []⟩ => some ⟨.inl v0, rfl, rfl⟩
  | .exit 0, ⟨[.undef], []⟩ => some ⟨.inr (), rfl, rfl⟩
  | _, _ => none
/-- a round of the loop 7 of function 5 -/
def R5_7 (k : Nat) (again : List Int × List Int × List Int × Int → Option ((Bool) ⊕ (Unit))) (x : List Int × List Int × List Int × Int) : Option ((Bool) ⊕ (Unit)) :=
  match x with
  | (v0, v1, v2, v3) => bif decide (v3 < (↑v2.length : Int)) then (L5_11 k k (v0, v1, v2, v3, false, (0 : Int))).bind fun r => (L5_15 k k (r.fst, r.snd.fst, r.snd.snd.fst, r.snd.snd.snd.fst, r.snd.snd.snd.snd, (0 : Int))).bind fun r => bif !r.snd.snd.snd.snd then some (Sum.inl false) else bif decide (r.snd.snd.snd.fst > (0 : Int)) then bif inRange r.snd.snd.snd.fst r.snd.snd.fst.length then bif inRange (IntKind.i64.wrap (r.snd.snd.snd.fst - (1 : Int))) r.snd.snd.fst.length then bif decide (r.snd.snd.fst.getD r.snd.snd.snd.fst.toNat (0 : Int) ≤ r.snd.snd.fst.getD (IntKind.i64.wrap (r.snd.snd.snd.fst - (1 : Int))).toNat (0 : Int)) then some (Sum.inl false) else again (r.fst, r.snd.fst, r.snd.snd.fst, IntKind.i64.wrap (r.snd.snd.snd.fst + (1 : Int))) else none else none else again (r.fst, r.snd.fst, r.snd.snd.fst, IntKind.i64.wrap (r.snd.snd.snd.fst + (1 : Int))) else some (Sum.inr ())
def L5_7 (k n : Nat) (x : List Int × List Int × List Int × Int) : Option ((Bool) ⊕ (Unit)) := iterR (R5_7 k) n x
noncomputable def ls5_7 : Nat → Option (LSum Ty) := addL 7 (lsum2 of5_7 ab5_7 L5_7 .ret on5_7a (.exit 0) on5_7b) ls5_15
def kp5 : Nat → Keep := fun i => cond (i == 7) ⟨[7, 8, 9, 10], [6]⟩ (cond (i == 11) ⟨[7, 8, 9, 10, 11, 12], [7, 8, 9, 10, 11]⟩ (cond (i == 15) ⟨[7, 8, 9, 10, 11, 13], [7, 8, 9, 10, 11]⟩ (⟨[], []⟩)))
/-- "silt/siltlaw09.HeadsChanged" -/
def F5 (k : Nat) (x : (List Int) × (List Int) × (List Int) × Unit) : Option (Bool) :=
  match x with
  | (a0, a1, a2, ()) => bif decide ((↑a0.length : Int) > (80 : Int)) then (F11 k ()).bind fun r => some r else bif decide ((↑a1.length : Int) > (80 : Int)) then (F11 k ()).bind fun r => some r else bif decide ((↑a2.length : Int) > (80 : Int)) then (F11 k ()).bind fun r => some r else (F17 k (a0, a1, ())).bind fun r => (F17 k (a1, a2, ())).bind fun r_1 => (F17 k (a0, a2, ())).bind fun r_2 => (F17 k (a1, a0, ())).bind fun r_3 => (F16 k (r, r_3, ())).bind fun r_4 => bif !r_4 then some false else (F17 k (a0, a0, ())).bind fun r_5 => bif (↑r_5.length : Int) != (0 : Int) then some false else (L5_7 k k (r, r_1, r_2, (0 : Int))).bind fun r => sumK r (fun a => some a) fun b => (F11 k ()).bind fun r => some r
noncomputable def sp5 : FSpec Ty := spec ag5 rs5 F5
theorem bo5 : Try.f5.body = some (bodyOf Try.f5) := by kernel_rfl
theorem nd5 : nodupB ((loopsIn (bodyOf Try.f5)).map firstRegion) = true := by kernel_rfl
theorem lo5_11 : LSOK fs4 kp5 tab Try.f5 ls5_11 := lsum_ok bo5 nd5 (LSOK.none) oa5_11 (R := R5_11) fun k again x => by kernel_rfl
theorem lo5_15 : LSOK fs4 kp5 tab Try.f5 ls5_15 := lsum_ok bo5 nd5 (lo5_11) oa5_15 (R := R5_15) fun k again x => by kernel_rfl
theorem lo5_7 : LSOK fs4 kp5 tab Try.f5 ls5_7 := lsum2_ok bo5 nd5 (lo5_15) oa5_7 (R := R5_7) fun k again x => by kernel_rfl
theorem ok5 : FOK Try.prog tab 5 sp5 := spec_ok (keeps := kp5) tabOK fs4OK Try.func5 bo5 (by kernel_rfl) nd5 (lo5_7) (F := F5) fun k x => by kernel_rfl
noncomputable def fs5 : Nat → Option (FSpec Ty) := addF 5 sp5 fs4
theorem fs5OK : SpecsOK Try.prog tab fs5 := fs4OK.add ok5 Try.call5
end Go.Proofs.Ytpnnmpdjgnbkhaa.W
