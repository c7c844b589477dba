/-
  The functions that the statement reaches, as typed functions, and that the program computes them. No conditions. Printed by program.
-/
import Derived.Test.YtbhnkjnjeifdhaaVT
set_option linter.unusedVariables false
namespace Go.Proofs.Ytbhnkjnjeifdhaa.W
open Go Go.Proofs V
theorem noFOK : SpecsOK Try.prog tab noF := SpecsOK.none cmpOK asOK
theorem bo37 : Try.f37.body = some (bodyOf Try.f37) := by kernel_rfl
theorem nd37 : nodupB ((loopsIn (bodyOf Try.f37)).map firstRegion) = true := by kernel_rfl
def of37 : Int → NSt Ty := fun x => ⟨[.int .i64 (x)], []⟩
def ab37 : (n : NSt Ty) → Option {x : Int // of37 x = n}
  | ⟨[.int .i64 v0], []⟩ => some ⟨v0, rfl⟩
  | _ => none
def kp37 : Nat → Keep := pinned 0 fun i => ⟨[], [], 0⟩
def on37a : Int → NSt Ty := fun x => ⟨[.tup (.cons (.nilp) (.cons (.int .i64 (x)) (.nil)))], []⟩
def on37b : Int × Int × Int × List (List Int) × List T143 → NSt Ty := fun x => ⟨[.tup (.cons (.ptr 100000 []) (.cons (.int .i64 (x.1)) (.nil)))], [.var (.cons (.row 100001) (.cons (.row 100002) (.cons (.int .i64 (x.2.1)) (.cons (.int .i64 (x.2.2.1)) (.nil))))), .row 27 (x.2.2.2.1), .row 144 (x.2.2.2.2)]⟩
def oa37 : (n : NSt Ty) → Option {y : (Int) ⊕ (Int × Int × Int × List (List Int) × List T143) // on2 on37a on37b y = n}
  | ⟨[.tup (.cons (.nilp) (.cons (.int .i64 v0) (.nil)))], []⟩ => some ⟨.inl v0, rfl⟩
  | ⟨[.tup (.cons (.ptr 100000 []) (.cons (.int .i64 v0) (.nil)))], [.var (.cons (.row 100001) (.cons (.row 100002) (.cons (.int .i64 v1) (.cons (.int .i64 v2) (.nil))))), .row 27 v3, .row 144 v4]⟩ => some ⟨.inr (v0, v1, v2, v3, v4), rfl⟩
  | _ => none
/-- "silt/dev.New"  -/
def F37 (k : Nat) (x : Int) : Option ((Int) ⊕ (Int × Int × Int × List (List Int) × List T143)) :=
  match x with
  | v0 => bif decide (v0 < (1 : Int)) then some (Sum.inl (1 : Int)) else bif decide (v0 > (1024 : Int)) then some (Sum.inl (1 : Int)) else bif decide (v0 = v0) && decide ((0 : Int) ≤ v0) && decide (v0 ≤ (↑roomMost : Int)) then some (Sum.inr ((0 : Int), (-1 : Int), (0 : Int), List.replicate v0.toNat (List.replicate (64 : Nat) (0 : Int)), [])) else none
noncomputable def sp37 : FSpec Ty := addH2 0 ab37 F37 on37a on37b noH
theorem ok37 : FOK Try.prog tab 37 sp37 := addH2_ok (keeps := kp37) tabOK noFOK Try.func37 bo37 (by kernel_rfl) nd37 (LSOK.none) oa37 (F := F37) (fun k x => by kernel_rfl) (pinned_le (Nat.le_refl _) _) FOK.none rfl
noncomputable def fs37 : Nat → Option (FSpec Ty) := addF 37 sp37 noF
theorem fs37OK : SpecsOK Try.prog tab fs37 := noFOK.add ok37 Try.call37
def ag40 : Args Ty (Int × Unit) := V.arg (tab.den 5) (noArgs)
def rs40 : Res Ty tab ((List Int)) false := V.oneRes (tab.den 27) (ent 27).ids (ent 27).plain (fun x _ => (ent 27).flat x rfl)
def of40_3 : Int × Int × List Int × List Int → NSt Ty := fun x => ⟨[.int .u8 (x.1), .ptr 100000 [], .ptr 100001 [], .int .i64 (x.2.1)], [.var (.arr 5 64 (x.2.2.1)), .var (.arr 5 64 (x.2.2.2))]⟩
def ab40_3 : (n : NSt Ty) → Option {x : Int × Int × List Int × List Int // of40_3 x = n}
  | ⟨[.int .u8 v0, .ptr 100000 [], .ptr 100001 [], .int .i64 v1], [.var (.arr 5 64 v2), .var (.arr 5 64 v3)]⟩ => some ⟨(v0, v1, v2, v3), rfl⟩
  | _ => none
def oe40_3 : List Int × List Int → Ex := fun _ => .exit 0
def on40_3 : List Int × List Int → NSt Ty := fun x => ⟨[.ptr 100000 [], .ptr 100001 []], [.var (.arr 5 64 (x.1)), .var (.arr 5 64 (x.2))]⟩
def oa40_3 : (e : Ex) → (n : NSt Ty) → Option {y : List Int × List Int // oe40_3 y = e ∧ on40_3 y = n}
  | .exit 0, ⟨[.ptr 100000 [], .ptr 100001 []], [.var (.arr 5 64 v0), .var (.arr 5 64 v1)]⟩ => some ⟨(v0, v1), rfl, rfl⟩
  | _, _ => none
/-- a round of the loop 3 of function 40 -/
def R40_3 (k : Nat) (again : Int × Int × List Int × List Int → Option (List Int × List Int)) (x : Int × Int × List Int × List Int) : Option (List Int × List Int) :=
  match x with
  | (v0, v1, v2, v3) => bif decide (v1 < (64 : Int)) then bif inRange v1 (64 : Nat) then again (v0, IntKind.i64.wrap (v1 + (1 : Int)), v2, v3.set v1.toNat v0) else none else some (v2, v3)
def L40_3 (k n : Nat) (x : Int × Int × List Int × List Int) : Option (List Int × List Int) := iterR (R40_3 k) n x
noncomputable def ls40_3 : Nat → Option (LSum Ty) := addL 3 (LSum.of of40_3 ab40_3 L40_3 oe40_3 on40_3) noL
def kp40 : Nat → Keep := fun i => cond (i == 3) ⟨[0, 2, 3, 4], [2, 3], 0⟩ (⟨[], [], 0⟩)
/-- "silt/siltkeep.Fill" -/
def F40 (k : Nat) (x : Int × Unit) : Option ((List Int)) :=
  match x with
  | (a0, ()) => (L40_3 k k (a0, (0 : Int), List.replicate (64 : Nat) (0 : Int), List.replicate (64 : Nat) (0 : Int))).bind fun r => some r.snd
noncomputable def sp40 : FSpec Ty := spec ag40 rs40 F40
theorem bo40 : Try.f40.body = some (bodyOf Try.f40) := by kernel_rfl
theorem nd40 : nodupB ((loopsIn (bodyOf Try.f40)).map firstRegion) = true := by kernel_rfl
theorem lo40_3 : LSOK fs37 kp40 tab Try.f40 ls40_3 := lsum_ok bo40 nd40 (LSOK.none) oa40_3 (R := R40_3) fun k again x => by kernel_rfl
theorem ok40 : FOK Try.prog tab 40 sp40 := spec_ok (keeps := kp40) tabOK fs37OK Try.func40 bo40 (by kernel_rfl) nd40 (lo40_3) (F := F40) fun k x => by kernel_rfl
noncomputable def fs40 : Nat → Option (FSpec Ty) := addF 40 sp40 fs37
theorem fs40OK : SpecsOK Try.prog tab fs40 := fs37OK.add ok40 Try.call40
theorem bo87 : Try.f87.body = some (bodyOf Try.f87) := by kernel_rfl
theorem nd87 : nodupB ((loopsIn (bodyOf Try.f87)).map firstRegion) = true := by kernel_rfl
def of87hn : Int → NSt Ty := fun x => ⟨[.nilp, .int .i64 (x)], []⟩
def ab87hn : (n : NSt Ty) → Option {x : Int // of87hn x = n}
  | ⟨[.nilp, .int .i64 v0], []⟩ => some ⟨v0, rfl⟩
  | _ => none
def kp87hn : Nat → Keep := pinned 0 fun i => ⟨[], [], 0⟩
def on87hn : Int → NSt Ty := fun x => ⟨[.int .i64 (x)], []⟩
def oa87hn : (n : NSt Ty) → Option {y : Int // on87hn y = n}
  | ⟨[.int .i64 v0], []⟩ => some ⟨v0, rfl⟩
  | _ => none
/-- "(*silt/dev.Dev).tell" hn -/
def F87hn (k : Nat) (x : Int) : Option (Int) :=
  match x with
  | v0 => some (0 : Int)
noncomputable def sp87hn : FSpec Ty := addH 0 ab87hn F87hn on87hn noH
theorem ok87hn : FOK Try.prog tab 87 sp87hn := addH_ok (keeps := kp87hn) tabOK fs40OK Try.func87 bo87 (by kernel_rfl) nd87 (LSOK.none) oa87hn (F := F87hn) (fun k x => by kernel_rfl) (pinned_le (Nat.le_refl _) _) FOK.none rfl
def of87 : Int × Int × Int × List (List Int) × List T143 → NSt Ty := fun x => ⟨[.ptr 100000 [], .int .i64 (x.1)], [.var (.cons (.row 100001) (.cons (.row 100002) (.cons (.int .i64 (x.2.1)) (.cons (.int .i64 (x.2.2.1)) (.nil))))), .row 27 (x.2.2.2.1), .row 144 (x.2.2.2.2)]⟩
def ab87 : (n : NSt Ty) → Option {x : Int × Int × Int × List (List Int) × List T143 // of87 x = n}
  | ⟨[.ptr 100000 [], .int .i64 v0], [.var (.cons (.row 100001) (.cons (.row 100002) (.cons (.int .i64 v1) (.cons (.int .i64 v2) (.nil))))), .row 27 v3, .row 144 v4]⟩ => some ⟨(v0, v1, v2, v3, v4), rfl⟩
  | _ => none
def kp87 : Nat → Keep := pinned 1 fun i => ⟨[], [], 0⟩
def on87 : Int × Int × Int × List (List Int) × List T143 → NSt Ty := fun x => ⟨[.int .i64 (x.1)], [.var (.cons (.row 100001) (.cons (.row 100002) (.cons (.int .i64 (x.2.1)) (.cons (.int .i64 (x.2.2.1)) (.nil))))), .row 27 (x.2.2.2.1), .row 144 (x.2.2.2.2)]⟩
def oa87 : (n : NSt Ty) → Option {y : Int × Int × Int × List (List Int) × List T143 // on87 y = n}
  | ⟨[.int .i64 v0], [.var (.cons (.row 100001) (.cons (.row 100002) (.cons (.int .i64 v1) (.cons (.int .i64 v2) (.nil))))), .row 27 v3, .row 144 v4]⟩ => some ⟨(v0, v1, v2, v3, v4), rfl⟩
  | _ => none
/-- "(*silt/dev.Dev).tell"  -/
def F87 (k : Nat) (x : Int × Int × Int × List (List Int) × List T143) : Option (Int × Int × Int × List (List Int) × List T143) :=
  match x with
  | (v0, v1, v2, v3, v4) => bif v0 == (0 : Int) then some (IntKind.i64.wrap (IntKind.i64.wrap ((↑v3.length : Int) - (↑v4.length : Int)) + (↑v4.length : Int)), v1, v2, v3, v4) else bif v0 == (1 : Int) then some (IntKind.i64.wrap ((0 : Int) + (↑v4.length : Int)), v1, v2, v3, v4) else bif v0 == (2 : Int) then some (v2, v1, v2, v3, v4) else some ((0 : Int), v1, v2, v3, v4)
noncomputable def sp87 : FSpec Ty := addH 1 ab87 F87 on87 sp87hn
theorem ok87 : FOK Try.prog tab 87 sp87 := addH_ok (keeps := kp87) tabOK fs40OK Try.func87 bo87 (by kernel_rfl) nd87 (LSOK.none) oa87 (F := F87) (fun k x => by kernel_rfl) (pinned_le (Nat.le_refl _) _) ok87hn rfl
noncomputable def fs87 : Nat → Option (FSpec Ty) := addF 87 sp87 fs40
theorem fs87OK : SpecsOK Try.prog tab fs87 := fs40OK.add ok87 Try.call87
theorem bo50 : Try.f50.body = some (bodyOf Try.f50) := by kernel_rfl
theorem nd50 : nodupB ((loopsIn (bodyOf Try.f50)).map firstRegion) = true := by kernel_rfl
def of50hn : Unit → NSt Ty := fun x => ⟨[.nilp], []⟩
def ab50hn : (n : NSt Ty) → Option {x : Unit // of50hn x = n}
  | ⟨[.nilp], []⟩ => some ⟨(), rfl⟩
  | _ => none
def kp50hn : Nat → Keep := pinned 0 fun i => ⟨[], [], 0⟩
def on50hn : Int → NSt Ty := fun x => ⟨[.int .i64 (x)], []⟩
def oa50hn : (n : NSt Ty) → Option {y : Int // on50hn y = n}
  | ⟨[.int .i64 v0], []⟩ => some ⟨v0, rfl⟩
  | _ => none
/-- "(*silt/dev.Dev).Len" hn -/
def F50hn (k : Nat) (x : Unit) : Option (Int) :=
  match x with
  | () => (F87hn k (0 : Int)).bind fun r => some r
noncomputable def sp50hn : FSpec Ty := addH 0 ab50hn F50hn on50hn noH
theorem ok50hn : FOK Try.prog tab 50 sp50hn := addH_ok (keeps := kp50hn) tabOK fs87OK Try.func50 bo50 (by kernel_rfl) nd50 (LSOK.none) oa50hn (F := F50hn) (fun k x => by kernel_rfl) (pinned_le (Nat.le_refl _) _) FOK.none rfl
def of50 : Int × Int × List (List Int) × List T143 → NSt Ty := fun x => ⟨[.ptr 100000 []], [.var (.cons (.row 100001) (.cons (.row 100002) (.cons (.int .i64 (x.1)) (.cons (.int .i64 (x.2.1)) (.nil))))), .row 27 (x.2.2.1), .row 144 (x.2.2.2)]⟩
def ab50 : (n : NSt Ty) → Option {x : Int × Int × List (List Int) × List T143 // of50 x = n}
  | ⟨[.ptr 100000 []], [.var (.cons (.row 100001) (.cons (.row 100002) (.cons (.int .i64 v0) (.cons (.int .i64 v1) (.nil))))), .row 27 v2, .row 144 v3]⟩ => some ⟨(v0, v1, v2, v3), rfl⟩
  | _ => none
def kp50 : Nat → Keep := pinned 1 fun i => ⟨[], [], 0⟩
def on50 : Int × Int × Int × List (List Int) × List T143 → NSt Ty := fun x => ⟨[.int .i64 (x.1)], [.var (.cons (.row 100001) (.cons (.row 100002) (.cons (.int .i64 (x.2.1)) (.cons (.int .i64 (x.2.2.1)) (.nil))))), .row 27 (x.2.2.2.1), .row 144 (x.2.2.2.2)]⟩
def oa50 : (n : NSt Ty) → Option {y : Int × Int × Int × List (List Int) × List T143 // on50 y = n}
  | ⟨[.int .i64 v0], [.var (.cons (.row 100001) (.cons (.row 100002) (.cons (.int .i64 v1) (.cons (.int .i64 v2) (.nil))))), .row 27 v3, .row 144 v4]⟩ => some ⟨(v0, v1, v2, v3, v4), rfl⟩
  | _ => none
/-- "(*silt/dev.Dev).Len"  -/
def F50 (k : Nat) (x : Int × Int × List (List Int) × List T143) : Option (Int × Int × Int × List (List Int) × List T143) :=
  match x with
  | (v0, v1, v2, v3) => (F87 k ((0 : Int), v0, v1, v2, v3)).bind fun r => some (r.fst, r.snd.fst, r.snd.snd.fst, r.snd.snd.snd.fst, r.snd.snd.snd.snd)
noncomputable def sp50 : FSpec Ty := addH 1 ab50 F50 on50 sp50hn
theorem ok50 : FOK Try.prog tab 50 sp50 := addH_ok (keeps := kp50) tabOK fs87OK Try.func50 bo50 (by kernel_rfl) nd50 (LSOK.none) oa50 (F := F50) (fun k x => by kernel_rfl) (pinned_le (Nat.le_refl _) _) ok50hn rfl
noncomputable def fs50 : Nat → Option (FSpec Ty) := addF 50 sp50 fs87
theorem fs50OK : SpecsOK Try.prog tab fs50 := fs87OK.add ok50 Try.call50
theorem bo83 : Try.f83.body = some (bodyOf Try.f83) := by kernel_rfl
theorem nd83 : nodupB ((loopsIn (bodyOf Try.f83)).map firstRegion) = true := by kernel_rfl
def of83hn : Int → NSt Ty := fun x => ⟨[.nilp, .int .i64 (x)], []⟩
def ab83hn : (n : NSt Ty) → Option {x : Int // of83hn x = n}
  | ⟨[.nilp, .int .i64 v0], []⟩ => some ⟨v0, rfl⟩
  | _ => none
def kp83hn : Nat → Keep := pinned 0 fun i => ⟨[], [], 0⟩
def on83hn : Bool → NSt Ty := fun x => ⟨[.bool (x)], []⟩
def oa83hn : (n : NSt Ty) → Option {y : Bool // on83hn y = n}
  | ⟨[.bool v0], []⟩ => some ⟨v0, rfl⟩
  | _ => none
/-- "(*silt/dev.Dev).has" hn -/
def F83hn (k : Nat) (x : Int) : Option (Bool) :=
  match x with
  | v0 => bif decide (v0 ≥ (0 : Int)) then (F50hn k ()).bind fun r => some (decide (v0 < r)) else some false
noncomputable def sp83hn : FSpec Ty := addH 0 ab83hn F83hn on83hn noH
theorem ok83hn : FOK Try.prog tab 83 sp83hn := addH_ok (keeps := kp83hn) tabOK fs50OK Try.func83 bo83 (by kernel_rfl) nd83 (LSOK.none) oa83hn (F := F83hn) (fun k x => by kernel_rfl) (pinned_le (Nat.le_refl _) _) FOK.none rfl
def of83 : Int × Int × Int × List (List Int) × List T143 → NSt Ty := fun x => ⟨[.ptr 100000 [], .int .i64 (x.1)], [.var (.cons (.row 100001) (.cons (.row 100002) (.cons (.int .i64 (x.2.1)) (.cons (.int .i64 (x.2.2.1)) (.nil))))), .row 27 (x.2.2.2.1), .row 144 (x.2.2.2.2)]⟩
def ab83 : (n : NSt Ty) → Option {x : Int × Int × Int × List (List Int) × List T143 // of83 x = n}
  | ⟨[.ptr 100000 [], .int .i64 v0], [.var (.cons (.row 100001) (.cons (.row 100002) (.cons (.int .i64 v1) (.cons (.int .i64 v2) (.nil))))), .row 27 v3, .row 144 v4]⟩ => some ⟨(v0, v1, v2, v3, v4), rfl⟩
  | _ => none
def kp83 : Nat → Keep := pinned 1 fun i => ⟨[], [], 0⟩
def on83 : Bool × Int × Int × List (List Int) × List T143 → NSt Ty := fun x => ⟨[.bool (x.1)], [.var (.cons (.row 100001) (.cons (.row 100002) (.cons (.int .i64 (x.2.1)) (.cons (.int .i64 (x.2.2.1)) (.nil))))), .row 27 (x.2.2.2.1), .row 144 (x.2.2.2.2)]⟩
def oa83 : (n : NSt Ty) → Option {y : Bool × Int × Int × List (List Int) × List T143 // on83 y = n}
  | ⟨[.bool v0], [.var (.cons (.row 100001) (.cons (.row 100002) (.cons (.int .i64 v1) (.cons (.int .i64 v2) (.nil))))), .row 27 v3, .row 144 v4]⟩ => some ⟨(v0, v1, v2, v3, v4), rfl⟩
  | _ => none
/-- "(*silt/dev.Dev).has"  -/
def F83 (k : Nat) (x : Int × Int × Int × List (List Int) × List T143) : Option (Bool × Int × Int × List (List Int) × List T143) :=
  match x with
  | (v0, v1, v2, v3, v4) => bif decide (v0 ≥ (0 : Int)) then (F50 k (v1, v2, v3, v4)).bind fun r => some (decide (v0 < r.fst), r.snd.fst, r.snd.snd.fst, r.snd.snd.snd.fst, r.snd.snd.snd.snd) else some (false, v1, v2, v3, v4)
noncomputable def sp83 : FSpec Ty := addH 1 ab83 F83 on83 sp83hn
theorem ok83 : FOK Try.prog tab 83 sp83 := addH_ok (keeps := kp83) tabOK fs50OK Try.func83 bo83 (by kernel_rfl) nd83 (LSOK.none) oa83 (F := F83) (fun k x => by kernel_rfl) (pinned_le (Nat.le_refl _) _) ok83hn rfl
noncomputable def fs83 : Nat → Option (FSpec Ty) := addF 83 sp83 fs50
theorem fs83OK : SpecsOK Try.prog tab fs83 := fs50OK.add ok83 Try.call83
theorem bo84 : Try.f84.body = some (bodyOf Try.f84) := by kernel_rfl
theorem nd84 : nodupB ((loopsIn (bodyOf Try.f84)).map firstRegion) = true := by kernel_rfl
def of84 : Int × Int × List (List Int) × List T143 → NSt Ty := fun x => ⟨[.ptr 100000 []], [.var (.cons (.row 100001) (.cons (.row 100002) (.cons (.int .i64 (x.1)) (.cons (.int .i64 (x.2.1)) (.nil))))), .row 27 (x.2.2.1), .row 144 (x.2.2.2)]⟩
def ab84 : (n : NSt Ty) → Option {x : Int × Int × List (List Int) × List T143 // of84 x = n}
  | ⟨[.ptr 100000 []], [.var (.cons (.row 100001) (.cons (.row 100002) (.cons (.int .i64 v0) (.cons (.int .i64 v1) (.nil))))), .row 27 v2, .row 144 v3]⟩ => some ⟨(v0, v1, v2, v3), rfl⟩
  | _ => none
def kp84 : Nat → Keep := pinned 1 fun i => ⟨[], [], 0⟩
def on84 : Int × Int × Int × List (List Int) × List T143 → NSt Ty := fun x => ⟨[.int .i64 (x.1)], [.var (.cons (.row 100001) (.cons (.row 100002) (.cons (.int .i64 (x.2.1)) (.cons (.int .i64 (x.2.2.1)) (.nil))))), .row 27 (x.2.2.2.1), .row 144 (x.2.2.2.2)]⟩
def oa84 : (n : NSt Ty) → Option {y : Int × Int × Int × List (List Int) × List T143 // on84 y = n}
  | ⟨[.int .i64 v0], [.var (.cons (.row 100001) (.cons (.row 100002) (.cons (.int .i64 v1) (.cons (.int .i64 v2) (.nil))))), .row 27 v3, .row 144 v4]⟩ => some ⟨(v0, v1, v2, v3, v4), rfl⟩
  | _ => none
/-- "(*silt/dev.Dev).pass"  -/
def F84 (k : Nat) (x : Int × Int × List (List Int) × List T143) : Option (Int × Int × Int × List (List Int) × List T143) :=
  match x with
  | (v0, v1, v2, v3) => bif v0 == (0 : Int) then some ((12 : Int), (-1 : Int), v1, v2, v3) else bif decide (v0 > (0 : Int)) then some ((0 : Int), IntKind.i64.wrap (v0 - (1 : Int)), IntKind.i64.wrap (v1 + (1 : Int)), v2, v3) else some ((0 : Int), v0, IntKind.i64.wrap (v1 + (1 : Int)), v2, v3)
noncomputable def sp84 : FSpec Ty := addH 1 ab84 F84 on84 noH
theorem ok84 : FOK Try.prog tab 84 sp84 := addH_ok (keeps := kp84) tabOK fs83OK Try.func84 bo84 (by kernel_rfl) nd84 (LSOK.none) oa84 (F := F84) (fun k x => by kernel_rfl) (pinned_le (Nat.le_refl _) _) FOK.none rfl
noncomputable def fs84 : Nat → Option (FSpec Ty) := addF 84 sp84 fs83
theorem fs84OK : SpecsOK Try.prog tab fs84 := fs83OK.add ok84 Try.call84
theorem bo39 : Try.f39.body = some (bodyOf Try.f39) := by kernel_rfl
theorem nd39 : nodupB ((loopsIn (bodyOf Try.f39)).map firstRegion) = true := by kernel_rfl
def of39hn : Int × List Int → NSt Ty := fun x => ⟨[.nilp, .int .i64 (x.1), .arr 5 64 (x.2)], []⟩
def ab39hn : (n : NSt Ty) → Option {x : Int × List Int // of39hn x = n}
  | ⟨[.nilp, .int .i64 v0, .arr 5 64 v1], []⟩ => some ⟨(v0, v1), rfl⟩
  | _ => none
def kp39hn : Nat → Keep := pinned 0 fun i => ⟨[], [], 0⟩
def on39hn : Int → NSt Ty := fun x => ⟨[.int .i64 (x)], []⟩
def oa39hn : (n : NSt Ty) → Option {y : Int // on39hn y = n}
  | ⟨[.int .i64 v0], []⟩ => some ⟨v0, rfl⟩
  | _ => none
/-- "(*silt/dev.Dev).Write" hn -/
def F39hn (k : Nat) (x : Int × List Int) : Option (Int) :=
  match x with
  | (v0, v1) => (F83hn k v0).bind fun r => bif !r then some (1 : Int) else none
noncomputable def sp39hn : FSpec Ty := addH 0 ab39hn F39hn on39hn noH
theorem ok39hn : FOK Try.prog tab 39 sp39hn := addH_ok (keeps := kp39hn) tabOK fs84OK Try.func39 bo39 (by kernel_rfl) nd39 (LSOK.none) oa39hn (F := F39hn) (fun k x => by kernel_rfl) (pinned_le (Nat.le_refl _) _) FOK.none rfl
def of39 : Int × List Int × Int × Int × List (List Int) × List T143 → NSt Ty := fun x => ⟨[.ptr 100000 [], .int .i64 (x.1), .arr 5 64 (x.2.1)], [.var (.cons (.row 100001) (.cons (.row 100002) (.cons (.int .i64 (x.2.2.1)) (.cons (.int .i64 (x.2.2.2.1)) (.nil))))), .row 27 (x.2.2.2.2.1), .row 144 (x.2.2.2.2.2)]⟩
def ab39 : (n : NSt Ty) → Option {x : Int × List Int × Int × Int × List (List Int) × List T143 // of39 x = n}
  | ⟨[.ptr 100000 [], .int .i64 v0, .arr 5 64 v1], [.var (.cons (.row 100001) (.cons (.row 100002) (.cons (.int .i64 v2) (.cons (.int .i64 v3) (.nil))))), .row 27 v4, .row 144 v5]⟩ => some ⟨(v0, v1, v2, v3, v4, v5), rfl⟩
  | _ => none
def kp39 : Nat → Keep := pinned 1 fun i => ⟨[], [], 0⟩
def on39 : Int × Int × Int × List (List Int) × List T143 → NSt Ty := fun x => ⟨[.int .i64 (x.1)], [.var (.cons (.row 100001) (.cons (.row 100002) (.cons (.int .i64 (x.2.1)) (.cons (.int .i64 (x.2.2.1)) (.nil))))), .row 27 (x.2.2.2.1), .row 144 (x.2.2.2.2)]⟩
def oa39 : (n : NSt Ty) → Option {y : Int × Int × Int × List (List Int) × List T143 // on39 y = n}
  | ⟨[.int .i64 v0], [.var (.cons (.row 100001) (.cons (.row 100002) (.cons (.int .i64 v1) (.cons (.int .i64 v2) (.nil))))), .row 27 v3, .row 144 v4]⟩ => some ⟨(v0, v1, v2, v3, v4), rfl⟩
  | _ => none
/-- "(*silt/dev.Dev).Write"  -/
def F39 (k : Nat) (x : Int × List Int × Int × Int × List (List Int) × List T143) : Option (Int × Int × Int × List (List Int) × List T143) :=
  match x with
  | (v0, v1, v2, v3, v4, v5) => (F83 k (v0, v2, v3, v4, v5)).bind fun r => bif !r.fst then some ((1 : Int), r.snd.fst, r.snd.snd.fst, r.snd.snd.snd.fst, r.snd.snd.snd.snd) else (F84 k (r.snd.fst, r.snd.snd.fst, r.snd.snd.snd.fst, r.snd.snd.snd.snd)).bind fun r => bif r.fst != (0 : Int) then some (r.fst, r.snd.fst, r.snd.snd.fst, r.snd.snd.snd.fst, r.snd.snd.snd.snd) else bif decide (r.snd.snd.snd.snd.length + ((List.replicate (1 : Nat) (T143.mk (0 : Int) (List.replicate (64 : Nat) (0 : Int)))).set (0 : Nat) (T143.mk v0 v1)).length ≤ roomMost) then some ((0 : Int), r.snd.fst, r.snd.snd.fst, r.snd.snd.snd.fst, r.snd.snd.snd.snd ++ (List.replicate (1 : Nat) (T143.mk (0 : Int) (List.replicate (64 : Nat) (0 : Int)))).set (0 : Nat) (T143.mk v0 v1)) else none
noncomputable def sp39 : FSpec Ty := addH 1 ab39 F39 on39 sp39hn
theorem ok39 : FOK Try.prog tab 39 sp39 := addH_ok (keeps := kp39) tabOK fs84OK Try.func39 bo39 (by kernel_rfl) nd39 (LSOK.none) oa39 (F := F39) (fun k x => by kernel_rfl) (pinned_le (Nat.le_refl _) _) ok39hn rfl
noncomputable def fs39 : Nat → Option (FSpec Ty) := addF 39 sp39 fs84
theorem fs39OK : SpecsOK Try.prog tab fs39 := fs84OK.add ok39 Try.call39
theorem bo46 : Try.f46.body = some (bodyOf Try.f46) := by kernel_rfl
theorem nd46 : nodupB ((loopsIn (bodyOf Try.f46)).map firstRegion) = true := by kernel_rfl
def of46hn : List Int → NSt Ty := fun x => ⟨[.nilp, .slice 5 (x)], []⟩
def ab46hn : (n : NSt Ty) → Option {x : List Int // of46hn x = n}
  | ⟨[.nilp, .slice 5 v0], []⟩ => some ⟨v0, rfl⟩
  | _ => none
def kp46hn : Nat → Keep := pinned 0 fun i => cond (i == 2) ⟨[0, 1, 11, 12, 13], [0], 0⟩ (⟨[], [], 0⟩)
def on46hn : Unit → NSt Ty := fun x => ⟨[.tup (.nil)], []⟩
def oa46hn : (n : NSt Ty) → Option {y : Unit // on46hn y = n}
  | ⟨[.tup (.nil)], []⟩ => some ⟨(), rfl⟩
  | _ => none
/-- "(*silt/dev.Dev).Crash" hn -/
def F46hn (k : Nat) (x : List Int) : Option (Unit) :=
  match x with
  | v0 => some ()
noncomputable def sp46hn : FSpec Ty := addH 0 ab46hn F46hn on46hn noH
theorem ok46hn : FOK Try.prog tab 46 sp46hn := addH_ok (keeps := kp46hn) tabOK fs39OK Try.func46 bo46 (by kernel_rfl) nd46 (LSOK.none) oa46hn (F := F46hn) (fun k x => by kernel_rfl) (pinned_le (Nat.le_refl _) _) FOK.none rfl
def of46 : List Int × Int × Int × List (List Int) × List T143 → NSt Ty := fun x => ⟨[.ptr 100000 [], .slice 5 (x.1)], [.var (.cons (.row 100001) (.cons (.row 100002) (.cons (.int .i64 (x.2.1)) (.cons (.int .i64 (x.2.2.1)) (.nil))))), .row 27 (x.2.2.2.1), .row 144 (x.2.2.2.2)]⟩
def ab46 : (n : NSt Ty) → Option {x : List Int × Int × Int × List (List Int) × List T143 // of46 x = n}
  | ⟨[.ptr 100000 [], .slice 5 v0], [.var (.cons (.row 100001) (.cons (.row 100002) (.cons (.int .i64 v1) (.cons (.int .i64 v2) (.nil))))), .row 27 v3, .row 144 v4]⟩ => some ⟨(v0, v1, v2, v3, v4), rfl⟩
  | _ => none
def of46_2 : List Int × Int × Int × Int × Int × List T143 × List (List Int) → NSt Ty := fun x => ⟨[.ptr 100000 [], .slice 5 (x.1), .row 100001, .int .i64 (x.2.1), .int .i64 (x.2.2.1)], [.var (.cons (.row 100002) (.cons (.row 100001) (.cons (.int .i64 (x.2.2.2.1)) (.cons (.int .i64 (x.2.2.2.2.1)) (.nil))))), .row 144 (x.2.2.2.2.2.1), .row 27 (x.2.2.2.2.2.2)]⟩
def ab46_2 : (n : NSt Ty) → Option {x : List Int × Int × Int × Int × Int × List T143 × List (List Int) // of46_2 x = n}
  | ⟨[.ptr 100000 [], .slice 5 v0, .row 100001, .int .i64 v1, .int .i64 v2], [.var (.cons (.row 100002) (.cons (.row 100001) (.cons (.int .i64 v3) (.cons (.int .i64 v4) (.nil))))), .row 144 v5, .row 27 v6]⟩ => some ⟨(v0, v1, v2, v3, v4, v5, v6), rfl⟩
  | _ => none
def oe46_2 : Int × Int × List (List Int) × List T143 → Ex := fun _ => .exit 0
def on46_2 : Int × Int × List (List Int) × List T143 → NSt Ty := fun x => ⟨[.ptr 100000 []], [.var (.cons (.row 100001) (.cons (.row 100002) (.cons (.int .i64 (x.1)) (.cons (.int .i64 (x.2.1)) (.nil))))), .row 27 (x.2.2.1), .row 144 (x.2.2.2)]⟩
def oa46_2 : (e : Ex) → (n : NSt Ty) → Option {y : Int × Int × List (List Int) × List T143 // oe46_2 y = e ∧ on46_2 y = n}
  | .exit 0, ⟨[.ptr 100000 []], [.var (.cons (.row 100001) (.cons (.row 100002) (.cons (.int .i64 v0) (.cons (.int .i64 v1) (.nil))))), .row 27 v2, .row 144 v3]⟩ => some ⟨(v0, v1, v2, v3), rfl, rfl⟩
  | _, _ => none
/-- a round of the loop 2 of function 46 -/
def R46_2 (k : Nat) (again : List Int × Int × Int × Int × Int × List T143 × List (List Int) → Option (Int × Int × List (List Int) × List T143)) (x : List Int × Int × Int × Int × Int × List T143 × List (List Int)) : Option (Int × Int × List (List Int) × List T143) :=
  match x with
  | (v0, v1, v2, v3, v4, v5, v6) => bif decide (v2 < v1) then bif inRange v2 v5.length then bif decide (v2 < (↑v0.length : Int)) then bif inRange v2 v0.length then bif Int.tmod (v0.getD v2.toNat (0 : Int)) (2 : Int) == (1 : Int) then bif inRange (v5.getD v2.toNat (T143.mk (0 : Int) (List.replicate (64 : Nat) (0 : Int)))).1 v6.length then again (v0, v1, IntKind.i64.wrap (v2 + (1 : Int)), v3, v4, v5, v6.set (v5.getD v2.toNat (T143.mk (0 : Int) (List.replicate (64 : Nat) (0 : Int)))).1.toNat (v5.getD v2.toNat (T143.mk (0 : Int) (List.replicate (64 : Nat) (0 : Int)))).2) else none else again (v0, v1, IntKind.i64.wrap (v2 + (1 : Int)), v3, v4, v5, v6) else none else again (v0, v1, IntKind.i64.wrap (v2 + (1 : Int)), v3, v4, v5, v6) else none else some (v3, v4, v6, v5)
def L46_2 (k n : Nat) (x : List Int × Int × Int × Int × Int × List T143 × List (List Int)) : Option (Int × Int × List (List Int) × List T143) := iterR (R46_2 k) n x
noncomputable def ls46_2 : Nat → Option (LSum Ty) := addL 2 (LSum.of of46_2 ab46_2 L46_2 oe46_2 on46_2) noL
def kp46 : Nat → Keep := pinned 1 fun i => cond (i == 2) ⟨[0, 1, 11, 12, 13], [0], 0⟩ (⟨[], [], 0⟩)
def on46 : Int × Int × List (List Int) × List T143 → NSt Ty := fun x => ⟨[.tup (.nil)], [.var (.cons (.row 100001) (.cons (.row 100002) (.cons (.int .i64 (x.1)) (.cons (.int .i64 (x.2.1)) (.nil))))), .row 27 (x.2.2.1), .row 144 (x.2.2.2)]⟩
def oa46 : (n : NSt Ty) → Option {y : Int × Int × List (List Int) × List T143 // on46 y = n}
  | ⟨[.tup (.nil)], [.var (.cons (.row 100001) (.cons (.row 100002) (.cons (.int .i64 v0) (.cons (.int .i64 v1) (.nil))))), .row 27 v2, .row 144 v3]⟩ => some ⟨(v0, v1, v2, v3), rfl⟩
  | _ => none
/-- "(*silt/dev.Dev).Crash"  -/
def F46 (k : Nat) (x : List Int × Int × Int × List (List Int) × List T143) : Option (Int × Int × List (List Int) × List T143) :=
  match x with
  | (v0, v1, v2, v3, v4) => (L46_2 k k (v0, (↑v4.length : Int), (0 : Int), v1, v2, v4, v3)).bind fun r => some ((-1 : Int), r.snd.fst, r.snd.snd.fst, [])
noncomputable def sp46 : FSpec Ty := addH 1 ab46 F46 on46 sp46hn
theorem lo46_2 : LSOK fs39 kp46 tab Try.f46 ls46_2 := lsum_ok bo46 nd46 (LSOK.none) oa46_2 (R := R46_2) fun k again x => by kernel_rfl
theorem ok46 : FOK Try.prog tab 46 sp46 := addH_ok (keeps := kp46) tabOK fs39OK Try.func46 bo46 (by kernel_rfl) nd46 (lo46_2) oa46 (F := F46) (fun k x => by kernel_rfl) (pinned_le (Nat.le_refl _) _) ok46hn rfl
noncomputable def fs46 : Nat → Option (FSpec Ty) := addF 46 sp46 fs39
theorem fs46OK : SpecsOK Try.prog tab fs46 := fs39OK.add ok46 Try.call46
theorem bo42 : Try.f42.body = some (bodyOf Try.f42) := by kernel_rfl
theorem nd42 : nodupB ((loopsIn (bodyOf Try.f42)).map firstRegion) = true := by kernel_rfl
def of42hn : Int → NSt Ty := fun x => ⟨[.nilp, .int .i64 (x)], []⟩
def ab42hn : (n : NSt Ty) → Option {x : Int // of42hn x = n}
  | ⟨[.nilp, .int .i64 v0], []⟩ => some ⟨v0, rfl⟩
  | _ => none
def kp42hn : Nat → Keep := pinned 0 fun i => cond (i == 5) ⟨[1, 4, 6, 24, 25, 26], [4, 6], 0⟩ (⟨[], [], 0⟩)
def on42hn : List Int × Int → NSt Ty := fun x => ⟨[.tup (.cons (.arr 5 64 (x.1)) (.cons (.int .i64 (x.2)) (.nil)))], []⟩
def oa42hn : (n : NSt Ty) → Option {y : List Int × Int // on42hn y = n}
  | ⟨[.tup (.cons (.arr 5 64 v0) (.cons (.int .i64 v1) (.nil)))], []⟩ => some ⟨(v0, v1), rfl⟩
  | _ => none
/-- "(*silt/dev.Dev).Read" hn -/
def F42hn (k : Nat) (x : Int) : Option (List Int × Int) :=
  match x with
  | v0 => (F83hn k v0).bind fun r => bif !r then some (List.replicate (64 : Nat) (0 : Int), (1 : Int)) else none
noncomputable def sp42hn : FSpec Ty := addH 0 ab42hn F42hn on42hn noH
theorem ok42hn : FOK Try.prog tab 42 sp42hn := addH_ok (keeps := kp42hn) tabOK fs46OK Try.func42 bo42 (by kernel_rfl) nd42 (LSOK.none) oa42hn (F := F42hn) (fun k x => by kernel_rfl) (pinned_le (Nat.le_refl _) _) FOK.none rfl
def of42 : Int × Int × Int × List (List Int) × List T143 → NSt Ty := fun x => ⟨[.ptr 100000 [], .int .i64 (x.1)], [.var (.cons (.row 100001) (.cons (.row 100002) (.cons (.int .i64 (x.2.1)) (.cons (.int .i64 (x.2.2.1)) (.nil))))), .row 27 (x.2.2.2.1), .row 144 (x.2.2.2.2)]⟩
def ab42 : (n : NSt Ty) → Option {x : Int × Int × Int × List (List Int) × List T143 // of42 x = n}
  | ⟨[.ptr 100000 [], .int .i64 v0], [.var (.cons (.row 100001) (.cons (.row 100002) (.cons (.int .i64 v1) (.cons (.int .i64 v2) (.nil))))), .row 27 v3, .row 144 v4]⟩ => some ⟨(v0, v1, v2, v3, v4), rfl⟩
  | _ => none
def of42_5 : Int × Int × Int × Int × Int × List Int × List Int × List T143 × List (List Int) → NSt Ty := fun x => ⟨[.int .i64 (x.1), .ptr 100001 [], .ptr 100002 [], .row 100003, .int .i64 (x.2.1), .int .i64 (x.2.2.1)], [.var (.cons (.row 100004) (.cons (.row 100003) (.cons (.int .i64 (x.2.2.2.1)) (.cons (.int .i64 (x.2.2.2.2.1)) (.nil))))), .var (.arr 5 64 (x.2.2.2.2.2.1)), .var (.arr 5 64 (x.2.2.2.2.2.2.1)), .row 144 (x.2.2.2.2.2.2.2.1), .row 27 (x.2.2.2.2.2.2.2.2)]⟩
def ab42_5 : (n : NSt Ty) → Option {x : Int × Int × Int × Int × Int × List Int × List Int × List T143 × List (List Int) // of42_5 x = n}
  | ⟨[.int .i64 v0, .ptr 100001 [], .ptr 100002 [], .row 100003, .int .i64 v1, .int .i64 v2], [.var (.cons (.row 100004) (.cons (.row 100003) (.cons (.int .i64 v3) (.cons (.int .i64 v4) (.nil))))), .var (.arr 5 64 v5), .var (.arr 5 64 v6), .row 144 v7, .row 27 v8]⟩ => some ⟨(v0, v1, v2, v3, v4, v5, v6, v7, v8), rfl⟩
  | _ => none
def oe42_5 : Int × Int × List Int × List Int × List (List Int) × List T143 → Ex := fun _ => .exit 0
def on42_5 : Int × Int × List Int × List Int × List (List Int) × List T143 → NSt Ty := fun x => ⟨[.ptr 100001 [], .ptr 100002 []], [.var (.cons (.row 100003) (.cons (.row 100004) (.cons (.int .i64 (x.1)) (.cons (.int .i64 (x.2.1)) (.nil))))), .var (.arr 5 64 (x.2.2.1)), .var (.arr 5 64 (x.2.2.2.1)), .row 27 (x.2.2.2.2.1), .row 144 (x.2.2.2.2.2)]⟩
def oa42_5 : (e : Ex) → (n : NSt Ty) → Option {y : Int × Int × List Int × List Int × List (List Int) × List T143 // oe42_5 y = e ∧ on42_5 y = n}
  | .exit 0, ⟨[.ptr 100001 [], .ptr 100002 []], [.var (.cons (.row 100003) (.cons (.row 100004) (.cons (.int .i64 v0) (.cons (.int .i64 v1) (.nil))))), .var (.arr 5 64 v2), .var (.arr 5 64 v3), .row 27 v4, .row 144 v5]⟩ => some ⟨(v0, v1, v2, v3, v4, v5), rfl, rfl⟩
  | _, _ => none
/-- a round of the loop 5 of function 42 -/
def R42_5 (k : Nat) (again : Int × Int × Int × Int × Int × List Int × List Int × List T143 × List (List Int) → Option (Int × Int × List Int × List Int × List (List Int) × List T143)) (x : Int × Int × Int × Int × Int × List Int × List Int × List T143 × List (List Int)) : Option (Int × Int × List Int × List Int × List (List Int) × List T143) :=
  match x with
  | (v0, v1, v2, v3, v4, v5, v6, v7, v8) => bif decide (v2 < v1) then bif inRange v2 v7.length then bif (v7.getD v2.toNat (T143.mk (0 : Int) (List.replicate (64 : Nat) (0 : Int)))).1 == v0 then again (v0, v1, IntKind.i64.wrap (v2 + (1 : Int)), v3, v4, v5, (v7.getD v2.toNat (T143.mk (0 : Int) (List.replicate (64 : Nat) (0 : Int)))).2, v7, v8) else again (v0, v1, IntKind.i64.wrap (v2 + (1 : Int)), v3, v4, v5, v6, v7, v8) else none else some (v3, v4, v5, v6, v8, v7)
def L42_5 (k n : Nat) (x : Int × Int × Int × Int × Int × List Int × List Int × List T143 × List (List Int)) : Option (Int × Int × List Int × List Int × List (List Int) × List T143) := iterR (R42_5 k) n x
noncomputable def ls42_5 : Nat → Option (LSum Ty) := addL 5 (LSum.of of42_5 ab42_5 L42_5 oe42_5 on42_5) noL
def kp42 : Nat → Keep := pinned 1 fun i => cond (i == 5) ⟨[1, 4, 6, 24, 25, 26], [4, 6], 0⟩ (⟨[], [], 0⟩)
def on42 : List Int × Int × Int × Int × List (List Int) × List T143 → NSt Ty := fun x => ⟨[.tup (.cons (.arr 5 64 (x.1)) (.cons (.int .i64 (x.2.1)) (.nil)))], [.var (.cons (.row 100001) (.cons (.row 100002) (.cons (.int .i64 (x.2.2.1)) (.cons (.int .i64 (x.2.2.2.1)) (.nil))))), .row 27 (x.2.2.2.2.1), .row 144 (x.2.2.2.2.2)]⟩
def oa42 : (n : NSt Ty) → Option {y : List Int × Int × Int × Int × List (List Int) × List T143 // on42 y = n}
  | ⟨[.tup (.cons (.arr 5 64 v0) (.cons (.int .i64 v1) (.nil)))], [.var (.cons (.row 100001) (.cons (.row 100002) (.cons (.int .i64 v2) (.cons (.int .i64 v3) (.nil))))), .row 27 v4, .row 144 v5]⟩ => some ⟨(v0, v1, v2, v3, v4, v5), rfl⟩
  | _ => none
/-- "(*silt/dev.Dev).Read"  -/
def F42 (k : Nat) (x : Int × Int × Int × List (List Int) × List T143) : Option (List Int × Int × Int × Int × List (List Int) × List T143) :=
  match x with
  | (v0, v1, v2, v3, v4) => (F83 k (v0, v1, v2, v3, v4)).bind fun r => bif !r.fst then some (List.replicate (64 : Nat) (0 : Int), (1 : Int), r.snd.fst, r.snd.snd.fst, r.snd.snd.snd.fst, r.snd.snd.snd.snd) else bif inRange v0 r.snd.snd.snd.fst.length then (L42_5 k k (v0, (↑r.snd.snd.snd.snd.length : Int), (0 : Int), r.snd.fst, r.snd.snd.fst, List.replicate (64 : Nat) (0 : Int), r.snd.snd.snd.fst.getD v0.toNat (List.replicate (64 : Nat) (0 : Int)), r.snd.snd.snd.snd, r.snd.snd.snd.fst)).bind fun r => some (r.snd.snd.snd.fst, (0 : Int), r.fst, r.snd.fst, r.snd.snd.snd.snd.fst, r.snd.snd.snd.snd.snd) else none
noncomputable def sp42 : FSpec Ty := addH 1 ab42 F42 on42 sp42hn
theorem lo42_5 : LSOK fs46 kp42 tab Try.f42 ls42_5 := lsum_ok bo42 nd42 (LSOK.none) oa42_5 (R := R42_5) fun k again x => by kernel_rfl
theorem ok42 : FOK Try.prog tab 42 sp42 := addH_ok (keeps := kp42) tabOK fs46OK Try.func42 bo42 (by kernel_rfl) nd42 (lo42_5) oa42 (F := F42) (fun k x => by kernel_rfl) (pinned_le (Nat.le_refl _) _) ok42hn rfl
noncomputable def fs42 : Nat → Option (FSpec Ty) := addF 42 sp42 fs46
theorem fs42OK : SpecsOK Try.prog tab fs42 := fs46OK.add ok42 Try.call42
theorem bo49 : Try.f49.body = some (bodyOf Try.f49) := by kernel_rfl
theorem nd49 : nodupB ((loopsIn (bodyOf Try.f49)).map firstRegion) = true := by kernel_rfl
def of49hn : Unit → NSt Ty := fun x => ⟨[.nilp], []⟩
def ab49hn : (n : NSt Ty) → Option {x : Unit // of49hn x = n}
  | ⟨[.nilp], []⟩ => some ⟨(), rfl⟩
  | _ => none
def kp49hn : Nat → Keep := pinned 0 fun i => ⟨[], [], 0⟩
def on49hn : Int → NSt Ty := fun x => ⟨[.int .i64 (x)], []⟩
def oa49hn : (n : NSt Ty) → Option {y : Int // on49hn y = n}
  | ⟨[.int .i64 v0], []⟩ => some ⟨v0, rfl⟩
  | _ => none
/-- "(*silt/dev.Dev).Loose" hn -/
def F49hn (k : Nat) (x : Unit) : Option (Int) :=
  match x with
  | () => (F87hn k (1 : Int)).bind fun r => some r
noncomputable def sp49hn : FSpec Ty := addH 0 ab49hn F49hn on49hn noH
theorem ok49hn : FOK Try.prog tab 49 sp49hn := addH_ok (keeps := kp49hn) tabOK fs42OK Try.func49 bo49 (by kernel_rfl) nd49 (LSOK.none) oa49hn (F := F49hn) (fun k x => by kernel_rfl) (pinned_le (Nat.le_refl _) _) FOK.none rfl
def of49 : Int × Int × List (List Int) × List T143 → NSt Ty := fun x => ⟨[.ptr 100000 []], [.var (.cons (.row 100001) (.cons (.row 100002) (.cons (.int .i64 (x.1)) (.cons (.int .i64 (x.2.1)) (.nil))))), .row 27 (x.2.2.1), .row 144 (x.2.2.2)]⟩
def ab49 : (n : NSt Ty) → Option {x : Int × Int × List (List Int) × List T143 // of49 x = n}
  | ⟨[.ptr 100000 []], [.var (.cons (.row 100001) (.cons (.row 100002) (.cons (.int .i64 v0) (.cons (.int .i64 v1) (.nil))))), .row 27 v2, .row 144 v3]⟩ => some ⟨(v0, v1, v2, v3), rfl⟩
  | _ => none
def kp49 : Nat → Keep := pinned 1 fun i => ⟨[], [], 0⟩
def on49 : Int × Int × Int × List (List Int) × List T143 → NSt Ty := fun x => ⟨[.int .i64 (x.1)], [.var (.cons (.row 100001) (.cons (.row 100002) (.cons (.int .i64 (x.2.1)) (.cons (.int .i64 (x.2.2.1)) (.nil))))), .row 27 (x.2.2.2.1), .row 144 (x.2.2.2.2)]⟩
def oa49 : (n : NSt Ty) → Option {y : Int × Int × Int × List (List Int) × List T143 // on49 y = n}
  | ⟨[.int .i64 v0], [.var (.cons (.row 100001) (.cons (.row 100002) (.cons (.int .i64 v1) (.cons (.int .i64 v2) (.nil))))), .row 27 v3, .row 144 v4]⟩ => some ⟨(v0, v1, v2, v3, v4), rfl⟩
  | _ => none
/-- "(*silt/dev.Dev).Loose"  -/
def F49 (k : Nat) (x : Int × Int × List (List Int) × List T143) : Option (Int × Int × Int × List (List Int) × List T143) :=
  match x with
  | (v0, v1, v2, v3) => (F87 k ((1 : Int), v0, v1, v2, v3)).bind fun r => some (r.fst, r.snd.fst, r.snd.snd.fst, r.snd.snd.snd.fst, r.snd.snd.snd.snd)
noncomputable def sp49 : FSpec Ty := addH 1 ab49 F49 on49 sp49hn
theorem ok49 : FOK Try.prog tab 49 sp49 := addH_ok (keeps := kp49) tabOK fs42OK Try.func49 bo49 (by kernel_rfl) nd49 (LSOK.none) oa49 (F := F49) (fun k x => by kernel_rfl) (pinned_le (Nat.le_refl _) _) ok49hn rfl
noncomputable def fs49 : Nat → Option (FSpec Ty) := addF 49 sp49 fs42
theorem fs49OK : SpecsOK Try.prog tab fs49 := fs42OK.add ok49 Try.call49
theorem bo48 : Try.f48.body = some (bodyOf Try.f48) := by kernel_rfl
theorem nd48 : nodupB ((loopsIn (bodyOf Try.f48)).map firstRegion) = true := by kernel_rfl
def of48hn : Int → NSt Ty := fun x => ⟨[.nilp, .int .i64 (x)], []⟩
def ab48hn : (n : NSt Ty) → Option {x : Int // of48hn x = n}
  | ⟨[.nilp, .int .i64 v0], []⟩ => some ⟨v0, rfl⟩
  | _ => none
def kp48hn : Nat → Keep := pinned 0 fun i => ⟨[], [], 0⟩
def on48hn : Unit → NSt Ty := fun x => ⟨[.tup (.nil)], []⟩
def oa48hn : (n : NSt Ty) → Option {y : Unit // on48hn y = n}
  | ⟨[.tup (.nil)], []⟩ => some ⟨(), rfl⟩
  | _ => none
/-- "(*silt/dev.Dev).Fail" hn -/
def F48hn (k : Nat) (x : Int) : Option (Unit) :=
  match x with
  | v0 => some ()
noncomputable def sp48hn : FSpec Ty := addH 0 ab48hn F48hn on48hn noH
theorem ok48hn : FOK Try.prog tab 48 sp48hn := addH_ok (keeps := kp48hn) tabOK fs49OK Try.func48 bo48 (by kernel_rfl) nd48 (LSOK.none) oa48hn (F := F48hn) (fun k x => by kernel_rfl) (pinned_le (Nat.le_refl _) _) FOK.none rfl
def of48 : Int × Int × Int × List (List Int) × List T143 → NSt Ty := fun x => ⟨[.ptr 100000 [], .int .i64 (x.1)], [.var (.cons (.row 100001) (.cons (.row 100002) (.cons (.int .i64 (x.2.1)) (.cons (.int .i64 (x.2.2.1)) (.nil))))), .row 27 (x.2.2.2.1), .row 144 (x.2.2.2.2)]⟩
def ab48 : (n : NSt Ty) → Option {x : Int × Int × Int × List (List Int) × List T143 // of48 x = n}
  | ⟨[.ptr 100000 [], .int .i64 v0], [.var (.cons (.row 100001) (.cons (.row 100002) (.cons (.int .i64 v1) (.cons (.int .i64 v2) (.nil))))), .row 27 v3, .row 144 v4]⟩ => some ⟨(v0, v1, v2, v3, v4), rfl⟩
  | _ => none
def kp48 : Nat → Keep := pinned 1 fun i => ⟨[], [], 0⟩
def on48 : Int × Int × List (List Int) × List T143 → NSt Ty := fun x => ⟨[.tup (.nil)], [.var (.cons (.row 100001) (.cons (.row 100002) (.cons (.int .i64 (x.1)) (.cons (.int .i64 (x.2.1)) (.nil))))), .row 27 (x.2.2.1), .row 144 (x.2.2.2)]⟩
def oa48 : (n : NSt Ty) → Option {y : Int × Int × List (List Int) × List T143 // on48 y = n}
  | ⟨[.tup (.nil)], [.var (.cons (.row 100001) (.cons (.row 100002) (.cons (.int .i64 v0) (.cons (.int .i64 v1) (.nil))))), .row 27 v2, .row 144 v3]⟩ => some ⟨(v0, v1, v2, v3), rfl⟩
  | _ => none
/-- "(*silt/dev.Dev).Fail"  -/
def F48 (k : Nat) (x : Int × Int × Int × List (List Int) × List T143) : Option (Int × Int × List (List Int) × List T143) :=
  match x with
  | (v0, v1, v2, v3, v4) => some (if (-1 : Int) > v0 then (-1 : Int) else v0, v2, v3, v4)
noncomputable def sp48 : FSpec Ty := addH 1 ab48 F48 on48 sp48hn
theorem ok48 : FOK Try.prog tab 48 sp48 := addH_ok (keeps := kp48) tabOK fs49OK Try.func48 bo48 (by kernel_rfl) nd48 (LSOK.none) oa48 (F := F48) (fun k x => by kernel_rfl) (pinned_le (Nat.le_refl _) _) ok48hn rfl
noncomputable def fs48 : Nat → Option (FSpec Ty) := addF 48 sp48 fs49
theorem fs48OK : SpecsOK Try.prog tab fs48 := fs49OK.add ok48 Try.call48
theorem bo44 : Try.f44.body = some (bodyOf Try.f44) := by kernel_rfl
theorem nd44 : nodupB ((loopsIn (bodyOf Try.f44)).map firstRegion) = true := by kernel_rfl
def of44hn : Unit → NSt Ty := fun x => ⟨[.nilp], []⟩
def ab44hn : (n : NSt Ty) → Option {x : Unit // of44hn x = n}
  | ⟨[.nilp], []⟩ => some ⟨(), rfl⟩
  | _ => none
def kp44hn : Nat → Keep := pinned 0 fun i => cond (i == 7) ⟨[0, 16, 17, 18], [0], 0⟩ (⟨[], [], 0⟩)
def on44hn : Int → NSt Ty := fun x => ⟨[.int .i64 (x)], []⟩
def oa44hn : (n : NSt Ty) → Option {y : Int // on44hn y = n}
  | ⟨[.int .i64 v0], []⟩ => some ⟨v0, rfl⟩
  | _ => none
/-- "(*silt/dev.Dev).Flush" hn -/
def F44hn (k : Nat) (x : Unit) : Option (Int) :=
  match x with
  | () => some (1 : Int)
noncomputable def sp44hn : FSpec Ty := addH 0 ab44hn F44hn on44hn noH
theorem ok44hn : FOK Try.prog tab 44 sp44hn := addH_ok (keeps := kp44hn) tabOK fs48OK Try.func44 bo44 (by kernel_rfl) nd44 (LSOK.none) oa44hn (F := F44hn) (fun k x => by kernel_rfl) (pinned_le (Nat.le_refl _) _) FOK.none rfl
def of44 : Int × Int × List (List Int) × List T143 → NSt Ty := fun x => ⟨[.ptr 100000 []], [.var (.cons (.row 100001) (.cons (.row 100002) (.cons (.int .i64 (x.1)) (.cons (.int .i64 (x.2.1)) (.nil))))), .row 27 (x.2.2.1), .row 144 (x.2.2.2)]⟩
def ab44 : (n : NSt Ty) → Option {x : Int × Int × List (List Int) × List T143 // of44 x = n}
  | ⟨[.ptr 100000 []], [.var (.cons (.row 100001) (.cons (.row 100002) (.cons (.int .i64 v0) (.cons (.int .i64 v1) (.nil))))), .row 27 v2, .row 144 v3]⟩ => some ⟨(v0, v1, v2, v3), rfl⟩
  | _ => none
def of44_7 : Int × Int × Int × Int × List T143 × List (List Int) → NSt Ty := fun x => ⟨[.ptr 100000 [], .row 100001, .int .i64 (x.1), .int .i64 (x.2.1)], [.var (.cons (.row 100002) (.cons (.row 100001) (.cons (.int .i64 (x.2.2.1)) (.cons (.int .i64 (x.2.2.2.1)) (.nil))))), .row 144 (x.2.2.2.2.1), .row 27 (x.2.2.2.2.2)]⟩
def ab44_7 : (n : NSt Ty) → Option {x : Int × Int × Int × Int × List T143 × List (List Int) // of44_7 x = n}
  | ⟨[.ptr 100000 [], .row 100001, .int .i64 v0, .int .i64 v1], [.var (.cons (.row 100002) (.cons (.row 100001) (.cons (.int .i64 v2) (.cons (.int .i64 v3) (.nil))))), .row 144 v4, .row 27 v5]⟩ => some ⟨(v0, v1, v2, v3, v4, v5), rfl⟩
  | _ => none
def oe44_7 : Int × Int × List (List Int) × List T143 → Ex := fun _ => .exit 0
def on44_7 : Int × Int × List (List Int) × List T143 → NSt Ty := fun x => ⟨[.ptr 100000 []], [.var (.cons (.row 100001) (.cons (.row 100002) (.cons (.int .i64 (x.1)) (.cons (.int .i64 (x.2.1)) (.nil))))), .row 27 (x.2.2.1), .row 144 (x.2.2.2)]⟩
def oa44_7 : (e : Ex) → (n : NSt Ty) → Option {y : Int × Int × List (List Int) × List T143 // oe44_7 y = e ∧ on44_7 y = n}
  | .exit 0, ⟨[.ptr 100000 []], [.var (.cons (.row 100001) (.cons (.row 100002) (.cons (.int .i64 v0) (.cons (.int .i64 v1) (.nil))))), .row 27 v2, .row 144 v3]⟩ => some ⟨(v0, v1, v2, v3), rfl, rfl⟩
  | _, _ => none
/-- a round of the loop 7 of function 44 -/
def R44_7 (k : Nat) (again : Int × Int × Int × Int × List T143 × List (List Int) → Option (Int × Int × List (List Int) × List T143)) (x : Int × Int × Int × Int × List T143 × List (List Int)) : Option (Int × Int × List (List Int) × List T143) :=
  match x with
  | (v0, v1, v2, v3, v4, v5) => bif decide (v1 < v0) then bif inRange v1 v4.length then bif inRange (v4.getD v1.toNat (T143.mk (0 : Int) (List.replicate (64 : Nat) (0 : Int)))).1 v5.length then again (v0, IntKind.i64.wrap (v1 + (1 : Int)), v2, v3, v4, v5.set (v4.getD v1.toNat (T143.mk (0 : Int) (List.replicate (64 : Nat) (0 : Int)))).1.toNat (v4.getD v1.toNat (T143.mk (0 : Int) (List.replicate (64 : Nat) (0 : Int)))).2) else none else none else some (v2, v3, v5, v4)
def L44_7 (k n : Nat) (x : Int × Int × Int × Int × List T143 × List (List Int)) : Option (Int × Int × List (List Int) × List T143) := iterR (R44_7 k) n x
noncomputable def ls44_7 : Nat → Option (LSum Ty) := addL 7 (LSum.of of44_7 ab44_7 L44_7 oe44_7 on44_7) noL
def kp44 : Nat → Keep := pinned 1 fun i => cond (i == 7) ⟨[0, 16, 17, 18], [0], 0⟩ (⟨[], [], 0⟩)
def on44 : Int × Int × Int × List (List Int) × List T143 → NSt Ty := fun x => ⟨[.int .i64 (x.1)], [.var (.cons (.row 100001) (.cons (.row 100002) (.cons (.int .i64 (x.2.1)) (.cons (.int .i64 (x.2.2.1)) (.nil))))), .row 27 (x.2.2.2.1), .row 144 (x.2.2.2.2)]⟩
def oa44 : (n : NSt Ty) → Option {y : Int × Int × Int × List (List Int) × List T143 // on44 y = n}
  | ⟨[.int .i64 v0], [.var (.cons (.row 100001) (.cons (.row 100002) (.cons (.int .i64 v1) (.cons (.int .i64 v2) (.nil))))), .row 27 v3, .row 144 v4]⟩ => some ⟨(v0, v1, v2, v3, v4), rfl⟩
  | _ => none
/-- "(*silt/dev.Dev).Flush"  -/
def F44 (k : Nat) (x : Int × Int × List (List Int) × List T143) : Option (Int × Int × Int × List (List Int) × List T143) :=
  match x with
  | (v0, v1, v2, v3) => (F84 k (v0, v1, v2, v3)).bind fun r => bif r.fst != (0 : Int) then some (r.fst, r.snd.fst, r.snd.snd.fst, r.snd.snd.snd.fst, r.snd.snd.snd.snd) else (L44_7 k k ((↑r.snd.snd.snd.snd.length : Int), (0 : Int), r.snd.fst, r.snd.snd.fst, r.snd.snd.snd.snd, r.snd.snd.snd.fst)).bind fun r => some ((0 : Int), r.fst, r.snd.fst, r.snd.snd.fst, [])
noncomputable def sp44 : FSpec Ty := addH 1 ab44 F44 on44 sp44hn
theorem lo44_7 : LSOK fs48 kp44 tab Try.f44 ls44_7 := lsum_ok bo44 nd44 (LSOK.none) oa44_7 (R := R44_7) fun k again x => by kernel_rfl
theorem ok44 : FOK Try.prog tab 44 sp44 := addH_ok (keeps := kp44) tabOK fs48OK Try.func44 bo44 (by kernel_rfl) nd44 (lo44_7) oa44 (F := F44) (fun k x => by kernel_rfl) (pinned_le (Nat.le_refl _) _) ok44hn rfl
noncomputable def fs44 : Nat → Option (FSpec Ty) := addF 44 sp44 fs48
theorem fs44OK : SpecsOK Try.prog tab fs44 := fs48OK.add ok44 Try.call44
theorem bo51 : Try.f51.body = some (bodyOf Try.f51) := by kernel_rfl
theorem nd51 : nodupB ((loopsIn (bodyOf Try.f51)).map firstRegion) = true := by kernel_rfl
def of51hn : Unit → NSt Ty := fun x => ⟨[.nilp], []⟩
def ab51hn : (n : NSt Ty) → Option {x : Unit // of51hn x = n}
  | ⟨[.nilp], []⟩ => some ⟨(), rfl⟩
  | _ => none
def kp51hn : Nat → Keep := pinned 0 fun i => ⟨[], [], 0⟩
def on51hn : Int → NSt Ty := fun x => ⟨[.int .i64 (x)], []⟩
def oa51hn : (n : NSt Ty) → Option {y : Int // on51hn y = n}
  | ⟨[.int .i64 v0], []⟩ => some ⟨v0, rfl⟩
  | _ => none
/-- "(*silt/dev.Dev).Done" hn -/
def F51hn (k : Nat) (x : Unit) : Option (Int) :=
  match x with
  | () => (F87hn k (2 : Int)).bind fun r => some r
noncomputable def sp51hn : FSpec Ty := addH 0 ab51hn F51hn on51hn noH
theorem ok51hn : FOK Try.prog tab 51 sp51hn := addH_ok (keeps := kp51hn) tabOK fs44OK Try.func51 bo51 (by kernel_rfl) nd51 (LSOK.none) oa51hn (F := F51hn) (fun k x => by kernel_rfl) (pinned_le (Nat.le_refl _) _) FOK.none rfl
def of51 : Int × Int × List (List Int) × List T143 → NSt Ty := fun x => ⟨[.ptr 100000 []], [.var (.cons (.row 100001) (.cons (.row 100002) (.cons (.int .i64 (x.1)) (.cons (.int .i64 (x.2.1)) (.nil))))), .row 27 (x.2.2.1), .row 144 (x.2.2.2)]⟩
def ab51 : (n : NSt Ty) → Option {x : Int × Int × List (List Int) × List T143 // of51 x = n}
  | ⟨[.ptr 100000 []], [.var (.cons (.row 100001) (.cons (.row 100002) (.cons (.int .i64 v0) (.cons (.int .i64 v1) (.nil))))), .row 27 v2, .row 144 v3]⟩ => some ⟨(v0, v1, v2, v3), rfl⟩
  | _ => none
def kp51 : Nat → Keep := pinned 1 fun i => ⟨[], [], 0⟩
def on51 : Int × Int × Int × List (List Int) × List T143 → NSt Ty := fun x => ⟨[.int .i64 (x.1)], [.var (.cons (.row 100001) (.cons (.row 100002) (.cons (.int .i64 (x.2.1)) (.cons (.int .i64 (x.2.2.1)) (.nil))))), .row 27 (x.2.2.2.1), .row 144 (x.2.2.2.2)]⟩
def oa51 : (n : NSt Ty) → Option {y : Int × Int × Int × List (List Int) × List T143 // on51 y = n}
  | ⟨[.int .i64 v0], [.var (.cons (.row 100001) (.cons (.row 100002) (.cons (.int .i64 v1) (.cons (.int .i64 v2) (.nil))))), .row 27 v3, .row 144 v4]⟩ => some ⟨(v0, v1, v2, v3, v4), rfl⟩
  | _ => none
/-- "(*silt/dev.Dev).Done"  -/
def F51 (k : Nat) (x : Int × Int × List (List Int) × List T143) : Option (Int × Int × Int × List (List Int) × List T143) :=
  match x with
  | (v0, v1, v2, v3) => (F87 k ((2 : Int), v0, v1, v2, v3)).bind fun r => some (r.fst, r.snd.fst, r.snd.snd.fst, r.snd.snd.snd.fst, r.snd.snd.snd.snd)
noncomputable def sp51 : FSpec Ty := addH 1 ab51 F51 on51 sp51hn
theorem ok51 : FOK Try.prog tab 51 sp51 := addH_ok (keeps := kp51) tabOK fs44OK Try.func51 bo51 (by kernel_rfl) nd51 (LSOK.none) oa51 (F := F51) (fun k x => by kernel_rfl) (pinned_le (Nat.le_refl _) _) ok51hn rfl
noncomputable def fs51 : Nat → Option (FSpec Ty) := addF 51 sp51 fs44
theorem fs51OK : SpecsOK Try.prog tab fs51 := fs44OK.add ok51 Try.call51
def ag36 : Args Ty (Unit) := noArgs
def rs36 : Res Ty tab (Bool) false := V.oneRes (tab.den 4) (ent 4).ids (ent 4).plain (fun x _ => (ent 4).flat x rfl)
def kp36 : Nat → Keep := fun i => ⟨[], [], 0⟩
/-- "silt/siltlaw02.wakes" -/
def F36 (k : Nat) (x : Unit) : Option (Bool) :=
  match x with
  | () => (F37 k (4 : Int)).bind fun r => sumK r (fun a => bif a != (0 : Int) then some false else some false) fun b => bif b.fst != (0 : Int) then some false else (F40 k ((7 : Int), ())).bind fun r => (F39 k ((1 : Int), r, b.snd.fst, b.snd.snd.fst, b.snd.snd.snd.fst, b.snd.snd.snd.snd)).bind fun r => bif r.fst != (0 : Int) then some false else (F40 k ((8 : Int), ())).bind fun r_1 => (F39 k ((1 : Int), r_1, r.snd.fst, r.snd.snd.fst, r.snd.snd.snd.fst, r.snd.snd.snd.snd)).bind fun r => bif r.fst != (0 : Int) then some false else (F40 k ((8 : Int), ())).bind fun r_2 => (F39 k ((4 : Int), r_2, r.snd.fst, r.snd.snd.fst, r.snd.snd.snd.fst, r.snd.snd.snd.snd)).bind fun r => bif r.fst != (1 : Int) then some false else (F49 k (r.snd.fst, r.snd.snd.fst, r.snd.snd.snd.fst, r.snd.snd.snd.snd)).bind fun r => bif r.fst != (2 : Int) then some false else (F48 k ((0 : Int), r.snd.fst, r.snd.snd.fst, r.snd.snd.snd.fst, r.snd.snd.snd.snd)).bind fun r => (F44 k (r.fst, r.snd.fst, r.snd.snd.fst, r.snd.snd.snd)).bind fun r => (F40 k ((9 : Int), ())).bind fun r_3 => (F39 k ((2 : Int), r_3, r.snd.fst, r.snd.snd.fst, r.snd.snd.snd.fst, r.snd.snd.snd.snd)).bind fun r_4 => (F46 k ((((List.replicate (3 : Nat) (0 : Int)).set (0 : Nat) (1 : Int)).set (1 : Nat) (2 : Int)).set (2 : Nat) (3 : Int), r_4.snd.fst, r_4.snd.snd.fst, r_4.snd.snd.snd.fst, r_4.snd.snd.snd.snd)).bind fun r_5 => (F42 k ((1 : Int), r_5.fst, r_5.snd.fst, r_5.snd.snd.fst, r_5.snd.snd.snd)).bind fun r_6 => (F42 k ((2 : Int), r_6.snd.snd.fst, r_6.snd.snd.snd.fst, r_6.snd.snd.snd.snd.fst, r_6.snd.snd.snd.snd.snd)).bind fun r_7 => bif r.fst == (12 : Int) then bif r_4.fst == (0 : Int) then bif r_6.snd.fst == (0 : Int) then bif r_7.snd.fst == (0 : Int) then (F40 k ((7 : Int), ())).bind fun r => bif decide (r_6.fst = r) then (F40 k ((9 : Int), ())).bind fun r => bif decide (r_7.fst = r) then (F49 k (r_7.snd.snd.fst, r_7.snd.snd.snd.fst, r_7.snd.snd.snd.snd.fst, r_7.snd.snd.snd.snd.snd)).bind fun r => bif r.fst == (0 : Int) then (F50 k (r.snd.fst, r.snd.snd.fst, r.snd.snd.snd.fst, r.snd.snd.snd.snd)).bind fun r => bif r.fst == (4 : Int) then (F51 k (r.snd.fst, r.snd.snd.fst, r.snd.snd.snd.fst, r.snd.snd.snd.snd)).bind fun r => some (r.fst == (3 : Int)) else some false else some false else some false else some false else some false else some false else some false else some false
noncomputable def sp36 : FSpec Ty := spec ag36 rs36 F36
theorem bo36 : Try.f36.body = some (bodyOf Try.f36) := by kernel_rfl
theorem nd36 : nodupB ((loopsIn (bodyOf Try.f36)).map firstRegion) = true := by kernel_rfl
theorem ok36 : FOK Try.prog tab 36 sp36 := spec_ok (keeps := kp36) tabOK fs51OK Try.func36 bo36 (by kernel_rfl) nd36 (LSOK.none) (F := F36) fun k x => by kernel_rfl
noncomputable def fs36 : Nat → Option (FSpec Ty) := addF 36 sp36 fs51
theorem fs36OK : SpecsOK Try.prog tab fs36 := fs51OK.add ok36 Try.call36
def ag12 : Args Ty (Int × Int × (List Int) × Unit) := V.arg (tab.den 5) (V.arg (tab.den 5) (V.arg (tab.den 82) (noArgs)))
def rs12 : Res Ty tab (Bool) false := V.oneRes (tab.den 4) (ent 4).ids (ent 4).plain (fun x _ => (ent 4).flat x rfl)
def kp12 : Nat → Keep := fun i => ⟨[], [], 0⟩
/-- "silt/siltlaw02.DevOrder" -/
def F12 (k : Nat) (x : Int × Int × (List Int) × Unit) : Option (Bool) :=
  match x with
  | (a0, a1, a2, ()) => (F37 k (3 : Int)).bind fun r => sumK r (fun a => bif a != (0 : Int) then some false else some false) fun b => bif b.fst != (0 : Int) then some false else (F40 k (a0, ())).bind fun r => (F39 k ((1 : Int), r, b.snd.fst, b.snd.snd.fst, b.snd.snd.snd.fst, b.snd.snd.snd.snd)).bind fun r => bif r.fst != (0 : Int) then some false else (F40 k (a1, ())).bind fun r_1 => (F39 k ((1 : Int), r_1, r.snd.fst, r.snd.snd.fst, r.snd.snd.snd.fst, r.snd.snd.snd.snd)).bind fun r => bif r.fst != (0 : Int) then some false else (F46 k (List.take ((↑(2 : Nat) : Int) - (0 : Int)).toNat (List.drop (Int.toNat (0 : Int)) a2), r.snd.fst, r.snd.snd.fst, r.snd.snd.snd.fst, r.snd.snd.snd.snd)).bind fun r => bif Int.tmod (a2.getD (Int.toNat (0 : Int)) (0 : Int)) (2 : Int) == (1 : Int) then (F40 k (a0, ())).bind fun r_2 => bif Int.tmod (a2.getD (Int.toNat (1 : Int)) (0 : Int)) (2 : Int) == (1 : Int) then (F40 k (a1, ())).bind fun r_3 => (F42 k ((1 : Int), r.fst, r.snd.fst, r.snd.snd.fst, r.snd.snd.snd)).bind fun r => (F42 k ((2 : Int), r.snd.snd.fst, r.snd.snd.snd.fst, r.snd.snd.snd.snd.fst, r.snd.snd.snd.snd.snd)).bind fun r_4 => bif r.snd.fst == (0 : Int) then bif r_4.snd.fst == (0 : Int) then bif decide (r.fst = r_3) then bif decide (r_4.fst = List.replicate (64 : Nat) (0 : Int)) then (F49 k (r_4.snd.snd.fst, r_4.snd.snd.snd.fst, r_4.snd.snd.snd.snd.fst, r_4.snd.snd.snd.snd.snd)).bind fun r => bif r.fst == (0 : Int) then (F36 k ()).bind fun r => some r else some false else some false else some false else some false else some false else (F42 k ((1 : Int), r.fst, r.snd.fst, r.snd.snd.fst, r.snd.snd.snd)).bind fun r => (F42 k ((2 : Int), r.snd.snd.fst, r.snd.snd.snd.fst, r.snd.snd.snd.snd.fst, r.snd.snd.snd.snd.snd)).bind fun r_3 => bif r.snd.fst == (0 : Int) then bif r_3.snd.fst == (0 : Int) then bif decide (r.fst = r_2) then bif decide (r_3.fst = List.replicate (64 : Nat) (0 : Int)) then (F49 k (r_3.snd.snd.fst, r_3.snd.snd.snd.fst, r_3.snd.snd.snd.snd.fst, r_3.snd.snd.snd.snd.snd)).bind fun r => bif r.fst == (0 : Int) then (F36 k ()).bind fun r => some r else some false else some false else some false else some false else some false else bif Int.tmod (a2.getD (Int.toNat (1 : Int)) (0 : Int)) (2 : Int) == (1 : Int) then (F40 k (a1, ())).bind fun r_2 => (F42 k ((1 : Int), r.fst, r.snd.fst, r.snd.snd.fst, r.snd.snd.snd)).bind fun r => (F42 k ((2 : Int), r.snd.snd.fst, r.snd.snd.snd.fst, r.snd.snd.snd.snd.fst, r.snd.snd.snd.snd.snd)).bind fun r_3 => bif r.snd.fst == (0 : Int) then bif r_3.snd.fst == (0 : Int) then bif decide (r.fst = r_2) then bif decide (r_3.fst = List.replicate (64 : Nat) (0 : Int)) then (F49 k (r_3.snd.snd.fst, r_3.snd.snd.snd.fst, r_3.snd.snd.snd.snd.fst, r_3.snd.snd.snd.snd.snd)).bind fun r => bif r.fst == (0 : Int) then (F36 k ()).bind fun r => some r else some false else some false else some false else some false else some false else (F42 k ((1 : Int), r.fst, r.snd.fst, r.snd.snd.fst, r.snd.snd.snd)).bind fun r => (F42 k ((2 : Int), r.snd.snd.fst, r.snd.snd.snd.fst, r.snd.snd.snd.snd.fst, r.snd.snd.snd.snd.snd)).bind fun r_2 => bif r.snd.fst == (0 : Int) then bif r_2.snd.fst == (0 : Int) then bif decide (r.fst = List.replicate (64 : Nat) (0 : Int)) then bif decide (r_2.fst = List.replicate (64 : Nat) (0 : Int)) then (F49 k (r_2.snd.snd.fst, r_2.snd.snd.snd.fst, r_2.snd.snd.snd.snd.fst, r_2.snd.snd.snd.snd.snd)).bind fun r => bif r.fst == (0 : Int) then (F36 k ()).bind fun r => some r else some false else some false else some false else some false else some false
noncomputable def sp12 : FSpec Ty := spec ag12 rs12 F12
theorem bo12 : Try.f12.body = some (bodyOf Try.f12) := by kernel_rfl
theorem nd12 : nodupB ((loopsIn (bodyOf Try.f12)).map firstRegion) = true := by kernel_rfl
theorem ok12 : FOK Try.prog tab 12 sp12 := spec_ok (keeps := kp12) tabOK fs36OK Try.func12 bo12 (by kernel_rfl) nd12 (LSOK.none) (F := F12) fun k x => by kernel_rfl
noncomputable def fs12 : Nat → Option (FSpec Ty) := addF 12 sp12 fs36
theorem fs12OK : SpecsOK Try.prog tab fs12 := fs36OK.add ok12 Try.call12
def ag35 : Args Ty ((List T59) × Unit) := V.arg (tab.den 50) (noArgs)
def rs35 : Res Ty tab (Bool) false := V.oneRes (tab.den 4) (ent 4).ids (ent 4).plain (fun x _ => (ent 4).flat x rfl)
def of35_2 : List T59 × Int → NSt Ty := fun x => ⟨[.slice 60 (x.1), .int .i64 (x.2)], []⟩
def ab35_2 : (n : NSt Ty) → Option {x : List T59 × Int // of35_2 x = n}
  | ⟨[.slice 60 v0, .int .i64 v1], []⟩ => some ⟨(v0, v1), rfl⟩
  | _ => none
def on35_2a : List T59 × Bool → NSt Ty := fun x => ⟨[.slice 60 (x.1), .bool (x.2)], []⟩
def on35_2b : List T59 → NSt Ty := fun x => ⟨[.slice 60 (x), .undef], []⟩
def oa35_2 : (e : Ex) → (n : NSt Ty) → Option {y : (List T59 × Bool) ⊕ (List T59) // oe2 .ret (.exit 0) y = e ∧ on2 on35_2a on35_2b y = n}
  | .ret, ⟨[.slice 60 v0, .bool v1], []⟩ => some ⟨.inl (v0, v1), rfl, rfl⟩
  | .exit 0, ⟨[.slice 60 v0, .undef], []⟩ => some ⟨.inr v0, rfl, rfl⟩
  | _, _ => none
/-- a round of the loop 2 of function 35 -/
def R35_2 (k : Nat) (again : List T59 × Int → Option ((List T59 × Bool) ⊕ (List T59))) (x : List T59 × Int) : Option ((List T59 × Bool) ⊕ (List T59)) :=
  match x with
  | (v0, v1) => bif decide (v1 < (↑v0.length : Int)) then bif inRange v1 v0.length then bif decide ((↑(v0.getD v1.toNat (T59.mk (0 : Int) (0 : Int) (0 : Int) [])).4.length : Int) > (300 : Int)) then some (Sum.inl (v0, false)) else again (v0, IntKind.i64.wrap (v1 + (1 : Int))) else none else some (Sum.inr v0)
def L35_2 (k n : Nat) (x : List T59 × Int) : Option ((List T59 × Bool) ⊕ (List T59)) := iterR (R35_2 k) n x
noncomputable def ls35_2 : Nat → Option (LSum Ty) := addL 2 (lsum2 of35_2 ab35_2 L35_2 .ret on35_2a (.exit 0) on35_2b) noL
def kp35 : Nat → Keep := fun i => cond (i == 2) ⟨[0, 3], [0, 2], 0⟩ (⟨[], [], 0⟩)
/-- "silt/siltlaw02.Fair" -/
def F35 (k : Nat) (x : (List T59) × Unit) : Option (Bool) :=
  match x with
  | (a0, ()) => (L35_2 k k (a0, (0 : Int))).bind fun r => sumK r (fun a => some a.snd) fun b => some (decide ((↑b.length : Int) ≤ (200 : Int)))
noncomputable def sp35 : FSpec Ty := spec ag35 rs35 F35
theorem bo35 : Try.f35.body = some (bodyOf Try.f35) := by kernel_rfl
theorem nd35 : nodupB ((loopsIn (bodyOf Try.f35)).map firstRegion) = true := by kernel_rfl
theorem lo35_2 : LSOK fs12 kp35 tab Try.f35 ls35_2 := lsum2_ok bo35 nd35 (LSOK.none) oa35_2 (R := R35_2) fun k again x => by kernel_rfl
theorem ok35 : FOK Try.prog tab 35 sp35 := spec_ok (keeps := kp35) tabOK fs12OK Try.func35 bo35 (by kernel_rfl) nd35 (lo35_2) (F := F35) fun k x => by kernel_rfl
noncomputable def fs35 : Nat → Option (FSpec Ty) := addF 35 sp35 fs12
theorem fs35OK : SpecsOK Try.prog tab fs35 := fs12OK.add ok35 Try.call35
def ag10 : Args Ty (T59 × Unit) := V.arg (tab.den 60) (noArgs)
def rs10 : Res Ty tab (Bool) false := V.oneRes (tab.den 4) (ent 4).ids (ent 4).plain (fun x _ => (ent 4).flat x rfl)
def kp10 : Nat → Keep := fun i => ⟨[], [], 0⟩
/-- "silt/siltlaw02.DevNone" -/
def F10 (k : Nat) (x : T59 × Unit) : Option (Bool) :=
  match x with
  | (a0, ()) => (F35 k ((List.replicate (1 : Nat) (T59.mk (0 : Int) (0 : Int) (0 : Int) [])).set (0 : Nat) (T59.mk a0.1 a0.2 a0.3 a0.4), ())).bind fun r => bif !r then (F36 k ()).bind fun r => some r else (F48hn k a0.2).bind fun r => (F46hn k a0.4).bind fun r => (F42hn k a0.2).bind fun r => bif decide (r.fst = List.replicate (64 : Nat) (0 : Int)) then bif r.snd == (1 : Int) then (F40 k (a0.3, ())).bind fun r => (F39hn k (a0.2, r)).bind fun r => bif r == (1 : Int) then (F44hn k ()).bind fun r => bif r == (1 : Int) then (F49hn k ()).bind fun r => bif r == (0 : Int) then (F50hn k ()).bind fun r => bif r == (0 : Int) then (F51hn k ()).bind fun r => bif r == (0 : Int) then (F36 k ()).bind fun r => some r else some false else some false else some false else some false else some false else some false else some false
noncomputable def sp10 : FSpec Ty := spec ag10 rs10 F10
theorem bo10 : Try.f10.body = some (bodyOf Try.f10) := by kernel_rfl
theorem nd10 : nodupB ((loopsIn (bodyOf Try.f10)).map firstRegion) = true := by kernel_rfl
theorem ok10 : FOK Try.prog tab 10 sp10 := spec_ok (keeps := kp10) tabOK fs35OK Try.func10 bo10 (by kernel_rfl) nd10 (LSOK.none) (F := F10) fun k x => by kernel_rfl
noncomputable def fs10 : Nat → Option (FSpec Ty) := addF 10 sp10 fs35
theorem fs10OK : SpecsOK Try.prog tab fs10 := fs35OK.add ok10 Try.call10
def ag13 : Args Ty ((List T59) × Unit) := V.arg (tab.den 50) (noArgs)
def rs13 : Res Ty tab (Bool) false := V.oneRes (tab.den 4) (ent 4).ids (ent 4).plain (fun x _ => (ent 4).flat x rfl)
def of13_6 : List T59 × Int × Int × Int × Int × List (List Int) × List T143 → NSt Ty := fun x => ⟨[.slice 60 (x.1), .ptr 100000 [], .int .i64 (x.2.1), .int .i64 (x.2.2.1)], [.var (.cons (.row 100001) (.cons (.row 100002) (.cons (.int .i64 (x.2.2.2.1)) (.cons (.int .i64 (x.2.2.2.2.1)) (.nil))))), .row 27 (x.2.2.2.2.2.1), .row 144 (x.2.2.2.2.2.2)]⟩
def ab13_6 : (n : NSt Ty) → Option {x : List T59 × Int × Int × Int × Int × List (List Int) × List T143 // of13_6 x = n}
  | ⟨[.slice 60 v0, .ptr 100000 [], .int .i64 v1, .int .i64 v2], [.var (.cons (.row 100001) (.cons (.row 100002) (.cons (.int .i64 v3) (.cons (.int .i64 v4) (.nil))))), .row 27 v5, .row 144 v6]⟩ => some ⟨(v0, v1, v2, v3, v4, v5, v6), rfl⟩
  | _ => none
def on13_6a : Bool → NSt Ty := fun x => ⟨[.bool (x)], []⟩
def on13_6b : Unit → NSt Ty := fun x => ⟨[.undef], []⟩
def oa13_6 : (e : Ex) → (n : NSt Ty) → Option {y : (Bool) ⊕ (Unit) // oe2 .ret (.exit 0) y = e ∧ on2 on13_6a on13_6b y = n}
  | .ret, ⟨[.bool v0], []⟩ => some ⟨.inl v0, rfl, rfl⟩
  | .exit 0, ⟨[.undef], []⟩ => some ⟨.inr (), rfl, rfl⟩
  | _, _ => none
/-- a round of the loop 6 of function 13 -/
def R13_6 (k : Nat) (again : List T59 × Int × Int × Int × Int × List (List Int) × List T143 → Option ((Bool) ⊕ (Unit))) (x : List T59 × Int × Int × Int × Int × List (List Int) × List T143) : Option ((Bool) ⊕ (Unit)) :=
  match x with
  | (v0, v1, v2, v3, v4, v5, v6) => bif decide (v2 < (↑v0.length : Int)) then bif inRange v2 v0.length then bif (v0.getD v2.toNat (T59.mk (0 : Int) (0 : Int) (0 : Int) [])).1 == (0 : Int) then (F40 k ((v0.getD v2.toNat (T59.mk (0 : Int) (0 : Int) (0 : Int) [])).3, ())).bind fun r => (F39 k ((v0.getD v2.toNat (T59.mk (0 : Int) (0 : Int) (0 : Int) [])).2, r, v3, v4, v5, v6)).bind fun r => bif r.fst == (0 : Int) then (F51 k (r.snd.fst, r.snd.snd.fst, r.snd.snd.snd.fst, r.snd.snd.snd.snd)).bind fun r => bif r.fst != IntKind.i64.wrap (v1 + (1 : Int)) then some (Sum.inl false) else (F49 k (r.snd.fst, r.snd.snd.fst, r.snd.snd.snd.fst, r.snd.snd.snd.snd)).bind fun r => bif decide (r.fst < (0 : Int)) then some (Sum.inl false) else (F49 k (r.snd.fst, r.snd.snd.fst, r.snd.snd.snd.fst, r.snd.snd.snd.snd)).bind fun r => bif decide (r.fst > IntKind.i64.wrap (v1 + (1 : Int))) then some (Sum.inl false) else again (v0, IntKind.i64.wrap (v1 + (1 : Int)), IntKind.i64.wrap (v2 + (1 : Int)), r.snd.fst, r.snd.snd.fst, r.snd.snd.snd.fst, r.snd.snd.snd.snd) else (F51 k (r.snd.fst, r.snd.snd.fst, r.snd.snd.snd.fst, r.snd.snd.snd.snd)).bind fun r => bif r.fst != v1 then some (Sum.inl false) else (F49 k (r.snd.fst, r.snd.snd.fst, r.snd.snd.snd.fst, r.snd.snd.snd.snd)).bind fun r => bif decide (r.fst < (0 : Int)) then some (Sum.inl false) else (F49 k (r.snd.fst, r.snd.snd.fst, r.snd.snd.snd.fst, r.snd.snd.snd.snd)).bind fun r => bif decide (r.fst > v1) then some (Sum.inl false) else again (v0, v1, IntKind.i64.wrap (v2 + (1 : Int)), r.snd.fst, r.snd.snd.fst, r.snd.snd.snd.fst, r.snd.snd.snd.snd) else bif (v0.getD v2.toNat (T59.mk (0 : Int) (0 : Int) (0 : Int) [])).1 == (1 : Int) then (F42 k ((v0.getD v2.toNat (T59.mk (0 : Int) (0 : Int) (0 : Int) [])).2, v3, v4, v5, v6)).bind fun r => (F51 k (r.snd.snd.fst, r.snd.snd.snd.fst, r.snd.snd.snd.snd.fst, r.snd.snd.snd.snd.snd)).bind fun r => bif r.fst != v1 then some (Sum.inl false) else (F49 k (r.snd.fst, r.snd.snd.fst, r.snd.snd.snd.fst, r.snd.snd.snd.snd)).bind fun r => bif decide (r.fst < (0 : Int)) then some (Sum.inl false) else (F49 k (r.snd.fst, r.snd.snd.fst, r.snd.snd.snd.fst, r.snd.snd.snd.snd)).bind fun r => bif decide (r.fst > v1) then some (Sum.inl false) else again (v0, v1, IntKind.i64.wrap (v2 + (1 : Int)), r.snd.fst, r.snd.snd.fst, r.snd.snd.snd.fst, r.snd.snd.snd.snd) else bif (v0.getD v2.toNat (T59.mk (0 : Int) (0 : Int) (0 : Int) [])).1 == (2 : Int) then (F44 k (v3, v4, v5, v6)).bind fun r => bif r.fst == (0 : Int) then (F51 k (r.snd.fst, r.snd.snd.fst, r.snd.snd.snd.fst, r.snd.snd.snd.snd)).bind fun r => bif r.fst != IntKind.i64.wrap (v1 + (1 : Int)) then some (Sum.inl false) else (F49 k (r.snd.fst, r.snd.snd.fst, r.snd.snd.snd.fst, r.snd.snd.snd.snd)).bind fun r => bif decide (r.fst < (0 : Int)) then some (Sum.inl false) else (F49 k (r.snd.fst, r.snd.snd.fst, r.snd.snd.snd.fst, r.snd.snd.snd.snd)).bind fun r => bif decide (r.fst > IntKind.i64.wrap (v1 + (1 : Int))) then some (Sum.inl false) else again (v0, IntKind.i64.wrap (v1 + (1 : Int)), IntKind.i64.wrap (v2 + (1 : Int)), r.snd.fst, r.snd.snd.fst, r.snd.snd.snd.fst, r.snd.snd.snd.snd) else (F51 k (r.snd.fst, r.snd.snd.fst, r.snd.snd.snd.fst, r.snd.snd.snd.snd)).bind fun r => bif r.fst != v1 then some (Sum.inl false) else (F49 k (r.snd.fst, r.snd.snd.fst, r.snd.snd.snd.fst, r.snd.snd.snd.snd)).bind fun r => bif decide (r.fst < (0 : Int)) then some (Sum.inl false) else (F49 k (r.snd.fst, r.snd.snd.fst, r.snd.snd.snd.fst, r.snd.snd.snd.snd)).bind fun r => bif decide (r.fst > v1) then some (Sum.inl false) else again (v0, v1, IntKind.i64.wrap (v2 + (1 : Int)), r.snd.fst, r.snd.snd.fst, r.snd.snd.snd.fst, r.snd.snd.snd.snd) else bif (v0.getD v2.toNat (T59.mk (0 : Int) (0 : Int) (0 : Int) [])).1 == (3 : Int) then bif decide ((List.replicate (0 : Nat) (0 : Int)).length + (v0.getD v2.toNat (T59.mk (0 : Int) (0 : Int) (0 : Int) [])).4.length ≤ roomMost) then (F46 k (List.replicate (0 : Nat) (0 : Int) ++ (v0.getD v2.toNat (T59.mk (0 : Int) (0 : Int) (0 : Int) [])).4, v3, v4, v5, v6)).bind fun r => (F51 k (r.fst, r.snd.fst, r.snd.snd.fst, r.snd.snd.snd)).bind fun r => bif r.fst != v1 then some (Sum.inl false) else (F49 k (r.snd.fst, r.snd.snd.fst, r.snd.snd.snd.fst, r.snd.snd.snd.snd)).bind fun r => bif decide (r.fst < (0 : Int)) then some (Sum.inl false) else (F49 k (r.snd.fst, r.snd.snd.fst, r.snd.snd.snd.fst, r.snd.snd.snd.snd)).bind fun r => bif decide (r.fst > v1) then some (Sum.inl false) else again (v0, v1, IntKind.i64.wrap (v2 + (1 : Int)), r.snd.fst, r.snd.snd.fst, r.snd.snd.snd.fst, r.snd.snd.snd.snd) else none else bif (v0.getD v2.toNat (T59.mk (0 : Int) (0 : Int) (0 : Int) [])).1 == (4 : Int) then (F48 k ((v0.getD v2.toNat (T59.mk (0 : Int) (0 : Int) (0 : Int) [])).2, v3, v4, v5, v6)).bind fun r => (F51 k (r.fst, r.snd.fst, r.snd.snd.fst, r.snd.snd.snd)).bind fun r => bif r.fst != v1 then some (Sum.inl false) else (F49 k (r.snd.fst, r.snd.snd.fst, r.snd.snd.snd.fst, r.snd.snd.snd.snd)).bind fun r => bif decide (r.fst < (0 : Int)) then some (Sum.inl false) else (F49 k (r.snd.fst, r.snd.snd.fst, r.snd.snd.snd.fst, r.snd.snd.snd.snd)).bind fun r => bif decide (r.fst > v1) then some (Sum.inl false) else again (v0, v1, IntKind.i64.wrap (v2 + (1 : Int)), r.snd.fst, r.snd.snd.fst, r.snd.snd.snd.fst, r.snd.snd.snd.snd) else (F51 k (v3, v4, v5, v6)).bind fun r => bif r.fst != v1 then some (Sum.inl false) else (F49 k (r.snd.fst, r.snd.snd.fst, r.snd.snd.snd.fst, r.snd.snd.snd.snd)).bind fun r => bif decide (r.fst < (0 : Int)) then some (Sum.inl false) else (F49 k (r.snd.fst, r.snd.snd.fst, r.snd.snd.snd.fst, r.snd.snd.snd.snd)).bind fun r => bif decide (r.fst > v1) then some (Sum.inl false) else again (v0, v1, IntKind.i64.wrap (v2 + (1 : Int)), r.snd.fst, r.snd.snd.fst, r.snd.snd.snd.fst, r.snd.snd.snd.snd) else none else some (Sum.inr ())
def L13_6 (k n : Nat) (x : List T59 × Int × Int × Int × Int × List (List Int) × List T143) : Option ((Bool) ⊕ (Unit)) := iterR (R13_6 k) n x
noncomputable def ls13_6 : Nat → Option (LSum Ty) := addL 6 (lsum2 of13_6 ab13_6 L13_6 .ret on13_6a (.exit 0) on13_6b) noL
def kp13 : Nat → Keep := fun i => cond (i == 6) ⟨[0, 3, 5, 6], [2], 0⟩ (⟨[], [], 0⟩)
/-- "silt/siltlaw02.DevCounts" -/
def F13 (k : Nat) (x : (List T59) × Unit) : Option (Bool) :=
  match x with
  | (a0, ()) => (F37 k (6 : Int)).bind fun r => sumK r (fun a => bif a != (0 : Int) then bif a == (0 : Int) then some false else some false else bif a == (0 : Int) then some false else some false) fun b => bif b.fst != (0 : Int) then bif b.fst == (0 : Int) then (F36 k ()).bind fun r => some r else some false else (F35 k (a0, ())).bind fun r => bif !r then bif b.fst == (0 : Int) then (F36 k ()).bind fun r => some r else some false else (L13_6 k k (a0, (0 : Int), (0 : Int), b.snd.fst, b.snd.snd.fst, b.snd.snd.snd.fst, b.snd.snd.snd.snd)).bind fun r => sumK r (fun a => some a) fun b => (F36 k ()).bind fun r => some r
noncomputable def sp13 : FSpec Ty := spec ag13 rs13 F13
theorem bo13 : Try.f13.body = some (bodyOf Try.f13) := by kernel_rfl
theorem nd13 : nodupB ((loopsIn (bodyOf Try.f13)).map firstRegion) = true := by kernel_rfl
theorem lo13_6 : LSOK fs10 kp13 tab Try.f13 ls13_6 := lsum2_ok bo13 nd13 (LSOK.none) oa13_6 (R := R13_6) fun k again x => by kernel_rfl
theorem ok13 : FOK Try.prog tab 13 sp13 := spec_ok (keeps := kp13) tabOK fs10OK Try.func13 bo13 (by kernel_rfl) nd13 (lo13_6) (F := F13) fun k x => by kernel_rfl
noncomputable def fs13 : Nat → Option (FSpec Ty) := addF 13 sp13 fs10
theorem fs13OK : SpecsOK Try.prog tab fs13 := fs10OK.add ok13 Try.call13
def ag52 : Args Ty (Int × Int × Unit) := V.arg (tab.den 3) (V.arg (tab.den 3) (noArgs))
def rs52 : Res Ty tab (Int) false := V.oneRes (tab.den 3) (ent 3).ids (ent 3).plain (fun x _ => (ent 3).flat x rfl)
def kp52 : Nat → Keep := fun i => ⟨[], [], 0⟩
/-- "silt/siltkeep.Mod" -/
def F52 (k : Nat) (x : Int × Int × Unit) : Option (Int) :=
  match x with
  | (a0, a1, ()) => bif decide (a1 < (1 : Int)) then some (0 : Int) else bif a1 != (0 : Int) then bif a1 != (0 : Int) then some ((IntKind.i64.wrap (a0.tmod a1 + a1)).tmod a1) else none else none
noncomputable def sp52 : FSpec Ty := spec ag52 rs52 F52
theorem bo52 : Try.f52.body = some (bodyOf Try.f52) := by kernel_rfl
theorem nd52 : nodupB ((loopsIn (bodyOf Try.f52)).map firstRegion) = true := by kernel_rfl
theorem ok52 : FOK Try.prog tab 52 sp52 := spec_ok (keeps := kp52) tabOK fs13OK Try.func52 bo52 (by kernel_rfl) nd52 (LSOK.none) (F := F52) fun k x => by kernel_rfl
noncomputable def fs52 : Nat → Option (FSpec Ty) := addF 52 sp52 fs13
theorem fs52OK : SpecsOK Try.prog tab fs52 := fs13OK.add ok52 Try.call52
def ag11 : Args Ty ((List T59) × Unit) := V.arg (tab.den 50) (noArgs)
def rs11 : Res Ty tab (Bool) false := V.oneRes (tab.den 4) (ent 4).ids (ent 4).plain (fun x _ => (ent 4).flat x rfl)
def of11_6 : List T59 × Int × Int × Int × List (List Int) × List (List Int) × List T143 → NSt Ty := fun x => ⟨[.slice 60 (x.1), .ptr 100000 [], .ptr 100001 [], .int .i64 (x.2.1)], [.var (.cons (.row 100002) (.cons (.row 100003) (.cons (.int .i64 (x.2.2.1)) (.cons (.int .i64 (x.2.2.2.1)) (.nil))))), .var (.arr 27 7 (x.2.2.2.2.1)), .row 27 (x.2.2.2.2.2.1), .row 144 (x.2.2.2.2.2.2)]⟩
def ab11_6 : (n : NSt Ty) → Option {x : List T59 × Int × Int × Int × List (List Int) × List (List Int) × List T143 // of11_6 x = n}
  | ⟨[.slice 60 v0, .ptr 100000 [], .ptr 100001 [], .int .i64 v1], [.var (.cons (.row 100002) (.cons (.row 100003) (.cons (.int .i64 v2) (.cons (.int .i64 v3) (.nil))))), .var (.arr 27 7 v4), .row 27 v5, .row 144 v6]⟩ => some ⟨(v0, v1, v2, v3, v4, v5, v6), rfl⟩
  | _ => none
def on11_6a : Bool × Int × Int × List (List Int) × List (List Int) × List T143 → NSt Ty := fun x => ⟨[.bool (x.1), .ptr 100000 [], .ptr 100001 []], [.var (.cons (.row 100002) (.cons (.row 100003) (.cons (.int .i64 (x.2.1)) (.cons (.int .i64 (x.2.2.1)) (.nil))))), .var (.arr 27 7 (x.2.2.2.1)), .row 27 (x.2.2.2.2.1), .row 144 (x.2.2.2.2.2)]⟩
def on11_6b : Int × Int × List (List Int) × List (List Int) × List T143 → NSt Ty := fun x => ⟨[.undef, .ptr 100000 [], .ptr 100001 []], [.var (.cons (.row 100002) (.cons (.row 100003) (.cons (.int .i64 (x.1)) (.cons (.int .i64 (x.2.1)) (.nil))))), .var (.arr 27 7 (x.2.2.1)), .row 27 (x.2.2.2.1), .row 144 (x.2.2.2.2)]⟩
def oa11_6 : (e : Ex) → (n : NSt Ty) → Option {y : (Bool × Int × Int × List (List Int) × List (List Int) × List T143) ⊕ (Int × Int × List (List Int) × List (List Int) × List T143) // oe2 .ret (.exit 0) y = e ∧ on2 on11_6a on11_6b y = n}
  | .ret, ⟨[.bool v0, .ptr 100000 [], .ptr 100001 []], [.var (.cons (.row 100002) (.cons (.row 100003) (.cons (.int .i64 v1) (.cons (.int .i64 v2) (.nil))))), .var (.arr 27 7 v3), .row 27 v4, .row 144 v5]⟩ => some ⟨.inl (v0, v1, v2, v3, v4, v5), rfl, rfl⟩
  | .exit 0, ⟨[.undef, .ptr 100000 [], .ptr 100001 []], [.var (.cons (.row 100002) (.cons (.row 100003) (.cons (.int .i64 v0) (.cons (.int .i64 v1) (.nil))))), .var (.arr 27 7 v2), .row 27 v3, .row 144 v4]⟩ => some ⟨.inr (v0, v1, v2, v3, v4), rfl, rfl⟩
  | _, _ => none
/-- a round of the loop 6 of function 11 -/
def R11_6 (k : Nat) (again : List T59 × Int × Int × Int × List (List Int) × List (List Int) × List T143 → Option ((Bool × Int × Int × List (List Int) × List (List Int) × List T143) ⊕ (Int × Int × List (List Int) × List (List Int) × List T143))) (x : List T59 × Int × Int × Int × List (List Int) × List (List Int) × List T143) : Option ((Bool × Int × Int × List (List Int) × List (List Int) × List T143) ⊕ (Int × Int × List (List Int) × List (List Int) × List T143)) :=
  match x with
  | (v0, v1, v2, v3, v4, v5, v6) => bif decide (v1 < (↑v0.length : Int)) then bif inRange v1 v0.length then (F52 k ((v0.getD v1.toNat (T59.mk (0 : Int) (0 : Int) (0 : Int) [])).2, (7 : Int), ())).bind fun r => bif inRange v1 v0.length then bif (v0.getD v1.toNat (T59.mk (0 : Int) (0 : Int) (0 : Int) [])).1 == (0 : Int) then bif inRange v1 v0.length then (F40 k ((v0.getD v1.toNat (T59.mk (0 : Int) (0 : Int) (0 : Int) [])).3, ())).bind fun r_1 => (F39 k (r, r_1, v2, v3, v5, v6)).bind fun r_2 => bif r_2.fst == (0 : Int) then bif inRange v1 v0.length then (F40 k ((v0.getD v1.toNat (T59.mk (0 : Int) (0 : Int) (0 : Int) [])).3, ())).bind fun r_3 => bif inRange r (7 : Nat) then (F42 k (r, r_2.snd.fst, r_2.snd.snd.fst, r_2.snd.snd.snd.fst, r_2.snd.snd.snd.snd)).bind fun r_4 => bif r_4.snd.fst != (0 : Int) then some (Sum.inl (false, r_4.snd.snd.fst, r_4.snd.snd.snd.fst, v4.set r.toNat r_3, r_4.snd.snd.snd.snd.fst, r_4.snd.snd.snd.snd.snd)) else bif inRange r (7 : Nat) then bif !decide (r_4.fst = (v4.set r.toNat r_3).getD r.toNat (List.replicate (64 : Nat) (0 : Int))) then some (Sum.inl (false, r_4.snd.snd.fst, r_4.snd.snd.snd.fst, v4.set r.toNat r_3, r_4.snd.snd.snd.snd.fst, r_4.snd.snd.snd.snd.snd)) else again (v0, IntKind.i64.wrap (v1 + (1 : Int)), r_4.snd.snd.fst, r_4.snd.snd.snd.fst, v4.set r.toNat r_3, r_4.snd.snd.snd.snd.fst, r_4.snd.snd.snd.snd.snd) else none else none else none else (F42 k (r, r_2.snd.fst, r_2.snd.snd.fst, r_2.snd.snd.snd.fst, r_2.snd.snd.snd.snd)).bind fun r_3 => bif r_3.snd.fst != (0 : Int) then some (Sum.inl (false, r_3.snd.snd.fst, r_3.snd.snd.snd.fst, v4, r_3.snd.snd.snd.snd.fst, r_3.snd.snd.snd.snd.snd)) else bif inRange r (7 : Nat) then bif !decide (r_3.fst = v4.getD r.toNat (List.replicate (64 : Nat) (0 : Int))) then some (Sum.inl (false, r_3.snd.snd.fst, r_3.snd.snd.snd.fst, v4, r_3.snd.snd.snd.snd.fst, r_3.snd.snd.snd.snd.snd)) else again (v0, IntKind.i64.wrap (v1 + (1 : Int)), r_3.snd.snd.fst, r_3.snd.snd.snd.fst, v4, r_3.snd.snd.snd.snd.fst, r_3.snd.snd.snd.snd.snd) else none else none else bif (v0.getD v1.toNat (T59.mk (0 : Int) (0 : Int) (0 : Int) [])).1 == (2 : Int) then (F44 k (v2, v3, v5, v6)).bind fun r_1 => (F42 k (r, r_1.snd.fst, r_1.snd.snd.fst, r_1.snd.snd.snd.fst, r_1.snd.snd.snd.snd)).bind fun r_2 => bif r_2.snd.fst != (0 : Int) then some (Sum.inl (false, r_2.snd.snd.fst, r_2.snd.snd.snd.fst, v4, r_2.snd.snd.snd.snd.fst, r_2.snd.snd.snd.snd.snd)) else bif inRange r (7 : Nat) then bif !decide (r_2.fst = v4.getD r.toNat (List.replicate (64 : Nat) (0 : Int))) then some (Sum.inl (false, r_2.snd.snd.fst, r_2.snd.snd.snd.fst, v4, r_2.snd.snd.snd.snd.fst, r_2.snd.snd.snd.snd.snd)) else again (v0, IntKind.i64.wrap (v1 + (1 : Int)), r_2.snd.snd.fst, r_2.snd.snd.snd.fst, v4, r_2.snd.snd.snd.snd.fst, r_2.snd.snd.snd.snd.snd) else none else bif (v0.getD v1.toNat (T59.mk (0 : Int) (0 : Int) (0 : Int) [])).1 == (4 : Int) then (F48 k (r, v2, v3, v5, v6)).bind fun r_1 => (F42 k (r, r_1.fst, r_1.snd.fst, r_1.snd.snd.fst, r_1.snd.snd.snd)).bind fun r_2 => bif r_2.snd.fst != (0 : Int) then some (Sum.inl (false, r_2.snd.snd.fst, r_2.snd.snd.snd.fst, v4, r_2.snd.snd.snd.snd.fst, r_2.snd.snd.snd.snd.snd)) else bif inRange r (7 : Nat) then bif !decide (r_2.fst = v4.getD r.toNat (List.replicate (64 : Nat) (0 : Int))) then some (Sum.inl (false, r_2.snd.snd.fst, r_2.snd.snd.snd.fst, v4, r_2.snd.snd.snd.snd.fst, r_2.snd.snd.snd.snd.snd)) else again (v0, IntKind.i64.wrap (v1 + (1 : Int)), r_2.snd.snd.fst, r_2.snd.snd.snd.fst, v4, r_2.snd.snd.snd.snd.fst, r_2.snd.snd.snd.snd.snd) else none else (F42 k (r, v2, v3, v5, v6)).bind fun r_1 => bif r_1.snd.fst != (0 : Int) then some (Sum.inl (false, r_1.snd.snd.fst, r_1.snd.snd.snd.fst, v4, r_1.snd.snd.snd.snd.fst, r_1.snd.snd.snd.snd.snd)) else bif inRange r (7 : Nat) then bif !decide (r_1.fst = v4.getD r.toNat (List.replicate (64 : Nat) (0 : Int))) then some (Sum.inl (false, r_1.snd.snd.fst, r_1.snd.snd.snd.fst, v4, r_1.snd.snd.snd.snd.fst, r_1.snd.snd.snd.snd.snd)) else again (v0, IntKind.i64.wrap (v1 + (1 : Int)), r_1.snd.snd.fst, r_1.snd.snd.snd.fst, v4, r_1.snd.snd.snd.snd.fst, r_1.snd.snd.snd.snd.snd) else none else none else none else some (Sum.inr (v2, v3, v4, v5, v6))
def L11_6 (k n : Nat) (x : List T59 × Int × Int × Int × List (List Int) × List (List Int) × List T143) : Option ((Bool × Int × Int × List (List Int) × List (List Int) × List T143) ⊕ (Int × Int × List (List Int) × List (List Int) × List T143)) := iterR (R11_6 k) n x
noncomputable def ls11_6 : Nat → Option (LSum Ty) := addL 6 (lsum2 of11_6 ab11_6 L11_6 .ret on11_6a (.exit 0) on11_6b) noL
def of11_21 : Int × Int × Int × List (List Int) × List (List Int) × List T143 → NSt Ty := fun x => ⟨[.ptr 100000 [], .ptr 100001 [], .int .i64 (x.1)], [.var (.cons (.row 100002) (.cons (.row 100003) (.cons (.int .i64 (x.2.1)) (.cons (.int .i64 (x.2.2.1)) (.nil))))), .var (.arr 27 7 (x.2.2.2.1)), .row 27 (x.2.2.2.2.1), .row 144 (x.2.2.2.2.2)]⟩
def ab11_21 : (n : NSt Ty) → Option {x : Int × Int × Int × List (List Int) × List (List Int) × List T143 // of11_21 x = n}
  | ⟨[.ptr 100000 [], .ptr 100001 [], .int .i64 v0], [.var (.cons (.row 100002) (.cons (.row 100003) (.cons (.int .i64 v1) (.cons (.int .i64 v2) (.nil))))), .var (.arr 27 7 v3), .row 27 v4, .row 144 v5]⟩ => some ⟨(v0, v1, v2, v3, v4, v5), rfl⟩
  | _ => none
def on11_21a : Bool → NSt Ty := fun x => ⟨[.bool (x)], []⟩
def on11_21b : Unit → NSt Ty := fun x => ⟨[.undef], []⟩
def oa11_21 : (e : Ex) → (n : NSt Ty) → Option {y : (Bool) ⊕ (Unit) // oe2 .ret (.exit 3) y = e ∧ on2 on11_21a on11_21b y = n}
  | .ret, ⟨[.bool v0], []⟩ => some ⟨.inl v0, rfl, rfl⟩
  | .exit 3, ⟨[.undef], []⟩ => some ⟨.inr (), rfl, rfl⟩
  | _, _ => none
/-- a round of the loop 21 of function 11 -/
def R11_21 (k : Nat) (again : Int × Int × Int × List (List Int) × List (List Int) × List T143 → Option ((Bool) ⊕ (Unit))) (x : Int × Int × Int × List (List Int) × List (List Int) × List T143) : Option ((Bool) ⊕ (Unit)) :=
  match x with
  | (v0, v1, v2, v3, v4, v5) => bif decide (v0 < (7 : Int)) then (F42 k (v0, v1, v2, v4, v5)).bind fun r => bif r.snd.fst != (0 : Int) then some (Sum.inl false) else bif inRange v0 (7 : Nat) then bif !decide (r.fst = v3.getD v0.toNat (List.replicate (64 : Nat) (0 : Int))) then some (Sum.inl false) else again (IntKind.i64.wrap (v0 + (1 : Int)), r.snd.snd.fst, r.snd.snd.snd.fst, v3, r.snd.snd.snd.snd.fst, r.snd.snd.snd.snd.snd) else none else some (Sum.inr ())
def L11_21 (k n : Nat) (x : Int × Int × Int × List (List Int) × List (List Int) × List T143) : Option ((Bool) ⊕ (Unit)) := iterR (R11_21 k) n x
noncomputable def ls11_21 : Nat → Option (LSum Ty) := addL 21 (lsum2 of11_21 ab11_21 L11_21 .ret on11_21a (.exit 3) on11_21b) ls11_6
def kp11 : Nat → Keep := fun i => cond (i == 6) ⟨[0, 3, 5, 6], [2, 3, 5], 0⟩ (cond (i == 21) ⟨[3, 5, 10], [2], 0⟩ (⟨[], [], 0⟩))
/-- "silt/siltlaw02.DevReads" -/
def F11 (k : Nat) (x : (List T59) × Unit) : Option (Bool) :=
  match x with
  | (a0, ()) => (F37 k (7 : Int)).bind fun r => sumK r (fun a => bif a != (0 : Int) then bif a == (0 : Int) then some false else some false else bif a == (0 : Int) then some false else some false) fun b => bif b.fst != (0 : Int) then bif b.fst == (0 : Int) then (F36 k ()).bind fun r => some r else some false else (F35 k (a0, ())).bind fun r => bif !r then bif b.fst == (0 : Int) then (F36 k ()).bind fun r => some r else some false else (L11_6 k k (a0, (0 : Int), b.snd.fst, b.snd.snd.fst, List.replicate (7 : Nat) (List.replicate (64 : Nat) (0 : Int)), b.snd.snd.snd.fst, b.snd.snd.snd.snd)).bind fun r => sumK r (fun a => some a.fst) fun b => (L11_21 k k ((0 : Int), b.fst, b.snd.fst, b.snd.snd.fst, b.snd.snd.snd.fst, b.snd.snd.snd.snd)).bind fun r => sumK r (fun a => some a) fun b => (F36 k ()).bind fun r => some r
noncomputable def sp11 : FSpec Ty := spec ag11 rs11 F11
theorem bo11 : Try.f11.body = some (bodyOf Try.f11) := by kernel_rfl
theorem nd11 : nodupB ((loopsIn (bodyOf Try.f11)).map firstRegion) = true := by kernel_rfl
theorem lo11_6 : LSOK fs52 kp11 tab Try.f11 ls11_6 := lsum2_ok bo11 nd11 (LSOK.none) oa11_6 (R := R11_6) fun k again x => by kernel_rfl
theorem lo11_21 : LSOK fs52 kp11 tab Try.f11 ls11_21 := lsum2_ok bo11 nd11 (lo11_6) oa11_21 (R := R11_21) fun k again x => by kernel_rfl
theorem ok11 : FOK Try.prog tab 11 sp11 := spec_ok (keeps := kp11) tabOK fs52OK Try.func11 bo11 (by kernel_rfl) nd11 (lo11_21) (F := F11) fun k x => by kernel_rfl
noncomputable def fs11 : Nat → Option (FSpec Ty) := addF 11 sp11 fs52
theorem fs11OK : SpecsOK Try.prog tab fs11 := fs52OK.add ok11 Try.call11
def ag9 : Args Ty (Int × (List T59) × Unit) := V.arg (tab.den 5) (V.arg (tab.den 50) (noArgs))
def rs9 : Res Ty tab (Bool) false := V.oneRes (tab.den 4) (ent 4).ids (ent 4).plain (fun x _ => (ent 4).flat x rfl)
def of9_9 : List T59 × Int × Int × Int × Int × Int × List (List Int) × List (List Int) × List T143 → NSt Ty := fun x => ⟨[.slice 60 (x.1), .ptr 100000 [], .int .i64 (x.2.1), .int .i64 (x.2.2.1), .ptr 100001 [], .int .i64 (x.2.2.2.1)], [.var (.cons (.row 100002) (.cons (.row 100003) (.cons (.int .i64 (x.2.2.2.2.1)) (.cons (.int .i64 (x.2.2.2.2.2.1)) (.nil))))), .var (.arr 27 5 (x.2.2.2.2.2.2.1)), .row 27 (x.2.2.2.2.2.2.2.1), .row 144 (x.2.2.2.2.2.2.2.2)]⟩
def ab9_9 : (n : NSt Ty) → Option {x : List T59 × Int × Int × Int × Int × Int × List (List Int) × List (List Int) × List T143 // of9_9 x = n}
  | ⟨[.slice 60 v0, .ptr 100000 [], .int .i64 v1, .int .i64 v2, .ptr 100001 [], .int .i64 v3], [.var (.cons (.row 100002) (.cons (.row 100003) (.cons (.int .i64 v4) (.cons (.int .i64 v5) (.nil))))), .var (.arr 27 5 v6), .row 27 v7, .row 144 v8]⟩ => some ⟨(v0, v1, v2, v3, v4, v5, v6, v7, v8), rfl⟩
  | _ => none
def on9_9a : Bool × Int × Int × Int × Int × List (List Int) × List T143 → NSt Ty := fun x => ⟨[.bool (x.1), .ptr 100000 [], .int .i64 (x.2.1), .int .i64 (x.2.2.1)], [.var (.cons (.row 100001) (.cons (.row 100002) (.cons (.int .i64 (x.2.2.2.1)) (.cons (.int .i64 (x.2.2.2.2.1)) (.nil))))), .row 27 (x.2.2.2.2.2.1), .row 144 (x.2.2.2.2.2.2)]⟩
def on9_9b : Int × Int × Int × Int × List (List Int) × List T143 → NSt Ty := fun x => ⟨[.undef, .ptr 100000 [], .int .i64 (x.1), .int .i64 (x.2.1)], [.var (.cons (.row 100001) (.cons (.row 100002) (.cons (.int .i64 (x.2.2.1)) (.cons (.int .i64 (x.2.2.2.1)) (.nil))))), .row 27 (x.2.2.2.2.1), .row 144 (x.2.2.2.2.2)]⟩
def oa9_9 : (e : Ex) → (n : NSt Ty) → Option {y : (Bool × Int × Int × Int × Int × List (List Int) × List T143) ⊕ (Int × Int × Int × Int × List (List Int) × List T143) // oe2 .ret (.exit 0) y = e ∧ on2 on9_9a on9_9b y = n}
  | .ret, ⟨[.bool v0, .ptr 100000 [], .int .i64 v1, .int .i64 v2], [.var (.cons (.row 100001) (.cons (.row 100002) (.cons (.int .i64 v3) (.cons (.int .i64 v4) (.nil))))), .row 27 v5, .row 144 v6]⟩ => some ⟨.inl (v0, v1, v2, v3, v4, v5, v6), rfl, rfl⟩
  | .exit 0, ⟨[.undef, .ptr 100000 [], .int .i64 v0, .int .i64 v1], [.var (.cons (.row 100001) (.cons (.row 100002) (.cons (.int .i64 v2) (.cons (.int .i64 v3) (.nil))))), .row 27 v4, .row 144 v5]⟩ => some ⟨.inr (v0, v1, v2, v3, v4, v5), rfl, rfl⟩
  | _, _ => none
/-- a round of the loop 9 of function 9 -/
def R9_9 (k : Nat) (again : List T59 × Int × Int × Int × Int × Int × List (List Int) × List (List Int) × List T143 → Option ((Bool × Int × Int × Int × Int × List (List Int) × List T143) ⊕ (Int × Int × Int × Int × List (List Int) × List T143))) (x : List T59 × Int × Int × Int × Int × Int × List (List Int) × List (List Int) × List T143) : Option ((Bool × Int × Int × Int × Int × List (List Int) × List T143) ⊕ (Int × Int × Int × Int × List (List Int) × List T143)) :=
  match x with
  | (v0, v1, v2, v3, v4, v5, v6, v7, v8) => bif decide (v3 < (↑v0.length : Int)) then bif inRange v3 v0.length then (F52 k ((v0.getD v3.toNat (T59.mk (0 : Int) (0 : Int) (0 : Int) [])).2, (5 : Int), ())).bind fun r => (F49 k (v4, v5, v7, v8)).bind fun r_1 => bif inRange v3 v0.length then bif (v0.getD v3.toNat (T59.mk (0 : Int) (0 : Int) (0 : Int) [])).1 == (0 : Int) then bif inRange v3 v0.length then (F40 k ((v0.getD v3.toNat (T59.mk (0 : Int) (0 : Int) (0 : Int) [])).3, ())).bind fun r_2 => (F39 k (r, r_2, r_1.snd.fst, r_1.snd.snd.fst, r_1.snd.snd.snd.fst, r_1.snd.snd.snd.snd)).bind fun r_3 => bif r_3.fst == (0 : Int) then bif inRange v3 v0.length then (F40 k ((v0.getD v3.toNat (T59.mk (0 : Int) (0 : Int) (0 : Int) [])).3, ())).bind fun r_4 => bif inRange r (5 : Nat) then bif !(r_3.fst == (12 : Int)) == (v2 == v1) then some (Sum.inl (false, v1, v2, r_3.snd.fst, r_3.snd.snd.fst, r_3.snd.snd.snd.fst, r_3.snd.snd.snd.snd)) else bif r_3.fst != (0 : Int) then bif r_3.fst != (12 : Int) then some (Sum.inl (false, v1, v2, r_3.snd.fst, r_3.snd.snd.fst, r_3.snd.snd.snd.fst, r_3.snd.snd.snd.snd)) else (F49 k (r_3.snd.fst, r_3.snd.snd.fst, r_3.snd.snd.snd.fst, r_3.snd.snd.snd.snd)).bind fun r_5 => bif r_5.fst != r_1.fst then some (Sum.inl (false, v1, v2, r_5.snd.fst, r_5.snd.snd.fst, r_5.snd.snd.snd.fst, r_5.snd.snd.snd.snd)) else again (v0, v1, IntKind.i64.wrap (v2 + (1 : Int)), IntKind.i64.wrap (v3 + (1 : Int)), r_5.snd.fst, r_5.snd.snd.fst, v6.set r.toNat r_4, r_5.snd.snd.snd.fst, r_5.snd.snd.snd.snd) else again (v0, v1, IntKind.i64.wrap (v2 + (1 : Int)), IntKind.i64.wrap (v3 + (1 : Int)), r_3.snd.fst, r_3.snd.snd.fst, v6.set r.toNat r_4, r_3.snd.snd.snd.fst, r_3.snd.snd.snd.snd) else none else none else bif !(r_3.fst == (12 : Int)) == (v2 == v1) then some (Sum.inl (false, v1, v2, r_3.snd.fst, r_3.snd.snd.fst, r_3.snd.snd.snd.fst, r_3.snd.snd.snd.snd)) else bif r_3.fst != (0 : Int) then bif r_3.fst != (12 : Int) then some (Sum.inl (false, v1, v2, r_3.snd.fst, r_3.snd.snd.fst, r_3.snd.snd.snd.fst, r_3.snd.snd.snd.snd)) else (F49 k (r_3.snd.fst, r_3.snd.snd.fst, r_3.snd.snd.snd.fst, r_3.snd.snd.snd.snd)).bind fun r => bif r.fst != r_1.fst then some (Sum.inl (false, v1, v2, r.snd.fst, r.snd.snd.fst, r.snd.snd.snd.fst, r.snd.snd.snd.snd)) else again (v0, v1, IntKind.i64.wrap (v2 + (1 : Int)), IntKind.i64.wrap (v3 + (1 : Int)), r.snd.fst, r.snd.snd.fst, v6, r.snd.snd.snd.fst, r.snd.snd.snd.snd) else again (v0, v1, IntKind.i64.wrap (v2 + (1 : Int)), IntKind.i64.wrap (v3 + (1 : Int)), r_3.snd.fst, r_3.snd.snd.fst, v6, r_3.snd.snd.snd.fst, r_3.snd.snd.snd.snd) else none else bif (v0.getD v3.toNat (T59.mk (0 : Int) (0 : Int) (0 : Int) [])).1 == (2 : Int) then (F44 k (r_1.snd.fst, r_1.snd.snd.fst, r_1.snd.snd.snd.fst, r_1.snd.snd.snd.snd)).bind fun r => bif !(r.fst == (12 : Int)) == (v2 == v1) then some (Sum.inl (false, v1, v2, r.snd.fst, r.snd.snd.fst, r.snd.snd.snd.fst, r.snd.snd.snd.snd)) else bif r.fst != (0 : Int) then bif r.fst != (12 : Int) then some (Sum.inl (false, v1, v2, r.snd.fst, r.snd.snd.fst, r.snd.snd.snd.fst, r.snd.snd.snd.snd)) else (F49 k (r.snd.fst, r.snd.snd.fst, r.snd.snd.snd.fst, r.snd.snd.snd.snd)).bind fun r => bif r.fst != r_1.fst then some (Sum.inl (false, v1, v2, r.snd.fst, r.snd.snd.fst, r.snd.snd.snd.fst, r.snd.snd.snd.snd)) else again (v0, v1, IntKind.i64.wrap (v2 + (1 : Int)), IntKind.i64.wrap (v3 + (1 : Int)), r.snd.fst, r.snd.snd.fst, v6, r.snd.snd.snd.fst, r.snd.snd.snd.snd) else again (v0, v1, IntKind.i64.wrap (v2 + (1 : Int)), IntKind.i64.wrap (v3 + (1 : Int)), r.snd.fst, r.snd.snd.fst, v6, r.snd.snd.snd.fst, r.snd.snd.snd.snd) else (F42 k (r, r_1.snd.fst, r_1.snd.snd.fst, r_1.snd.snd.snd.fst, r_1.snd.snd.snd.snd)).bind fun r_2 => bif r_2.snd.fst != (0 : Int) then some (Sum.inl (false, v1, v2, r_2.snd.snd.fst, r_2.snd.snd.snd.fst, r_2.snd.snd.snd.snd.fst, r_2.snd.snd.snd.snd.snd)) else bif inRange r (5 : Nat) then bif !decide (r_2.fst = v6.getD r.toNat (List.replicate (64 : Nat) (0 : Int))) then some (Sum.inl (false, v1, v2, r_2.snd.snd.fst, r_2.snd.snd.snd.fst, r_2.snd.snd.snd.snd.fst, r_2.snd.snd.snd.snd.snd)) else again (v0, v1, v2, IntKind.i64.wrap (v3 + (1 : Int)), r_2.snd.snd.fst, r_2.snd.snd.snd.fst, v6, r_2.snd.snd.snd.snd.fst, r_2.snd.snd.snd.snd.snd) else none else none else none else some (Sum.inr (v1, v2, v4, v5, v7, v8))
def L9_9 (k n : Nat) (x : List T59 × Int × Int × Int × Int × Int × List (List Int) × List (List Int) × List T143) : Option ((Bool × Int × Int × Int × Int × List (List Int) × List T143) ⊕ (Int × Int × Int × Int × List (List Int) × List T143)) := iterR (R9_9 k) n x
noncomputable def ls9_9 : Nat → Option (LSum Ty) := addL 9 (lsum2 of9_9 ab9_9 L9_9 .ret on9_9a (.exit 0) on9_9b) noL
def kp9 : Nat → Keep := fun i => cond (i == 9) ⟨[1, 5, 7, 8, 9, 10], [4, 5, 7, 8], 0⟩ (⟨[], [], 0⟩)
/-- "silt/siltlaw02.DevFails" -/
def F9 (k : Nat) (x : Int × (List T59) × Unit) : Option (Bool) :=
  match x with
  | (a0, a1, ()) => (F37 k (5 : Int)).bind fun r => sumK r (fun a => bif a != (0 : Int) then bif a == (0 : Int) then some false else some false else bif a == (0 : Int) then some false else some false) fun b => bif b.fst != (0 : Int) then bif b.fst == (0 : Int) then (F36 k ()).bind fun r => some r else some false else (F35 k (a1, ())).bind fun r => bif !r then bif b.fst == (0 : Int) then (F36 k ()).bind fun r => some r else some false else (F48 k ((IntKind.i64.wrap a0).tmod (30 : Int), b.snd.fst, b.snd.snd.fst, b.snd.snd.snd.fst, b.snd.snd.snd.snd)).bind fun r => (L9_9 k k (a1, (IntKind.i64.wrap a0).tmod (30 : Int), (0 : Int), (0 : Int), r.fst, r.snd.fst, List.replicate (5 : Nat) (List.replicate (64 : Nat) (0 : Int)), r.snd.snd.fst, r.snd.snd.snd)).bind fun r => sumK r (fun a => some a.fst) fun b => bif decide (b.snd.fst > b.fst) then (F51 k (b.snd.snd.fst, b.snd.snd.snd.fst, b.snd.snd.snd.snd.fst, b.snd.snd.snd.snd.snd)).bind fun r => bif r.fst == IntKind.i64.wrap (b.snd.fst - (1 : Int)) then (F36 k ()).bind fun r => some r else some false else (F51 k (b.snd.snd.fst, b.snd.snd.snd.fst, b.snd.snd.snd.snd.fst, b.snd.snd.snd.snd.snd)).bind fun r => bif r.fst == b.snd.fst then (F36 k ()).bind fun r => some r else some false
noncomputable def sp9 : FSpec Ty := spec ag9 rs9 F9
theorem bo9 : Try.f9.body = some (bodyOf Try.f9) := by kernel_rfl
theorem nd9 : nodupB ((loopsIn (bodyOf Try.f9)).map firstRegion) = true := by kernel_rfl
theorem lo9_9 : LSOK fs11 kp9 tab Try.f9 ls9_9 := lsum2_ok bo9 nd9 (LSOK.none) oa9_9 (R := R9_9) fun k again x => by kernel_rfl
theorem ok9 : FOK Try.prog tab 9 sp9 := spec_ok (keeps := kp9) tabOK fs11OK Try.func9 bo9 (by kernel_rfl) nd9 (lo9_9) (F := F9) fun k x => by kernel_rfl
noncomputable def fs9 : Nat → Option (FSpec Ty) := addF 9 sp9 fs11
theorem fs9OK : SpecsOK Try.prog tab fs9 := fs11OK.add ok9 Try.call9
def ag8 : Args Ty ((List T59) × (List T59) × (List Int) × Unit) := V.arg (tab.den 50) (V.arg (tab.den 50) (V.arg (tab.den 58) (noArgs)))
def rs8 : Res Ty tab (Bool) false := V.oneRes (tab.den 4) (ent 4).ids (ent 4).plain (fun x _ => (ent 4).flat x rfl)
def of8_6 : List T59 × List T59 × List Int × Int × Int × Int × List Int × List (List Int) × List T143 → NSt Ty := fun x => ⟨[.slice 60 (x.1), .slice 60 (x.2.1), .slice 5 (x.2.2.1), .ptr 100000 [], .ptr 100001 [], .int .i64 (x.2.2.2.1)], [.var (.cons (.row 100002) (.cons (.row 100003) (.cons (.int .i64 (x.2.2.2.2.1)) (.cons (.int .i64 (x.2.2.2.2.2.1)) (.nil))))), .var (.arr 5 6 (x.2.2.2.2.2.2.1)), .row 27 (x.2.2.2.2.2.2.2.1), .row 144 (x.2.2.2.2.2.2.2.2)]⟩
def ab8_6 : (n : NSt Ty) → Option {x : List T59 × List T59 × List Int × Int × Int × Int × List Int × List (List Int) × List T143 // of8_6 x = n}
  | ⟨[.slice 60 v0, .slice 60 v1, .slice 5 v2, .ptr 100000 [], .ptr 100001 [], .int .i64 v3], [.var (.cons (.row 100002) (.cons (.row 100003) (.cons (.int .i64 v4) (.cons (.int .i64 v5) (.nil))))), .var (.arr 5 6 v6), .row 27 v7, .row 144 v8]⟩ => some ⟨(v0, v1, v2, v3, v4, v5, v6, v7, v8), rfl⟩
  | _ => none
def on8_6a : List T59 × List Int × Bool × Int × Int × List Int × List (List Int) × List T143 → NSt Ty := fun x => ⟨[.slice 60 (x.1), .slice 5 (x.2.1), .bool (x.2.2.1), .ptr 100000 [], .ptr 100001 []], [.var (.cons (.row 100002) (.cons (.row 100003) (.cons (.int .i64 (x.2.2.2.1)) (.cons (.int .i64 (x.2.2.2.2.1)) (.nil))))), .var (.arr 5 6 (x.2.2.2.2.2.1)), .row 27 (x.2.2.2.2.2.2.1), .row 144 (x.2.2.2.2.2.2.2)]⟩
def on8_6b : List T59 × List Int × Int × Int × List Int × List (List Int) × List T143 → NSt Ty := fun x => ⟨[.slice 60 (x.1), .slice 5 (x.2.1), .undef, .ptr 100000 [], .ptr 100001 []], [.var (.cons (.row 100002) (.cons (.row 100003) (.cons (.int .i64 (x.2.2.1)) (.cons (.int .i64 (x.2.2.2.1)) (.nil))))), .var (.arr 5 6 (x.2.2.2.2.1)), .row 27 (x.2.2.2.2.2.1), .row 144 (x.2.2.2.2.2.2)]⟩
def oa8_6 : (e : Ex) → (n : NSt Ty) → Option {y : (List T59 × List Int × Bool × Int × Int × List Int × List (List Int) × List T143) ⊕ (List T59 × List Int × Int × Int × List Int × List (List Int) × List T143) // oe2 .ret (.exit 0) y = e ∧ on2 on8_6a on8_6b y = n}
  | .ret, ⟨[.slice 60 v0, .slice 5 v1, .bool v2, .ptr 100000 [], .ptr 100001 []], [.var (.cons (.row 100002) (.cons (.row 100003) (.cons (.int .i64 v3) (.cons (.int .i64 v4) (.nil))))), .var (.arr 5 6 v5), .row 27 v6, .row 144 v7]⟩ => some ⟨.inl (v0, v1, v2, v3, v4, v5, v6, v7), rfl, rfl⟩
  | .exit 0, ⟨[.slice 60 v0, .slice 5 v1, .undef, .ptr 100000 [], .ptr 100001 []], [.var (.cons (.row 100002) (.cons (.row 100003) (.cons (.int .i64 v2) (.cons (.int .i64 v3) (.nil))))), .var (.arr 5 6 v4), .row 27 v5, .row 144 v6]⟩ => some ⟨.inr (v0, v1, v2, v3, v4, v5, v6), rfl, rfl⟩
  | _, _ => none
/-- a round of the loop 6 of function 8 -/
def R8_6 (k : Nat) (again : List T59 × List T59 × List Int × Int × Int × Int × List Int × List (List Int) × List T143 → Option ((List T59 × List Int × Bool × Int × Int × List Int × List (List Int) × List T143) ⊕ (List T59 × List Int × Int × Int × List Int × List (List Int) × List T143))) (x : List T59 × List T59 × List Int × Int × Int × Int × List Int × List (List Int) × List T143) : Option ((List T59 × List Int × Bool × Int × Int × List Int × List (List Int) × List T143) ⊕ (List T59 × List Int × Int × Int × List Int × List (List Int) × List T143)) :=
  match x with
  | (v0, v1, v2, v3, v4, v5, v6, v7, v8) => bif decide (v3 < (↑v0.length : Int)) then bif inRange v3 v0.length then (F52 k ((v0.getD v3.toNat (T59.mk (0 : Int) (0 : Int) (0 : Int) [])).2, (6 : Int), ())).bind fun r => bif inRange v3 v0.length then (F40 k ((v0.getD v3.toNat (T59.mk (0 : Int) (0 : Int) (0 : Int) [])).3, ())).bind fun r_1 => (F39 k (r, r_1, v4, v5, v7, v8)).bind fun r_2 => bif r_2.fst != (0 : Int) then some (Sum.inl (v1, v2, false, r_2.snd.fst, r_2.snd.snd.fst, v6, r_2.snd.snd.snd.fst, r_2.snd.snd.snd.snd)) else bif inRange v3 v0.length then bif inRange r (6 : Nat) then again (v0, v1, v2, IntKind.i64.wrap (v3 + (1 : Int)), r_2.snd.fst, r_2.snd.snd.fst, v6.set r.toNat (v0.getD v3.toNat (T59.mk (0 : Int) (0 : Int) (0 : Int) [])).3, r_2.snd.snd.snd.fst, r_2.snd.snd.snd.snd) else none else none else none else none else some (Sum.inr (v1, v2, v4, v5, v6, v7, v8))
def L8_6 (k n : Nat) (x : List T59 × List T59 × List Int × Int × Int × Int × List Int × List (List Int) × List T143) : Option ((List T59 × List Int × Bool × Int × Int × List Int × List (List Int) × List T143) ⊕ (List T59 × List Int × Int × Int × List Int × List (List Int) × List T143)) := iterR (R8_6 k) n x
noncomputable def ls8_6 : Nat → Option (LSum Ty) := addL 6 (lsum2 of8_6 ab8_6 L8_6 .ret on8_6a (.exit 0) on8_6b) noL
def of8_15 : List T59 × List Int × Int × Int × Int × List Int × List (List Int) × List T143 → NSt Ty := fun x => ⟨[.slice 60 (x.1), .slice 5 (x.2.1), .ptr 100000 [], .ptr 100001 [], .int .i64 (x.2.2.1)], [.var (.cons (.row 100002) (.cons (.row 100003) (.cons (.int .i64 (x.2.2.2.1)) (.cons (.int .i64 (x.2.2.2.2.1)) (.nil))))), .var (.arr 5 6 (x.2.2.2.2.2.1)), .row 27 (x.2.2.2.2.2.2.1), .row 144 (x.2.2.2.2.2.2.2)]⟩
def ab8_15 : (n : NSt Ty) → Option {x : List T59 × List Int × Int × Int × Int × List Int × List (List Int) × List T143 // of8_15 x = n}
  | ⟨[.slice 60 v0, .slice 5 v1, .ptr 100000 [], .ptr 100001 [], .int .i64 v2], [.var (.cons (.row 100002) (.cons (.row 100003) (.cons (.int .i64 v3) (.cons (.int .i64 v4) (.nil))))), .var (.arr 5 6 v5), .row 27 v6, .row 144 v7]⟩ => some ⟨(v0, v1, v2, v3, v4, v5, v6, v7), rfl⟩
  | _ => none
def on8_15a : List Int × Bool × Int × Int × List Int × List (List Int) × List T143 → NSt Ty := fun x => ⟨[.slice 5 (x.1), .bool (x.2.1), .ptr 100000 [], .ptr 100001 []], [.var (.cons (.row 100002) (.cons (.row 100003) (.cons (.int .i64 (x.2.2.1)) (.cons (.int .i64 (x.2.2.2.1)) (.nil))))), .var (.arr 5 6 (x.2.2.2.2.1)), .row 27 (x.2.2.2.2.2.1), .row 144 (x.2.2.2.2.2.2)]⟩
def on8_15b : List Int × Int × Int × List Int × List (List Int) × List T143 → NSt Ty := fun x => ⟨[.slice 5 (x.1), .undef, .ptr 100000 [], .ptr 100001 []], [.var (.cons (.row 100002) (.cons (.row 100003) (.cons (.int .i64 (x.2.1)) (.cons (.int .i64 (x.2.2.1)) (.nil))))), .var (.arr 5 6 (x.2.2.2.1)), .row 27 (x.2.2.2.2.1), .row 144 (x.2.2.2.2.2)]⟩
def oa8_15 : (e : Ex) → (n : NSt Ty) → Option {y : (List Int × Bool × Int × Int × List Int × List (List Int) × List T143) ⊕ (List Int × Int × Int × List Int × List (List Int) × List T143) // oe2 .ret (.exit 2) y = e ∧ on2 on8_15a on8_15b y = n}
  | .ret, ⟨[.slice 5 v0, .bool v1, .ptr 100000 [], .ptr 100001 []], [.var (.cons (.row 100002) (.cons (.row 100003) (.cons (.int .i64 v2) (.cons (.int .i64 v3) (.nil))))), .var (.arr 5 6 v4), .row 27 v5, .row 144 v6]⟩ => some ⟨.inl (v0, v1, v2, v3, v4, v5, v6), rfl, rfl⟩
  | .exit 2, ⟨[.slice 5 v0, .undef, .ptr 100000 [], .ptr 100001 []], [.var (.cons (.row 100002) (.cons (.row 100003) (.cons (.int .i64 v1) (.cons (.int .i64 v2) (.nil))))), .var (.arr 5 6 v3), .row 27 v4, .row 144 v5]⟩ => some ⟨.inr (v0, v1, v2, v3, v4, v5), rfl, rfl⟩
  | _, _ => none
/-- a round of the loop 15 of function 8 -/
def R8_15 (k : Nat) (again : List T59 × List Int × Int × Int × Int × List Int × List (List Int) × List T143 → Option ((List Int × Bool × Int × Int × List Int × List (List Int) × List T143) ⊕ (List Int × Int × Int × List Int × List (List Int) × List T143))) (x : List T59 × List Int × Int × Int × Int × List Int × List (List Int) × List T143) : Option ((List Int × Bool × Int × Int × List Int × List (List Int) × List T143) ⊕ (List Int × Int × Int × List Int × List (List Int) × List T143)) :=
  match x with
  | (v0, v1, v2, v3, v4, v5, v6, v7) => bif decide (v2 < (↑v0.length : Int)) then bif inRange v2 v0.length then (F52 k ((v0.getD v2.toNat (T59.mk (0 : Int) (0 : Int) (0 : Int) [])).2, (6 : Int), ())).bind fun r => bif inRange v2 v0.length then (F40 k ((v0.getD v2.toNat (T59.mk (0 : Int) (0 : Int) (0 : Int) [])).3, ())).bind fun r_1 => (F39 k (r, r_1, v3, v4, v6, v7)).bind fun r_2 => bif r_2.fst != (0 : Int) then some (Sum.inl (v1, false, r_2.snd.fst, r_2.snd.snd.fst, v5, r_2.snd.snd.snd.fst, r_2.snd.snd.snd.snd)) else bif decide (v2 < (↑v1.length : Int)) then bif inRange v2 v1.length then bif Int.tmod (v1.getD v2.toNat (0 : Int)) (2 : Int) == (1 : Int) then bif inRange v2 v0.length then bif inRange r (6 : Nat) then again (v0, v1, IntKind.i64.wrap (v2 + (1 : Int)), r_2.snd.fst, r_2.snd.snd.fst, v5.set r.toNat (v0.getD v2.toNat (T59.mk (0 : Int) (0 : Int) (0 : Int) [])).3, r_2.snd.snd.snd.fst, r_2.snd.snd.snd.snd) else none else none else again (v0, v1, IntKind.i64.wrap (v2 + (1 : Int)), r_2.snd.fst, r_2.snd.snd.fst, v5, r_2.snd.snd.snd.fst, r_2.snd.snd.snd.snd) else none else again (v0, v1, IntKind.i64.wrap (v2 + (1 : Int)), r_2.snd.fst, r_2.snd.snd.fst, v5, r_2.snd.snd.snd.fst, r_2.snd.snd.snd.snd) else none else none else some (Sum.inr (v1, v3, v4, v5, v6, v7))
def L8_15 (k n : Nat) (x : List T59 × List Int × Int × Int × Int × List Int × List (List Int) × List T143) : Option ((List Int × Bool × Int × Int × List Int × List (List Int) × List T143) ⊕ (List Int × Int × Int × List Int × List (List Int) × List T143)) := iterR (R8_15 k) n x
noncomputable def ls8_15 : Nat → Option (LSum Ty) := addL 15 (lsum2 of8_15 ab8_15 L8_15 .ret on8_15a (.exit 2) on8_15b) ls8_6
def of8_24 : Int × Int × Int × List Int × List (List Int) × List T143 → NSt Ty := fun x => ⟨[.ptr 100000 [], .ptr 100001 [], .int .i64 (x.1)], [.var (.cons (.row 100002) (.cons (.row 100003) (.cons (.int .i64 (x.2.1)) (.cons (.int .i64 (x.2.2.1)) (.nil))))), .var (.arr 5 6 (x.2.2.2.1)), .row 27 (x.2.2.2.2.1), .row 144 (x.2.2.2.2.2)]⟩
def ab8_24 : (n : NSt Ty) → Option {x : Int × Int × Int × List Int × List (List Int) × List T143 // of8_24 x = n}
  | ⟨[.ptr 100000 [], .ptr 100001 [], .int .i64 v0], [.var (.cons (.row 100002) (.cons (.row 100003) (.cons (.int .i64 v1) (.cons (.int .i64 v2) (.nil))))), .var (.arr 5 6 v3), .row 27 v4, .row 144 v5]⟩ => some ⟨(v0, v1, v2, v3, v4, v5), rfl⟩
  | _ => none
def on8_24a : Bool → NSt Ty := fun x => ⟨[.bool (x)], []⟩
def on8_24b : Unit → NSt Ty := fun x => ⟨[.undef], []⟩
def oa8_24 : (e : Ex) → (n : NSt Ty) → Option {y : (Bool) ⊕ (Unit) // oe2 .ret (.exit 4) y = e ∧ on2 on8_24a on8_24b y = n}
  | .ret, ⟨[.bool v0], []⟩ => some ⟨.inl v0, rfl, rfl⟩
  | .exit 4, ⟨[.undef], []⟩ => some ⟨.inr (), rfl, rfl⟩
  | _, _ => none
/-- a round of the loop 24 of function 8 -/
def R8_24 (k : Nat) (again : Int × Int × Int × List Int × List (List Int) × List T143 → Option ((Bool) ⊕ (Unit))) (x : Int × Int × Int × List Int × List (List Int) × List T143) : Option ((Bool) ⊕ (Unit)) :=
  match x with
  | (v0, v1, v2, v3, v4, v5) => bif decide (v0 < (6 : Int)) then (F42 k (v0, v1, v2, v4, v5)).bind fun r => bif r.snd.fst != (0 : Int) then some (Sum.inl false) else bif inRange v0 (6 : Nat) then (F40 k (v3.getD v0.toNat (0 : Int), ())).bind fun r_1 => bif !decide (r.fst = r_1) then some (Sum.inl false) else again (IntKind.i64.wrap (v0 + (1 : Int)), r.snd.snd.fst, r.snd.snd.snd.fst, v3, r.snd.snd.snd.snd.fst, r.snd.snd.snd.snd.snd) else none else some (Sum.inr ())
def L8_24 (k n : Nat) (x : Int × Int × Int × List Int × List (List Int) × List T143) : Option ((Bool) ⊕ (Unit)) := iterR (R8_24 k) n x
noncomputable def ls8_24 : Nat → Option (LSum Ty) := addL 24 (lsum2 of8_24 ab8_24 L8_24 .ret on8_24a (.exit 4) on8_24b) ls8_15
def kp8 : Nat → Keep := fun i => cond (i == 6) ⟨[0, 1, 2, 7, 9, 10], [1, 2, 6, 7, 9], 0⟩ (cond (i == 15) ⟨[1, 2, 7, 9, 12], [2, 6, 7, 9], 0⟩ (cond (i == 24) ⟨[7, 9, 14], [6], 0⟩ (⟨[], [], 0⟩)))
/-- "silt/siltlaw02.DevSafe" -/
def F8 (k : Nat) (x : (List T59) × (List T59) × (List Int) × Unit) : Option (Bool) :=
  match x with
  | (a0, a1, a2, ()) => (F37 k (6 : Int)).bind fun r => sumK r (fun a => bif a != (0 : Int) then bif a == (0 : Int) then some false else some false else bif a == (0 : Int) then some false else some false) fun b => bif b.fst != (0 : Int) then bif b.fst == (0 : Int) then (F36 k ()).bind fun r => some r else some false else (F35 k (a0, ())).bind fun r => bif !r then bif b.fst == (0 : Int) then (F36 k ()).bind fun r => some r else some false else (F35 k (a1, ())).bind fun r => bif !r then bif b.fst == (0 : Int) then (F36 k ()).bind fun r => some r else some false else bif decide ((↑a2.length : Int) > (300 : Int)) then bif b.fst == (0 : Int) then (F36 k ()).bind fun r => some r else some false else (L8_6 k k (a0, a1, a2, (0 : Int), b.snd.fst, b.snd.snd.fst, List.replicate (6 : Nat) (0 : Int), b.snd.snd.snd.fst, b.snd.snd.snd.snd)).bind fun r => sumK r (fun a => some a.snd.snd.fst) fun b => (F44 k (b.snd.snd.fst, b.snd.snd.snd.fst, b.snd.snd.snd.snd.snd.fst, b.snd.snd.snd.snd.snd.snd)).bind fun r => bif r.fst != (0 : Int) then some false else (F49 k (r.snd.fst, r.snd.snd.fst, r.snd.snd.snd.fst, r.snd.snd.snd.snd)).bind fun r => bif r.fst != (0 : Int) then some false else (L8_15 k k (b.fst, b.snd.fst, (0 : Int), r.snd.fst, r.snd.snd.fst, b.snd.snd.snd.snd.fst, r.snd.snd.snd.fst, r.snd.snd.snd.snd)).bind fun r => sumK r (fun a => some a.snd.fst) fun b => bif decide ((List.replicate (0 : Nat) (0 : Int)).length + b.fst.length ≤ roomMost) then (F46 k (List.replicate (0 : Nat) (0 : Int) ++ b.fst, b.snd.fst, b.snd.snd.fst, b.snd.snd.snd.snd.fst, b.snd.snd.snd.snd.snd)).bind fun r => (L8_24 k k ((0 : Int), r.fst, r.snd.fst, b.snd.snd.snd.fst, r.snd.snd.fst, r.snd.snd.snd)).bind fun r => sumK r (fun a => some a) fun b => (F36 k ()).bind fun r => some r else none
noncomputable def sp8 : FSpec Ty := spec ag8 rs8 F8
theorem bo8 : Try.f8.body = some (bodyOf Try.f8) := by kernel_rfl
theorem nd8 : nodupB ((loopsIn (bodyOf Try.f8)).map firstRegion) = true := by kernel_rfl
theorem lo8_6 : LSOK fs9 kp8 tab Try.f8 ls8_6 := lsum2_ok bo8 nd8 (LSOK.none) oa8_6 (R := R8_6) fun k again x => by kernel_rfl
theorem lo8_15 : LSOK fs9 kp8 tab Try.f8 ls8_15 := lsum2_ok bo8 nd8 (lo8_6) oa8_15 (R := R8_15) fun k again x => by kernel_rfl
theorem lo8_24 : LSOK fs9 kp8 tab Try.f8 ls8_24 := lsum2_ok bo8 nd8 (lo8_15) oa8_24 (R := R8_24) fun k again x => by kernel_rfl
theorem ok8 : FOK Try.prog tab 8 sp8 := spec_ok (keeps := kp8) tabOK fs9OK Try.func8 bo8 (by kernel_rfl) nd8 (lo8_24) (F := F8) fun k x => by kernel_rfl
noncomputable def fs8 : Nat → Option (FSpec Ty) := addF 8 sp8 fs9
theorem fs8OK : SpecsOK Try.prog tab fs8 := fs9OK.add ok8 Try.call8
theorem bo38 : Try.f38.body = some (bodyOf Try.f38) := by kernel_rfl
theorem nd38 : nodupB ((loopsIn (bodyOf Try.f38)).map firstRegion) = true := by kernel_rfl
def of38 : Int → NSt Ty := fun x => ⟨[.int .i64 (x)], []⟩
def ab38 : (n : NSt Ty) → Option {x : Int // of38 x = n}
  | ⟨[.int .i64 v0], []⟩ => some ⟨v0, rfl⟩
  | _ => none
def kp38 : Nat → Keep := pinned 0 fun i => ⟨[], [], 0⟩
def on38a : Int → NSt Ty := fun x => ⟨[.tup (.cons (.nilp) (.cons (.int .i64 (x)) (.nil)))], []⟩
def on38b : Int × Int × Int × List (List Int) × List T145 → NSt Ty := fun x => ⟨[.tup (.cons (.ptr 100000 []) (.cons (.int .i64 (x.1)) (.nil)))], [.var (.cons (.row 100001) (.cons (.row 100002) (.cons (.int .i64 (x.2.1)) (.cons (.int .i64 (x.2.2.1)) (.nil))))), .row 27 (x.2.2.2.1), .row 146 (x.2.2.2.2)]⟩
def oa38 : (n : NSt Ty) → Option {y : (Int) ⊕ (Int × Int × Int × List (List Int) × List T145) // on2 on38a on38b y = n}
  | ⟨[.tup (.cons (.nilp) (.cons (.int .i64 v0) (.nil)))], []⟩ => some ⟨.inl v0, rfl⟩
  | ⟨[.tup (.cons (.ptr 100000 []) (.cons (.int .i64 v0) (.nil)))], [.var (.cons (.row 100001) (.cons (.row 100002) (.cons (.int .i64 v1) (.cons (.int .i64 v2) (.nil))))), .row 27 v3, .row 146 v4]⟩ => some ⟨.inr (v0, v1, v2, v3, v4), rfl⟩
  | _ => none
/-- "silt/siltref02.New"  -/
def F38 (k : Nat) (x : Int) : Option ((Int) ⊕ (Int × Int × Int × List (List Int) × List T145)) :=
  match x with
  | v0 => bif decide (v0 < (1 : Int)) then some (Sum.inl (1 : Int)) else bif decide (v0 > (1024 : Int)) then some (Sum.inl (1 : Int)) else bif decide (v0 = v0) && decide ((0 : Int) ≤ v0) && decide (v0 ≤ (↑roomMost : Int)) then some (Sum.inr ((0 : Int), (-1 : Int), (0 : Int), List.replicate v0.toNat (List.replicate (64 : Nat) (0 : Int)), [])) else none
noncomputable def sp38 : FSpec Ty := addH2 0 ab38 F38 on38a on38b noH
theorem ok38 : FOK Try.prog tab 38 sp38 := addH2_ok (keeps := kp38) tabOK fs8OK Try.func38 bo38 (by kernel_rfl) nd38 (LSOK.none) oa38 (F := F38) (fun k x => by kernel_rfl) (pinned_le (Nat.le_refl _) _) FOK.none rfl
noncomputable def fs38 : Nat → Option (FSpec Ty) := addF 38 sp38 fs8
theorem fs38OK : SpecsOK Try.prog tab fs38 := fs8OK.add ok38 Try.call38
theorem bo85 : Try.f85.body = some (bodyOf Try.f85) := by kernel_rfl
theorem nd85 : nodupB ((loopsIn (bodyOf Try.f85)).map firstRegion) = true := by kernel_rfl
def of85hn : Int → NSt Ty := fun x => ⟨[.nilp, .int .i64 (x)], []⟩
def ab85hn : (n : NSt Ty) → Option {x : Int // of85hn x = n}
  | ⟨[.nilp, .int .i64 v0], []⟩ => some ⟨v0, rfl⟩
  | _ => none
def kp85hn : Nat → Keep := pinned 0 fun i => ⟨[], [], 0⟩
def on85hn : Bool → NSt Ty := fun x => ⟨[.bool (x)], []⟩
def oa85hn : (n : NSt Ty) → Option {y : Bool // on85hn y = n}
  | ⟨[.bool v0], []⟩ => some ⟨v0, rfl⟩
  | _ => none
/-- "(*silt/siltref02.Dev).has" hn -/
def F85hn (k : Nat) (x : Int) : Option (Bool) :=
  match x with
  | v0 => bif decide (v0 ≥ (0 : Int)) then none else some false
noncomputable def sp85hn : FSpec Ty := addH 0 ab85hn F85hn on85hn noH
theorem ok85hn : FOK Try.prog tab 85 sp85hn := addH_ok (keeps := kp85hn) tabOK fs38OK Try.func85 bo85 (by kernel_rfl) nd85 (LSOK.none) oa85hn (F := F85hn) (fun k x => by kernel_rfl) (pinned_le (Nat.le_refl _) _) FOK.none rfl
def of85 : Int × Int × Int × List (List Int) × List T145 → NSt Ty := fun x => ⟨[.ptr 100000 [], .int .i64 (x.1)], [.var (.cons (.row 100001) (.cons (.row 100002) (.cons (.int .i64 (x.2.1)) (.cons (.int .i64 (x.2.2.1)) (.nil))))), .row 27 (x.2.2.2.1), .row 146 (x.2.2.2.2)]⟩
def ab85 : (n : NSt Ty) → Option {x : Int × Int × Int × List (List Int) × List T145 // of85 x = n}
  | ⟨[.ptr 100000 [], .int .i64 v0], [.var (.cons (.row 100001) (.cons (.row 100002) (.cons (.int .i64 v1) (.cons (.int .i64 v2) (.nil))))), .row 27 v3, .row 146 v4]⟩ => some ⟨(v0, v1, v2, v3, v4), rfl⟩
  | _ => none
def kp85 : Nat → Keep := pinned 1 fun i => ⟨[], [], 0⟩
def on85 : Bool × Int × Int × List (List Int) × List T145 → NSt Ty := fun x => ⟨[.bool (x.1)], [.var (.cons (.row 100001) (.cons (.row 100002) (.cons (.int .i64 (x.2.1)) (.cons (.int .i64 (x.2.2.1)) (.nil))))), .row 27 (x.2.2.2.1), .row 146 (x.2.2.2.2)]⟩
def oa85 : (n : NSt Ty) → Option {y : Bool × Int × Int × List (List Int) × List T145 // on85 y = n}
  | ⟨[.bool v0], [.var (.cons (.row 100001) (.cons (.row 100002) (.cons (.int .i64 v1) (.cons (.int .i64 v2) (.nil))))), .row 27 v3, .row 146 v4]⟩ => some ⟨(v0, v1, v2, v3, v4), rfl⟩
  | _ => none
/-- "(*silt/siltref02.Dev).has"  -/
def F85 (k : Nat) (x : Int × Int × Int × List (List Int) × List T145) : Option (Bool × Int × Int × List (List Int) × List T145) :=
  match x with
  | (v0, v1, v2, v3, v4) => bif decide (v0 ≥ (0 : Int)) then some (decide (v0 < (↑v3.length : Int)), v1, v2, v3, v4) else some (false, v1, v2, v3, v4)
noncomputable def sp85 : FSpec Ty := addH 1 ab85 F85 on85 sp85hn
theorem ok85 : FOK Try.prog tab 85 sp85 := addH_ok (keeps := kp85) tabOK fs38OK Try.func85 bo85 (by kernel_rfl) nd85 (LSOK.none) oa85 (F := F85) (fun k x => by kernel_rfl) (pinned_le (Nat.le_refl _) _) ok85hn rfl
noncomputable def fs85 : Nat → Option (FSpec Ty) := addF 85 sp85 fs38
theorem fs85OK : SpecsOK Try.prog tab fs85 := fs38OK.add ok85 Try.call85
theorem bo86 : Try.f86.body = some (bodyOf Try.f86) := by kernel_rfl
theorem nd86 : nodupB ((loopsIn (bodyOf Try.f86)).map firstRegion) = true := by kernel_rfl
def of86 : Int × Int × List (List Int) × List T145 → NSt Ty := fun x => ⟨[.ptr 100000 []], [.var (.cons (.row 100001) (.cons (.row 100002) (.cons (.int .i64 (x.1)) (.cons (.int .i64 (x.2.1)) (.nil))))), .row 27 (x.2.2.1), .row 146 (x.2.2.2)]⟩
def ab86 : (n : NSt Ty) → Option {x : Int × Int × List (List Int) × List T145 // of86 x = n}
  | ⟨[.ptr 100000 []], [.var (.cons (.row 100001) (.cons (.row 100002) (.cons (.int .i64 v0) (.cons (.int .i64 v1) (.nil))))), .row 27 v2, .row 146 v3]⟩ => some ⟨(v0, v1, v2, v3), rfl⟩
  | _ => none
def kp86 : Nat → Keep := pinned 1 fun i => ⟨[], [], 0⟩
def on86 : Bool × Int × Int × List (List Int) × List T145 → NSt Ty := fun x => ⟨[.bool (x.1)], [.var (.cons (.row 100001) (.cons (.row 100002) (.cons (.int .i64 (x.2.1)) (.cons (.int .i64 (x.2.2.1)) (.nil))))), .row 27 (x.2.2.2.1), .row 146 (x.2.2.2.2)]⟩
def oa86 : (n : NSt Ty) → Option {y : Bool × Int × Int × List (List Int) × List T145 // on86 y = n}
  | ⟨[.bool v0], [.var (.cons (.row 100001) (.cons (.row 100002) (.cons (.int .i64 v1) (.cons (.int .i64 v2) (.nil))))), .row 27 v3, .row 146 v4]⟩ => some ⟨(v0, v1, v2, v3, v4), rfl⟩
  | _ => none
/-- "(*silt/siltref02.Dev).fails"  -/
def F86 (k : Nat) (x : Int × Int × List (List Int) × List T145) : Option (Bool × Int × Int × List (List Int) × List T145) :=
  match x with
  | (v0, v1, v2, v3) => bif v0 == (0 : Int) then some (true, (-1 : Int), v1, v2, v3) else bif decide (v0 > (0 : Int)) then some (false, IntKind.i64.wrap (v0 - (1 : Int)), IntKind.i64.wrap (v1 + (1 : Int)), v2, v3) else some (false, v0, IntKind.i64.wrap (v1 + (1 : Int)), v2, v3)
noncomputable def sp86 : FSpec Ty := addH 1 ab86 F86 on86 noH
theorem ok86 : FOK Try.prog tab 86 sp86 := addH_ok (keeps := kp86) tabOK fs85OK Try.func86 bo86 (by kernel_rfl) nd86 (LSOK.none) oa86 (F := F86) (fun k x => by kernel_rfl) (pinned_le (Nat.le_refl _) _) FOK.none rfl
noncomputable def fs86 : Nat → Option (FSpec Ty) := addF 86 sp86 fs85
theorem fs86OK : SpecsOK Try.prog tab fs86 := fs85OK.add ok86 Try.call86
theorem bo41 : Try.f41.body = some (bodyOf Try.f41) := by kernel_rfl
theorem nd41 : nodupB ((loopsIn (bodyOf Try.f41)).map firstRegion) = true := by kernel_rfl
def of41hn : Int × List Int → NSt Ty := fun x => ⟨[.nilp, .int .i64 (x.1), .arr 5 64 (x.2)], []⟩
def ab41hn : (n : NSt Ty) → Option {x : Int × List Int // of41hn x = n}
  | ⟨[.nilp, .int .i64 v0, .arr 5 64 v1], []⟩ => some ⟨(v0, v1), rfl⟩
  | _ => none
def kp41hn : Nat → Keep := pinned 0 fun i => ⟨[], [], 0⟩
def on41hn : Int → NSt Ty := fun x => ⟨[.int .i64 (x)], []⟩
def oa41hn : (n : NSt Ty) → Option {y : Int // on41hn y = n}
  | ⟨[.int .i64 v0], []⟩ => some ⟨v0, rfl⟩
  | _ => none
/-- "(*silt/siltref02.Dev).Write" hn -/
def F41hn (k : Nat) (x : Int × List Int) : Option (Int) :=
  match x with
  | (v0, v1) => (F85hn k v0).bind fun r => bif !r then some (1 : Int) else none
noncomputable def sp41hn : FSpec Ty := addH 0 ab41hn F41hn on41hn noH
theorem ok41hn : FOK Try.prog tab 41 sp41hn := addH_ok (keeps := kp41hn) tabOK fs86OK Try.func41 bo41 (by kernel_rfl) nd41 (LSOK.none) oa41hn (F := F41hn) (fun k x => by kernel_rfl) (pinned_le (Nat.le_refl _) _) FOK.none rfl
def of41 : Int × List Int × Int × Int × List (List Int) × List T145 → NSt Ty := fun x => ⟨[.ptr 100000 [], .int .i64 (x.1), .arr 5 64 (x.2.1)], [.var (.cons (.row 100001) (.cons (.row 100002) (.cons (.int .i64 (x.2.2.1)) (.cons (.int .i64 (x.2.2.2.1)) (.nil))))), .row 27 (x.2.2.2.2.1), .row 146 (x.2.2.2.2.2)]⟩
def ab41 : (n : NSt Ty) → Option {x : Int × List Int × Int × Int × List (List Int) × List T145 // of41 x = n}
  | ⟨[.ptr 100000 [], .int .i64 v0, .arr 5 64 v1], [.var (.cons (.row 100001) (.cons (.row 100002) (.cons (.int .i64 v2) (.cons (.int .i64 v3) (.nil))))), .row 27 v4, .row 146 v5]⟩ => some ⟨(v0, v1, v2, v3, v4, v5), rfl⟩
  | _ => none
def kp41 : Nat → Keep := pinned 1 fun i => ⟨[], [], 0⟩
def on41 : Int × Int × Int × List (List Int) × List T145 → NSt Ty := fun x => ⟨[.int .i64 (x.1)], [.var (.cons (.row 100001) (.cons (.row 100002) (.cons (.int .i64 (x.2.1)) (.cons (.int .i64 (x.2.2.1)) (.nil))))), .row 27 (x.2.2.2.1), .row 146 (x.2.2.2.2)]⟩
def oa41 : (n : NSt Ty) → Option {y : Int × Int × Int × List (List Int) × List T145 // on41 y = n}
  | ⟨[.int .i64 v0], [.var (.cons (.row 100001) (.cons (.row 100002) (.cons (.int .i64 v1) (.cons (.int .i64 v2) (.nil))))), .row 27 v3, .row 146 v4]⟩ => some ⟨(v0, v1, v2, v3, v4), rfl⟩
  | _ => none
/-- "(*silt/siltref02.Dev).Write"  -/
def F41 (k : Nat) (x : Int × List Int × Int × Int × List (List Int) × List T145) : Option (Int × Int × Int × List (List Int) × List T145) :=
  match x with
  | (v0, v1, v2, v3, v4, v5) => (F85 k (v0, v2, v3, v4, v5)).bind fun r => bif !r.fst then some ((1 : Int), r.snd.fst, r.snd.snd.fst, r.snd.snd.snd.fst, r.snd.snd.snd.snd) else (F86 k (r.snd.fst, r.snd.snd.fst, r.snd.snd.snd.fst, r.snd.snd.snd.snd)).bind fun r => bif r.fst then some ((12 : Int), r.snd.fst, r.snd.snd.fst, r.snd.snd.snd.fst, r.snd.snd.snd.snd) else bif decide (r.snd.snd.snd.snd.length + ((List.replicate (1 : Nat) (T145.mk (0 : Int) (List.replicate (64 : Nat) (0 : Int)))).set (0 : Nat) (T145.mk v0 v1)).length ≤ roomMost) then some ((0 : Int), r.snd.fst, r.snd.snd.fst, r.snd.snd.snd.fst, r.snd.snd.snd.snd ++ (List.replicate (1 : Nat) (T145.mk (0 : Int) (List.replicate (64 : Nat) (0 : Int)))).set (0 : Nat) (T145.mk v0 v1)) else none
noncomputable def sp41 : FSpec Ty := addH 1 ab41 F41 on41 sp41hn
theorem ok41 : FOK Try.prog tab 41 sp41 := addH_ok (keeps := kp41) tabOK fs86OK Try.func41 bo41 (by kernel_rfl) nd41 (LSOK.none) oa41 (F := F41) (fun k x => by kernel_rfl) (pinned_le (Nat.le_refl _) _) ok41hn rfl
noncomputable def fs41 : Nat → Option (FSpec Ty) := addF 41 sp41 fs86
theorem fs41OK : SpecsOK Try.prog tab fs41 := fs86OK.add ok41 Try.call41
theorem bo43 : Try.f43.body = some (bodyOf Try.f43) := by kernel_rfl
theorem nd43 : nodupB ((loopsIn (bodyOf Try.f43)).map firstRegion) = true := by kernel_rfl
def of43hn : Int → NSt Ty := fun x => ⟨[.nilp, .int .i64 (x)], []⟩
def ab43hn : (n : NSt Ty) → Option {x : Int // of43hn x = n}
  | ⟨[.nilp, .int .i64 v0], []⟩ => some ⟨v0, rfl⟩
  | _ => none
def kp43hn : Nat → Keep := pinned 0 fun i => cond (i == 5) ⟨[0, 1, 4, 6, 7], [4, 6], 0⟩ (⟨[], [], 0⟩)
def on43hn : List Int × Int → NSt Ty := fun x => ⟨[.tup (.cons (.arr 5 64 (x.1)) (.cons (.int .i64 (x.2)) (.nil)))], []⟩
def oa43hn : (n : NSt Ty) → Option {y : List Int × Int // on43hn y = n}
  | ⟨[.tup (.cons (.arr 5 64 v0) (.cons (.int .i64 v1) (.nil)))], []⟩ => some ⟨(v0, v1), rfl⟩
  | _ => none
/-- "(*silt/siltref02.Dev).Read" hn -/
def F43hn (k : Nat) (x : Int) : Option (List Int × Int) :=
  match x with
  | v0 => (F85hn k v0).bind fun r => bif !r then some (List.replicate (64 : Nat) (0 : Int), (1 : Int)) else none
noncomputable def sp43hn : FSpec Ty := addH 0 ab43hn F43hn on43hn noH
theorem ok43hn : FOK Try.prog tab 43 sp43hn := addH_ok (keeps := kp43hn) tabOK fs41OK Try.func43 bo43 (by kernel_rfl) nd43 (LSOK.none) oa43hn (F := F43hn) (fun k x => by kernel_rfl) (pinned_le (Nat.le_refl _) _) FOK.none rfl
def of43 : Int × Int × Int × List (List Int) × List T145 → NSt Ty := fun x => ⟨[.ptr 100000 [], .int .i64 (x.1)], [.var (.cons (.row 100001) (.cons (.row 100002) (.cons (.int .i64 (x.2.1)) (.cons (.int .i64 (x.2.2.1)) (.nil))))), .row 27 (x.2.2.2.1), .row 146 (x.2.2.2.2)]⟩
def ab43 : (n : NSt Ty) → Option {x : Int × Int × Int × List (List Int) × List T145 // of43 x = n}
  | ⟨[.ptr 100000 [], .int .i64 v0], [.var (.cons (.row 100001) (.cons (.row 100002) (.cons (.int .i64 v1) (.cons (.int .i64 v2) (.nil))))), .row 27 v3, .row 146 v4]⟩ => some ⟨(v0, v1, v2, v3, v4), rfl⟩
  | _ => none
def of43_5 : Int × Int × Int × Int × List Int × List Int × List (List Int) × List T145 → NSt Ty := fun x => ⟨[.ptr 100000 [], .int .i64 (x.1), .ptr 100001 [], .ptr 100002 [], .int .i64 (x.2.1)], [.var (.cons (.row 100003) (.cons (.row 100004) (.cons (.int .i64 (x.2.2.1)) (.cons (.int .i64 (x.2.2.2.1)) (.nil))))), .var (.arr 5 64 (x.2.2.2.2.1)), .var (.arr 5 64 (x.2.2.2.2.2.1)), .row 27 (x.2.2.2.2.2.2.1), .row 146 (x.2.2.2.2.2.2.2)]⟩
def ab43_5 : (n : NSt Ty) → Option {x : Int × Int × Int × Int × List Int × List Int × List (List Int) × List T145 // of43_5 x = n}
  | ⟨[.ptr 100000 [], .int .i64 v0, .ptr 100001 [], .ptr 100002 [], .int .i64 v1], [.var (.cons (.row 100003) (.cons (.row 100004) (.cons (.int .i64 v2) (.cons (.int .i64 v3) (.nil))))), .var (.arr 5 64 v4), .var (.arr 5 64 v5), .row 27 v6, .row 146 v7]⟩ => some ⟨(v0, v1, v2, v3, v4, v5, v6, v7), rfl⟩
  | _ => none
def oe43_5 : Int × Int × List Int × List Int × List (List Int) × List T145 → Ex := fun _ => .exit 0
def on43_5 : Int × Int × List Int × List Int × List (List Int) × List T145 → NSt Ty := fun x => ⟨[.ptr 100001 [], .ptr 100002 []], [.var (.cons (.row 100003) (.cons (.row 100004) (.cons (.int .i64 (x.1)) (.cons (.int .i64 (x.2.1)) (.nil))))), .var (.arr 5 64 (x.2.2.1)), .var (.arr 5 64 (x.2.2.2.1)), .row 27 (x.2.2.2.2.1), .row 146 (x.2.2.2.2.2)]⟩
def oa43_5 : (e : Ex) → (n : NSt Ty) → Option {y : Int × Int × List Int × List Int × List (List Int) × List T145 // oe43_5 y = e ∧ on43_5 y = n}
  | .exit 0, ⟨[.ptr 100001 [], .ptr 100002 []], [.var (.cons (.row 100003) (.cons (.row 100004) (.cons (.int .i64 v0) (.cons (.int .i64 v1) (.nil))))), .var (.arr 5 64 v2), .var (.arr 5 64 v3), .row 27 v4, .row 146 v5]⟩ => some ⟨(v0, v1, v2, v3, v4, v5), rfl, rfl⟩
  | _, _ => none
/-- a round of the loop 5 of function 43 -/
def R43_5 (k : Nat) (again : Int × Int × Int × Int × List Int × List Int × List (List Int) × List T145 → Option (Int × Int × List Int × List Int × List (List Int) × List T145)) (x : Int × Int × Int × Int × List Int × List Int × List (List Int) × List T145) : Option (Int × Int × List Int × List Int × List (List Int) × List T145) :=
  match x with
  | (v0, v1, v2, v3, v4, v5, v6, v7) => bif decide (v1 < (↑v7.length : Int)) then bif inRange v1 v7.length then bif (v7.getD v1.toNat (T145.mk (0 : Int) (List.replicate (64 : Nat) (0 : Int)))).1 == v0 then bif inRange v1 v7.length then again (v0, IntKind.i64.wrap (v1 + (1 : Int)), v2, v3, v4, (v7.getD v1.toNat (T145.mk (0 : Int) (List.replicate (64 : Nat) (0 : Int)))).2, v6, v7) else none else again (v0, IntKind.i64.wrap (v1 + (1 : Int)), v2, v3, v4, v5, v6, v7) else none else some (v2, v3, v4, v5, v6, v7)
def L43_5 (k n : Nat) (x : Int × Int × Int × Int × List Int × List Int × List (List Int) × List T145) : Option (Int × Int × List Int × List Int × List (List Int) × List T145) := iterR (R43_5 k) n x
noncomputable def ls43_5 : Nat → Option (LSum Ty) := addL 5 (LSum.of of43_5 ab43_5 L43_5 oe43_5 on43_5) noL
def kp43 : Nat → Keep := pinned 1 fun i => cond (i == 5) ⟨[0, 1, 4, 6, 7], [4, 6], 0⟩ (⟨[], [], 0⟩)
def on43 : List Int × Int × Int × Int × List (List Int) × List T145 → NSt Ty := fun x => ⟨[.tup (.cons (.arr 5 64 (x.1)) (.cons (.int .i64 (x.2.1)) (.nil)))], [.var (.cons (.row 100001) (.cons (.row 100002) (.cons (.int .i64 (x.2.2.1)) (.cons (.int .i64 (x.2.2.2.1)) (.nil))))), .row 27 (x.2.2.2.2.1), .row 146 (x.2.2.2.2.2)]⟩
def oa43 : (n : NSt Ty) → Option {y : List Int × Int × Int × Int × List (List Int) × List T145 // on43 y = n}
  | ⟨[.tup (.cons (.arr 5 64 v0) (.cons (.int .i64 v1) (.nil)))], [.var (.cons (.row 100001) (.cons (.row 100002) (.cons (.int .i64 v2) (.cons (.int .i64 v3) (.nil))))), .row 27 v4, .row 146 v5]⟩ => some ⟨(v0, v1, v2, v3, v4, v5), rfl⟩
  | _ => none
/-- "(*silt/siltref02.Dev).Read"  -/
def F43 (k : Nat) (x : Int × Int × Int × List (List Int) × List T145) : Option (List Int × Int × Int × Int × List (List Int) × List T145) :=
  match x with
  | (v0, v1, v2, v3, v4) => (F85 k (v0, v1, v2, v3, v4)).bind fun r => bif !r.fst then some (List.replicate (64 : Nat) (0 : Int), (1 : Int), r.snd.fst, r.snd.snd.fst, r.snd.snd.snd.fst, r.snd.snd.snd.snd) else bif inRange v0 r.snd.snd.snd.fst.length then (L43_5 k k (v0, (0 : Int), r.snd.fst, r.snd.snd.fst, List.replicate (64 : Nat) (0 : Int), r.snd.snd.snd.fst.getD v0.toNat (List.replicate (64 : Nat) (0 : Int)), r.snd.snd.snd.fst, r.snd.snd.snd.snd)).bind fun r => some (r.snd.snd.snd.fst, (0 : Int), r.fst, r.snd.fst, r.snd.snd.snd.snd.fst, r.snd.snd.snd.snd.snd) else none
noncomputable def sp43 : FSpec Ty := addH 1 ab43 F43 on43 sp43hn
theorem lo43_5 : LSOK fs41 kp43 tab Try.f43 ls43_5 := lsum_ok bo43 nd43 (LSOK.none) oa43_5 (R := R43_5) fun k again x => by kernel_rfl
theorem ok43 : FOK Try.prog tab 43 sp43 := addH_ok (keeps := kp43) tabOK fs41OK Try.func43 bo43 (by kernel_rfl) nd43 (lo43_5) oa43 (F := F43) (fun k x => by kernel_rfl) (pinned_le (Nat.le_refl _) _) ok43hn rfl
noncomputable def fs43 : Nat → Option (FSpec Ty) := addF 43 sp43 fs41
theorem fs43OK : SpecsOK Try.prog tab fs43 := fs41OK.add ok43 Try.call43
theorem bo45 : Try.f45.body = some (bodyOf Try.f45) := by kernel_rfl
theorem nd45 : nodupB ((loopsIn (bodyOf Try.f45)).map firstRegion) = true := by kernel_rfl
def of45 : Int × Int × List (List Int) × List T145 → NSt Ty := fun x => ⟨[.ptr 100000 []], [.var (.cons (.row 100001) (.cons (.row 100002) (.cons (.int .i64 (x.1)) (.cons (.int .i64 (x.2.1)) (.nil))))), .row 27 (x.2.2.1), .row 146 (x.2.2.2)]⟩
def ab45 : (n : NSt Ty) → Option {x : Int × Int × List (List Int) × List T145 // of45 x = n}
  | ⟨[.ptr 100000 []], [.var (.cons (.row 100001) (.cons (.row 100002) (.cons (.int .i64 v0) (.cons (.int .i64 v1) (.nil))))), .row 27 v2, .row 146 v3]⟩ => some ⟨(v0, v1, v2, v3), rfl⟩
  | _ => none
def of45_4 : Int × Int × Int × List (List Int) × List T145 → NSt Ty := fun x => ⟨[.ptr 100000 [], .int .i64 (x.1)], [.var (.cons (.row 100001) (.cons (.row 100002) (.cons (.int .i64 (x.2.1)) (.cons (.int .i64 (x.2.2.1)) (.nil))))), .row 27 (x.2.2.2.1), .row 146 (x.2.2.2.2)]⟩
def ab45_4 : (n : NSt Ty) → Option {x : Int × Int × Int × List (List Int) × List T145 // of45_4 x = n}
  | ⟨[.ptr 100000 [], .int .i64 v0], [.var (.cons (.row 100001) (.cons (.row 100002) (.cons (.int .i64 v1) (.cons (.int .i64 v2) (.nil))))), .row 27 v3, .row 146 v4]⟩ => some ⟨(v0, v1, v2, v3, v4), rfl⟩
  | _ => none
def oe45_4 : Int × Int × List (List Int) × List T145 → Ex := fun _ => .exit 0
def on45_4 : Int × Int × List (List Int) × List T145 → NSt Ty := fun x => ⟨[.ptr 100000 []], [.var (.cons (.row 100001) (.cons (.row 100002) (.cons (.int .i64 (x.1)) (.cons (.int .i64 (x.2.1)) (.nil))))), .row 27 (x.2.2.1), .row 146 (x.2.2.2)]⟩
def oa45_4 : (e : Ex) → (n : NSt Ty) → Option {y : Int × Int × List (List Int) × List T145 // oe45_4 y = e ∧ on45_4 y = n}
  | .exit 0, ⟨[.ptr 100000 []], [.var (.cons (.row 100001) (.cons (.row 100002) (.cons (.int .i64 v0) (.cons (.int .i64 v1) (.nil))))), .row 27 v2, .row 146 v3]⟩ => some ⟨(v0, v1, v2, v3), rfl, rfl⟩
  | _, _ => none
/-- a round of the loop 4 of function 45 -/
def R45_4 (k : Nat) (again : Int × Int × Int × List (List Int) × List T145 → Option (Int × Int × List (List Int) × List T145)) (x : Int × Int × Int × List (List Int) × List T145) : Option (Int × Int × List (List Int) × List T145) :=
  match x with
  | (v0, v1, v2, v3, v4) => bif decide (v0 < (↑v4.length : Int)) then bif inRange v0 v4.length then bif inRange v0 v4.length then bif inRange (v4.getD v0.toNat (T145.mk (0 : Int) (List.replicate (64 : Nat) (0 : Int)))).1 v3.length then again (IntKind.i64.wrap (v0 + (1 : Int)), v1, v2, v3.set (v4.getD v0.toNat (T145.mk (0 : Int) (List.replicate (64 : Nat) (0 : Int)))).1.toNat (v4.getD v0.toNat (T145.mk (0 : Int) (List.replicate (64 : Nat) (0 : Int)))).2, v4) else none else none else none else some (v1, v2, v3, v4)
def L45_4 (k n : Nat) (x : Int × Int × Int × List (List Int) × List T145) : Option (Int × Int × List (List Int) × List T145) := iterR (R45_4 k) n x
noncomputable def ls45_4 : Nat → Option (LSum Ty) := addL 4 (LSum.of of45_4 ab45_4 L45_4 oe45_4 on45_4) noL
def kp45 : Nat → Keep := pinned 1 fun i => cond (i == 4) ⟨[0, 3], [0], 0⟩ (⟨[], [], 0⟩)
def on45 : Int × Int × Int × List (List Int) × List T145 → NSt Ty := fun x => ⟨[.int .i64 (x.1)], [.var (.cons (.row 100001) (.cons (.row 100002) (.cons (.int .i64 (x.2.1)) (.cons (.int .i64 (x.2.2.1)) (.nil))))), .row 27 (x.2.2.2.1), .row 146 (x.2.2.2.2)]⟩
def oa45 : (n : NSt Ty) → Option {y : Int × Int × Int × List (List Int) × List T145 // on45 y = n}
  | ⟨[.int .i64 v0], [.var (.cons (.row 100001) (.cons (.row 100002) (.cons (.int .i64 v1) (.cons (.int .i64 v2) (.nil))))), .row 27 v3, .row 146 v4]⟩ => some ⟨(v0, v1, v2, v3, v4), rfl⟩
  | _ => none
/-- "(*silt/siltref02.Dev).Flush"  -/
def F45 (k : Nat) (x : Int × Int × List (List Int) × List T145) : Option (Int × Int × Int × List (List Int) × List T145) :=
  match x with
  | (v0, v1, v2, v3) => (F86 k (v0, v1, v2, v3)).bind fun r => bif r.fst then some ((12 : Int), r.snd.fst, r.snd.snd.fst, r.snd.snd.snd.fst, r.snd.snd.snd.snd) else (L45_4 k k ((0 : Int), r.snd.fst, r.snd.snd.fst, r.snd.snd.snd.fst, r.snd.snd.snd.snd)).bind fun r => some ((0 : Int), r.fst, r.snd.fst, r.snd.snd.fst, [])
noncomputable def sp45 : FSpec Ty := addH 1 ab45 F45 on45 noH
theorem lo45_4 : LSOK fs43 kp45 tab Try.f45 ls45_4 := lsum_ok bo45 nd45 (LSOK.none) oa45_4 (R := R45_4) fun k again x => by kernel_rfl
theorem ok45 : FOK Try.prog tab 45 sp45 := addH_ok (keeps := kp45) tabOK fs43OK Try.func45 bo45 (by kernel_rfl) nd45 (lo45_4) oa45 (F := F45) (fun k x => by kernel_rfl) (pinned_le (Nat.le_refl _) _) FOK.none rfl
noncomputable def fs45 : Nat → Option (FSpec Ty) := addF 45 sp45 fs43
theorem fs45OK : SpecsOK Try.prog tab fs45 := fs43OK.add ok45 Try.call45
theorem bo47 : Try.f47.body = some (bodyOf Try.f47) := by kernel_rfl
theorem nd47 : nodupB ((loopsIn (bodyOf Try.f47)).map firstRegion) = true := by kernel_rfl
def of47 : List Int × Int × Int × List (List Int) × List T145 → NSt Ty := fun x => ⟨[.ptr 100000 [], .slice 5 (x.1)], [.var (.cons (.row 100001) (.cons (.row 100002) (.cons (.int .i64 (x.2.1)) (.cons (.int .i64 (x.2.2.1)) (.nil))))), .row 27 (x.2.2.2.1), .row 146 (x.2.2.2.2)]⟩
def ab47 : (n : NSt Ty) → Option {x : List Int × Int × Int × List (List Int) × List T145 // of47 x = n}
  | ⟨[.ptr 100000 [], .slice 5 v0], [.var (.cons (.row 100001) (.cons (.row 100002) (.cons (.int .i64 v1) (.cons (.int .i64 v2) (.nil))))), .row 27 v3, .row 146 v4]⟩ => some ⟨(v0, v1, v2, v3, v4), rfl⟩
  | _ => none
def of47_1 : List Int × Int × Int × Int × List (List Int) × List T145 → NSt Ty := fun x => ⟨[.ptr 100000 [], .slice 5 (x.1), .int .i64 (x.2.1)], [.var (.cons (.row 100001) (.cons (.row 100002) (.cons (.int .i64 (x.2.2.1)) (.cons (.int .i64 (x.2.2.2.1)) (.nil))))), .row 27 (x.2.2.2.2.1), .row 146 (x.2.2.2.2.2)]⟩
def ab47_1 : (n : NSt Ty) → Option {x : List Int × Int × Int × Int × List (List Int) × List T145 // of47_1 x = n}
  | ⟨[.ptr 100000 [], .slice 5 v0, .int .i64 v1], [.var (.cons (.row 100001) (.cons (.row 100002) (.cons (.int .i64 v2) (.cons (.int .i64 v3) (.nil))))), .row 27 v4, .row 146 v5]⟩ => some ⟨(v0, v1, v2, v3, v4, v5), rfl⟩
  | _ => none
def oe47_1 : Int × Int × List (List Int) × List T145 → Ex := fun _ => .exit 0
def on47_1 : Int × Int × List (List Int) × List T145 → NSt Ty := fun x => ⟨[.ptr 100000 []], [.var (.cons (.row 100001) (.cons (.row 100002) (.cons (.int .i64 (x.1)) (.cons (.int .i64 (x.2.1)) (.nil))))), .row 27 (x.2.2.1), .row 146 (x.2.2.2)]⟩
def oa47_1 : (e : Ex) → (n : NSt Ty) → Option {y : Int × Int × List (List Int) × List T145 // oe47_1 y = e ∧ on47_1 y = n}
  | .exit 0, ⟨[.ptr 100000 []], [.var (.cons (.row 100001) (.cons (.row 100002) (.cons (.int .i64 v0) (.cons (.int .i64 v1) (.nil))))), .row 27 v2, .row 146 v3]⟩ => some ⟨(v0, v1, v2, v3), rfl, rfl⟩
  | _, _ => none
/-- a round of the loop 1 of function 47 -/
def R47_1 (k : Nat) (again : List Int × Int × Int × Int × List (List Int) × List T145 → Option (Int × Int × List (List Int) × List T145)) (x : List Int × Int × Int × Int × List (List Int) × List T145) : Option (Int × Int × List (List Int) × List T145) :=
  match x with
  | (v0, v1, v2, v3, v4, v5) => bif decide (v1 < (↑v5.length : Int)) then bif decide (v1 < (↑v0.length : Int)) then bif inRange v1 v0.length then bif Int.tmod (v0.getD v1.toNat (0 : Int)) (2 : Int) == (1 : Int) then bif inRange v1 v5.length then bif inRange v1 v5.length then bif inRange (v5.getD v1.toNat (T145.mk (0 : Int) (List.replicate (64 : Nat) (0 : Int)))).1 v4.length then again (v0, IntKind.i64.wrap (v1 + (1 : Int)), v2, v3, v4.set (v5.getD v1.toNat (T145.mk (0 : Int) (List.replicate (64 : Nat) (0 : Int)))).1.toNat (v5.getD v1.toNat (T145.mk (0 : Int) (List.replicate (64 : Nat) (0 : Int)))).2, v5) else none else none else none else again (v0, IntKind.i64.wrap (v1 + (1 : Int)), v2, v3, v4, v5) else none else some (v2, v3, v4, v5) else some (v2, v3, v4, v5)
def L47_1 (k n : Nat) (x : List Int × Int × Int × Int × List (List Int) × List T145) : Option (Int × Int × List (List Int) × List T145) := iterR (R47_1 k) n x
noncomputable def ls47_1 : Nat → Option (LSum Ty) := addL 1 (LSum.of of47_1 ab47_1 L47_1 oe47_1 on47_1) noL
def kp47 : Nat → Keep := pinned 1 fun i => cond (i == 1) ⟨[0, 1, 4], [0], 0⟩ (⟨[], [], 0⟩)
def on47 : Int × Int × List (List Int) × List T145 → NSt Ty := fun x => ⟨[.tup (.nil)], [.var (.cons (.row 100001) (.cons (.row 100002) (.cons (.int .i64 (x.1)) (.cons (.int .i64 (x.2.1)) (.nil))))), .row 27 (x.2.2.1), .row 146 (x.2.2.2)]⟩
def oa47 : (n : NSt Ty) → Option {y : Int × Int × List (List Int) × List T145 // on47 y = n}
  | ⟨[.tup (.nil)], [.var (.cons (.row 100001) (.cons (.row 100002) (.cons (.int .i64 v0) (.cons (.int .i64 v1) (.nil))))), .row 27 v2, .row 146 v3]⟩ => some ⟨(v0, v1, v2, v3), rfl⟩
  | _ => none
/-- "(*silt/siltref02.Dev).Crash"  -/
def F47 (k : Nat) (x : List Int × Int × Int × List (List Int) × List T145) : Option (Int × Int × List (List Int) × List T145) :=
  match x with
  | (v0, v1, v2, v3, v4) => (L47_1 k k (v0, (0 : Int), v1, v2, v3, v4)).bind fun r => some ((-1 : Int), r.snd.fst, r.snd.snd.fst, [])
noncomputable def sp47 : FSpec Ty := addH 1 ab47 F47 on47 noH
theorem lo47_1 : LSOK fs45 kp47 tab Try.f47 ls47_1 := lsum_ok bo47 nd47 (LSOK.none) oa47_1 (R := R47_1) fun k again x => by kernel_rfl
theorem ok47 : FOK Try.prog tab 47 sp47 := addH_ok (keeps := kp47) tabOK fs45OK Try.func47 bo47 (by kernel_rfl) nd47 (lo47_1) oa47 (F := F47) (fun k x => by kernel_rfl) (pinned_le (Nat.le_refl _) _) FOK.none rfl
noncomputable def fs47 : Nat → Option (FSpec Ty) := addF 47 sp47 fs45
theorem fs47OK : SpecsOK Try.prog tab fs47 := fs45OK.add ok47 Try.call47
def ag7 : Args Ty (Int × (List T59) × Unit) := V.arg (tab.den 3) (V.arg (tab.den 50) (noArgs))
def rs7 : Res Ty tab (Bool) false := V.oneRes (tab.den 4) (ent 4).ids (ent 4).plain (fun x _ => (ent 4).flat x rfl)
def of7_8 : List T59 × Int → NSt Ty := fun x => ⟨[.slice 60 (x.1), .nilp, .nilp, .int .i64 (x.2)], []⟩
def ab7_8 : (n : NSt Ty) → Option {x : List T59 × Int // of7_8 x = n}
  | ⟨[.slice 60 v0, .nilp, .nilp, .int .i64 v1], []⟩ => some ⟨(v0, v1), rfl⟩
  | _ => none
def oe7_8 : Unit → Ex := fun _ => .exit 0
def on7_8 : Unit → NSt Ty := fun x => ⟨[.undef, .nilp, .nilp], []⟩
def oa7_8 : (e : Ex) → (n : NSt Ty) → Option {y : Unit // oe7_8 y = e ∧ on7_8 y = n}
  | .exit 0, ⟨[.undef, .nilp, .nilp], []⟩ => some ⟨(), rfl, rfl⟩
  | _, _ => none
/-- a round of the loop 8 of function 7 -/
def R7_8 (k : Nat) (again : List T59 × Int → Option (Unit)) (x : List T59 × Int) : Option (Unit) :=
  match x with
  | (v0, v1) => bif decide (v1 < (↑v0.length : Int)) then some () else some ()
def L7_8 (k n : Nat) (x : List T59 × Int) : Option (Unit) := iterR (R7_8 k) n x
noncomputable def ls7_8 : Nat → Option (LSum Ty) := addL 8 (LSum.of of7_8 ab7_8 L7_8 oe7_8 on7_8) noL
def of7_32 : Int → NSt Ty := fun x => ⟨[.nilp, .nilp, .int .i64 (x)], []⟩
def ab7_32 : (n : NSt Ty) → Option {x : Int // of7_32 x = n}
  | ⟨[.nilp, .nilp, .int .i64 v0], []⟩ => some ⟨v0, rfl⟩
  | _ => none
def oe7_32 : Unit → Ex := fun _ => .exit 3
def on7_32 : Unit → NSt Ty := fun x => ⟨[.undef], []⟩
def oa7_32 : (e : Ex) → (n : NSt Ty) → Option {y : Unit // oe7_32 y = e ∧ on7_32 y = n}
  | .exit 3, ⟨[.undef], []⟩ => some ⟨(), rfl, rfl⟩
  | _, _ => none
/-- a round of the loop 32 of function 7 -/
def R7_32 (k : Nat) (again : Int → Option (Unit)) (x : Int) : Option (Unit) :=
  match x with
  | v0 => some ()
def L7_32 (k n : Nat) (x : Int) : Option (Unit) := iterR (R7_32 k) n x
noncomputable def ls7_32 : Nat → Option (LSum Ty) := addL 32 (LSum.of of7_32 ab7_32 L7_32 oe7_32 on7_32) ls7_8
def of7_8b : List T59 × Int × Int × Int × Int × Int × List (List Int) × List T143 × List (List Int) × List T145 → NSt Ty := fun x => ⟨[.slice 60 (x.1), .ptr 100000 [], .ptr 100001 [], .int .i64 (x.2.1)], [.var (.cons (.row 100002) (.cons (.row 100003) (.cons (.int .i64 (x.2.2.1)) (.cons (.int .i64 (x.2.2.2.1)) (.nil))))), .var (.cons (.row 100004) (.cons (.row 100005) (.cons (.int .i64 (x.2.2.2.2.1)) (.cons (.int .i64 (x.2.2.2.2.2.1)) (.nil))))), .row 27 (x.2.2.2.2.2.2.1), .row 144 (x.2.2.2.2.2.2.2.1), .row 27 (x.2.2.2.2.2.2.2.2.1), .row 146 (x.2.2.2.2.2.2.2.2.2)]⟩
def ab7_8b : (n : NSt Ty) → Option {x : List T59 × Int × Int × Int × Int × Int × List (List Int) × List T143 × List (List Int) × List T145 // of7_8b x = n}
  | ⟨[.slice 60 v0, .ptr 100000 [], .ptr 100001 [], .int .i64 v1], [.var (.cons (.row 100002) (.cons (.row 100003) (.cons (.int .i64 v2) (.cons (.int .i64 v3) (.nil))))), .var (.cons (.row 100004) (.cons (.row 100005) (.cons (.int .i64 v4) (.cons (.int .i64 v5) (.nil))))), .row 27 v6, .row 144 v7, .row 27 v8, .row 146 v9]⟩ => some ⟨(v0, v1, v2, v3, v4, v5, v6, v7, v8, v9), rfl⟩
  | _ => none
def on7_8ba : Bool × Int × Int × Int × Int × List (List Int) × List T143 × List (List Int) × List T145 → NSt Ty := fun x => ⟨[.bool (x.1), .ptr 100000 [], .ptr 100001 []], [.var (.cons (.row 100002) (.cons (.row 100003) (.cons (.int .i64 (x.2.1)) (.cons (.int .i64 (x.2.2.1)) (.nil))))), .var (.cons (.row 100004) (.cons (.row 100005) (.cons (.int .i64 (x.2.2.2.1)) (.cons (.int .i64 (x.2.2.2.2.1)) (.nil))))), .row 27 (x.2.2.2.2.2.1), .row 144 (x.2.2.2.2.2.2.1), .row 27 (x.2.2.2.2.2.2.2.1), .row 146 (x.2.2.2.2.2.2.2.2)]⟩
def on7_8bb : Int × Int × Int × Int × List (List Int) × List T143 × List (List Int) × List T145 → NSt Ty := fun x => ⟨[.undef, .ptr 100000 [], .ptr 100001 []], [.var (.cons (.row 100002) (.cons (.row 100003) (.cons (.int .i64 (x.1)) (.cons (.int .i64 (x.2.1)) (.nil))))), .var (.cons (.row 100004) (.cons (.row 100005) (.cons (.int .i64 (x.2.2.1)) (.cons (.int .i64 (x.2.2.2.1)) (.nil))))), .row 27 (x.2.2.2.2.1), .row 144 (x.2.2.2.2.2.1), .row 27 (x.2.2.2.2.2.2.1), .row 146 (x.2.2.2.2.2.2.2)]⟩
def oa7_8b : (e : Ex) → (n : NSt Ty) → Option {y : (Bool × Int × Int × Int × Int × List (List Int) × List T143 × List (List Int) × List T145) ⊕ (Int × Int × Int × Int × List (List Int) × List T143 × List (List Int) × List T145) // oe2 .ret (.exit 0) y = e ∧ on2 on7_8ba on7_8bb y = n}
  | .ret, ⟨[.bool v0, .ptr 100000 [], .ptr 100001 []], [.var (.cons (.row 100002) (.cons (.row 100003) (.cons (.int .i64 v1) (.cons (.int .i64 v2) (.nil))))), .var (.cons (.row 100004) (.cons (.row 100005) (.cons (.int .i64 v3) (.cons (.int .i64 v4) (.nil))))), .row 27 v5, .row 144 v6, .row 27 v7, .row 146 v8]⟩ => some ⟨.inl (v0, v1, v2, v3, v4, v5, v6, v7, v8), rfl, rfl⟩
  | .exit 0, ⟨[.undef, .ptr 100000 [], .ptr 100001 []], [.var (.cons (.row 100002) (.cons (.row 100003) (.cons (.int .i64 v0) (.cons (.int .i64 v1) (.nil))))), .var (.cons (.row 100004) (.cons (.row 100005) (.cons (.int .i64 v2) (.cons (.int .i64 v3) (.nil))))), .row 27 v4, .row 144 v5, .row 27 v6, .row 146 v7]⟩ => some ⟨.inr (v0, v1, v2, v3, v4, v5, v6, v7), rfl, rfl⟩
  | _, _ => none
/-- a round of the loop 8 of function 7 -/
def R7_8b (k : Nat) (again : List T59 × Int × Int × Int × Int × Int × List (List Int) × List T143 × List (List Int) × List T145 → Option ((Bool × Int × Int × Int × Int × List (List Int) × List T143 × List (List Int) × List T145) ⊕ (Int × Int × Int × Int × List (List Int) × List T143 × List (List Int) × List T145))) (x : List T59 × Int × Int × Int × Int × Int × List (List Int) × List T143 × List (List Int) × List T145) : Option ((Bool × Int × Int × Int × Int × List (List Int) × List T143 × List (List Int) × List T145) ⊕ (Int × Int × Int × Int × List (List Int) × List T143 × List (List Int) × List T145)) :=
  match x with
  | (v0, v1, v2, v3, v4, v5, v6, v7, v8, v9) => bif decide (v1 < (↑v0.length : Int)) then bif inRange v1 v0.length then bif (v0.getD v1.toNat (T59.mk (0 : Int) (0 : Int) (0 : Int) [])).1 == (0 : Int) then (F40 k ((v0.getD v1.toNat (T59.mk (0 : Int) (0 : Int) (0 : Int) [])).3, ())).bind fun r => (F39 k ((v0.getD v1.toNat (T59.mk (0 : Int) (0 : Int) (0 : Int) [])).2, r, v2, v3, v6, v7)).bind fun r => (F40 k ((v0.getD v1.toNat (T59.mk (0 : Int) (0 : Int) (0 : Int) [])).3, ())).bind fun r_1 => (F41 k ((v0.getD v1.toNat (T59.mk (0 : Int) (0 : Int) (0 : Int) [])).2, r_1, v4, v5, v8, v9)).bind fun r_2 => bif r.fst != r_2.fst then some (Sum.inl (false, r.snd.fst, r.snd.snd.fst, r_2.snd.fst, r_2.snd.snd.fst, r.snd.snd.snd.fst, r.snd.snd.snd.snd, r_2.snd.snd.snd.fst, r_2.snd.snd.snd.snd)) else (F49 k (r.snd.fst, r.snd.snd.fst, r.snd.snd.snd.fst, r.snd.snd.snd.snd)).bind fun r => bif r.fst != (↑r_2.snd.snd.snd.snd.length : Int) then some (Sum.inl (false, r.snd.fst, r.snd.snd.fst, r_2.snd.fst, r_2.snd.snd.fst, r.snd.snd.snd.fst, r.snd.snd.snd.snd, r_2.snd.snd.snd.fst, r_2.snd.snd.snd.snd)) else (F50 k (r.snd.fst, r.snd.snd.fst, r.snd.snd.snd.fst, r.snd.snd.snd.snd)).bind fun r => bif r.fst != (↑r_2.snd.snd.snd.fst.length : Int) then some (Sum.inl (false, r.snd.fst, r.snd.snd.fst, r_2.snd.fst, r_2.snd.snd.fst, r.snd.snd.snd.fst, r.snd.snd.snd.snd, r_2.snd.snd.snd.fst, r_2.snd.snd.snd.snd)) else (F51 k (r.snd.fst, r.snd.snd.fst, r.snd.snd.snd.fst, r.snd.snd.snd.snd)).bind fun r => bif r.fst != r_2.snd.snd.fst then some (Sum.inl (false, r.snd.fst, r.snd.snd.fst, r_2.snd.fst, r_2.snd.snd.fst, r.snd.snd.snd.fst, r.snd.snd.snd.snd, r_2.snd.snd.snd.fst, r_2.snd.snd.snd.snd)) else again (v0, IntKind.i64.wrap (v1 + (1 : Int)), r.snd.fst, r.snd.snd.fst, r_2.snd.fst, r_2.snd.snd.fst, r.snd.snd.snd.fst, r.snd.snd.snd.snd, r_2.snd.snd.snd.fst, r_2.snd.snd.snd.snd) else bif (v0.getD v1.toNat (T59.mk (0 : Int) (0 : Int) (0 : Int) [])).1 == (1 : Int) then (F42 k ((v0.getD v1.toNat (T59.mk (0 : Int) (0 : Int) (0 : Int) [])).2, v2, v3, v6, v7)).bind fun r => (F43 k ((v0.getD v1.toNat (T59.mk (0 : Int) (0 : Int) (0 : Int) [])).2, v4, v5, v8, v9)).bind fun r_1 => bif !decide (r.fst = r_1.fst) then some (Sum.inl (false, r.snd.snd.fst, r.snd.snd.snd.fst, r_1.snd.snd.fst, r_1.snd.snd.snd.fst, r.snd.snd.snd.snd.fst, r.snd.snd.snd.snd.snd, r_1.snd.snd.snd.snd.fst, r_1.snd.snd.snd.snd.snd)) else bif r.snd.fst != r_1.snd.fst then some (Sum.inl (false, r.snd.snd.fst, r.snd.snd.snd.fst, r_1.snd.snd.fst, r_1.snd.snd.snd.fst, r.snd.snd.snd.snd.fst, r.snd.snd.snd.snd.snd, r_1.snd.snd.snd.snd.fst, r_1.snd.snd.snd.snd.snd)) else (F49 k (r.snd.snd.fst, r.snd.snd.snd.fst, r.snd.snd.snd.snd.fst, r.snd.snd.snd.snd.snd)).bind fun r => bif r.fst != (↑r_1.snd.snd.snd.snd.snd.length : Int) then some (Sum.inl (false, r.snd.fst, r.snd.snd.fst, r_1.snd.snd.fst, r_1.snd.snd.snd.fst, r.snd.snd.snd.fst, r.snd.snd.snd.snd, r_1.snd.snd.snd.snd.fst, r_1.snd.snd.snd.snd.snd)) else (F50 k (r.snd.fst, r.snd.snd.fst, r.snd.snd.snd.fst, r.snd.snd.snd.snd)).bind fun r => bif r.fst != (↑r_1.snd.snd.snd.snd.fst.length : Int) then some (Sum.inl (false, r.snd.fst, r.snd.snd.fst, r_1.snd.snd.fst, r_1.snd.snd.snd.fst, r.snd.snd.snd.fst, r.snd.snd.snd.snd, r_1.snd.snd.snd.snd.fst, r_1.snd.snd.snd.snd.snd)) else (F51 k (r.snd.fst, r.snd.snd.fst, r.snd.snd.snd.fst, r.snd.snd.snd.snd)).bind fun r => bif r.fst != r_1.snd.snd.snd.fst then some (Sum.inl (false, r.snd.fst, r.snd.snd.fst, r_1.snd.snd.fst, r_1.snd.snd.snd.fst, r.snd.snd.snd.fst, r.snd.snd.snd.snd, r_1.snd.snd.snd.snd.fst, r_1.snd.snd.snd.snd.snd)) else again (v0, IntKind.i64.wrap (v1 + (1 : Int)), r.snd.fst, r.snd.snd.fst, r_1.snd.snd.fst, r_1.snd.snd.snd.fst, r.snd.snd.snd.fst, r.snd.snd.snd.snd, r_1.snd.snd.snd.snd.fst, r_1.snd.snd.snd.snd.snd) else bif (v0.getD v1.toNat (T59.mk (0 : Int) (0 : Int) (0 : Int) [])).1 == (2 : Int) then (F44 k (v2, v3, v6, v7)).bind fun r => (F45 k (v4, v5, v8, v9)).bind fun r_1 => bif r.fst != r_1.fst then some (Sum.inl (false, r.snd.fst, r.snd.snd.fst, r_1.snd.fst, r_1.snd.snd.fst, r.snd.snd.snd.fst, r.snd.snd.snd.snd, r_1.snd.snd.snd.fst, r_1.snd.snd.snd.snd)) else (F49 k (r.snd.fst, r.snd.snd.fst, r.snd.snd.snd.fst, r.snd.snd.snd.snd)).bind fun r => bif r.fst != (↑r_1.snd.snd.snd.snd.length : Int) then some (Sum.inl (false, r.snd.fst, r.snd.snd.fst, r_1.snd.fst, r_1.snd.snd.fst, r.snd.snd.snd.fst, r.snd.snd.snd.snd, r_1.snd.snd.snd.fst, r_1.snd.snd.snd.snd)) else (F50 k (r.snd.fst, r.snd.snd.fst, r.snd.snd.snd.fst, r.snd.snd.snd.snd)).bind fun r => bif r.fst != (↑r_1.snd.snd.snd.fst.length : Int) then some (Sum.inl (false, r.snd.fst, r.snd.snd.fst, r_1.snd.fst, r_1.snd.snd.fst, r.snd.snd.snd.fst, r.snd.snd.snd.snd, r_1.snd.snd.snd.fst, r_1.snd.snd.snd.snd)) else (F51 k (r.snd.fst, r.snd.snd.fst, r.snd.snd.snd.fst, r.snd.snd.snd.snd)).bind fun r => bif r.fst != r_1.snd.snd.fst then some (Sum.inl (false, r.snd.fst, r.snd.snd.fst, r_1.snd.fst, r_1.snd.snd.fst, r.snd.snd.snd.fst, r.snd.snd.snd.snd, r_1.snd.snd.snd.fst, r_1.snd.snd.snd.snd)) else again (v0, IntKind.i64.wrap (v1 + (1 : Int)), r.snd.fst, r.snd.snd.fst, r_1.snd.fst, r_1.snd.snd.fst, r.snd.snd.snd.fst, r.snd.snd.snd.snd, r_1.snd.snd.snd.fst, r_1.snd.snd.snd.snd) else bif (v0.getD v1.toNat (T59.mk (0 : Int) (0 : Int) (0 : Int) [])).1 == (3 : Int) then bif decide ((List.replicate (0 : Nat) (0 : Int)).length + (v0.getD v1.toNat (T59.mk (0 : Int) (0 : Int) (0 : Int) [])).4.length ≤ roomMost) then (F46 k (List.replicate (0 : Nat) (0 : Int) ++ (v0.getD v1.toNat (T59.mk (0 : Int) (0 : Int) (0 : Int) [])).4, v2, v3, v6, v7)).bind fun r => (F47 k ((v0.getD v1.toNat (T59.mk (0 : Int) (0 : Int) (0 : Int) [])).4, v4, v5, v8, v9)).bind fun r_1 => (F49 k (r.fst, r.snd.fst, r.snd.snd.fst, r.snd.snd.snd)).bind fun r => bif r.fst != (↑r_1.snd.snd.snd.length : Int) then some (Sum.inl (false, r.snd.fst, r.snd.snd.fst, r_1.fst, r_1.snd.fst, r.snd.snd.snd.fst, r.snd.snd.snd.snd, r_1.snd.snd.fst, r_1.snd.snd.snd)) else (F50 k (r.snd.fst, r.snd.snd.fst, r.snd.snd.snd.fst, r.snd.snd.snd.snd)).bind fun r => bif r.fst != (↑r_1.snd.snd.fst.length : Int) then some (Sum.inl (false, r.snd.fst, r.snd.snd.fst, r_1.fst, r_1.snd.fst, r.snd.snd.snd.fst, r.snd.snd.snd.snd, r_1.snd.snd.fst, r_1.snd.snd.snd)) else (F51 k (r.snd.fst, r.snd.snd.fst, r.snd.snd.snd.fst, r.snd.snd.snd.snd)).bind fun r => bif r.fst != r_1.snd.fst then some (Sum.inl (false, r.snd.fst, r.snd.snd.fst, r_1.fst, r_1.snd.fst, r.snd.snd.snd.fst, r.snd.snd.snd.snd, r_1.snd.snd.fst, r_1.snd.snd.snd)) else again (v0, IntKind.i64.wrap (v1 + (1 : Int)), r.snd.fst, r.snd.snd.fst, r_1.fst, r_1.snd.fst, r.snd.snd.snd.fst, r.snd.snd.snd.snd, r_1.snd.snd.fst, r_1.snd.snd.snd) else none else bif (v0.getD v1.toNat (T59.mk (0 : Int) (0 : Int) (0 : Int) [])).1 == (4 : Int) then (F48 k ((v0.getD v1.toNat (T59.mk (0 : Int) (0 : Int) (0 : Int) [])).2, v2, v3, v6, v7)).bind fun r => (F49 k (r.fst, r.snd.fst, r.snd.snd.fst, r.snd.snd.snd)).bind fun r => bif r.fst != (↑v9.length : Int) then some (Sum.inl (false, r.snd.fst, r.snd.snd.fst, (v0.getD v1.toNat (T59.mk (0 : Int) (0 : Int) (0 : Int) [])).2, v5, r.snd.snd.snd.fst, r.snd.snd.snd.snd, v8, v9)) else (F50 k (r.snd.fst, r.snd.snd.fst, r.snd.snd.snd.fst, r.snd.snd.snd.snd)).bind fun r => bif r.fst != (↑v8.length : Int) then some (Sum.inl (false, r.snd.fst, r.snd.snd.fst, (v0.getD v1.toNat (T59.mk (0 : Int) (0 : Int) (0 : Int) [])).2, v5, r.snd.snd.snd.fst, r.snd.snd.snd.snd, v8, v9)) else (F51 k (r.snd.fst, r.snd.snd.fst, r.snd.snd.snd.fst, r.snd.snd.snd.snd)).bind fun r => bif r.fst != v5 then some (Sum.inl (false, r.snd.fst, r.snd.snd.fst, (v0.getD v1.toNat (T59.mk (0 : Int) (0 : Int) (0 : Int) [])).2, v5, r.snd.snd.snd.fst, r.snd.snd.snd.snd, v8, v9)) else again (v0, IntKind.i64.wrap (v1 + (1 : Int)), r.snd.fst, r.snd.snd.fst, (v0.getD v1.toNat (T59.mk (0 : Int) (0 : Int) (0 : Int) [])).2, v5, r.snd.snd.snd.fst, r.snd.snd.snd.snd, v8, v9) else (F49 k (v2, v3, v6, v7)).bind fun r => bif r.fst != (↑v9.length : Int) then some (Sum.inl (false, r.snd.fst, r.snd.snd.fst, v4, v5, r.snd.snd.snd.fst, r.snd.snd.snd.snd, v8, v9)) else (F50 k (r.snd.fst, r.snd.snd.fst, r.snd.snd.snd.fst, r.snd.snd.snd.snd)).bind fun r => bif r.fst != (↑v8.length : Int) then some (Sum.inl (false, r.snd.fst, r.snd.snd.fst, v4, v5, r.snd.snd.snd.fst, r.snd.snd.snd.snd, v8, v9)) else (F51 k (r.snd.fst, r.snd.snd.fst, r.snd.snd.snd.fst, r.snd.snd.snd.snd)).bind fun r => bif r.fst != v5 then some (Sum.inl (false, r.snd.fst, r.snd.snd.fst, v4, v5, r.snd.snd.snd.fst, r.snd.snd.snd.snd, v8, v9)) else again (v0, IntKind.i64.wrap (v1 + (1 : Int)), r.snd.fst, r.snd.snd.fst, v4, v5, r.snd.snd.snd.fst, r.snd.snd.snd.snd, v8, v9) else none else some (Sum.inr (v2, v3, v4, v5, v6, v7, v8, v9))
def L7_8b (k n : Nat) (x : List T59 × Int × Int × Int × Int × Int × List (List Int) × List T143 × List (List Int) × List T145) : Option ((Bool × Int × Int × Int × Int × List (List Int) × List T143 × List (List Int) × List T145) ⊕ (Int × Int × Int × Int × List (List Int) × List T143 × List (List Int) × List T145)) := iterR (R7_8b k) n x
noncomputable def ls7_8b : Nat → Option (LSum Ty) := addL 8 (LSum.or ab7_8 (LSum.of of7_8 ab7_8 L7_8 oe7_8 on7_8) (lsum2 of7_8b ab7_8b L7_8b .ret on7_8ba (.exit 0) on7_8bb)) ls7_32
def of7_32b : Int × Int × Int × Int × Int × List (List Int) × List T143 × List (List Int) × List T145 → NSt Ty := fun x => ⟨[.ptr 100000 [], .ptr 100001 [], .int .i64 (x.1)], [.var (.cons (.row 100002) (.cons (.row 100003) (.cons (.int .i64 (x.2.1)) (.cons (.int .i64 (x.2.2.1)) (.nil))))), .var (.cons (.row 100004) (.cons (.row 100005) (.cons (.int .i64 (x.2.2.2.1)) (.cons (.int .i64 (x.2.2.2.2.1)) (.nil))))), .row 27 (x.2.2.2.2.2.1), .row 144 (x.2.2.2.2.2.2.1), .row 27 (x.2.2.2.2.2.2.2.1), .row 146 (x.2.2.2.2.2.2.2.2)]⟩
def ab7_32b : (n : NSt Ty) → Option {x : Int × Int × Int × Int × Int × List (List Int) × List T143 × List (List Int) × List T145 // of7_32b x = n}
  | ⟨[.ptr 100000 [], .ptr 100001 [], .int .i64 v0], [.var (.cons (.row 100002) (.cons (.row 100003) (.cons (.int .i64 v1) (.cons (.int .i64 v2) (.nil))))), .var (.cons (.row 100004) (.cons (.row 100005) (.cons (.int .i64 v3) (.cons (.int .i64 v4) (.nil))))), .row 27 v5, .row 144 v6, .row 27 v7, .row 146 v8]⟩ => some ⟨(v0, v1, v2, v3, v4, v5, v6, v7, v8), rfl⟩
  | _ => none
def on7_32ba : Bool → NSt Ty := fun x => ⟨[.bool (x)], []⟩
def on7_32bb : Unit → NSt Ty := fun x => ⟨[.undef], []⟩
def oa7_32b : (e : Ex) → (n : NSt Ty) → Option {y : (Bool) ⊕ (Unit) // oe2 .ret (.exit 3) y = e ∧ on2 on7_32ba on7_32bb y = n}
  | .ret, ⟨[.bool v0], []⟩ => some ⟨.inl v0, rfl, rfl⟩
  | .exit 3, ⟨[.undef], []⟩ => some ⟨.inr (), rfl, rfl⟩
  | _, _ => none
/-- a round of the loop 32 of function 7 -/
def R7_32b (k : Nat) (again : Int × Int × Int × Int × Int × List (List Int) × List T143 × List (List Int) × List T145 → Option ((Bool) ⊕ (Unit))) (x : Int × Int × Int × Int × Int × List (List Int) × List T143 × List (List Int) × List T145) : Option ((Bool) ⊕ (Unit)) :=
  match x with
  | (v0, v1, v2, v3, v4, v5, v6, v7, v8) => bif decide (v0 < (↑v7.length : Int)) then (F42 k (v0, v1, v2, v5, v6)).bind fun r => (F43 k (v0, v3, v4, v7, v8)).bind fun r_1 => bif r.snd.fst != (0 : Int) then some (Sum.inl false) else bif !decide (r.fst = r_1.fst) then some (Sum.inl false) else again (IntKind.i64.wrap (v0 + (1 : Int)), r.snd.snd.fst, r.snd.snd.snd.fst, r_1.snd.snd.fst, r_1.snd.snd.snd.fst, r.snd.snd.snd.snd.fst, r.snd.snd.snd.snd.snd, r_1.snd.snd.snd.snd.fst, r_1.snd.snd.snd.snd.snd) else some (Sum.inr ())
def L7_32b (k n : Nat) (x : Int × Int × Int × Int × Int × List (List Int) × List T143 × List (List Int) × List T145) : Option ((Bool) ⊕ (Unit)) := iterR (R7_32b k) n x
noncomputable def ls7_32b : Nat → Option (LSum Ty) := addL 32 (LSum.or ab7_32 (LSum.of of7_32 ab7_32 L7_32 oe7_32 on7_32) (lsum2 of7_32b ab7_32b L7_32b .ret on7_32ba (.exit 3) on7_32bb)) ls7_8b
def kp7 : Nat → Keep := fun i => cond (i == 8) ⟨[1, 5, 7, 9], [4, 5, 7], 0⟩ (cond (i == 32) ⟨[5, 7, 15], [4], 0⟩ (⟨[], [], 0⟩))
/-- "silt/siltlaw02.DevPlays" -/
def F7 (k : Nat) (x : Int × (List T59) × Unit) : Option (Bool) :=
  match x with
  | (a0, a1, ()) => (F35 k (a1, ())).bind fun r => bif !r then (F36 k ()).bind fun r => some r else bif decide (a0 > (60 : Int)) then bif decide (a0 ≤ (1024 : Int)) then (F36 k ()).bind fun r => some r else (F37 k a0).bind fun r => sumK r (fun a => (F38 k a0).bind fun r => sumK r (fun a_1 => bif a != a_1 then some false else (L7_8 k k (a1, (0 : Int))).bind fun r => (L7_32 k k (0 : Int)).bind fun r => (F36 k ()).bind fun r => some r) fun b => bif a != b.fst then some false else some false) fun b => (F38 k a0).bind fun r => sumK r (fun a => bif b.fst != a then some false else some false) fun b_1 => bif b.fst != b_1.fst then some false else (L7_8b k k (a1, (0 : Int), b.snd.fst, b.snd.snd.fst, b_1.snd.fst, b_1.snd.snd.fst, b.snd.snd.snd.fst, b.snd.snd.snd.snd, b_1.snd.snd.snd.fst, b_1.snd.snd.snd.snd)).bind fun r => sumK r (fun a => some a.fst) fun b => (L7_32b k k ((0 : Int), b.fst, b.snd.fst, b.snd.snd.fst, b.snd.snd.snd.fst, b.snd.snd.snd.snd.fst, b.snd.snd.snd.snd.snd.fst, b.snd.snd.snd.snd.snd.snd.fst, b.snd.snd.snd.snd.snd.snd.snd)).bind fun r => sumK r (fun a => some a) fun b => (F36 k ()).bind fun r => some r else (F37 k a0).bind fun r => sumK r (fun a => (F38 k a0).bind fun r => sumK r (fun a_1 => bif a != a_1 then some false else (L7_8 k k (a1, (0 : Int))).bind fun r => (L7_32 k k (0 : Int)).bind fun r => (F36 k ()).bind fun r => some r) fun b => bif a != b.fst then some false else some false) fun b => (F38 k a0).bind fun r => sumK r (fun a => bif b.fst != a then some false else some false) fun b_1 => bif b.fst != b_1.fst then some false else (L7_8b k k (a1, (0 : Int), b.snd.fst, b.snd.snd.fst, b_1.snd.fst, b_1.snd.snd.fst, b.snd.snd.snd.fst, b.snd.snd.snd.snd, b_1.snd.snd.snd.fst, b_1.snd.snd.snd.snd)).bind fun r => sumK r (fun a => some a.fst) fun b => (L7_32b k k ((0 : Int), b.fst, b.snd.fst, b.snd.snd.fst, b.snd.snd.snd.fst, b.snd.snd.snd.snd.fst, b.snd.snd.snd.snd.snd.fst, b.snd.snd.snd.snd.snd.snd.fst, b.snd.snd.snd.snd.snd.snd.snd)).bind fun r => sumK r (fun a => some a) fun b => (F36 k ()).bind fun r => some r
noncomputable def sp7 : FSpec Ty := spec ag7 rs7 F7
theorem bo7 : Try.f7.body = some (bodyOf Try.f7) := by kernel_rfl
theorem nd7 : nodupB ((loopsIn (bodyOf Try.f7)).map firstRegion) = true := by kernel_rfl
theorem lo7_8 : LSOK fs47 kp7 tab Try.f7 ls7_8 := lsum_ok bo7 nd7 (LSOK.none) oa7_8 (R := R7_8) fun k again x => by kernel_rfl
theorem lo7_32 : LSOK fs47 kp7 tab Try.f7 ls7_32 := lsum_ok bo7 nd7 (lo7_8) oa7_32 (R := R7_32) fun k again x => by kernel_rfl
theorem lo7_8b : LSOK fs47 kp7 tab Try.f7 ls7_8b := LSOK.or2 ab7_8 (lo7_8 8 _ rfl) (lsum2_ok bo7 nd7 (lo7_32) oa7_8b (R := R7_8b) fun k again x => by kernel_rfl)
theorem lo7_32b : LSOK fs47 kp7 tab Try.f7 ls7_32b := LSOK.or2 ab7_32 (lo7_32 32 _ rfl) (lsum2_ok bo7 nd7 (lo7_8b) oa7_32b (R := R7_32b) fun k again x => by kernel_rfl)
theorem ok7 : FOK Try.prog tab 7 sp7 := spec_ok (keeps := kp7) tabOK fs47OK Try.func7 bo7 (by kernel_rfl) nd7 (lo7_32b) (F := F7) fun k x => by kernel_rfl
noncomputable def fs7 : Nat → Option (FSpec Ty) := addF 7 sp7 fs47
theorem fs7OK : SpecsOK Try.prog tab fs7 := fs47OK.add ok7 Try.call7
end Go.Proofs.Ytbhnkjnjeifdhaa.W
