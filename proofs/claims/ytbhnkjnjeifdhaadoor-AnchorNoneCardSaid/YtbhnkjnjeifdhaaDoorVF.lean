/-
  The functions that the statement reaches, as typed functions, and that the program computes them. No conditions. Printed by program.
-/
import Derived.Test.YtbhnkjnjeifdhaaDoorVI
set_option linter.unusedVariables false
namespace Go.Proofs.YtbhnkjnjeifdhaaDoor.W
open Go Go.Proofs V
theorem noFOK : SpecsOK Tryd.prog tab noF := SpecsOK.none cmpOK asOK
theorem bo13 : Tryd.f13.body = some (bodyOf Tryd.f13) := by kernel_rfl
theorem nd13 : nodupB ((loopsIn (bodyOf Tryd.f13)).map firstRegion) = true := by kernel_rfl
def of13 : Int → NSt Ty := fun x => ⟨[.int .i64 (x)], []⟩
def ab13 : (n : NSt Ty) → Option {x : Int // of13 x = n}
  | ⟨[.int .i64 v0], []⟩ => some ⟨v0, rfl⟩
  | _ => none
def kp13 : Nat → Keep := pinned 0 fun i => ⟨[], [], 0⟩
def on13a : Int → NSt Ty := fun x => ⟨[.tup (.cons (.nilp) (.cons (.int .i64 (x)) (.nil)))], []⟩
def on13b : Int × Int × Int × List (List Int) × List T126 → NSt Ty := fun x => ⟨[.tup (.cons (.ptr 100000 []) (.cons (.int .i64 (x.1)) (.nil)))], [.var (.cons (.row 100001) (.cons (.row 100002) (.cons (.int .i64 (x.2.1)) (.cons (.int .i64 (x.2.2.1)) (.nil))))), .row 84 (x.2.2.2.1), .row 127 (x.2.2.2.2)]⟩
def oa13 : (n : NSt Ty) → Option {y : (Int) ⊕ (Int × Int × Int × List (List Int) × List T126) // on2 on13a on13b y = n}
  | ⟨[.tup (.cons (.nilp) (.cons (.int .i64 v0) (.nil)))], []⟩ => some ⟨.inl v0, rfl⟩
  | ⟨[.tup (.cons (.ptr 100000 []) (.cons (.int .i64 v0) (.nil)))], [.var (.cons (.row 100001) (.cons (.row 100002) (.cons (.int .i64 v1) (.cons (.int .i64 v2) (.nil))))), .row 84 v3, .row 127 v4]⟩ => some ⟨.inr (v0, v1, v2, v3, v4), rfl⟩
  | _ => none
/-- "silt/dev.New"  -/
def F13 (k : Nat) (x : Int) : Option ((Int) ⊕ (Int × Int × Int × List (List Int) × List T126)) :=
  match x with
  | v0 => bif decide (v0 < (1 : Int)) then some (Sum.inl (1 : Int)) else bif decide (v0 > (1024 : Int)) then some (Sum.inl (1 : Int)) else bif decide (v0 = v0) && decide ((0 : Int) ≤ v0) && decide (v0 ≤ (↑roomMost : Int)) then some (Sum.inr ((0 : Int), (-1 : Int), (0 : Int), List.replicate v0.toNat (List.replicate (64 : Nat) (0 : Int)), [])) else none
noncomputable def sp13 : FSpec Ty := addH2 0 ab13 F13 on13a on13b noH
theorem ok13 : FOK Tryd.prog tab 13 sp13 := addH2_ok (keeps := kp13) tabOK noFOK Tryd.func13 bo13 (by kernel_rfl) nd13 (LSOK.none) oa13 (F := F13) (fun k x => by kernel_rfl) (pinned_le (Nat.le_refl _) _) FOK.none rfl
noncomputable def fs13 : Nat → Option (FSpec Ty) := addF 13 sp13 noF
theorem fs13OK : SpecsOK Tryd.prog tab fs13 := noFOK.add ok13 Tryd.call13
theorem bo54 : Tryd.f54.body = some (bodyOf Tryd.f54) := by kernel_rfl
theorem nd54 : nodupB ((loopsIn (bodyOf Tryd.f54)).map firstRegion) = true := by kernel_rfl
def of54hn : Int → NSt Ty := fun x => ⟨[.nilp, .int .i64 (x)], []⟩
def ab54hn : (n : NSt Ty) → Option {x : Int // of54hn x = n}
  | ⟨[.nilp, .int .i64 v0], []⟩ => some ⟨v0, rfl⟩
  | _ => none
def kp54hn : Nat → Keep := pinned 0 fun i => ⟨[], [], 0⟩
def on54hn : Int → NSt Ty := fun x => ⟨[.int .i64 (x)], []⟩
def oa54hn : (n : NSt Ty) → Option {y : Int // on54hn y = n}
  | ⟨[.int .i64 v0], []⟩ => some ⟨v0, rfl⟩
  | _ => none
/-- "(*silt/dev.Dev).tell" hn -/
def F54hn (k : Nat) (x : Int) : Option (Int) :=
  match x with
  | v0 => some (0 : Int)
noncomputable def sp54hn : FSpec Ty := addH 0 ab54hn F54hn on54hn noH
theorem ok54hn : FOK Tryd.prog tab 54 sp54hn := addH_ok (keeps := kp54hn) tabOK fs13OK Tryd.func54 bo54 (by kernel_rfl) nd54 (LSOK.none) oa54hn (F := F54hn) (fun k x => by kernel_rfl) (pinned_le (Nat.le_refl _) _) FOK.none rfl
def of54 : Int × Int × Int × List (List Int) × List T126 → NSt Ty := fun x => ⟨[.ptr 100000 [], .int .i64 (x.1)], [.var (.cons (.row 100001) (.cons (.row 100002) (.cons (.int .i64 (x.2.1)) (.cons (.int .i64 (x.2.2.1)) (.nil))))), .row 84 (x.2.2.2.1), .row 127 (x.2.2.2.2)]⟩
def ab54 : (n : NSt Ty) → Option {x : Int × Int × Int × List (List Int) × List T126 // of54 x = n}
  | ⟨[.ptr 100000 [], .int .i64 v0], [.var (.cons (.row 100001) (.cons (.row 100002) (.cons (.int .i64 v1) (.cons (.int .i64 v2) (.nil))))), .row 84 v3, .row 127 v4]⟩ => some ⟨(v0, v1, v2, v3, v4), rfl⟩
  | _ => none
def kp54 : Nat → Keep := pinned 1 fun i => ⟨[], [], 0⟩
def on54 : Int × Int × Int × List (List Int) × List T126 → NSt Ty := fun x => ⟨[.int .i64 (x.1)], [.var (.cons (.row 100001) (.cons (.row 100002) (.cons (.int .i64 (x.2.1)) (.cons (.int .i64 (x.2.2.1)) (.nil))))), .row 84 (x.2.2.2.1), .row 127 (x.2.2.2.2)]⟩
def oa54 : (n : NSt Ty) → Option {y : Int × Int × Int × List (List Int) × List T126 // on54 y = n}
  | ⟨[.int .i64 v0], [.var (.cons (.row 100001) (.cons (.row 100002) (.cons (.int .i64 v1) (.cons (.int .i64 v2) (.nil))))), .row 84 v3, .row 127 v4]⟩ => some ⟨(v0, v1, v2, v3, v4), rfl⟩
  | _ => none
/-- "(*silt/dev.Dev).tell"  -/
def F54 (k : Nat) (x : Int × Int × Int × List (List Int) × List T126) : Option (Int × Int × Int × List (List Int) × List T126) :=
  match x with
  | (v0, v1, v2, v3, v4) => bif v0 == (0 : Int) then some (IntKind.i64.wrap (IntKind.i64.wrap ((↑v3.length : Int) - (↑v4.length : Int)) + (↑v4.length : Int)), v1, v2, v3, v4) else bif v0 == (1 : Int) then some (IntKind.i64.wrap ((0 : Int) + (↑v4.length : Int)), v1, v2, v3, v4) else bif v0 == (2 : Int) then some (v2, v1, v2, v3, v4) else some ((0 : Int), v1, v2, v3, v4)
noncomputable def sp54 : FSpec Ty := addH 1 ab54 F54 on54 sp54hn
theorem ok54 : FOK Tryd.prog tab 54 sp54 := addH_ok (keeps := kp54) tabOK fs13OK Tryd.func54 bo54 (by kernel_rfl) nd54 (LSOK.none) oa54 (F := F54) (fun k x => by kernel_rfl) (pinned_le (Nat.le_refl _) _) ok54hn rfl
noncomputable def fs54 : Nat → Option (FSpec Ty) := addF 54 sp54 fs13
theorem fs54OK : SpecsOK Tryd.prog tab fs54 := fs13OK.add ok54 Tryd.call54
theorem bo47 : Tryd.f47.body = some (bodyOf Tryd.f47) := by kernel_rfl
theorem nd47 : nodupB ((loopsIn (bodyOf Tryd.f47)).map firstRegion) = true := by kernel_rfl
def of47hn : Unit → NSt Ty := fun x => ⟨[.nilp], []⟩
def ab47hn : (n : NSt Ty) → Option {x : Unit // of47hn x = n}
  | ⟨[.nilp], []⟩ => some ⟨(), rfl⟩
  | _ => none
def kp47hn : Nat → Keep := pinned 0 fun i => ⟨[], [], 0⟩
def on47hn : Int → NSt Ty := fun x => ⟨[.int .i64 (x)], []⟩
def oa47hn : (n : NSt Ty) → Option {y : Int // on47hn y = n}
  | ⟨[.int .i64 v0], []⟩ => some ⟨v0, rfl⟩
  | _ => none
/-- "(*silt/dev.Dev).Len" hn -/
def F47hn (k : Nat) (x : Unit) : Option (Int) :=
  match x with
  | () => (F54hn k (0 : Int)).bind fun r => some r
noncomputable def sp47hn : FSpec Ty := addH 0 ab47hn F47hn on47hn noH
theorem ok47hn : FOK Tryd.prog tab 47 sp47hn := addH_ok (keeps := kp47hn) tabOK fs54OK Tryd.func47 bo47 (by kernel_rfl) nd47 (LSOK.none) oa47hn (F := F47hn) (fun k x => by kernel_rfl) (pinned_le (Nat.le_refl _) _) FOK.none rfl
def of47 : Int × Int × List (List Int) × List T126 → NSt Ty := fun x => ⟨[.ptr 100000 []], [.var (.cons (.row 100001) (.cons (.row 100002) (.cons (.int .i64 (x.1)) (.cons (.int .i64 (x.2.1)) (.nil))))), .row 84 (x.2.2.1), .row 127 (x.2.2.2)]⟩
def ab47 : (n : NSt Ty) → Option {x : Int × Int × List (List Int) × List T126 // of47 x = n}
  | ⟨[.ptr 100000 []], [.var (.cons (.row 100001) (.cons (.row 100002) (.cons (.int .i64 v0) (.cons (.int .i64 v1) (.nil))))), .row 84 v2, .row 127 v3]⟩ => some ⟨(v0, v1, v2, v3), rfl⟩
  | _ => none
def kp47 : Nat → Keep := pinned 1 fun i => ⟨[], [], 0⟩
def on47 : Int × Int × Int × List (List Int) × List T126 → NSt Ty := fun x => ⟨[.int .i64 (x.1)], [.var (.cons (.row 100001) (.cons (.row 100002) (.cons (.int .i64 (x.2.1)) (.cons (.int .i64 (x.2.2.1)) (.nil))))), .row 84 (x.2.2.2.1), .row 127 (x.2.2.2.2)]⟩
def oa47 : (n : NSt Ty) → Option {y : Int × Int × Int × List (List Int) × List T126 // on47 y = n}
  | ⟨[.int .i64 v0], [.var (.cons (.row 100001) (.cons (.row 100002) (.cons (.int .i64 v1) (.cons (.int .i64 v2) (.nil))))), .row 84 v3, .row 127 v4]⟩ => some ⟨(v0, v1, v2, v3, v4), rfl⟩
  | _ => none
/-- "(*silt/dev.Dev).Len"  -/
def F47 (k : Nat) (x : Int × Int × List (List Int) × List T126) : Option (Int × Int × Int × List (List Int) × List T126) :=
  match x with
  | (v0, v1, v2, v3) => (F54 k ((0 : Int), v0, v1, v2, v3)).bind fun r => some (r.fst, r.snd.fst, r.snd.snd.fst, r.snd.snd.snd.fst, r.snd.snd.snd.snd)
noncomputable def sp47 : FSpec Ty := addH 1 ab47 F47 on47 sp47hn
theorem ok47 : FOK Tryd.prog tab 47 sp47 := addH_ok (keeps := kp47) tabOK fs54OK Tryd.func47 bo47 (by kernel_rfl) nd47 (LSOK.none) oa47 (F := F47) (fun k x => by kernel_rfl) (pinned_le (Nat.le_refl _) _) ok47hn rfl
noncomputable def fs47 : Nat → Option (FSpec Ty) := addF 47 sp47 fs54
theorem fs47OK : SpecsOK Tryd.prog tab fs47 := fs54OK.add ok47 Tryd.call47
theorem bo59 : Tryd.f59.body = some (bodyOf Tryd.f59) := by kernel_rfl
theorem nd59 : nodupB ((loopsIn (bodyOf Tryd.f59)).map firstRegion) = true := by kernel_rfl
def of59hn : Int → NSt Ty := fun x => ⟨[.nilp, .int .i64 (x)], []⟩
def ab59hn : (n : NSt Ty) → Option {x : Int // of59hn x = n}
  | ⟨[.nilp, .int .i64 v0], []⟩ => some ⟨v0, rfl⟩
  | _ => none
def kp59hn : Nat → Keep := pinned 0 fun i => ⟨[], [], 0⟩
def on59hn : Bool → NSt Ty := fun x => ⟨[.bool (x)], []⟩
def oa59hn : (n : NSt Ty) → Option {y : Bool // on59hn y = n}
  | ⟨[.bool v0], []⟩ => some ⟨v0, rfl⟩
  | _ => none
/-- "(*silt/dev.Dev).has" hn -/
def F59hn (k : Nat) (x : Int) : Option (Bool) :=
  match x with
  | v0 => bif decide (v0 ≥ (0 : Int)) then (F47hn k ()).bind fun r => some (decide (v0 < r)) else some false
noncomputable def sp59hn : FSpec Ty := addH 0 ab59hn F59hn on59hn noH
theorem ok59hn : FOK Tryd.prog tab 59 sp59hn := addH_ok (keeps := kp59hn) tabOK fs47OK Tryd.func59 bo59 (by kernel_rfl) nd59 (LSOK.none) oa59hn (F := F59hn) (fun k x => by kernel_rfl) (pinned_le (Nat.le_refl _) _) FOK.none rfl
def of59 : Int × Int × Int × List (List Int) × List T126 → NSt Ty := fun x => ⟨[.ptr 100000 [], .int .i64 (x.1)], [.var (.cons (.row 100001) (.cons (.row 100002) (.cons (.int .i64 (x.2.1)) (.cons (.int .i64 (x.2.2.1)) (.nil))))), .row 84 (x.2.2.2.1), .row 127 (x.2.2.2.2)]⟩
def ab59 : (n : NSt Ty) → Option {x : Int × Int × Int × List (List Int) × List T126 // of59 x = n}
  | ⟨[.ptr 100000 [], .int .i64 v0], [.var (.cons (.row 100001) (.cons (.row 100002) (.cons (.int .i64 v1) (.cons (.int .i64 v2) (.nil))))), .row 84 v3, .row 127 v4]⟩ => some ⟨(v0, v1, v2, v3, v4), rfl⟩
  | _ => none
def kp59 : Nat → Keep := pinned 1 fun i => ⟨[], [], 0⟩
def on59 : Bool × Int × Int × List (List Int) × List T126 → NSt Ty := fun x => ⟨[.bool (x.1)], [.var (.cons (.row 100001) (.cons (.row 100002) (.cons (.int .i64 (x.2.1)) (.cons (.int .i64 (x.2.2.1)) (.nil))))), .row 84 (x.2.2.2.1), .row 127 (x.2.2.2.2)]⟩
def oa59 : (n : NSt Ty) → Option {y : Bool × Int × Int × List (List Int) × List T126 // on59 y = n}
  | ⟨[.bool v0], [.var (.cons (.row 100001) (.cons (.row 100002) (.cons (.int .i64 v1) (.cons (.int .i64 v2) (.nil))))), .row 84 v3, .row 127 v4]⟩ => some ⟨(v0, v1, v2, v3, v4), rfl⟩
  | _ => none
/-- "(*silt/dev.Dev).has"  -/
def F59 (k : Nat) (x : Int × Int × Int × List (List Int) × List T126) : Option (Bool × Int × Int × List (List Int) × List T126) :=
  match x with
  | (v0, v1, v2, v3, v4) => bif decide (v0 ≥ (0 : Int)) then (F47 k (v1, v2, v3, v4)).bind fun r => some (decide (v0 < r.fst), r.snd.fst, r.snd.snd.fst, r.snd.snd.snd.fst, r.snd.snd.snd.snd) else some (false, v1, v2, v3, v4)
noncomputable def sp59 : FSpec Ty := addH 1 ab59 F59 on59 sp59hn
theorem ok59 : FOK Tryd.prog tab 59 sp59 := addH_ok (keeps := kp59) tabOK fs47OK Tryd.func59 bo59 (by kernel_rfl) nd59 (LSOK.none) oa59 (F := F59) (fun k x => by kernel_rfl) (pinned_le (Nat.le_refl _) _) ok59hn rfl
noncomputable def fs59 : Nat → Option (FSpec Ty) := addF 59 sp59 fs47
theorem fs59OK : SpecsOK Tryd.prog tab fs59 := fs47OK.add ok59 Tryd.call59
theorem bo38 : Tryd.f38.body = some (bodyOf Tryd.f38) := by kernel_rfl
theorem nd38 : nodupB ((loopsIn (bodyOf Tryd.f38)).map firstRegion) = true := by kernel_rfl
def of38hn : Int → NSt Ty := fun x => ⟨[.nilp, .int .i64 (x)], []⟩
def ab38hn : (n : NSt Ty) → Option {x : Int // of38hn x = n}
  | ⟨[.nilp, .int .i64 v0], []⟩ => some ⟨v0, rfl⟩
  | _ => none
def kp38hn : Nat → Keep := pinned 0 fun i => cond (i == 5) ⟨[1, 4, 6, 24, 25, 26], [4, 6], 0⟩ (⟨[], [], 0⟩)
def on38hn : List Int × Int → NSt Ty := fun x => ⟨[.tup (.cons (.arr 5 64 (x.1)) (.cons (.int .i64 (x.2)) (.nil)))], []⟩
def oa38hn : (n : NSt Ty) → Option {y : List Int × Int // on38hn y = n}
  | ⟨[.tup (.cons (.arr 5 64 v0) (.cons (.int .i64 v1) (.nil)))], []⟩ => some ⟨(v0, v1), rfl⟩
  | _ => none
/-- "(*silt/dev.Dev).Read" hn -/
def F38hn (k : Nat) (x : Int) : Option (List Int × Int) :=
  match x with
  | v0 => (F59hn k v0).bind fun r => bif !r then some (List.replicate (64 : Nat) (0 : Int), (1 : Int)) else none
noncomputable def sp38hn : FSpec Ty := addH 0 ab38hn F38hn on38hn noH
theorem ok38hn : FOK Tryd.prog tab 38 sp38hn := addH_ok (keeps := kp38hn) tabOK fs59OK Tryd.func38 bo38 (by kernel_rfl) nd38 (LSOK.none) oa38hn (F := F38hn) (fun k x => by kernel_rfl) (pinned_le (Nat.le_refl _) _) FOK.none rfl
def of38 : Int × Int × Int × List (List Int) × List T126 → NSt Ty := fun x => ⟨[.ptr 100000 [], .int .i64 (x.1)], [.var (.cons (.row 100001) (.cons (.row 100002) (.cons (.int .i64 (x.2.1)) (.cons (.int .i64 (x.2.2.1)) (.nil))))), .row 84 (x.2.2.2.1), .row 127 (x.2.2.2.2)]⟩
def ab38 : (n : NSt Ty) → Option {x : Int × Int × Int × List (List Int) × List T126 // of38 x = n}
  | ⟨[.ptr 100000 [], .int .i64 v0], [.var (.cons (.row 100001) (.cons (.row 100002) (.cons (.int .i64 v1) (.cons (.int .i64 v2) (.nil))))), .row 84 v3, .row 127 v4]⟩ => some ⟨(v0, v1, v2, v3, v4), rfl⟩
  | _ => none
def of38_5 : Int × Int × Int × Int × Int × List Int × List Int × List T126 × List (List Int) → NSt Ty := fun x => ⟨[.int .i64 (x.1), .ptr 100001 [], .ptr 100002 [], .row 100003, .int .i64 (x.2.1), .int .i64 (x.2.2.1)], [.var (.cons (.row 100004) (.cons (.row 100003) (.cons (.int .i64 (x.2.2.2.1)) (.cons (.int .i64 (x.2.2.2.2.1)) (.nil))))), .var (.arr 5 64 (x.2.2.2.2.2.1)), .var (.arr 5 64 (x.2.2.2.2.2.2.1)), .row 127 (x.2.2.2.2.2.2.2.1), .row 84 (x.2.2.2.2.2.2.2.2)]⟩
def ab38_5 : (n : NSt Ty) → Option {x : Int × Int × Int × Int × Int × List Int × List Int × List T126 × List (List Int) // of38_5 x = n}
  | ⟨[.int .i64 v0, .ptr 100001 [], .ptr 100002 [], .row 100003, .int .i64 v1, .int .i64 v2], [.var (.cons (.row 100004) (.cons (.row 100003) (.cons (.int .i64 v3) (.cons (.int .i64 v4) (.nil))))), .var (.arr 5 64 v5), .var (.arr 5 64 v6), .row 127 v7, .row 84 v8]⟩ => some ⟨(v0, v1, v2, v3, v4, v5, v6, v7, v8), rfl⟩
  | _ => none
def oe38_5 : Int × Int × List Int × List Int × List (List Int) × List T126 → Ex := fun _ => .exit 0
def on38_5 : Int × Int × List Int × List Int × List (List Int) × List T126 → NSt Ty := fun x => ⟨[.ptr 100001 [], .ptr 100002 []], [.var (.cons (.row 100003) (.cons (.row 100004) (.cons (.int .i64 (x.1)) (.cons (.int .i64 (x.2.1)) (.nil))))), .var (.arr 5 64 (x.2.2.1)), .var (.arr 5 64 (x.2.2.2.1)), .row 84 (x.2.2.2.2.1), .row 127 (x.2.2.2.2.2)]⟩
def oa38_5 : (e : Ex) → (n : NSt Ty) → Option {y : Int × Int × List Int × List Int × List (List Int) × List T126 // oe38_5 y = e ∧ on38_5 y = n}
  | .exit 0, ⟨[.ptr 100001 [], .ptr 100002 []], [.var (.cons (.row 100003) (.cons (.row 100004) (.cons (.int .i64 v0) (.cons (.int .i64 v1) (.nil))))), .var (.arr 5 64 v2), .var (.arr 5 64 v3), .row 84 v4, .row 127 v5]⟩ => some ⟨(v0, v1, v2, v3, v4, v5), rfl, rfl⟩
  | _, _ => none
/-- a round of the loop 5 of function 38 -/
def R38_5 (k : Nat) (again : Int × Int × Int × Int × Int × List Int × List Int × List T126 × List (List Int) → Option (Int × Int × List Int × List Int × List (List Int) × List T126)) (x : Int × Int × Int × Int × Int × List Int × List Int × List T126 × List (List Int)) : Option (Int × Int × List Int × List Int × List (List Int) × List T126) :=
  match x with
  | (v0, v1, v2, v3, v4, v5, v6, v7, v8) => bif decide (v2 < v1) then bif inRange v2 v7.length then bif (v7.getD v2.toNat (T126.mk (0 : Int) (List.replicate (64 : Nat) (0 : Int)))).1 == v0 then again (v0, v1, IntKind.i64.wrap (v2 + (1 : Int)), v3, v4, v5, (v7.getD v2.toNat (T126.mk (0 : Int) (List.replicate (64 : Nat) (0 : Int)))).2, v7, v8) else again (v0, v1, IntKind.i64.wrap (v2 + (1 : Int)), v3, v4, v5, v6, v7, v8) else none else some (v3, v4, v5, v6, v8, v7)
def L38_5 (k n : Nat) (x : Int × Int × Int × Int × Int × List Int × List Int × List T126 × List (List Int)) : Option (Int × Int × List Int × List Int × List (List Int) × List T126) := iterR (R38_5 k) n x
noncomputable def ls38_5 : Nat → Option (LSum Ty) := addL 5 (LSum.of of38_5 ab38_5 L38_5 oe38_5 on38_5) noL
def kp38 : Nat → Keep := pinned 1 fun i => cond (i == 5) ⟨[1, 4, 6, 24, 25, 26], [4, 6], 0⟩ (⟨[], [], 0⟩)
def on38 : List Int × Int × Int × Int × List (List Int) × List T126 → NSt Ty := fun x => ⟨[.tup (.cons (.arr 5 64 (x.1)) (.cons (.int .i64 (x.2.1)) (.nil)))], [.var (.cons (.row 100001) (.cons (.row 100002) (.cons (.int .i64 (x.2.2.1)) (.cons (.int .i64 (x.2.2.2.1)) (.nil))))), .row 84 (x.2.2.2.2.1), .row 127 (x.2.2.2.2.2)]⟩
def oa38 : (n : NSt Ty) → Option {y : List Int × Int × Int × Int × List (List Int) × List T126 // on38 y = n}
  | ⟨[.tup (.cons (.arr 5 64 v0) (.cons (.int .i64 v1) (.nil)))], [.var (.cons (.row 100001) (.cons (.row 100002) (.cons (.int .i64 v2) (.cons (.int .i64 v3) (.nil))))), .row 84 v4, .row 127 v5]⟩ => some ⟨(v0, v1, v2, v3, v4, v5), rfl⟩
  | _ => none
/-- "(*silt/dev.Dev).Read"  -/
def F38 (k : Nat) (x : Int × Int × Int × List (List Int) × List T126) : Option (List Int × Int × Int × Int × List (List Int) × List T126) :=
  match x with
  | (v0, v1, v2, v3, v4) => (F59 k (v0, v1, v2, v3, v4)).bind fun r => bif !r.fst then some (List.replicate (64 : Nat) (0 : Int), (1 : Int), r.snd.fst, r.snd.snd.fst, r.snd.snd.snd.fst, r.snd.snd.snd.snd) else bif inRange v0 r.snd.snd.snd.fst.length then (L38_5 k k (v0, (↑r.snd.snd.snd.snd.length : Int), (0 : Int), r.snd.fst, r.snd.snd.fst, List.replicate (64 : Nat) (0 : Int), r.snd.snd.snd.fst.getD v0.toNat (List.replicate (64 : Nat) (0 : Int)), r.snd.snd.snd.snd, r.snd.snd.snd.fst)).bind fun r => some (r.snd.snd.snd.fst, (0 : Int), r.fst, r.snd.fst, r.snd.snd.snd.snd.fst, r.snd.snd.snd.snd.snd) else none
noncomputable def sp38 : FSpec Ty := addH 1 ab38 F38 on38 sp38hn
theorem lo38_5 : LSOK fs59 kp38 tab Tryd.f38 ls38_5 := lsum_ok bo38 nd38 (LSOK.none) oa38_5 (R := R38_5) fun k again x => by kernel_rfl
theorem ok38 : FOK Tryd.prog tab 38 sp38 := addH_ok (keeps := kp38) tabOK fs59OK Tryd.func38 bo38 (by kernel_rfl) nd38 (lo38_5) oa38 (F := F38) (fun k x => by kernel_rfl) (pinned_le (Nat.le_refl _) _) ok38hn rfl
noncomputable def fs38 : Nat → Option (FSpec Ty) := addF 38 sp38 fs59
theorem fs38OK : SpecsOK Tryd.prog tab fs38 := fs59OK.add ok38 Tryd.call38
def ag65 : Args Ty (Int × ByteArray × Unit) := V.arg (tab.den 29) (V.arg (tab.den 9) (noArgs))
def rs65 : Res Ty tab (GErr) true := V.oneRes (tab.den 106) (ent 106).ids (ent 106).plain (fun _ h => by cases h)
def kp65 : Nat → Keep := fun i => ⟨[], [], 0⟩
/-- "silt/fault.New" -/
def F65 (k : Nat) (x : Int × ByteArray × Unit) : Option (GErr) :=
  match x with
  | (a0, a1, ()) => bif a0 == (0 : Int) then some GErr.nil else some (GErr.flt a1 (GErr.num a0) false)
noncomputable def sp65 : FSpec Ty := spec ag65 rs65 F65
theorem bo65 : Tryd.f65.body = some (bodyOf Tryd.f65) := by kernel_rfl
theorem nd65 : nodupB ((loopsIn (bodyOf Tryd.f65)).map firstRegion) = true := by kernel_rfl
theorem ok65 : FOK Tryd.prog tab 65 sp65 := spec_ok (keeps := kp65) tabOK fs38OK Tryd.func65 bo65 (by kernel_rfl) nd65 (LSOK.none) (F := F65) fun k x => by kernel_rfl
noncomputable def fs65 : Nat → Option (FSpec Ty) := addF 65 sp65 fs38
theorem fs65OK : SpecsOK Tryd.prog tab fs65 := fs38OK.add ok65 Tryd.call65
def ag64 : Args Ty (GErr × ByteArray × Unit) := V.arg (tab.den 106) (V.arg (tab.den 9) (noArgs))
def rs64 : Res Ty tab (GErr) true := V.oneRes (tab.den 106) (ent 106).ids (ent 106).plain (fun _ h => by cases h)
def kp64 : Nat → Keep := fun i => ⟨[], [], 0⟩
/-- "silt/fault.Wrap" -/
def F64 (k : Nat) (x : GErr × ByteArray × Unit) : Option (GErr) :=
  match x with
  | (a0, a1, ()) => bif a0.isNil then some GErr.nil else some (GErr.flt a1 a0 true)
noncomputable def sp64 : FSpec Ty := spec ag64 rs64 F64
theorem bo64 : Tryd.f64.body = some (bodyOf Tryd.f64) := by kernel_rfl
theorem nd64 : nodupB ((loopsIn (bodyOf Tryd.f64)).map firstRegion) = true := by kernel_rfl
theorem ok64 : FOK Tryd.prog tab 64 sp64 := spec_ok (keeps := kp64) tabOK fs65OK Tryd.func64 bo64 (by kernel_rfl) nd64 (LSOK.none) (F := F64) fun k x => by kernel_rfl
noncomputable def fs64 : Nat → Option (FSpec Ty) := addF 64 sp64 fs65
theorem fs64OK : SpecsOK Tryd.prog tab fs64 := fs65OK.add ok64 Tryd.call64
def ag86 : Args Ty ((List Int) × Unit) := V.arg (tab.den 77) (noArgs)
def rs86 : Res Ty tab (Int) false := V.oneRes (tab.den 22) (ent 22).ids (ent 22).plain (fun x _ => (ent 22).flat x rfl)
def kp86 : Nat → Keep := fun i => ⟨[], [], 0⟩
/-- "silt/region.get" -/
def F86 (k : Nat) (x : (List Int) × Unit) : Option (Int) :=
  match x with
  | (a0, ()) => bif inRange (0 : Int) a0.length then bif inRange (1 : Int) a0.length then bif inRange (2 : Int) a0.length then bif inRange (3 : Int) a0.length then some (IntKind.u32.wrap (↑(BitVec.ofInt IntKind.u32.bits (IntKind.u32.wrap (↑(BitVec.ofInt IntKind.u32.bits (IntKind.u32.wrap (↑(BitVec.ofInt IntKind.u32.bits (IntKind.u32.wrap (a0.getD (Int.toNat (0 : Int)) (0 : Int))) ||| BitVec.ofInt IntKind.u32.bits (IntKind.u32.wrap (IntKind.u32.wrap (a0.getD (Int.toNat (1 : Int)) (0 : Int)) * (2 : Int) ^ min (Int.toNat (8 : Int)) IntKind.u32.bits))).toNat : Int)) ||| BitVec.ofInt IntKind.u32.bits (IntKind.u32.wrap (IntKind.u32.wrap (a0.getD (Int.toNat (2 : Int)) (0 : Int)) * (2 : Int) ^ min (Int.toNat (16 : Int)) IntKind.u32.bits))).toNat : Int)) ||| BitVec.ofInt IntKind.u32.bits (IntKind.u32.wrap (IntKind.u32.wrap (a0.getD (Int.toNat (3 : Int)) (0 : Int)) * (2 : Int) ^ min (Int.toNat (24 : Int)) IntKind.u32.bits))).toNat : Int)) else none else none else none else none
noncomputable def sp86 : FSpec Ty := spec ag86 rs86 F86
theorem bo86 : Tryd.f86.body = some (bodyOf Tryd.f86) := by kernel_rfl
theorem nd86 : nodupB ((loopsIn (bodyOf Tryd.f86)).map firstRegion) = true := by kernel_rfl
theorem ok86 : FOK Tryd.prog tab 86 sp86 := spec_ok (keeps := kp86) tabOK fs64OK Tryd.func86 bo86 (by kernel_rfl) nd86 (LSOK.none) (F := F86) fun k x => by kernel_rfl
noncomputable def fs86 : Nat → Option (FSpec Ty) := addF 86 sp86 fs64
theorem fs86OK : SpecsOK Tryd.prog tab fs86 := fs64OK.add ok86 Tryd.call86
def ag57 : Args Ty (T23 × Unit) := V.arg (tab.den 24) (noArgs)
def rs57 : Res Ty tab (Bool) false := V.oneRes (tab.den 4) (ent 4).ids (ent 4).plain (fun x _ => (ent 4).flat x rfl)
def kp57 : Nat → Keep := fun i => ⟨[], [], 0⟩
/-- "silt/plan.Good" -/
def F57 (k : Nat) (x : T23 × Unit) : Option (Bool) :=
  match x with
  | (a0, ()) => bif decide (a0.1 ≥ (1 : Int)) then bif decide (a0.1 ≤ (64 : Int)) then bif decide (a0.2 ≥ (6 : Int)) then bif decide (a0.2 ≤ (16 : Int)) then bif decide (a0.3 ≥ (24 : Int)) then bif decide (a0.3 ≤ (32 : Int)) then bif decide (a0.4 ≥ (2 : Int)) then some (decide (a0.4 ≤ (16 : Int))) else some false else some false else some false else some false else some false else some false else some false
noncomputable def sp57 : FSpec Ty := spec ag57 rs57 F57
theorem bo57 : Tryd.f57.body = some (bodyOf Tryd.f57) := by kernel_rfl
theorem nd57 : nodupB ((loopsIn (bodyOf Tryd.f57)).map firstRegion) = true := by kernel_rfl
theorem ok57 : FOK Tryd.prog tab 57 sp57 := spec_ok (keeps := kp57) tabOK fs86OK Tryd.func57 bo57 (by kernel_rfl) nd57 (LSOK.none) (F := F57) fun k x => by kernel_rfl
noncomputable def fs57 : Nat → Option (FSpec Ty) := addF 57 sp57 fs86
theorem fs57OK : SpecsOK Tryd.prog tab fs57 := fs86OK.add ok57 Tryd.call57
def ag48 : Args Ty (T23 × Unit) := V.arg (tab.den 24) (noArgs)
def rs48 : Res Ty tab (Int) false := V.oneRes (tab.den 3) (ent 3).ids (ent 3).plain (fun x _ => (ent 3).flat x rfl)
def kp48 : Nat → Keep := fun i => ⟨[], [], 0⟩
/-- "silt/plan.Total" -/
def F48 (k : Nat) (x : T23 × Unit) : Option (Int) :=
  match x with
  | (a0, ()) => (F57 k (T23.mk a0.1 a0.2 a0.3 a0.4, ())).bind fun r => bif !r then some (0 : Int) else some (IntKind.i64.wrap ((4 : Int) + IntKind.i64.wrap (a0.2 * a0.3)))
noncomputable def sp48 : FSpec Ty := spec ag48 rs48 F48
theorem bo48 : Tryd.f48.body = some (bodyOf Tryd.f48) := by kernel_rfl
theorem nd48 : nodupB ((loopsIn (bodyOf Tryd.f48)).map firstRegion) = true := by kernel_rfl
theorem ok48 : FOK Tryd.prog tab 48 sp48 := spec_ok (keeps := kp48) tabOK fs57OK Tryd.func48 bo48 (by kernel_rfl) nd48 (LSOK.none) (F := F48) fun k x => by kernel_rfl
noncomputable def fs48 : Nat → Option (FSpec Ty) := addF 48 sp48 fs57
theorem fs48OK : SpecsOK Tryd.prog tab fs48 := fs57OK.add ok48 Tryd.call48
def ag103 : Args Ty (T23 × Int × Unit) := V.arg (tab.den 24) (V.arg (tab.den 3) (noArgs))
def rs103 : Res Ty tab (Int) false := V.oneRes (tab.den 3) (ent 3).ids (ent 3).plain (fun x _ => (ent 3).flat x rfl)
def kp103 : Nat → Keep := fun i => ⟨[], [], 0⟩
/-- "silt/plan.part" -/
def F103 (k : Nat) (x : T23 × Int × Unit) : Option (Int) :=
  match x with
  | (a0, a1, ()) => bif decide (a1 < (4 : Int)) then some (0 : Int) else (F48 k (T23.mk a0.1 a0.2 a0.3 a0.4, ())).bind fun r => bif decide (a1 ≥ r) then some (2 : Int) else some (1 : Int)
noncomputable def sp103 : FSpec Ty := spec ag103 rs103 F103
theorem bo103 : Tryd.f103.body = some (bodyOf Tryd.f103) := by kernel_rfl
theorem nd103 : nodupB ((loopsIn (bodyOf Tryd.f103)).map firstRegion) = true := by kernel_rfl
theorem ok103 : FOK Tryd.prog tab 103 sp103 := spec_ok (keeps := kp103) tabOK fs48OK Tryd.func103 bo103 (by kernel_rfl) nd103 (LSOK.none) (F := F103) fun k x => by kernel_rfl
noncomputable def fs103 : Nat → Option (FSpec Ty) := addF 103 sp103 fs48
theorem fs103OK : SpecsOK Tryd.prog tab fs103 := fs48OK.add ok103 Tryd.call103
def ag94 : Args Ty (T23 × Int × Unit) := V.arg (tab.den 24) (V.arg (tab.den 3) (noArgs))
def rs94 : Res Ty tab (Int × Int × Bool × Unit) false := V.manyRes (V.part (tab.den 3) (ent 3).ids (ent 3).plain (fun x _ => (ent 3).flat x rfl) (V.part (tab.den 3) (ent 3).ids (ent 3).plain (fun x _ => (ent 3).flat x rfl) (V.part (tab.den 4) (ent 4).ids (ent 4).plain (fun x _ => (ent 4).flat x rfl) (noParts))))
def kp94 : Nat → Keep := fun i => ⟨[], [], 0⟩
/-- "silt/plan.Of" -/
def F94 (k : Nat) (x : T23 × Int × Unit) : Option (Int × Int × Bool × Unit) :=
  match x with
  | (a0, a1, ()) => (F57 k (T23.mk a0.1 a0.2 a0.3 a0.4, ())).bind fun r => bif !r then some ((0 : Int), (0 : Int), false, ()) else (F103 k (T23.mk a0.1 a0.2 a0.3 a0.4, a1, ())).bind fun r => bif r == (0 : Int) then some ((0 : Int), (0 : Int), false, ()) else bif r == (2 : Int) then some ((0 : Int), (0 : Int), false, ()) else bif a0.3 != (0 : Int) then bif a0.3 != (0 : Int) then some (IntKind.i64.wrap ((IntKind.i64.wrap (a1 - (4 : Int))).tdiv a0.3), (IntKind.i64.wrap (a1 - (4 : Int))).tmod a0.3, true, ()) else none else none
noncomputable def sp94 : FSpec Ty := spec ag94 rs94 F94
theorem bo94 : Tryd.f94.body = some (bodyOf Tryd.f94) := by kernel_rfl
theorem nd94 : nodupB ((loopsIn (bodyOf Tryd.f94)).map firstRegion) = true := by kernel_rfl
theorem ok94 : FOK Tryd.prog tab 94 sp94 := spec_ok (keeps := kp94) tabOK fs103OK Tryd.func94 bo94 (by kernel_rfl) nd94 (LSOK.none) (F := F94) fun k x => by kernel_rfl
noncomputable def fs94 : Nat → Option (FSpec Ty) := addF 94 sp94 fs103
theorem fs94OK : SpecsOK Tryd.prog tab fs94 := fs103OK.add ok94 Tryd.call94
def ag95 : Args Ty (T23 × Unit) := V.arg (tab.den 24) (noArgs)
def rs95 : Res Ty tab (Int) false := V.oneRes (tab.den 3) (ent 3).ids (ent 3).plain (fun x _ => (ent 3).flat x rfl)
def kp95 : Nat → Keep := fun i => ⟨[], [], 0⟩
/-- "silt/plan.Maps" -/
def F95 (k : Nat) (x : T23 × Unit) : Option (Int) :=
  match x with
  | (a0, ()) => (F57 k (T23.mk a0.1 a0.2 a0.3 a0.4, ())).bind fun r => bif !r then some (0 : Int) else some (IntKind.i64.wrap (IntKind.i64.wrap ((IntKind.i64.wrap (a0.1 - (1 : Int))).tdiv (8 : Int)) + (1 : Int)))
noncomputable def sp95 : FSpec Ty := spec ag95 rs95 F95
theorem bo95 : Tryd.f95.body = some (bodyOf Tryd.f95) := by kernel_rfl
theorem nd95 : nodupB ((loopsIn (bodyOf Tryd.f95)).map firstRegion) = true := by kernel_rfl
theorem ok95 : FOK Tryd.prog tab 95 sp95 := spec_ok (keeps := kp95) tabOK fs94OK Tryd.func95 bo95 (by kernel_rfl) nd95 (LSOK.none) (F := F95) fun k x => by kernel_rfl
noncomputable def fs95 : Nat → Option (FSpec Ty) := addF 95 sp95 fs94
theorem fs95OK : SpecsOK Tryd.prog tab fs95 := fs94OK.add ok95 Tryd.call95
def ag87 : Args Ty (T26 × Unit) := V.arg (tab.den 27) (noArgs)
def rs87 : Res Ty tab (GErr) true := V.oneRes (tab.den 106) (ent 106).ids (ent 106).plain (fun _ h => by cases h)
def of87_2 : List Int × Int × Int × Int × Int × Int × Int × Int × Int × Int × List Int → NSt Ty := fun x => ⟨[.ptr 100000 [], .arr 3 8 (x.1), .int .i64 (x.2.1)], [.var (.cons (.int .u32 (x.2.2.1)) (.cons (.cons (.int .i64 (x.2.2.2.1)) (.cons (.int .i64 (x.2.2.2.2.1)) (.cons (.int .i64 (x.2.2.2.2.2.1)) (.cons (.int .i64 (x.2.2.2.2.2.2.1)) (.nil))))) (.cons (.int .i64 (x.2.2.2.2.2.2.2.1)) (.cons (.int .i64 (x.2.2.2.2.2.2.2.2.1)) (.cons (.int .u32 (x.2.2.2.2.2.2.2.2.2.1)) (.cons (.arr 3 8 (x.2.2.2.2.2.2.2.2.2.2)) (.nil)))))))]⟩
def ab87_2 : (n : NSt Ty) → Option {x : List Int × Int × Int × Int × Int × Int × Int × Int × Int × Int × List Int // of87_2 x = n}
  | ⟨[.ptr 100000 [], .arr 3 8 v0, .int .i64 v1], [.var (.cons (.int .u32 v2) (.cons (.cons (.int .i64 v3) (.cons (.int .i64 v4) (.cons (.int .i64 v5) (.cons (.int .i64 v6) (.nil))))) (.cons (.int .i64 v7) (.cons (.int .i64 v8) (.cons (.int .u32 v9) (.cons (.arr 3 8 v10) (.nil)))))))]⟩ => some ⟨(v0, v1, v2, v3, v4, v5, v6, v7, v8, v9, v10), rfl⟩
  | _ => none
def on87_2a : GErr → NSt Ty := fun x => ⟨[.err (x)], []⟩
def on87_2b : Unit → NSt Ty := fun x => ⟨[.undef], []⟩
def oa87_2 : (e : Ex) → (n : NSt Ty) → Option {y : (GErr) ⊕ (Unit) // oe2 .ret (.exit 0) y = e ∧ on2 on87_2a on87_2b y = n}
  | .ret, ⟨[.err v0], []⟩ => some ⟨.inl v0, rfl, rfl⟩
  | .exit 0, ⟨[.undef], []⟩ => some ⟨.inr (), rfl, rfl⟩
  | _, _ => none
/-- a round of the loop 2 of function 87 -/
def R87_2 (k : Nat) (again : List Int × Int × Int × Int × Int × Int × Int × Int × Int × Int × List Int → Option ((GErr) ⊕ (Unit))) (x : List Int × Int × Int × Int × Int × Int × Int × Int × Int × Int × List Int) : Option ((GErr) ⊕ (Unit)) :=
  match x with
  | (v0, v1, v2, v3, v4, v5, v6, v7, v8, v9, v10) => bif decide (v1 < (8 : Int)) then bif inRange v1 (8 : Nat) then (F94 k (T23.mk v3 v4 v5 v6, v0.getD v1.toNat (0 : Int), ())).bind fun r => bif v0.getD v1.toNat (0 : Int) != (0 : Int) then bif !r.snd.snd.fst then (F65 k ((11 : Int), ByteArray.mk (Array.mk [(114 : UInt8), (111 : UInt8), (111 : UInt8), (116 : UInt8)]), ())).bind fun r => some (Sum.inl r) else (F95 k (T23.mk v3 v4 v5 v6, ())).bind fun r => bif decide (v1 ≥ r) then (F65 k ((11 : Int), ByteArray.mk (Array.mk [(114 : UInt8), (111 : UInt8), (111 : UInt8), (116 : UInt8)]), ())).bind fun r => some (Sum.inl r) else again (v0, IntKind.i64.wrap (v1 + (1 : Int)), v2, v3, v4, v5, v6, v7, v8, v9, v10) else again (v0, IntKind.i64.wrap (v1 + (1 : Int)), v2, v3, v4, v5, v6, v7, v8, v9, v10) else none else some (Sum.inr ())
def L87_2 (k n : Nat) (x : List Int × Int × Int × Int × Int × Int × Int × Int × Int × Int × List Int) : Option ((GErr) ⊕ (Unit)) := iterR (R87_2 k) n x
noncomputable def ls87_2 : Nat → Option (LSum Ty) := addL 2 (lsum2 of87_2 ab87_2 L87_2 .ret on87_2a (.exit 0) on87_2b) noL
def kp87 : Nat → Keep := fun i => cond (i == 2) ⟨[1, 9, 10], [2], 0⟩ (⟨[], [], 0⟩)
/-- "silt/region.roots" -/
def F87 (k : Nat) (x : T26 × Unit) : Option (GErr) :=
  match x with
  | (a0, ()) => (L87_2 k k (a0.6, (0 : Int), a0.1, a0.2.1, a0.2.2, a0.2.3, a0.2.4, a0.3, a0.4, a0.5, a0.6)).bind fun r => sumK r (fun a => some a) fun b => some GErr.nil
noncomputable def sp87 : FSpec Ty := spec ag87 rs87 F87
theorem bo87 : Tryd.f87.body = some (bodyOf Tryd.f87) := by kernel_rfl
theorem nd87 : nodupB ((loopsIn (bodyOf Tryd.f87)).map firstRegion) = true := by kernel_rfl
theorem lo87_2 : LSOK fs95 kp87 tab Tryd.f87 ls87_2 := lsum2_ok bo87 nd87 (LSOK.none) oa87_2 (R := R87_2) fun k again x => by kernel_rfl
theorem ok87 : FOK Tryd.prog tab 87 sp87 := spec_ok (keeps := kp87) tabOK fs95OK Tryd.func87 bo87 (by kernel_rfl) nd87 (lo87_2) (F := F87) fun k x => by kernel_rfl
noncomputable def fs87 : Nat → Option (FSpec Ty) := addF 87 sp87 fs95
theorem fs87OK : SpecsOK Tryd.prog tab fs87 := fs95OK.add ok87 Tryd.call87
def ag70 : Args Ty (T26 × Unit) := V.arg (tab.den 27) (noArgs)
def rs70 : Res Ty tab (GErr) true := V.oneRes (tab.den 106) (ent 106).ids (ent 106).plain (fun _ h => by cases h)
def kp70 : Nat → Keep := fun i => ⟨[], [], 0⟩
/-- "silt/region.wrong" -/
def F70 (k : Nat) (x : T26 × Unit) : Option (GErr) :=
  match x with
  | (a0, ()) => (F57 k (T23.mk a0.2.1 a0.2.2 a0.2.3 a0.2.4, ())).bind fun r => bif !r then (F65 k ((11 : Int), ByteArray.mk (Array.mk [(103 : UInt8), (101 : UInt8), (111 : UInt8), (109 : UInt8), (101 : UInt8), (116 : UInt8), (114 : UInt8), (121 : UInt8)]), ())).bind fun r => some r else bif decide (a0.3 < (0 : Int)) then (F65 k ((11 : Int), ByteArray.mk (Array.mk [(104 : UInt8), (101 : UInt8), (97 : UInt8), (100 : UInt8)]), ())).bind fun r => some r else bif decide (a0.3 ≥ a0.2.2) then (F65 k ((11 : Int), ByteArray.mk (Array.mk [(104 : UInt8), (101 : UInt8), (97 : UInt8), (100 : UInt8)]), ())).bind fun r => some r else bif decide (a0.4 < (0 : Int)) then (F65 k ((11 : Int), ByteArray.mk (Array.mk [(104 : UInt8), (101 : UInt8), (97 : UInt8), (100 : UInt8)]), ())).bind fun r => some r else bif decide (a0.4 > a0.2.3) then (F65 k ((11 : Int), ByteArray.mk (Array.mk [(104 : UInt8), (101 : UInt8), (97 : UInt8), (100 : UInt8)]), ())).bind fun r => some r else (F87 k (T26.mk a0.1 (T23.mk a0.2.1 a0.2.2 a0.2.3 a0.2.4) a0.3 a0.4 a0.5 a0.6, ())).bind fun r => (F64 k (r, ByteArray.mk (Array.mk [(114 : UInt8), (101 : UInt8), (103 : UInt8), (105 : UInt8), (111 : UInt8), (110 : UInt8)]), ())).bind fun r => some r
noncomputable def sp70 : FSpec Ty := spec ag70 rs70 F70
theorem bo70 : Tryd.f70.body = some (bodyOf Tryd.f70) := by kernel_rfl
theorem nd70 : nodupB ((loopsIn (bodyOf Tryd.f70)).map firstRegion) = true := by kernel_rfl
theorem ok70 : FOK Tryd.prog tab 70 sp70 := spec_ok (keeps := kp70) tabOK fs87OK Tryd.func70 bo70 (by kernel_rfl) nd70 (LSOK.none) (F := F70) fun k x => by kernel_rfl
noncomputable def fs70 : Nat → Option (FSpec Ty) := addF 70 sp70 fs87
theorem fs70OK : SpecsOK Tryd.prog tab fs70 := fs87OK.add ok70 Tryd.call70
def ag69 : Args Ty (GErr × Unit) := V.arg (tab.den 106) (noArgs)
def rs69 : Res Ty tab (Int) false := V.oneRes (tab.den 29) (ent 29).ids (ent 29).plain (fun x _ => (ent 29).flat x rfl)
def kp69 : Nat → Keep := fun i => ⟨[], [], 0⟩
/-- "silt/region.number" -/
def F69 (k : Nat) (x : GErr × Unit) : Option (Int) :=
  match x with
  | (a0, ()) => bif a0.first.isSome then some (a0.first.getD (0 : Int)) else some (0 : Int)
noncomputable def sp69 : FSpec Ty := spec ag69 rs69 F69
theorem bo69 : Tryd.f69.body = some (bodyOf Tryd.f69) := by kernel_rfl
theorem nd69 : nodupB ((loopsIn (bodyOf Tryd.f69)).map firstRegion) = true := by kernel_rfl
theorem ok69 : FOK Tryd.prog tab 69 sp69 := spec_ok (keeps := kp69) tabOK fs70OK Tryd.func69 bo69 (by kernel_rfl) nd69 (LSOK.none) (F := F69) fun k x => by kernel_rfl
noncomputable def fs69 : Nat → Option (FSpec Ty) := addF 69 sp69 fs70
theorem fs69OK : SpecsOK Tryd.prog tab fs69 := fs70OK.add ok69 Tryd.call69
def ag71 : Args Ty (Int × Unit) := V.arg (tab.den 22) (noArgs)
def rs71 : Res Ty tab ((List Int)) true := V.oneRes (tab.den 77) (ent 77).ids (ent 77).plain (fun _ h => by cases h)
def kp71 : Nat → Keep := fun i => ⟨[], [], 0⟩
/-- "silt/region.four" -/
def F71 (k : Nat) (x : Int × Unit) : Option ((List Int)) :=
  match x with
  | (a0, ()) => some (((((List.replicate (4 : Nat) (0 : Int)).set (0 : Nat) (IntKind.u8.wrap a0)).set (1 : Nat) (IntKind.u8.wrap (a0.fdiv ((2 : Int) ^ min (Int.toNat (8 : Int)) IntKind.u32.bits)))).set (2 : Nat) (IntKind.u8.wrap (a0.fdiv ((2 : Int) ^ min (Int.toNat (16 : Int)) IntKind.u32.bits)))).set (3 : Nat) (IntKind.u8.wrap (a0.fdiv ((2 : Int) ^ min (Int.toNat (24 : Int)) IntKind.u32.bits))))
noncomputable def sp71 : FSpec Ty := spec ag71 rs71 F71
theorem bo71 : Tryd.f71.body = some (bodyOf Tryd.f71) := by kernel_rfl
theorem nd71 : nodupB ((loopsIn (bodyOf Tryd.f71)).map firstRegion) = true := by kernel_rfl
theorem ok71 : FOK Tryd.prog tab 71 sp71 := spec_ok (keeps := kp71) tabOK fs69OK Tryd.func71 bo71 (by kernel_rfl) nd71 (LSOK.none) (F := F71) fun k x => by kernel_rfl
noncomputable def fs71 : Nat → Option (FSpec Ty) := addF 71 sp71 fs69
theorem fs71OK : SpecsOK Tryd.prog tab fs71 := fs69OK.add ok71 Tryd.call71
def ag46 : Args Ty (T26 × Unit) := V.arg (tab.den 27) (noArgs)
def rs46 : Res Ty tab ((List (List Int)) × Int × Unit) false := V.manyRes (V.part (tab.den 110) (ent 110).ids (ent 110).plain (fun x _ => (ent 110).flat x rfl) (V.part (tab.den 29) (ent 29).ids (ent 29).plain (fun x _ => (ent 29).flat x rfl) (noParts)))
def of46_6 : Int × Int × Int × Int × Int × Int × Int × Int × Int × List Int × List (List Int) × List (List Int) → NSt Ty := fun x => ⟨[.ptr 100000 [], .ptr 100001 [], .ptr 100002 [], .int .i64 (x.1)], [.var (.cons (.int .u32 (x.2.1)) (.cons (.cons (.int .i64 (x.2.2.1)) (.cons (.int .i64 (x.2.2.2.1)) (.cons (.int .i64 (x.2.2.2.2.1)) (.cons (.int .i64 (x.2.2.2.2.2.1)) (.nil))))) (.cons (.int .i64 (x.2.2.2.2.2.2.1)) (.cons (.int .i64 (x.2.2.2.2.2.2.2.1)) (.cons (.int .u32 (x.2.2.2.2.2.2.2.2.1)) (.cons (.arr 3 8 (x.2.2.2.2.2.2.2.2.2.1)) (.nil))))))), .var (.arr 84 2 (x.2.2.2.2.2.2.2.2.2.2.1)), .var (.arr 84 2 (x.2.2.2.2.2.2.2.2.2.2.2))]⟩
def ab46_6 : (n : NSt Ty) → Option {x : Int × Int × Int × Int × Int × Int × Int × Int × Int × List Int × List (List Int) × List (List Int) // of46_6 x = n}
  | ⟨[.ptr 100000 [], .ptr 100001 [], .ptr 100002 [], .int .i64 v0], [.var (.cons (.int .u32 v1) (.cons (.cons (.int .i64 v2) (.cons (.int .i64 v3) (.cons (.int .i64 v4) (.cons (.int .i64 v5) (.nil))))) (.cons (.int .i64 v6) (.cons (.int .i64 v7) (.cons (.int .u32 v8) (.cons (.arr 3 8 v9) (.nil))))))), .var (.arr 84 2 v10), .var (.arr 84 2 v11)]⟩ => some ⟨(v0, v1, v2, v3, v4, v5, v6, v7, v8, v9, v10, v11), rfl⟩
  | _ => none
def oe46_6 : Int × Int × Int × Int × Int × Int × Int × Int × List Int × List (List Int) × List (List Int) → Ex := fun _ => .exit 0
def on46_6 : Int × Int × Int × Int × Int × Int × Int × Int × List Int × List (List Int) × List (List Int) → NSt Ty := fun x => ⟨[.ptr 100000 [], .ptr 100001 [], .ptr 100002 []], [.var (.cons (.int .u32 (x.1)) (.cons (.cons (.int .i64 (x.2.1)) (.cons (.int .i64 (x.2.2.1)) (.cons (.int .i64 (x.2.2.2.1)) (.cons (.int .i64 (x.2.2.2.2.1)) (.nil))))) (.cons (.int .i64 (x.2.2.2.2.2.1)) (.cons (.int .i64 (x.2.2.2.2.2.2.1)) (.cons (.int .u32 (x.2.2.2.2.2.2.2.1)) (.cons (.arr 3 8 (x.2.2.2.2.2.2.2.2.1)) (.nil))))))), .var (.arr 84 2 (x.2.2.2.2.2.2.2.2.2.1)), .var (.arr 84 2 (x.2.2.2.2.2.2.2.2.2.2))]⟩
def oa46_6 : (e : Ex) → (n : NSt Ty) → Option {y : Int × Int × Int × Int × Int × Int × Int × Int × List Int × List (List Int) × List (List Int) // oe46_6 y = e ∧ on46_6 y = n}
  | .exit 0, ⟨[.ptr 100000 [], .ptr 100001 [], .ptr 100002 []], [.var (.cons (.int .u32 v0) (.cons (.cons (.int .i64 v1) (.cons (.int .i64 v2) (.cons (.int .i64 v3) (.cons (.int .i64 v4) (.nil))))) (.cons (.int .i64 v5) (.cons (.int .i64 v6) (.cons (.int .u32 v7) (.cons (.arr 3 8 v8) (.nil))))))), .var (.arr 84 2 v9), .var (.arr 84 2 v10)]⟩ => some ⟨(v0, v1, v2, v3, v4, v5, v6, v7, v8, v9, v10), rfl, rfl⟩
  | _, _ => none
/-- a round of the loop 6 of function 46 -/
def R46_6 (k : Nat) (again : Int × Int × Int × Int × Int × Int × Int × Int × Int × List Int × List (List Int) × List (List Int) → Option (Int × Int × Int × Int × Int × Int × Int × Int × List Int × List (List Int) × List (List Int))) (x : Int × Int × Int × Int × Int × Int × Int × Int × Int × List Int × List (List Int) × List (List Int)) : Option (Int × Int × Int × Int × Int × Int × Int × Int × List Int × List (List Int) × List (List Int)) :=
  match x with
  | (v0, v1, v2, v3, v4, v5, v6, v7, v8, v9, v10, v11) => bif decide (v0 < (2 : Int)) then bif inRange v0 (2 : Nat) then bif inRange v0 (2 : Nat) then bif inRange v0 (2 : Nat) then (F71 k (v1, ())).bind fun r => again (IntKind.i64.wrap (v0 + (1 : Int)), v1, v2, v3, v4, v5, v6, v7, v8, v9, v10, ((v11.set v0.toNat (List.set (v11.getD v0.toNat (List.replicate (64 : Nat) (0 : Int))) (Int.toNat (0 : Int)) (82 : Int))).set v0.toNat (List.set ((v11.set v0.toNat (List.set (v11.getD v0.toNat (List.replicate (64 : Nat) (0 : Int))) (Int.toNat (0 : Int)) (82 : Int))).getD v0.toNat (List.replicate (64 : Nat) (0 : Int))) (Int.toNat (1 : Int)) (IntKind.u8.wrap v0))).set v0.toNat (splice (((v11.set v0.toNat (List.set (v11.getD v0.toNat (List.replicate (64 : Nat) (0 : Int))) (Int.toNat (0 : Int)) (82 : Int))).set v0.toNat (List.set ((v11.set v0.toNat (List.set (v11.getD v0.toNat (List.replicate (64 : Nat) (0 : Int))) (Int.toNat (0 : Int)) (82 : Int))).getD v0.toNat (List.replicate (64 : Nat) (0 : Int))) (Int.toNat (1 : Int)) (IntKind.u8.wrap v0))).getD v0.toNat (List.replicate (64 : Nat) (0 : Int))) r (Int.toNat (2 : Int)) (min r.length ((↑(64 : Nat) : Int) - (2 : Int)).toNat))) else none else none else none else some (v1, v2, v3, v4, v5, v6, v7, v8, v9, v10, v11)
def L46_6 (k n : Nat) (x : Int × Int × Int × Int × Int × Int × Int × Int × Int × List Int × List (List Int) × List (List Int)) : Option (Int × Int × Int × Int × Int × Int × Int × Int × List Int × List (List Int) × List (List Int)) := iterR (R46_6 k) n x
noncomputable def ls46_6 : Nat → Option (LSum Ty) := addL 6 (LSum.of of46_6 ab46_6 L46_6 oe46_6 on46_6) noL
def of46_14 : List Int × Int × List (List Int) × List (List Int) → NSt Ty := fun x => ⟨[.ptr 100000 [], .ptr 100001 [], .arr 3 8 (x.1), .int .i64 (x.2.1)], [.var (.arr 84 2 (x.2.2.1)), .var (.arr 84 2 (x.2.2.2))]⟩
def ab46_14 : (n : NSt Ty) → Option {x : List Int × Int × List (List Int) × List (List Int) // of46_14 x = n}
  | ⟨[.ptr 100000 [], .ptr 100001 [], .arr 3 8 v0, .int .i64 v1], [.var (.arr 84 2 v2), .var (.arr 84 2 v3)]⟩ => some ⟨(v0, v1, v2, v3), rfl⟩
  | _ => none
def oe46_14 : List (List Int) × List (List Int) → Ex := fun _ => .exit 2
def on46_14 : List (List Int) × List (List Int) → NSt Ty := fun x => ⟨[.ptr 100000 [], .ptr 100001 []], [.var (.arr 84 2 (x.1)), .var (.arr 84 2 (x.2))]⟩
def oa46_14 : (e : Ex) → (n : NSt Ty) → Option {y : List (List Int) × List (List Int) // oe46_14 y = e ∧ on46_14 y = n}
  | .exit 2, ⟨[.ptr 100000 [], .ptr 100001 []], [.var (.arr 84 2 v0), .var (.arr 84 2 v1)]⟩ => some ⟨(v0, v1), rfl, rfl⟩
  | _, _ => none
/-- a round of the loop 14 of function 46 -/
def R46_14 (k : Nat) (again : List Int × Int × List (List Int) × List (List Int) → Option (List (List Int) × List (List Int))) (x : List Int × Int × List (List Int) × List (List Int)) : Option (List (List Int) × List (List Int)) :=
  match x with
  | (v0, v1, v2, v3) => bif decide (v1 < (8 : Int)) then bif inRange v1 (8 : Nat) then bif inRange (IntKind.i64.wrap ((6 : Int) + IntKind.i64.wrap ((2 : Int) * v1))) (64 : Nat) then bif inRange (IntKind.i64.wrap (IntKind.i64.wrap ((6 : Int) + IntKind.i64.wrap ((2 : Int) * v1)) + (1 : Int))) (64 : Nat) then again (v0, IntKind.i64.wrap (v1 + (1 : Int)), v2, (v3.set (Int.toNat (1 : Int)) (List.set (v3.getD (Int.toNat (1 : Int)) (List.replicate (64 : Nat) (0 : Int))) (IntKind.i64.wrap ((6 : Int) + IntKind.i64.wrap ((2 : Int) * v1))).toNat (IntKind.u8.wrap (v0.getD v1.toNat (0 : Int))))).set (Int.toNat (1 : Int)) (List.set ((v3.set (Int.toNat (1 : Int)) (List.set (v3.getD (Int.toNat (1 : Int)) (List.replicate (64 : Nat) (0 : Int))) (IntKind.i64.wrap ((6 : Int) + IntKind.i64.wrap ((2 : Int) * v1))).toNat (IntKind.u8.wrap (v0.getD v1.toNat (0 : Int))))).getD (Int.toNat (1 : Int)) (List.replicate (64 : Nat) (0 : Int))) (IntKind.i64.wrap (IntKind.i64.wrap ((6 : Int) + IntKind.i64.wrap ((2 : Int) * v1)) + (1 : Int))).toNat (IntKind.u8.wrap (Int.fdiv (v0.getD v1.toNat (0 : Int)) ((2 : Int) ^ min (Int.toNat (8 : Int)) IntKind.i64.bits))))) else none else none else none else some (v2, v3)
def L46_14 (k n : Nat) (x : List Int × Int × List (List Int) × List (List Int)) : Option (List (List Int) × List (List Int)) := iterR (R46_14 k) n x
noncomputable def ls46_14 : Nat → Option (LSum Ty) := addL 14 (LSum.of of46_14 ab46_14 L46_14 oe46_14 on46_14) ls46_6
def kp46 : Nat → Keep := fun i => cond (i == 6) ⟨[1, 2, 5, 16], [1, 2, 5], 0⟩ (cond (i == 14) ⟨[2, 5, 68, 69], [2, 5], 0⟩ (⟨[], [], 0⟩))
/-- "silt/region.Encode" -/
def F46 (k : Nat) (x : T26 × Unit) : Option ((List (List Int)) × Int × Unit) :=
  match x with
  | (a0, ()) => (F70 k (T26.mk a0.1 (T23.mk a0.2.1 a0.2.2 a0.2.3 a0.2.4) a0.3 a0.4 a0.5 a0.6, ())).bind fun r => (F69 k (r, ())).bind fun r => bif r != (0 : Int) then some (List.replicate (2 : Nat) (List.replicate (64 : Nat) (0 : Int)), r, ()) else (L46_6 k k ((0 : Int), a0.1, a0.2.1, a0.2.2, a0.2.3, a0.2.4, a0.3, a0.4, a0.5, a0.6, List.replicate (2 : Nat) (List.replicate (64 : Nat) (0 : Int)), List.replicate (2 : Nat) (List.replicate (64 : Nat) (0 : Int)))).bind fun r => (F71 k (r.snd.snd.snd.snd.snd.snd.snd.fst, ())).bind fun r_1 => (L46_14 k k (r.snd.snd.snd.snd.snd.snd.snd.snd.fst, (0 : Int), r.snd.snd.snd.snd.snd.snd.snd.snd.snd.fst, (r.snd.snd.snd.snd.snd.snd.snd.snd.snd.snd.set (Int.toNat (0 : Int)) (splice (r.snd.snd.snd.snd.snd.snd.snd.snd.snd.snd.getD (Int.toNat (0 : Int)) (List.replicate (64 : Nat) (0 : Int))) (((((((List.replicate (6 : Nat) (0 : Int)).set (0 : Nat) (IntKind.u8.wrap r.snd.fst)).set (1 : Nat) (IntKind.u8.wrap r.snd.snd.fst)).set (2 : Nat) (IntKind.u8.wrap r.snd.snd.snd.fst)).set (3 : Nat) (IntKind.u8.wrap r.snd.snd.snd.snd.fst)).set (4 : Nat) (IntKind.u8.wrap r.snd.snd.snd.snd.snd.fst)).set (5 : Nat) (IntKind.u8.wrap r.snd.snd.snd.snd.snd.snd.fst)) (Int.toNat (6 : Int)) (min (((((((List.replicate (6 : Nat) (0 : Int)).set (0 : Nat) (IntKind.u8.wrap r.snd.fst)).set (1 : Nat) (IntKind.u8.wrap r.snd.snd.fst)).set (2 : Nat) (IntKind.u8.wrap r.snd.snd.snd.fst)).set (3 : Nat) (IntKind.u8.wrap r.snd.snd.snd.snd.fst)).set (4 : Nat) (IntKind.u8.wrap r.snd.snd.snd.snd.snd.fst)).set (5 : Nat) (IntKind.u8.wrap r.snd.snd.snd.snd.snd.snd.fst)).length ((↑(64 : Nat) : Int) - (6 : Int)).toNat))).set (Int.toNat (0 : Int)) (splice ((r.snd.snd.snd.snd.snd.snd.snd.snd.snd.snd.set (Int.toNat (0 : Int)) (splice (r.snd.snd.snd.snd.snd.snd.snd.snd.snd.snd.getD (Int.toNat (0 : Int)) (List.replicate (64 : Nat) (0 : Int))) (((((((List.replicate (6 : Nat) (0 : Int)).set (0 : Nat) (IntKind.u8.wrap r.snd.fst)).set (1 : Nat) (IntKind.u8.wrap r.snd.snd.fst)).set (2 : Nat) (IntKind.u8.wrap r.snd.snd.snd.fst)).set (3 : Nat) (IntKind.u8.wrap r.snd.snd.snd.snd.fst)).set (4 : Nat) (IntKind.u8.wrap r.snd.snd.snd.snd.snd.fst)).set (5 : Nat) (IntKind.u8.wrap r.snd.snd.snd.snd.snd.snd.fst)) (Int.toNat (6 : Int)) (min (((((((List.replicate (6 : Nat) (0 : Int)).set (0 : Nat) (IntKind.u8.wrap r.snd.fst)).set (1 : Nat) (IntKind.u8.wrap r.snd.snd.fst)).set (2 : Nat) (IntKind.u8.wrap r.snd.snd.snd.fst)).set (3 : Nat) (IntKind.u8.wrap r.snd.snd.snd.snd.fst)).set (4 : Nat) (IntKind.u8.wrap r.snd.snd.snd.snd.snd.fst)).set (5 : Nat) (IntKind.u8.wrap r.snd.snd.snd.snd.snd.snd.fst)).length ((↑(64 : Nat) : Int) - (6 : Int)).toNat))).getD (Int.toNat (0 : Int)) (List.replicate (64 : Nat) (0 : Int))) r_1 (Int.toNat (12 : Int)) (min r_1.length ((↑(64 : Nat) : Int) - (12 : Int)).toNat)))).bind fun r => some (r.snd, (0 : Int), ())
noncomputable def sp46 : FSpec Ty := spec ag46 rs46 F46
theorem bo46 : Tryd.f46.body = some (bodyOf Tryd.f46) := by kernel_rfl
theorem nd46 : nodupB ((loopsIn (bodyOf Tryd.f46)).map firstRegion) = true := by kernel_rfl
theorem lo46_6 : LSOK fs71 kp46 tab Tryd.f46 ls46_6 := lsum_ok bo46 nd46 (LSOK.none) oa46_6 (R := R46_6) fun k again x => by kernel_rfl
theorem lo46_14 : LSOK fs71 kp46 tab Tryd.f46 ls46_14 := lsum_ok bo46 nd46 (lo46_6) oa46_14 (R := R46_14) fun k again x => by kernel_rfl
theorem ok46 : FOK Tryd.prog tab 46 sp46 := spec_ok (keeps := kp46) tabOK fs71OK Tryd.func46 bo46 (by kernel_rfl) nd46 (lo46_14) (F := F46) fun k x => by kernel_rfl
noncomputable def fs46 : Nat → Option (FSpec Ty) := addF 46 sp46 fs71
theorem fs46OK : SpecsOK Tryd.prog tab fs46 := fs71OK.add ok46 Tryd.call46
def ag66 : Args Ty ((List (List Int)) × Unit) := V.arg (tab.den 110) (noArgs)
def rs66 : Res Ty tab (T26 × Int × Unit) false := V.manyRes (V.part (tab.den 27) (ent 27).ids (ent 27).plain (fun x _ => (ent 27).flat x rfl) (V.part (tab.den 29) (ent 29).ids (ent 29).plain (fun x _ => (ent 29).flat x rfl) (noParts)))
def of66_4 : Int × List (List Int) × Int × Int × Int × Int × Int × Int × Int × Int × List Int × Int × Int × Int × Int × Int × Int × Int × Int × List Int → NSt Ty := fun x => ⟨[.ptr 100000 [], .ptr 100001 [], .ptr 100002 [], .int .i64 (x.1)], [.var (.arr 84 2 (x.2.1)), .var (.cons (.int .u32 (x.2.2.1)) (.cons (.cons (.int .i64 (x.2.2.2.1)) (.cons (.int .i64 (x.2.2.2.2.1)) (.cons (.int .i64 (x.2.2.2.2.2.1)) (.cons (.int .i64 (x.2.2.2.2.2.2.1)) (.nil))))) (.cons (.int .i64 (x.2.2.2.2.2.2.2.1)) (.cons (.int .i64 (x.2.2.2.2.2.2.2.2.1)) (.cons (.int .u32 (x.2.2.2.2.2.2.2.2.2.1)) (.cons (.arr 3 8 (x.2.2.2.2.2.2.2.2.2.2.1)) (.nil))))))), .var (.cons (.int .u32 (x.2.2.2.2.2.2.2.2.2.2.2.1)) (.cons (.cons (.int .i64 (x.2.2.2.2.2.2.2.2.2.2.2.2.1)) (.cons (.int .i64 (x.2.2.2.2.2.2.2.2.2.2.2.2.2.1)) (.cons (.int .i64 (x.2.2.2.2.2.2.2.2.2.2.2.2.2.2.1)) (.cons (.int .i64 (x.2.2.2.2.2.2.2.2.2.2.2.2.2.2.2.1)) (.nil))))) (.cons (.int .i64 (x.2.2.2.2.2.2.2.2.2.2.2.2.2.2.2.2.1)) (.cons (.int .i64 (x.2.2.2.2.2.2.2.2.2.2.2.2.2.2.2.2.2.1)) (.cons (.int .u32 (x.2.2.2.2.2.2.2.2.2.2.2.2.2.2.2.2.2.2.1)) (.cons (.arr 3 8 (x.2.2.2.2.2.2.2.2.2.2.2.2.2.2.2.2.2.2.2)) (.nil)))))))]⟩
def ab66_4 : (n : NSt Ty) → Option {x : Int × List (List Int) × Int × Int × Int × Int × Int × Int × Int × Int × List Int × Int × Int × Int × Int × Int × Int × Int × Int × List Int // of66_4 x = n}
  | ⟨[.ptr 100000 [], .ptr 100001 [], .ptr 100002 [], .int .i64 v0], [.var (.arr 84 2 v1), .var (.cons (.int .u32 v2) (.cons (.cons (.int .i64 v3) (.cons (.int .i64 v4) (.cons (.int .i64 v5) (.cons (.int .i64 v6) (.nil))))) (.cons (.int .i64 v7) (.cons (.int .i64 v8) (.cons (.int .u32 v9) (.cons (.arr 3 8 v10) (.nil))))))), .var (.cons (.int .u32 v11) (.cons (.cons (.int .i64 v12) (.cons (.int .i64 v13) (.cons (.int .i64 v14) (.cons (.int .i64 v15) (.nil))))) (.cons (.int .i64 v16) (.cons (.int .i64 v17) (.cons (.int .u32 v18) (.cons (.arr 3 8 v19) (.nil)))))))]⟩ => some ⟨(v0, v1, v2, v3, v4, v5, v6, v7, v8, v9, v10, v11, v12, v13, v14, v15, v16, v17, v18, v19), rfl⟩
  | _ => none
def oe66_4 : List (List Int) × Int × Int × Int × Int × Int × Int × Int × Int × List Int × Int × Int × Int × Int × Int × Int × Int × Int × List Int → Ex := fun _ => .exit 0
def on66_4 : List (List Int) × Int × Int × Int × Int × Int × Int × Int × Int × List Int × Int × Int × Int × Int × Int × Int × Int × Int × List Int → NSt Ty := fun x => ⟨[.ptr 100000 [], .ptr 100001 [], .ptr 100002 []], [.var (.arr 84 2 (x.1)), .var (.cons (.int .u32 (x.2.1)) (.cons (.cons (.int .i64 (x.2.2.1)) (.cons (.int .i64 (x.2.2.2.1)) (.cons (.int .i64 (x.2.2.2.2.1)) (.cons (.int .i64 (x.2.2.2.2.2.1)) (.nil))))) (.cons (.int .i64 (x.2.2.2.2.2.2.1)) (.cons (.int .i64 (x.2.2.2.2.2.2.2.1)) (.cons (.int .u32 (x.2.2.2.2.2.2.2.2.1)) (.cons (.arr 3 8 (x.2.2.2.2.2.2.2.2.2.1)) (.nil))))))), .var (.cons (.int .u32 (x.2.2.2.2.2.2.2.2.2.2.1)) (.cons (.cons (.int .i64 (x.2.2.2.2.2.2.2.2.2.2.2.1)) (.cons (.int .i64 (x.2.2.2.2.2.2.2.2.2.2.2.2.1)) (.cons (.int .i64 (x.2.2.2.2.2.2.2.2.2.2.2.2.2.1)) (.cons (.int .i64 (x.2.2.2.2.2.2.2.2.2.2.2.2.2.2.1)) (.nil))))) (.cons (.int .i64 (x.2.2.2.2.2.2.2.2.2.2.2.2.2.2.2.1)) (.cons (.int .i64 (x.2.2.2.2.2.2.2.2.2.2.2.2.2.2.2.2.1)) (.cons (.int .u32 (x.2.2.2.2.2.2.2.2.2.2.2.2.2.2.2.2.2.1)) (.cons (.arr 3 8 (x.2.2.2.2.2.2.2.2.2.2.2.2.2.2.2.2.2.2)) (.nil)))))))]⟩
def oa66_4 : (e : Ex) → (n : NSt Ty) → Option {y : List (List Int) × Int × Int × Int × Int × Int × Int × Int × Int × List Int × Int × Int × Int × Int × Int × Int × Int × Int × List Int // oe66_4 y = e ∧ on66_4 y = n}
  | .exit 0, ⟨[.ptr 100000 [], .ptr 100001 [], .ptr 100002 []], [.var (.arr 84 2 v0), .var (.cons (.int .u32 v1) (.cons (.cons (.int .i64 v2) (.cons (.int .i64 v3) (.cons (.int .i64 v4) (.cons (.int .i64 v5) (.nil))))) (.cons (.int .i64 v6) (.cons (.int .i64 v7) (.cons (.int .u32 v8) (.cons (.arr 3 8 v9) (.nil))))))), .var (.cons (.int .u32 v10) (.cons (.cons (.int .i64 v11) (.cons (.int .i64 v12) (.cons (.int .i64 v13) (.cons (.int .i64 v14) (.nil))))) (.cons (.int .i64 v15) (.cons (.int .i64 v16) (.cons (.int .u32 v17) (.cons (.arr 3 8 v18) (.nil)))))))]⟩ => some ⟨(v0, v1, v2, v3, v4, v5, v6, v7, v8, v9, v10, v11, v12, v13, v14, v15, v16, v17, v18), rfl, rfl⟩
  | _, _ => none
/-- a round of the loop 4 of function 66 -/
def R66_4 (k : Nat) (again : Int × List (List Int) × Int × Int × Int × Int × Int × Int × Int × Int × List Int × Int × Int × Int × Int × Int × Int × Int × Int × List Int → Option (List (List Int) × Int × Int × Int × Int × Int × Int × Int × Int × List Int × Int × Int × Int × Int × Int × Int × Int × Int × List Int)) (x : Int × List (List Int) × Int × Int × Int × Int × Int × Int × Int × Int × List Int × Int × Int × Int × Int × Int × Int × Int × Int × List Int) : Option (List (List Int) × Int × Int × Int × Int × Int × Int × Int × Int × List Int × Int × Int × Int × Int × Int × Int × Int × Int × List Int) :=
  match x with
  | (v0, v1, v2, v3, v4, v5, v6, v7, v8, v9, v10, v11, v12, v13, v14, v15, v16, v17, v18, v19) => bif decide (v0 < (8 : Int)) then bif inRange (IntKind.i64.wrap ((6 : Int) + IntKind.i64.wrap ((2 : Int) * v0))) (64 : Nat) then bif inRange (IntKind.i64.wrap (IntKind.i64.wrap ((6 : Int) + IntKind.i64.wrap ((2 : Int) * v0)) + (1 : Int))) (64 : Nat) then bif inRange v0 (8 : Nat) then again (IntKind.i64.wrap (v0 + (1 : Int)), v1, v2, v3, v4, v5, v6, v7, v8, v9, v10, v11, v12, v13, v14, v15, v16, v17, v18, v19.set v0.toNat (IntKind.i64.wrap (↑(BitVec.ofInt IntKind.i64.bits (IntKind.i64.wrap (List.getD (v1.getD (Int.toNat (1 : Int)) (List.replicate (64 : Nat) (0 : Int))) (IntKind.i64.wrap ((6 : Int) + IntKind.i64.wrap ((2 : Int) * v0))).toNat (0 : Int))) ||| BitVec.ofInt IntKind.i64.bits (IntKind.i64.wrap (IntKind.i64.wrap (List.getD (v1.getD (Int.toNat (1 : Int)) (List.replicate (64 : Nat) (0 : Int))) (IntKind.i64.wrap (IntKind.i64.wrap ((6 : Int) + IntKind.i64.wrap ((2 : Int) * v0)) + (1 : Int))).toNat (0 : Int)) * (2 : Int) ^ min (Int.toNat (8 : Int)) IntKind.i64.bits))).toNat : Int))) else none else none else none else some (v1, v2, v3, v4, v5, v6, v7, v8, v9, v10, v11, v12, v13, v14, v15, v16, v17, v18, v19)
def L66_4 (k n : Nat) (x : Int × List (List Int) × Int × Int × Int × Int × Int × Int × Int × Int × List Int × Int × Int × Int × Int × Int × Int × Int × Int × List Int) : Option (List (List Int) × Int × Int × Int × Int × Int × Int × Int × Int × List Int × Int × Int × Int × Int × Int × Int × Int × Int × List Int) := iterR (R66_4 k) n x
noncomputable def ls66_4 : Nat → Option (LSum Ty) := addL 4 (LSum.of of66_4 ab66_4 L66_4 oe66_4 on66_4) noL
def kp66 : Nat → Keep := fun i => cond (i == 4) ⟨[1, 2, 5, 43], [1, 2, 5], 0⟩ (⟨[], [], 0⟩)
/-- "silt/region.Decode" -/
def F66 (k : Nat) (x : (List (List Int)) × Unit) : Option (T26 × Int × Unit) :=
  match x with
  | (a0, ()) => (F86 k (List.take ((↑(64 : Nat) : Int) - (2 : Int)).toNat (List.drop (Int.toNat (2 : Int)) (a0.getD (Int.toNat (0 : Int)) (List.replicate (64 : Nat) (0 : Int)))), ())).bind fun r => (F86 k (List.take ((↑(64 : Nat) : Int) - (12 : Int)).toNat (List.drop (Int.toNat (12 : Int)) (a0.getD (Int.toNat (0 : Int)) (List.replicate (64 : Nat) (0 : Int)))), ())).bind fun r_1 => (L66_4 k k ((0 : Int), a0, (0 : Int), (0 : Int), (0 : Int), (0 : Int), (0 : Int), (0 : Int), (0 : Int), (0 : Int), List.replicate (8 : Nat) (0 : Int), r, IntKind.i64.wrap (List.getD (a0.getD (Int.toNat (0 : Int)) (List.replicate (64 : Nat) (0 : Int))) (Int.toNat (6 : Int) + Int.toNat (0 : Int)) (0 : Int)), IntKind.i64.wrap (List.getD (a0.getD (Int.toNat (0 : Int)) (List.replicate (64 : Nat) (0 : Int))) (Int.toNat (6 : Int) + Int.toNat (1 : Int)) (0 : Int)), IntKind.i64.wrap (List.getD (a0.getD (Int.toNat (0 : Int)) (List.replicate (64 : Nat) (0 : Int))) (Int.toNat (6 : Int) + Int.toNat (2 : Int)) (0 : Int)), IntKind.i64.wrap (List.getD (a0.getD (Int.toNat (0 : Int)) (List.replicate (64 : Nat) (0 : Int))) (Int.toNat (6 : Int) + Int.toNat (3 : Int)) (0 : Int)), IntKind.i64.wrap (List.getD (a0.getD (Int.toNat (0 : Int)) (List.replicate (64 : Nat) (0 : Int))) (Int.toNat (6 : Int) + Int.toNat (4 : Int)) (0 : Int)), IntKind.i64.wrap (List.getD (a0.getD (Int.toNat (0 : Int)) (List.replicate (64 : Nat) (0 : Int))) (Int.toNat (6 : Int) + Int.toNat (5 : Int)) (0 : Int)), r_1, List.replicate (8 : Nat) (0 : Int))).bind fun r => (F46 k (T26.mk r.snd.snd.snd.snd.snd.snd.snd.snd.snd.snd.fst (T23.mk r.snd.snd.snd.snd.snd.snd.snd.snd.snd.snd.snd.fst r.snd.snd.snd.snd.snd.snd.snd.snd.snd.snd.snd.snd.fst r.snd.snd.snd.snd.snd.snd.snd.snd.snd.snd.snd.snd.snd.fst r.snd.snd.snd.snd.snd.snd.snd.snd.snd.snd.snd.snd.snd.snd.fst) r.snd.snd.snd.snd.snd.snd.snd.snd.snd.snd.snd.snd.snd.snd.snd.fst r.snd.snd.snd.snd.snd.snd.snd.snd.snd.snd.snd.snd.snd.snd.snd.snd.fst r.snd.snd.snd.snd.snd.snd.snd.snd.snd.snd.snd.snd.snd.snd.snd.snd.snd.fst r.snd.snd.snd.snd.snd.snd.snd.snd.snd.snd.snd.snd.snd.snd.snd.snd.snd.snd, ())).bind fun r_2 => bif r_2.snd.fst != (0 : Int) then some (T26.mk (0 : Int) (T23.mk (0 : Int) (0 : Int) (0 : Int) (0 : Int)) (0 : Int) (0 : Int) (0 : Int) (List.replicate (8 : Nat) (0 : Int)), (11 : Int), ()) else bif !decide (r_2.fst = r.fst) then some (T26.mk (0 : Int) (T23.mk (0 : Int) (0 : Int) (0 : Int) (0 : Int)) (0 : Int) (0 : Int) (0 : Int) (List.replicate (8 : Nat) (0 : Int)), (11 : Int), ()) else some (T26.mk r.snd.snd.snd.snd.snd.snd.snd.snd.snd.snd.fst (T23.mk r.snd.snd.snd.snd.snd.snd.snd.snd.snd.snd.snd.fst r.snd.snd.snd.snd.snd.snd.snd.snd.snd.snd.snd.snd.fst r.snd.snd.snd.snd.snd.snd.snd.snd.snd.snd.snd.snd.snd.fst r.snd.snd.snd.snd.snd.snd.snd.snd.snd.snd.snd.snd.snd.snd.fst) r.snd.snd.snd.snd.snd.snd.snd.snd.snd.snd.snd.snd.snd.snd.snd.fst r.snd.snd.snd.snd.snd.snd.snd.snd.snd.snd.snd.snd.snd.snd.snd.snd.fst r.snd.snd.snd.snd.snd.snd.snd.snd.snd.snd.snd.snd.snd.snd.snd.snd.snd.fst r.snd.snd.snd.snd.snd.snd.snd.snd.snd.snd.snd.snd.snd.snd.snd.snd.snd.snd, (0 : Int), ())
noncomputable def sp66 : FSpec Ty := spec ag66 rs66 F66
theorem bo66 : Tryd.f66.body = some (bodyOf Tryd.f66) := by kernel_rfl
theorem nd66 : nodupB ((loopsIn (bodyOf Tryd.f66)).map firstRegion) = true := by kernel_rfl
theorem lo66_4 : LSOK fs46 kp66 tab Tryd.f66 ls66_4 := lsum_ok bo66 nd66 (LSOK.none) oa66_4 (R := R66_4) fun k again x => by kernel_rfl
theorem ok66 : FOK Tryd.prog tab 66 sp66 := spec_ok (keeps := kp66) tabOK fs46OK Tryd.func66 bo66 (by kernel_rfl) nd66 (lo66_4) (F := F66) fun k x => by kernel_rfl
noncomputable def fs66 : Nat → Option (FSpec Ty) := addF 66 sp66 fs46
theorem fs66OK : SpecsOK Tryd.prog tab fs66 := fs46OK.add ok66 Tryd.call66
theorem bo44 : Tryd.f44.body = some (bodyOf Tryd.f44) := by kernel_rfl
theorem nd44 : nodupB ((loopsIn (bodyOf Tryd.f44)).map firstRegion) = true := by kernel_rfl
def of44hn : Int → NSt Ty := fun x => ⟨[.nilp, .int .i64 (x)], []⟩
def ab44hn : (n : NSt Ty) → Option {x : Int // of44hn x = n}
  | ⟨[.nilp, .int .i64 v0], []⟩ => some ⟨v0, rfl⟩
  | _ => none
def of44hn_3 : Int × Int × Int × Int × Int × Int × Int × Int × Int × Int × List Int × List (List Int) → NSt Ty := fun x => ⟨[.nilp, .int .i64 (x.1), .ptr 100000 [], .ptr 100001 [], .int .i64 (x.2.1)], [.var (.cons (.int .u32 (x.2.2.1)) (.cons (.cons (.int .i64 (x.2.2.2.1)) (.cons (.int .i64 (x.2.2.2.2.1)) (.cons (.int .i64 (x.2.2.2.2.2.1)) (.cons (.int .i64 (x.2.2.2.2.2.2.1)) (.nil))))) (.cons (.int .i64 (x.2.2.2.2.2.2.2.1)) (.cons (.int .i64 (x.2.2.2.2.2.2.2.2.1)) (.cons (.int .u32 (x.2.2.2.2.2.2.2.2.2.1)) (.cons (.arr 3 8 (x.2.2.2.2.2.2.2.2.2.2.1)) (.nil))))))), .var (.arr 84 2 (x.2.2.2.2.2.2.2.2.2.2.2))]⟩
def ab44hn_3 : (n : NSt Ty) → Option {x : Int × Int × Int × Int × Int × Int × Int × Int × Int × Int × List Int × List (List Int) // of44hn_3 x = n}
  | ⟨[.nilp, .int .i64 v0, .ptr 100000 [], .ptr 100001 [], .int .i64 v1], [.var (.cons (.int .u32 v2) (.cons (.cons (.int .i64 v3) (.cons (.int .i64 v4) (.cons (.int .i64 v5) (.cons (.int .i64 v6) (.nil))))) (.cons (.int .i64 v7) (.cons (.int .i64 v8) (.cons (.int .u32 v9) (.cons (.arr 3 8 v10) (.nil))))))), .var (.arr 84 2 v11)]⟩ => some ⟨(v0, v1, v2, v3, v4, v5, v6, v7, v8, v9, v10, v11), rfl⟩
  | _ => none
def on44hn_3a : Int × GErr × Int × Int × Int × Int × Int × Int × Int × Int × List Int × List (List Int) → NSt Ty := fun x => ⟨[.nilp, .int .i64 (x.1), .ptr 100000 [], .err (x.2.1), .ptr 100001 []], [.var (.cons (.int .u32 (x.2.2.1)) (.cons (.cons (.int .i64 (x.2.2.2.1)) (.cons (.int .i64 (x.2.2.2.2.1)) (.cons (.int .i64 (x.2.2.2.2.2.1)) (.cons (.int .i64 (x.2.2.2.2.2.2.1)) (.nil))))) (.cons (.int .i64 (x.2.2.2.2.2.2.2.1)) (.cons (.int .i64 (x.2.2.2.2.2.2.2.2.1)) (.cons (.int .u32 (x.2.2.2.2.2.2.2.2.2.1)) (.cons (.arr 3 8 (x.2.2.2.2.2.2.2.2.2.2.1)) (.nil))))))), .var (.arr 84 2 (x.2.2.2.2.2.2.2.2.2.2.2))]⟩
def on44hn_3b : Int × Int × Int × Int × Int × Int × Int × Int × Int × List Int × List (List Int) → NSt Ty := fun x => ⟨[.nilp, .int .i64 (x.1), .ptr 100000 [], .undef, .ptr 100001 []], [.var (.cons (.int .u32 (x.2.1)) (.cons (.cons (.int .i64 (x.2.2.1)) (.cons (.int .i64 (x.2.2.2.1)) (.cons (.int .i64 (x.2.2.2.2.1)) (.cons (.int .i64 (x.2.2.2.2.2.1)) (.nil))))) (.cons (.int .i64 (x.2.2.2.2.2.2.1)) (.cons (.int .i64 (x.2.2.2.2.2.2.2.1)) (.cons (.int .u32 (x.2.2.2.2.2.2.2.2.1)) (.cons (.arr 3 8 (x.2.2.2.2.2.2.2.2.2.1)) (.nil))))))), .var (.arr 84 2 (x.2.2.2.2.2.2.2.2.2.2))]⟩
def oa44hn_3 : (e : Ex) → (n : NSt Ty) → Option {y : (Int × GErr × Int × Int × Int × Int × Int × Int × Int × Int × List Int × List (List Int)) ⊕ (Int × Int × Int × Int × Int × Int × Int × Int × Int × List Int × List (List Int)) // oe2 .ret (.exit 0) y = e ∧ on2 on44hn_3a on44hn_3b y = n}
  | .ret, ⟨[.nilp, .int .i64 v0, .ptr 100000 [], .err v1, .ptr 100001 []], [.var (.cons (.int .u32 v2) (.cons (.cons (.int .i64 v3) (.cons (.int .i64 v4) (.cons (.int .i64 v5) (.cons (.int .i64 v6) (.nil))))) (.cons (.int .i64 v7) (.cons (.int .i64 v8) (.cons (.int .u32 v9) (.cons (.arr 3 8 v10) (.nil))))))), .var (.arr 84 2 v11)]⟩ => some ⟨.inl (v0, v1, v2, v3, v4, v5, v6, v7, v8, v9, v10, v11), rfl, rfl⟩
  | .exit 0, ⟨[.nilp, .int .i64 v0, .ptr 100000 [], .undef, .ptr 100001 []], [.var (.cons (.int .u32 v1) (.cons (.cons (.int .i64 v2) (.cons (.int .i64 v3) (.cons (.int .i64 v4) (.cons (.int .i64 v5) (.nil))))) (.cons (.int .i64 v6) (.cons (.int .i64 v7) (.cons (.int .u32 v8) (.cons (.arr 3 8 v9) (.nil))))))), .var (.arr 84 2 v10)]⟩ => some ⟨.inr (v0, v1, v2, v3, v4, v5, v6, v7, v8, v9, v10), rfl, rfl⟩
  | _, _ => none
/-- a round of the loop 3 of function 44 -/
def R44hn_3 (k : Nat) (again : Int × Int × Int × Int × Int × Int × Int × Int × Int × Int × List Int × List (List Int) → Option ((Int × GErr × Int × Int × Int × Int × Int × Int × Int × Int × List Int × List (List Int)) ⊕ (Int × Int × Int × Int × Int × Int × Int × Int × Int × List Int × List (List Int)))) (x : Int × Int × Int × Int × Int × Int × Int × Int × Int × Int × List Int × List (List Int)) : Option ((Int × GErr × Int × Int × Int × Int × Int × Int × Int × Int × List Int × List (List Int)) ⊕ (Int × Int × Int × Int × Int × Int × Int × Int × Int × List Int × List (List Int))) :=
  match x with
  | (v0, v1, v2, v3, v4, v5, v6, v7, v8, v9, v10, v11) => bif decide (v1 < (2 : Int)) then (F38hn k (IntKind.i64.wrap (IntKind.i64.wrap ((2 : Int) * v0) + v1))).bind fun r => bif r.snd != (0 : Int) then (F65 k ((13 : Int), ByteArray.mk (Array.mk [(114 : UInt8), (101 : UInt8), (97 : UInt8), (100 : UInt8)]), ())).bind fun r => (F64 k (r, ByteArray.mk (Array.mk [(114 : UInt8), (101 : UInt8), (103 : UInt8), (105 : UInt8), (111 : UInt8), (110 : UInt8)]), ())).bind fun r => some (Sum.inl (v0, r, (0 : Int), (0 : Int), (0 : Int), (0 : Int), (0 : Int), (0 : Int), (0 : Int), (0 : Int), List.replicate (8 : Nat) (0 : Int), v11)) else bif inRange v1 (2 : Nat) then again (v0, IntKind.i64.wrap (v1 + (1 : Int)), v2, v3, v4, v5, v6, v7, v8, v9, v10, v11.set v1.toNat r.fst) else none else some (Sum.inr (v0, v2, v3, v4, v5, v6, v7, v8, v9, v10, v11))
def L44hn_3 (k n : Nat) (x : Int × Int × Int × Int × Int × Int × Int × Int × Int × Int × List Int × List (List Int)) : Option ((Int × GErr × Int × Int × Int × Int × Int × Int × Int × Int × List Int × List (List Int)) ⊕ (Int × Int × Int × Int × Int × Int × Int × Int × Int × List Int × List (List Int))) := iterR (R44hn_3 k) n x
noncomputable def ls44hn_3 : Nat → Option (LSum Ty) := addL 3 (lsum2 of44hn_3 ab44hn_3 L44hn_3 .ret on44hn_3a (.exit 0) on44hn_3b) noL
def kp44hn : Nat → Keep := pinned 0 fun i => cond (i == 3) ⟨[0, 1, 4, 6, 12], [0, 1, 4, 5, 6], 0⟩ (⟨[], [], 0⟩)
def on44hn : Int × Int × Int × Int × Int × Int × Int × Int × List Int × GErr → NSt Ty := fun x => ⟨[.tup (.cons (.cons (.int .u32 (x.1)) (.cons (.cons (.int .i64 (x.2.1)) (.cons (.int .i64 (x.2.2.1)) (.cons (.int .i64 (x.2.2.2.1)) (.cons (.int .i64 (x.2.2.2.2.1)) (.nil))))) (.cons (.int .i64 (x.2.2.2.2.2.1)) (.cons (.int .i64 (x.2.2.2.2.2.2.1)) (.cons (.int .u32 (x.2.2.2.2.2.2.2.1)) (.cons (.arr 3 8 (x.2.2.2.2.2.2.2.2.1)) (.nil))))))) (.cons (.err (x.2.2.2.2.2.2.2.2.2)) (.nil)))], []⟩
def oa44hn : (n : NSt Ty) → Option {y : Int × Int × Int × Int × Int × Int × Int × Int × List Int × GErr // on44hn y = n}
  | ⟨[.tup (.cons (.cons (.int .u32 v0) (.cons (.cons (.int .i64 v1) (.cons (.int .i64 v2) (.cons (.int .i64 v3) (.cons (.int .i64 v4) (.nil))))) (.cons (.int .i64 v5) (.cons (.int .i64 v6) (.cons (.int .u32 v7) (.cons (.arr 3 8 v8) (.nil))))))) (.cons (.err v9) (.nil)))], []⟩ => some ⟨(v0, v1, v2, v3, v4, v5, v6, v7, v8, v9), rfl⟩
  | _ => none
/-- "silt/anchor.read" hn -/
def F44hn (k : Nat) (x : Int) : Option (Int × Int × Int × Int × Int × Int × Int × Int × List Int × GErr) :=
  match x with
  | v0 => (L44hn_3 k k (v0, (0 : Int), (0 : Int), (0 : Int), (0 : Int), (0 : Int), (0 : Int), (0 : Int), (0 : Int), (0 : Int), List.replicate (8 : Nat) (0 : Int), List.replicate (2 : Nat) (List.replicate (64 : Nat) (0 : Int)))).bind fun r => sumK r (fun a => some (a.snd.snd.fst, a.snd.snd.snd.fst, a.snd.snd.snd.snd.fst, a.snd.snd.snd.snd.snd.fst, a.snd.snd.snd.snd.snd.snd.fst, a.snd.snd.snd.snd.snd.snd.snd.fst, a.snd.snd.snd.snd.snd.snd.snd.snd.fst, a.snd.snd.snd.snd.snd.snd.snd.snd.snd.fst, a.snd.snd.snd.snd.snd.snd.snd.snd.snd.snd.fst, a.snd.fst)) fun b => (F66 k (b.snd.snd.snd.snd.snd.snd.snd.snd.snd.snd, ())).bind fun r => bif r.snd.fst != (0 : Int) then (F65 k ((13 : Int), ByteArray.mk (Array.mk [(100 : UInt8), (101 : UInt8), (99 : UInt8), (111 : UInt8), (100 : UInt8), (101 : UInt8)]), ())).bind fun r => (F64 k (r, ByteArray.mk (Array.mk [(114 : UInt8), (101 : UInt8), (103 : UInt8), (105 : UInt8), (111 : UInt8), (110 : UInt8)]), ())).bind fun r => some ((0 : Int), (0 : Int), (0 : Int), (0 : Int), (0 : Int), (0 : Int), (0 : Int), (0 : Int), List.replicate (8 : Nat) (0 : Int), r) else bif IntKind.i64.wrap (r.fst.1.tmod (2 : Int)) != b.fst then (F65 k ((13 : Int), ByteArray.mk (Array.mk [(100 : UInt8), (101 : UInt8), (99 : UInt8), (111 : UInt8), (100 : UInt8), (101 : UInt8)]), ())).bind fun r => (F64 k (r, ByteArray.mk (Array.mk [(114 : UInt8), (101 : UInt8), (103 : UInt8), (105 : UInt8), (111 : UInt8), (110 : UInt8)]), ())).bind fun r => some ((0 : Int), (0 : Int), (0 : Int), (0 : Int), (0 : Int), (0 : Int), (0 : Int), (0 : Int), List.replicate (8 : Nat) (0 : Int), r) else (F47hn k ()).bind fun r_1 => (F48 k (T23.mk r.fst.2.1 r.fst.2.2 r.fst.2.3 r.fst.2.4, ())).bind fun r_2 => bif decide (r_1 < r_2) then (F65 k ((13 : Int), ByteArray.mk (Array.mk [(100 : UInt8), (101 : UInt8), (99 : UInt8), (111 : UInt8), (100 : UInt8), (101 : UInt8)]), ())).bind fun r => (F64 k (r, ByteArray.mk (Array.mk [(114 : UInt8), (101 : UInt8), (103 : UInt8), (105 : UInt8), (111 : UInt8), (110 : UInt8)]), ())).bind fun r => some ((0 : Int), (0 : Int), (0 : Int), (0 : Int), (0 : Int), (0 : Int), (0 : Int), (0 : Int), List.replicate (8 : Nat) (0 : Int), r) else some (r.fst.1, r.fst.2.1, r.fst.2.2, r.fst.2.3, r.fst.2.4, r.fst.3, r.fst.4, r.fst.5, r.fst.6, GErr.nil)
noncomputable def sp44hn : FSpec Ty := addH 0 ab44hn F44hn on44hn noH
theorem lo44hn_3 : LSOK fs66 kp44hn tab Tryd.f44 ls44hn_3 := lsum2_ok bo44 nd44 (LSOK.none) oa44hn_3 (R := R44hn_3) fun k again x => by kernel_rfl
theorem ok44hn : FOK Tryd.prog tab 44 sp44hn := addH_ok (keeps := kp44hn) tabOK fs66OK Tryd.func44 bo44 (by kernel_rfl) nd44 (lo44hn_3) oa44hn (F := F44hn) (fun k x => by kernel_rfl) (pinned_le (Nat.le_refl _) _) FOK.none rfl
def of44 : Int × Int × Int × List (List Int) × List T126 → NSt Ty := fun x => ⟨[.ptr 100000 [], .int .i64 (x.1)], [.var (.cons (.row 100001) (.cons (.row 100002) (.cons (.int .i64 (x.2.1)) (.cons (.int .i64 (x.2.2.1)) (.nil))))), .row 84 (x.2.2.2.1), .row 127 (x.2.2.2.2)]⟩
def ab44 : (n : NSt Ty) → Option {x : Int × Int × Int × List (List Int) × List T126 // of44 x = n}
  | ⟨[.ptr 100000 [], .int .i64 v0], [.var (.cons (.row 100001) (.cons (.row 100002) (.cons (.int .i64 v1) (.cons (.int .i64 v2) (.nil))))), .row 84 v3, .row 127 v4]⟩ => some ⟨(v0, v1, v2, v3, v4), rfl⟩
  | _ => none
def of44_3 : Int × Int × Int × Int × Int × Int × Int × Int × Int × Int × Int × Int × List Int × List (List Int) × List (List Int) × List T126 → NSt Ty := fun x => ⟨[.ptr 100000 [], .int .i64 (x.1), .ptr 100001 [], .ptr 100002 [], .int .i64 (x.2.1)], [.var (.cons (.row 100003) (.cons (.row 100004) (.cons (.int .i64 (x.2.2.1)) (.cons (.int .i64 (x.2.2.2.1)) (.nil))))), .var (.cons (.int .u32 (x.2.2.2.2.1)) (.cons (.cons (.int .i64 (x.2.2.2.2.2.1)) (.cons (.int .i64 (x.2.2.2.2.2.2.1)) (.cons (.int .i64 (x.2.2.2.2.2.2.2.1)) (.cons (.int .i64 (x.2.2.2.2.2.2.2.2.1)) (.nil))))) (.cons (.int .i64 (x.2.2.2.2.2.2.2.2.2.1)) (.cons (.int .i64 (x.2.2.2.2.2.2.2.2.2.2.1)) (.cons (.int .u32 (x.2.2.2.2.2.2.2.2.2.2.2.1)) (.cons (.arr 3 8 (x.2.2.2.2.2.2.2.2.2.2.2.2.1)) (.nil))))))), .var (.arr 84 2 (x.2.2.2.2.2.2.2.2.2.2.2.2.2.1)), .row 84 (x.2.2.2.2.2.2.2.2.2.2.2.2.2.2.1), .row 127 (x.2.2.2.2.2.2.2.2.2.2.2.2.2.2.2)]⟩
def ab44_3 : (n : NSt Ty) → Option {x : Int × Int × Int × Int × Int × Int × Int × Int × Int × Int × Int × Int × List Int × List (List Int) × List (List Int) × List T126 // of44_3 x = n}
  | ⟨[.ptr 100000 [], .int .i64 v0, .ptr 100001 [], .ptr 100002 [], .int .i64 v1], [.var (.cons (.row 100003) (.cons (.row 100004) (.cons (.int .i64 v2) (.cons (.int .i64 v3) (.nil))))), .var (.cons (.int .u32 v4) (.cons (.cons (.int .i64 v5) (.cons (.int .i64 v6) (.cons (.int .i64 v7) (.cons (.int .i64 v8) (.nil))))) (.cons (.int .i64 v9) (.cons (.int .i64 v10) (.cons (.int .u32 v11) (.cons (.arr 3 8 v12) (.nil))))))), .var (.arr 84 2 v13), .row 84 v14, .row 127 v15]⟩ => some ⟨(v0, v1, v2, v3, v4, v5, v6, v7, v8, v9, v10, v11, v12, v13, v14, v15), rfl⟩
  | _ => none
def on44_3a : Int × GErr × Int × Int × Int × Int × Int × Int × Int × Int × Int × Int × List Int × List (List Int) × List (List Int) × List T126 → NSt Ty := fun x => ⟨[.ptr 100000 [], .int .i64 (x.1), .ptr 100001 [], .err (x.2.1), .ptr 100002 []], [.var (.cons (.row 100003) (.cons (.row 100004) (.cons (.int .i64 (x.2.2.1)) (.cons (.int .i64 (x.2.2.2.1)) (.nil))))), .var (.cons (.int .u32 (x.2.2.2.2.1)) (.cons (.cons (.int .i64 (x.2.2.2.2.2.1)) (.cons (.int .i64 (x.2.2.2.2.2.2.1)) (.cons (.int .i64 (x.2.2.2.2.2.2.2.1)) (.cons (.int .i64 (x.2.2.2.2.2.2.2.2.1)) (.nil))))) (.cons (.int .i64 (x.2.2.2.2.2.2.2.2.2.1)) (.cons (.int .i64 (x.2.2.2.2.2.2.2.2.2.2.1)) (.cons (.int .u32 (x.2.2.2.2.2.2.2.2.2.2.2.1)) (.cons (.arr 3 8 (x.2.2.2.2.2.2.2.2.2.2.2.2.1)) (.nil))))))), .var (.arr 84 2 (x.2.2.2.2.2.2.2.2.2.2.2.2.2.1)), .row 84 (x.2.2.2.2.2.2.2.2.2.2.2.2.2.2.1), .row 127 (x.2.2.2.2.2.2.2.2.2.2.2.2.2.2.2)]⟩
def on44_3b : Int × Int × Int × Int × Int × Int × Int × Int × Int × Int × Int × List Int × List (List Int) × List (List Int) × List T126 → NSt Ty := fun x => ⟨[.ptr 100000 [], .int .i64 (x.1), .ptr 100001 [], .undef, .ptr 100002 []], [.var (.cons (.row 100003) (.cons (.row 100004) (.cons (.int .i64 (x.2.1)) (.cons (.int .i64 (x.2.2.1)) (.nil))))), .var (.cons (.int .u32 (x.2.2.2.1)) (.cons (.cons (.int .i64 (x.2.2.2.2.1)) (.cons (.int .i64 (x.2.2.2.2.2.1)) (.cons (.int .i64 (x.2.2.2.2.2.2.1)) (.cons (.int .i64 (x.2.2.2.2.2.2.2.1)) (.nil))))) (.cons (.int .i64 (x.2.2.2.2.2.2.2.2.1)) (.cons (.int .i64 (x.2.2.2.2.2.2.2.2.2.1)) (.cons (.int .u32 (x.2.2.2.2.2.2.2.2.2.2.1)) (.cons (.arr 3 8 (x.2.2.2.2.2.2.2.2.2.2.2.1)) (.nil))))))), .var (.arr 84 2 (x.2.2.2.2.2.2.2.2.2.2.2.2.1)), .row 84 (x.2.2.2.2.2.2.2.2.2.2.2.2.2.1), .row 127 (x.2.2.2.2.2.2.2.2.2.2.2.2.2.2)]⟩
def oa44_3 : (e : Ex) → (n : NSt Ty) → Option {y : (Int × GErr × Int × Int × Int × Int × Int × Int × Int × Int × Int × Int × List Int × List (List Int) × List (List Int) × List T126) ⊕ (Int × Int × Int × Int × Int × Int × Int × Int × Int × Int × Int × List Int × List (List Int) × List (List Int) × List T126) // oe2 .ret (.exit 0) y = e ∧ on2 on44_3a on44_3b y = n}
  | .ret, ⟨[.ptr 100000 [], .int .i64 v0, .ptr 100001 [], .err v1, .ptr 100002 []], [.var (.cons (.row 100003) (.cons (.row 100004) (.cons (.int .i64 v2) (.cons (.int .i64 v3) (.nil))))), .var (.cons (.int .u32 v4) (.cons (.cons (.int .i64 v5) (.cons (.int .i64 v6) (.cons (.int .i64 v7) (.cons (.int .i64 v8) (.nil))))) (.cons (.int .i64 v9) (.cons (.int .i64 v10) (.cons (.int .u32 v11) (.cons (.arr 3 8 v12) (.nil))))))), .var (.arr 84 2 v13), .row 84 v14, .row 127 v15]⟩ => some ⟨.inl (v0, v1, v2, v3, v4, v5, v6, v7, v8, v9, v10, v11, v12, v13, v14, v15), rfl, rfl⟩
  | .exit 0, ⟨[.ptr 100000 [], .int .i64 v0, .ptr 100001 [], .undef, .ptr 100002 []], [.var (.cons (.row 100003) (.cons (.row 100004) (.cons (.int .i64 v1) (.cons (.int .i64 v2) (.nil))))), .var (.cons (.int .u32 v3) (.cons (.cons (.int .i64 v4) (.cons (.int .i64 v5) (.cons (.int .i64 v6) (.cons (.int .i64 v7) (.nil))))) (.cons (.int .i64 v8) (.cons (.int .i64 v9) (.cons (.int .u32 v10) (.cons (.arr 3 8 v11) (.nil))))))), .var (.arr 84 2 v12), .row 84 v13, .row 127 v14]⟩ => some ⟨.inr (v0, v1, v2, v3, v4, v5, v6, v7, v8, v9, v10, v11, v12, v13, v14), rfl, rfl⟩
  | _, _ => none
/-- a round of the loop 3 of function 44 -/
def R44_3 (k : Nat) (again : Int × Int × Int × Int × Int × Int × Int × Int × Int × Int × Int × Int × List Int × List (List Int) × List (List Int) × List T126 → Option ((Int × GErr × Int × Int × Int × Int × Int × Int × Int × Int × Int × Int × List Int × List (List Int) × List (List Int) × List T126) ⊕ (Int × Int × Int × Int × Int × Int × Int × Int × Int × Int × Int × List Int × List (List Int) × List (List Int) × List T126))) (x : Int × Int × Int × Int × Int × Int × Int × Int × Int × Int × Int × Int × List Int × List (List Int) × List (List Int) × List T126) : Option ((Int × GErr × Int × Int × Int × Int × Int × Int × Int × Int × Int × Int × List Int × List (List Int) × List (List Int) × List T126) ⊕ (Int × Int × Int × Int × Int × Int × Int × Int × Int × Int × Int × List Int × List (List Int) × List (List Int) × List T126)) :=
  match x with
  | (v0, v1, v2, v3, v4, v5, v6, v7, v8, v9, v10, v11, v12, v13, v14, v15) => bif decide (v1 < (2 : Int)) then (F38 k (IntKind.i64.wrap (IntKind.i64.wrap ((2 : Int) * v0) + v1), v2, v3, v14, v15)).bind fun r => bif r.snd.fst != (0 : Int) then (F65 k ((13 : Int), ByteArray.mk (Array.mk [(114 : UInt8), (101 : UInt8), (97 : UInt8), (100 : UInt8)]), ())).bind fun r_1 => (F64 k (r_1, ByteArray.mk (Array.mk [(114 : UInt8), (101 : UInt8), (103 : UInt8), (105 : UInt8), (111 : UInt8), (110 : UInt8)]), ())).bind fun r_2 => some (Sum.inl (v0, r_2, r.snd.snd.fst, r.snd.snd.snd.fst, (0 : Int), (0 : Int), (0 : Int), (0 : Int), (0 : Int), (0 : Int), (0 : Int), (0 : Int), List.replicate (8 : Nat) (0 : Int), v13, r.snd.snd.snd.snd.fst, r.snd.snd.snd.snd.snd)) else bif inRange v1 (2 : Nat) then again (v0, IntKind.i64.wrap (v1 + (1 : Int)), r.snd.snd.fst, r.snd.snd.snd.fst, v4, v5, v6, v7, v8, v9, v10, v11, v12, v13.set v1.toNat r.fst, r.snd.snd.snd.snd.fst, r.snd.snd.snd.snd.snd) else none else some (Sum.inr (v0, v2, v3, v4, v5, v6, v7, v8, v9, v10, v11, v12, v13, v14, v15))
def L44_3 (k n : Nat) (x : Int × Int × Int × Int × Int × Int × Int × Int × Int × Int × Int × Int × List Int × List (List Int) × List (List Int) × List T126) : Option ((Int × GErr × Int × Int × Int × Int × Int × Int × Int × Int × Int × Int × List Int × List (List Int) × List (List Int) × List T126) ⊕ (Int × Int × Int × Int × Int × Int × Int × Int × Int × Int × Int × List Int × List (List Int) × List (List Int) × List T126)) := iterR (R44_3 k) n x
noncomputable def ls44_3 : Nat → Option (LSum Ty) := addL 3 (lsum2 of44_3 ab44_3 L44_3 .ret on44_3a (.exit 0) on44_3b) noL
def kp44 : Nat → Keep := pinned 1 fun i => cond (i == 3) ⟨[0, 1, 4, 6, 12], [0, 1, 4, 5, 6], 0⟩ (⟨[], [], 0⟩)
def on44 : Int × Int × Int × Int × Int × Int × Int × Int × List Int × GErr × Int × Int × List (List Int) × List T126 → NSt Ty := fun x => ⟨[.tup (.cons (.cons (.int .u32 (x.1)) (.cons (.cons (.int .i64 (x.2.1)) (.cons (.int .i64 (x.2.2.1)) (.cons (.int .i64 (x.2.2.2.1)) (.cons (.int .i64 (x.2.2.2.2.1)) (.nil))))) (.cons (.int .i64 (x.2.2.2.2.2.1)) (.cons (.int .i64 (x.2.2.2.2.2.2.1)) (.cons (.int .u32 (x.2.2.2.2.2.2.2.1)) (.cons (.arr 3 8 (x.2.2.2.2.2.2.2.2.1)) (.nil))))))) (.cons (.err (x.2.2.2.2.2.2.2.2.2.1)) (.nil)))], [.var (.cons (.row 100001) (.cons (.row 100002) (.cons (.int .i64 (x.2.2.2.2.2.2.2.2.2.2.1)) (.cons (.int .i64 (x.2.2.2.2.2.2.2.2.2.2.2.1)) (.nil))))), .row 84 (x.2.2.2.2.2.2.2.2.2.2.2.2.1), .row 127 (x.2.2.2.2.2.2.2.2.2.2.2.2.2)]⟩
def oa44 : (n : NSt Ty) → Option {y : Int × Int × Int × Int × Int × Int × Int × Int × List Int × GErr × Int × Int × List (List Int) × List T126 // on44 y = n}
  | ⟨[.tup (.cons (.cons (.int .u32 v0) (.cons (.cons (.int .i64 v1) (.cons (.int .i64 v2) (.cons (.int .i64 v3) (.cons (.int .i64 v4) (.nil))))) (.cons (.int .i64 v5) (.cons (.int .i64 v6) (.cons (.int .u32 v7) (.cons (.arr 3 8 v8) (.nil))))))) (.cons (.err v9) (.nil)))], [.var (.cons (.row 100001) (.cons (.row 100002) (.cons (.int .i64 v10) (.cons (.int .i64 v11) (.nil))))), .row 84 v12, .row 127 v13]⟩ => some ⟨(v0, v1, v2, v3, v4, v5, v6, v7, v8, v9, v10, v11, v12, v13), rfl⟩
  | _ => none
/-- "silt/anchor.read"  -/
def F44 (k : Nat) (x : Int × Int × Int × List (List Int) × List T126) : Option (Int × Int × Int × Int × Int × Int × Int × Int × List Int × GErr × Int × Int × List (List Int) × List T126) :=
  match x with
  | (v0, v1, v2, v3, v4) => (L44_3 k k (v0, (0 : Int), v1, v2, (0 : Int), (0 : Int), (0 : Int), (0 : Int), (0 : Int), (0 : Int), (0 : Int), (0 : Int), List.replicate (8 : Nat) (0 : Int), List.replicate (2 : Nat) (List.replicate (64 : Nat) (0 : Int)), v3, v4)).bind fun r => sumK r (fun a => some (a.snd.snd.snd.snd.fst, a.snd.snd.snd.snd.snd.fst, a.snd.snd.snd.snd.snd.snd.fst, a.snd.snd.snd.snd.snd.snd.snd.fst, a.snd.snd.snd.snd.snd.snd.snd.snd.fst, a.snd.snd.snd.snd.snd.snd.snd.snd.snd.fst, a.snd.snd.snd.snd.snd.snd.snd.snd.snd.snd.fst, a.snd.snd.snd.snd.snd.snd.snd.snd.snd.snd.snd.fst, a.snd.snd.snd.snd.snd.snd.snd.snd.snd.snd.snd.snd.fst, a.snd.fst, a.snd.snd.fst, a.snd.snd.snd.fst, a.snd.snd.snd.snd.snd.snd.snd.snd.snd.snd.snd.snd.snd.snd.fst, a.snd.snd.snd.snd.snd.snd.snd.snd.snd.snd.snd.snd.snd.snd.snd)) fun b => (F66 k (b.snd.snd.snd.snd.snd.snd.snd.snd.snd.snd.snd.snd.fst, ())).bind fun r => bif r.snd.fst != (0 : Int) then (F65 k ((13 : Int), ByteArray.mk (Array.mk [(100 : UInt8), (101 : UInt8), (99 : UInt8), (111 : UInt8), (100 : UInt8), (101 : UInt8)]), ())).bind fun r => (F64 k (r, ByteArray.mk (Array.mk [(114 : UInt8), (101 : UInt8), (103 : UInt8), (105 : UInt8), (111 : UInt8), (110 : UInt8)]), ())).bind fun r => some ((0 : Int), (0 : Int), (0 : Int), (0 : Int), (0 : Int), (0 : Int), (0 : Int), (0 : Int), List.replicate (8 : Nat) (0 : Int), r, b.snd.fst, b.snd.snd.fst, b.snd.snd.snd.snd.snd.snd.snd.snd.snd.snd.snd.snd.snd.fst, b.snd.snd.snd.snd.snd.snd.snd.snd.snd.snd.snd.snd.snd.snd) else bif IntKind.i64.wrap (r.fst.1.tmod (2 : Int)) != b.fst then (F65 k ((13 : Int), ByteArray.mk (Array.mk [(100 : UInt8), (101 : UInt8), (99 : UInt8), (111 : UInt8), (100 : UInt8), (101 : UInt8)]), ())).bind fun r => (F64 k (r, ByteArray.mk (Array.mk [(114 : UInt8), (101 : UInt8), (103 : UInt8), (105 : UInt8), (111 : UInt8), (110 : UInt8)]), ())).bind fun r => some ((0 : Int), (0 : Int), (0 : Int), (0 : Int), (0 : Int), (0 : Int), (0 : Int), (0 : Int), List.replicate (8 : Nat) (0 : Int), r, b.snd.fst, b.snd.snd.fst, b.snd.snd.snd.snd.snd.snd.snd.snd.snd.snd.snd.snd.snd.fst, b.snd.snd.snd.snd.snd.snd.snd.snd.snd.snd.snd.snd.snd.snd) else (F47 k (b.snd.fst, b.snd.snd.fst, b.snd.snd.snd.snd.snd.snd.snd.snd.snd.snd.snd.snd.snd.fst, b.snd.snd.snd.snd.snd.snd.snd.snd.snd.snd.snd.snd.snd.snd)).bind fun r_1 => (F48 k (T23.mk r.fst.2.1 r.fst.2.2 r.fst.2.3 r.fst.2.4, ())).bind fun r_2 => bif decide (r_1.fst < r_2) then (F65 k ((13 : Int), ByteArray.mk (Array.mk [(100 : UInt8), (101 : UInt8), (99 : UInt8), (111 : UInt8), (100 : UInt8), (101 : UInt8)]), ())).bind fun r => (F64 k (r, ByteArray.mk (Array.mk [(114 : UInt8), (101 : UInt8), (103 : UInt8), (105 : UInt8), (111 : UInt8), (110 : UInt8)]), ())).bind fun r => some ((0 : Int), (0 : Int), (0 : Int), (0 : Int), (0 : Int), (0 : Int), (0 : Int), (0 : Int), List.replicate (8 : Nat) (0 : Int), r, r_1.snd.fst, r_1.snd.snd.fst, r_1.snd.snd.snd.fst, r_1.snd.snd.snd.snd) else some (r.fst.1, r.fst.2.1, r.fst.2.2, r.fst.2.3, r.fst.2.4, r.fst.3, r.fst.4, r.fst.5, r.fst.6, GErr.nil, r_1.snd.fst, r_1.snd.snd.fst, r_1.snd.snd.snd.fst, r_1.snd.snd.snd.snd)
noncomputable def sp44 : FSpec Ty := addH 1 ab44 F44 on44 sp44hn
theorem lo44_3 : LSOK fs66 kp44 tab Tryd.f44 ls44_3 := lsum2_ok bo44 nd44 (LSOK.none) oa44_3 (R := R44_3) fun k again x => by kernel_rfl
theorem ok44 : FOK Tryd.prog tab 44 sp44 := addH_ok (keeps := kp44) tabOK fs66OK Tryd.func44 bo44 (by kernel_rfl) nd44 (lo44_3) oa44 (F := F44) (fun k x => by kernel_rfl) (pinned_le (Nat.le_refl _) _) ok44hn rfl
noncomputable def fs44 : Nat → Option (FSpec Ty) := addF 44 sp44 fs66
theorem fs44OK : SpecsOK Tryd.prog tab fs44 := fs66OK.add ok44 Tryd.call44
def ag45 : Args Ty (GErr × GErr × Unit) := V.arg (tab.den 106) (V.arg (tab.den 106) noArgs)
def rs45 : Res Ty tab Bool false := V.oneRes (tab.den 4) (ent 4).ids (ent 4).plain (fun x _ => (ent 4).flat x rfl)
/-- errors.Is -/
def F45 : Nat → (GErr × GErr × Unit) → Option Bool := errIsF
noncomputable def sp45 : FSpec Ty := spec ag45 rs45 F45
theorem ok45 : FOK Tryd.prog tab 45 sp45 := errIs_ok (A := ag45) (B := rs45) (fun _ _ => rfl) (fun _ => rfl) (fun _ _ n e x h => is_calls n e x h)
noncomputable def fs45 : Nat → Option (FSpec Ty) := addF 45 sp45 fs44
theorem fs45OK : SpecsOK Tryd.prog tab fs45 := fs44OK.add ok45 Tryd.call45
theorem bo14 : Tryd.f14.body = some (bodyOf Tryd.f14) := by kernel_rfl
theorem nd14 : nodupB ((loopsIn (bodyOf Tryd.f14)).map firstRegion) = true := by kernel_rfl
def of14hn : Unit → NSt Ty := fun x => ⟨[.nilp], []⟩
def ab14hn : (n : NSt Ty) → Option {x : Unit // of14hn x = n}
  | ⟨[.nilp], []⟩ => some ⟨(), rfl⟩
  | _ => none
def kp14hn : Nat → Keep := pinned 0 fun i => cond (i == 6) ⟨[0, 2, 4, 5, 12], [2, 4, 5], 0⟩ (⟨[], [], 0⟩)
def on14hn : Int × Int × Int × Int × Int × Int × Int × Int × List Int × Int → NSt Ty := fun x => ⟨[.tup (.cons (.cons (.int .u32 (x.1)) (.cons (.cons (.int .i64 (x.2.1)) (.cons (.int .i64 (x.2.2.1)) (.cons (.int .i64 (x.2.2.2.1)) (.cons (.int .i64 (x.2.2.2.2.1)) (.nil))))) (.cons (.int .i64 (x.2.2.2.2.2.1)) (.cons (.int .i64 (x.2.2.2.2.2.2.1)) (.cons (.int .u32 (x.2.2.2.2.2.2.2.1)) (.cons (.arr 3 8 (x.2.2.2.2.2.2.2.2.1)) (.nil))))))) (.cons (.int .i64 (x.2.2.2.2.2.2.2.2.2)) (.nil)))], []⟩
def oa14hn : (n : NSt Ty) → Option {y : Int × Int × Int × Int × Int × Int × Int × Int × List Int × Int // on14hn y = n}
  | ⟨[.tup (.cons (.cons (.int .u32 v0) (.cons (.cons (.int .i64 v1) (.cons (.int .i64 v2) (.cons (.int .i64 v3) (.cons (.int .i64 v4) (.nil))))) (.cons (.int .i64 v5) (.cons (.int .i64 v6) (.cons (.int .u32 v7) (.cons (.arr 3 8 v8) (.nil))))))) (.cons (.int .i64 v9) (.nil)))], []⟩ => some ⟨(v0, v1, v2, v3, v4, v5, v6, v7, v8, v9), rfl⟩
  | _ => none
/-- "silt/anchor.Newest" hn -/
def F14hn (k : Nat) (x : Unit) : Option (Int × Int × Int × Int × Int × Int × Int × Int × List Int × Int) :=
  match x with
  | () => some ((0 : Int), (0 : Int), (0 : Int), (0 : Int), (0 : Int), (0 : Int), (0 : Int), (0 : Int), List.replicate (8 : Nat) (0 : Int), (1 : Int))
noncomputable def sp14hn : FSpec Ty := addH 0 ab14hn F14hn on14hn noH
theorem ok14hn : FOK Tryd.prog tab 14 sp14hn := addH_ok (keeps := kp14hn) tabOK fs45OK Tryd.func14 bo14 (by kernel_rfl) nd14 (LSOK.none) oa14hn (F := F14hn) (fun k x => by kernel_rfl) (pinned_le (Nat.le_refl _) _) FOK.none rfl
def of14 : Int × Int × List (List Int) × List T126 → NSt Ty := fun x => ⟨[.ptr 100000 []], [.var (.cons (.row 100001) (.cons (.row 100002) (.cons (.int .i64 (x.1)) (.cons (.int .i64 (x.2.1)) (.nil))))), .row 84 (x.2.2.1), .row 127 (x.2.2.2)]⟩
def ab14 : (n : NSt Ty) → Option {x : Int × Int × List (List Int) × List T126 // of14 x = n}
  | ⟨[.ptr 100000 []], [.var (.cons (.row 100001) (.cons (.row 100002) (.cons (.int .i64 v0) (.cons (.int .i64 v1) (.nil))))), .row 84 v2, .row 127 v3]⟩ => some ⟨(v0, v1, v2, v3), rfl⟩
  | _ => none
def of14_6 : Bool × Int × Int × Int × Int × Int × Int × Int × Int × Int × Int × Int × List Int × Int × Int × Int × Int × Int × Int × Int × Int × List Int × List (List Int) × List T126 → NSt Ty := fun x => ⟨[.ptr 100000 [], .ptr 100001 [], .ptr 100002 [], .bool (x.1), .int .i64 (x.2.1)], [.var (.cons (.row 100003) (.cons (.row 100004) (.cons (.int .i64 (x.2.2.1)) (.cons (.int .i64 (x.2.2.2.1)) (.nil))))), .var (.cons (.int .u32 (x.2.2.2.2.1)) (.cons (.cons (.int .i64 (x.2.2.2.2.2.1)) (.cons (.int .i64 (x.2.2.2.2.2.2.1)) (.cons (.int .i64 (x.2.2.2.2.2.2.2.1)) (.cons (.int .i64 (x.2.2.2.2.2.2.2.2.1)) (.nil))))) (.cons (.int .i64 (x.2.2.2.2.2.2.2.2.2.1)) (.cons (.int .i64 (x.2.2.2.2.2.2.2.2.2.2.1)) (.cons (.int .u32 (x.2.2.2.2.2.2.2.2.2.2.2.1)) (.cons (.arr 3 8 (x.2.2.2.2.2.2.2.2.2.2.2.2.1)) (.nil))))))), .var (.cons (.int .u32 (x.2.2.2.2.2.2.2.2.2.2.2.2.2.1)) (.cons (.cons (.int .i64 (x.2.2.2.2.2.2.2.2.2.2.2.2.2.2.1)) (.cons (.int .i64 (x.2.2.2.2.2.2.2.2.2.2.2.2.2.2.2.1)) (.cons (.int .i64 (x.2.2.2.2.2.2.2.2.2.2.2.2.2.2.2.2.1)) (.cons (.int .i64 (x.2.2.2.2.2.2.2.2.2.2.2.2.2.2.2.2.2.1)) (.nil))))) (.cons (.int .i64 (x.2.2.2.2.2.2.2.2.2.2.2.2.2.2.2.2.2.2.1)) (.cons (.int .i64 (x.2.2.2.2.2.2.2.2.2.2.2.2.2.2.2.2.2.2.2.1)) (.cons (.int .u32 (x.2.2.2.2.2.2.2.2.2.2.2.2.2.2.2.2.2.2.2.2.1)) (.cons (.arr 3 8 (x.2.2.2.2.2.2.2.2.2.2.2.2.2.2.2.2.2.2.2.2.2.1)) (.nil))))))), .row 84 (x.2.2.2.2.2.2.2.2.2.2.2.2.2.2.2.2.2.2.2.2.2.2.1), .row 127 (x.2.2.2.2.2.2.2.2.2.2.2.2.2.2.2.2.2.2.2.2.2.2.2)]⟩
def ab14_6 : (n : NSt Ty) → Option {x : Bool × Int × Int × Int × Int × Int × Int × Int × Int × Int × Int × Int × List Int × Int × Int × Int × Int × Int × Int × Int × Int × List Int × List (List Int) × List T126 // of14_6 x = n}
  | ⟨[.ptr 100000 [], .ptr 100001 [], .ptr 100002 [], .bool v0, .int .i64 v1], [.var (.cons (.row 100003) (.cons (.row 100004) (.cons (.int .i64 v2) (.cons (.int .i64 v3) (.nil))))), .var (.cons (.int .u32 v4) (.cons (.cons (.int .i64 v5) (.cons (.int .i64 v6) (.cons (.int .i64 v7) (.cons (.int .i64 v8) (.nil))))) (.cons (.int .i64 v9) (.cons (.int .i64 v10) (.cons (.int .u32 v11) (.cons (.arr 3 8 v12) (.nil))))))), .var (.cons (.int .u32 v13) (.cons (.cons (.int .i64 v14) (.cons (.int .i64 v15) (.cons (.int .i64 v16) (.cons (.int .i64 v17) (.nil))))) (.cons (.int .i64 v18) (.cons (.int .i64 v19) (.cons (.int .u32 v20) (.cons (.arr 3 8 v21) (.nil))))))), .row 84 v22, .row 127 v23]⟩ => some ⟨(v0, v1, v2, v3, v4, v5, v6, v7, v8, v9, v10, v11, v12, v13, v14, v15, v16, v17, v18, v19, v20, v21, v22, v23), rfl⟩
  | _ => none
def oe14_6 : Bool × Int × Int × Int × Int × Int × Int × Int × Int × Int × Int × List Int × Int × Int × Int × Int × Int × Int × Int × Int × List Int × List (List Int) × List T126 → Ex := fun _ => .exit 0
def on14_6 : Bool × Int × Int × Int × Int × Int × Int × Int × Int × Int × Int × List Int × Int × Int × Int × Int × Int × Int × Int × Int × List Int × List (List Int) × List T126 → NSt Ty := fun x => ⟨[.ptr 100001 [], .ptr 100002 [], .bool (x.1)], [.var (.cons (.row 100003) (.cons (.row 100004) (.cons (.int .i64 (x.2.1)) (.cons (.int .i64 (x.2.2.1)) (.nil))))), .var (.cons (.int .u32 (x.2.2.2.1)) (.cons (.cons (.int .i64 (x.2.2.2.2.1)) (.cons (.int .i64 (x.2.2.2.2.2.1)) (.cons (.int .i64 (x.2.2.2.2.2.2.1)) (.cons (.int .i64 (x.2.2.2.2.2.2.2.1)) (.nil))))) (.cons (.int .i64 (x.2.2.2.2.2.2.2.2.1)) (.cons (.int .i64 (x.2.2.2.2.2.2.2.2.2.1)) (.cons (.int .u32 (x.2.2.2.2.2.2.2.2.2.2.1)) (.cons (.arr 3 8 (x.2.2.2.2.2.2.2.2.2.2.2.1)) (.nil))))))), .var (.cons (.int .u32 (x.2.2.2.2.2.2.2.2.2.2.2.2.1)) (.cons (.cons (.int .i64 (x.2.2.2.2.2.2.2.2.2.2.2.2.2.1)) (.cons (.int .i64 (x.2.2.2.2.2.2.2.2.2.2.2.2.2.2.1)) (.cons (.int .i64 (x.2.2.2.2.2.2.2.2.2.2.2.2.2.2.2.1)) (.cons (.int .i64 (x.2.2.2.2.2.2.2.2.2.2.2.2.2.2.2.2.1)) (.nil))))) (.cons (.int .i64 (x.2.2.2.2.2.2.2.2.2.2.2.2.2.2.2.2.2.1)) (.cons (.int .i64 (x.2.2.2.2.2.2.2.2.2.2.2.2.2.2.2.2.2.2.1)) (.cons (.int .u32 (x.2.2.2.2.2.2.2.2.2.2.2.2.2.2.2.2.2.2.2.1)) (.cons (.arr 3 8 (x.2.2.2.2.2.2.2.2.2.2.2.2.2.2.2.2.2.2.2.2.1)) (.nil))))))), .row 84 (x.2.2.2.2.2.2.2.2.2.2.2.2.2.2.2.2.2.2.2.2.2.1), .row 127 (x.2.2.2.2.2.2.2.2.2.2.2.2.2.2.2.2.2.2.2.2.2.2)]⟩
def oa14_6 : (e : Ex) → (n : NSt Ty) → Option {y : Bool × Int × Int × Int × Int × Int × Int × Int × Int × Int × Int × List Int × Int × Int × Int × Int × Int × Int × Int × Int × List Int × List (List Int) × List T126 // oe14_6 y = e ∧ on14_6 y = n}
  | .exit 0, ⟨[.ptr 100001 [], .ptr 100002 [], .bool v0], [.var (.cons (.row 100003) (.cons (.row 100004) (.cons (.int .i64 v1) (.cons (.int .i64 v2) (.nil))))), .var (.cons (.int .u32 v3) (.cons (.cons (.int .i64 v4) (.cons (.int .i64 v5) (.cons (.int .i64 v6) (.cons (.int .i64 v7) (.nil))))) (.cons (.int .i64 v8) (.cons (.int .i64 v9) (.cons (.int .u32 v10) (.cons (.arr 3 8 v11) (.nil))))))), .var (.cons (.int .u32 v12) (.cons (.cons (.int .i64 v13) (.cons (.int .i64 v14) (.cons (.int .i64 v15) (.cons (.int .i64 v16) (.nil))))) (.cons (.int .i64 v17) (.cons (.int .i64 v18) (.cons (.int .u32 v19) (.cons (.arr 3 8 v20) (.nil))))))), .row 84 v21, .row 127 v22]⟩ => some ⟨(v0, v1, v2, v3, v4, v5, v6, v7, v8, v9, v10, v11, v12, v13, v14, v15, v16, v17, v18, v19, v20, v21, v22), rfl, rfl⟩
  | _, _ => none
/-- a round of the loop 6 of function 14 -/
def R14_6 (k : Nat) (again : Bool × Int × Int × Int × Int × Int × Int × Int × Int × Int × Int × Int × List Int × Int × Int × Int × Int × Int × Int × Int × Int × List Int × List (List Int) × List T126 → Option (Bool × Int × Int × Int × Int × Int × Int × Int × Int × Int × Int × List Int × Int × Int × Int × Int × Int × Int × Int × Int × List Int × List (List Int) × List T126)) (x : Bool × Int × Int × Int × Int × Int × Int × Int × Int × Int × Int × Int × List Int × Int × Int × Int × Int × Int × Int × Int × Int × List Int × List (List Int) × List T126) : Option (Bool × Int × Int × Int × Int × Int × Int × Int × Int × Int × Int × List Int × Int × Int × Int × Int × Int × Int × Int × Int × List Int × List (List Int) × List T126) :=
  match x with
  | (v0, v1, v2, v3, v4, v5, v6, v7, v8, v9, v10, v11, v12, v13, v14, v15, v16, v17, v18, v19, v20, v21, v22, v23) => bif decide (v1 < (2 : Int)) then (F44 k (v1, v2, v3, v22, v23)).bind fun r => (F45 k (r.snd.snd.snd.snd.snd.snd.snd.snd.snd.fst, GErr.num (13 : Int), ())).bind fun r_1 => bif r_1 then again (v0, IntKind.i64.wrap (v1 + (1 : Int)), r.snd.snd.snd.snd.snd.snd.snd.snd.snd.snd.fst, r.snd.snd.snd.snd.snd.snd.snd.snd.snd.snd.snd.fst, v4, v5, v6, v7, v8, v9, v10, v11, v12, v13, v14, v15, v16, v17, v18, v19, v20, v21, r.snd.snd.snd.snd.snd.snd.snd.snd.snd.snd.snd.snd.fst, r.snd.snd.snd.snd.snd.snd.snd.snd.snd.snd.snd.snd.snd) else bif !v0 then again (true, IntKind.i64.wrap (v1 + (1 : Int)), r.snd.snd.snd.snd.snd.snd.snd.snd.snd.snd.fst, r.snd.snd.snd.snd.snd.snd.snd.snd.snd.snd.snd.fst, v4, v5, v6, v7, v8, v9, v10, v11, v12, r.fst, r.snd.fst, r.snd.snd.fst, r.snd.snd.snd.fst, r.snd.snd.snd.snd.fst, r.snd.snd.snd.snd.snd.fst, r.snd.snd.snd.snd.snd.snd.fst, r.snd.snd.snd.snd.snd.snd.snd.fst, r.snd.snd.snd.snd.snd.snd.snd.snd.fst, r.snd.snd.snd.snd.snd.snd.snd.snd.snd.snd.snd.snd.fst, r.snd.snd.snd.snd.snd.snd.snd.snd.snd.snd.snd.snd.snd) else bif decide (r.fst > v13) then again (true, IntKind.i64.wrap (v1 + (1 : Int)), r.snd.snd.snd.snd.snd.snd.snd.snd.snd.snd.fst, r.snd.snd.snd.snd.snd.snd.snd.snd.snd.snd.snd.fst, v4, v5, v6, v7, v8, v9, v10, v11, v12, r.fst, r.snd.fst, r.snd.snd.fst, r.snd.snd.snd.fst, r.snd.snd.snd.snd.fst, r.snd.snd.snd.snd.snd.fst, r.snd.snd.snd.snd.snd.snd.fst, r.snd.snd.snd.snd.snd.snd.snd.fst, r.snd.snd.snd.snd.snd.snd.snd.snd.fst, r.snd.snd.snd.snd.snd.snd.snd.snd.snd.snd.snd.snd.fst, r.snd.snd.snd.snd.snd.snd.snd.snd.snd.snd.snd.snd.snd) else again (v0, IntKind.i64.wrap (v1 + (1 : Int)), r.snd.snd.snd.snd.snd.snd.snd.snd.snd.snd.fst, r.snd.snd.snd.snd.snd.snd.snd.snd.snd.snd.snd.fst, v4, v5, v6, v7, v8, v9, v10, v11, v12, v13, v14, v15, v16, v17, v18, v19, v20, v21, r.snd.snd.snd.snd.snd.snd.snd.snd.snd.snd.snd.snd.fst, r.snd.snd.snd.snd.snd.snd.snd.snd.snd.snd.snd.snd.snd) else some (v0, v2, v3, v4, v5, v6, v7, v8, v9, v10, v11, v12, v13, v14, v15, v16, v17, v18, v19, v20, v21, v22, v23)
def L14_6 (k n : Nat) (x : Bool × Int × Int × Int × Int × Int × Int × Int × Int × Int × Int × Int × List Int × Int × Int × Int × Int × Int × Int × Int × Int × List Int × List (List Int) × List T126) : Option (Bool × Int × Int × Int × Int × Int × Int × Int × Int × Int × Int × List Int × Int × Int × Int × Int × Int × Int × Int × Int × List Int × List (List Int) × List T126) := iterR (R14_6 k) n x
noncomputable def ls14_6 : Nat → Option (LSum Ty) := addL 6 (LSum.of of14_6 ab14_6 L14_6 oe14_6 on14_6) noL
def kp14 : Nat → Keep := pinned 1 fun i => cond (i == 6) ⟨[0, 2, 4, 5, 12], [2, 4, 5], 0⟩ (⟨[], [], 0⟩)
def on14 : Int × Int × Int × Int × Int × Int × Int × Int × List Int × Int × Int × Int × List (List Int) × List T126 → NSt Ty := fun x => ⟨[.tup (.cons (.cons (.int .u32 (x.1)) (.cons (.cons (.int .i64 (x.2.1)) (.cons (.int .i64 (x.2.2.1)) (.cons (.int .i64 (x.2.2.2.1)) (.cons (.int .i64 (x.2.2.2.2.1)) (.nil))))) (.cons (.int .i64 (x.2.2.2.2.2.1)) (.cons (.int .i64 (x.2.2.2.2.2.2.1)) (.cons (.int .u32 (x.2.2.2.2.2.2.2.1)) (.cons (.arr 3 8 (x.2.2.2.2.2.2.2.2.1)) (.nil))))))) (.cons (.int .i64 (x.2.2.2.2.2.2.2.2.2.1)) (.nil)))], [.var (.cons (.row 100001) (.cons (.row 100002) (.cons (.int .i64 (x.2.2.2.2.2.2.2.2.2.2.1)) (.cons (.int .i64 (x.2.2.2.2.2.2.2.2.2.2.2.1)) (.nil))))), .row 84 (x.2.2.2.2.2.2.2.2.2.2.2.2.1), .row 127 (x.2.2.2.2.2.2.2.2.2.2.2.2.2)]⟩
def oa14 : (n : NSt Ty) → Option {y : Int × Int × Int × Int × Int × Int × Int × Int × List Int × Int × Int × Int × List (List Int) × List T126 // on14 y = n}
  | ⟨[.tup (.cons (.cons (.int .u32 v0) (.cons (.cons (.int .i64 v1) (.cons (.int .i64 v2) (.cons (.int .i64 v3) (.cons (.int .i64 v4) (.nil))))) (.cons (.int .i64 v5) (.cons (.int .i64 v6) (.cons (.int .u32 v7) (.cons (.arr 3 8 v8) (.nil))))))) (.cons (.int .i64 v9) (.nil)))], [.var (.cons (.row 100001) (.cons (.row 100002) (.cons (.int .i64 v10) (.cons (.int .i64 v11) (.nil))))), .row 84 v12, .row 127 v13]⟩ => some ⟨(v0, v1, v2, v3, v4, v5, v6, v7, v8, v9, v10, v11, v12, v13), rfl⟩
  | _ => none
/-- "silt/anchor.Newest"  -/
def F14 (k : Nat) (x : Int × Int × List (List Int) × List T126) : Option (Int × Int × Int × Int × Int × Int × Int × Int × List Int × Int × Int × Int × List (List Int) × List T126) :=
  match x with
  | (v0, v1, v2, v3) => (L14_6 k k (false, (0 : Int), v0, v1, (0 : Int), (0 : Int), (0 : Int), (0 : Int), (0 : Int), (0 : Int), (0 : Int), (0 : Int), List.replicate (8 : Nat) (0 : Int), (0 : Int), (0 : Int), (0 : Int), (0 : Int), (0 : Int), (0 : Int), (0 : Int), (0 : Int), List.replicate (8 : Nat) (0 : Int), v2, v3)).bind fun r => bif !r.fst then some ((0 : Int), (0 : Int), (0 : Int), (0 : Int), (0 : Int), (0 : Int), (0 : Int), (0 : Int), List.replicate (8 : Nat) (0 : Int), (13 : Int), r.snd.fst, r.snd.snd.fst, r.snd.snd.snd.snd.snd.snd.snd.snd.snd.snd.snd.snd.snd.snd.snd.snd.snd.snd.snd.snd.snd.fst, r.snd.snd.snd.snd.snd.snd.snd.snd.snd.snd.snd.snd.snd.snd.snd.snd.snd.snd.snd.snd.snd.snd) else some (r.snd.snd.snd.snd.snd.snd.snd.snd.snd.snd.snd.snd.fst, r.snd.snd.snd.snd.snd.snd.snd.snd.snd.snd.snd.snd.snd.fst, r.snd.snd.snd.snd.snd.snd.snd.snd.snd.snd.snd.snd.snd.snd.fst, r.snd.snd.snd.snd.snd.snd.snd.snd.snd.snd.snd.snd.snd.snd.snd.fst, r.snd.snd.snd.snd.snd.snd.snd.snd.snd.snd.snd.snd.snd.snd.snd.snd.fst, r.snd.snd.snd.snd.snd.snd.snd.snd.snd.snd.snd.snd.snd.snd.snd.snd.snd.fst, r.snd.snd.snd.snd.snd.snd.snd.snd.snd.snd.snd.snd.snd.snd.snd.snd.snd.snd.fst, r.snd.snd.snd.snd.snd.snd.snd.snd.snd.snd.snd.snd.snd.snd.snd.snd.snd.snd.snd.fst, r.snd.snd.snd.snd.snd.snd.snd.snd.snd.snd.snd.snd.snd.snd.snd.snd.snd.snd.snd.snd.fst, (0 : Int), r.snd.fst, r.snd.snd.fst, r.snd.snd.snd.snd.snd.snd.snd.snd.snd.snd.snd.snd.snd.snd.snd.snd.snd.snd.snd.snd.snd.fst, r.snd.snd.snd.snd.snd.snd.snd.snd.snd.snd.snd.snd.snd.snd.snd.snd.snd.snd.snd.snd.snd.snd)
noncomputable def sp14 : FSpec Ty := addH 1 ab14 F14 on14 sp14hn
theorem lo14_6 : LSOK fs45 kp14 tab Tryd.f14 ls14_6 := lsum_ok bo14 nd14 (LSOK.none) oa14_6 (R := R14_6) fun k again x => by kernel_rfl
theorem ok14 : FOK Tryd.prog tab 14 sp14 := addH_ok (keeps := kp14) tabOK fs45OK Tryd.func14 bo14 (by kernel_rfl) nd14 (lo14_6) oa14 (F := F14) (fun k x => by kernel_rfl) (pinned_le (Nat.le_refl _) _) ok14hn rfl
noncomputable def fs14 : Nat → Option (FSpec Ty) := addF 14 sp14 fs45
theorem fs14OK : SpecsOK Tryd.prog tab fs14 := fs45OK.add ok14 Tryd.call14
theorem bo72 : Tryd.f72.body = some (bodyOf Tryd.f72) := by kernel_rfl
theorem nd72 : nodupB ((loopsIn (bodyOf Tryd.f72)).map firstRegion) = true := by kernel_rfl
def of72 : Int × Int × List (List Int) × List T126 → NSt Ty := fun x => ⟨[.ptr 100000 []], [.var (.cons (.row 100001) (.cons (.row 100002) (.cons (.int .i64 (x.1)) (.cons (.int .i64 (x.2.1)) (.nil))))), .row 84 (x.2.2.1), .row 127 (x.2.2.2)]⟩
def ab72 : (n : NSt Ty) → Option {x : Int × Int × List (List Int) × List T126 // of72 x = n}
  | ⟨[.ptr 100000 []], [.var (.cons (.row 100001) (.cons (.row 100002) (.cons (.int .i64 v0) (.cons (.int .i64 v1) (.nil))))), .row 84 v2, .row 127 v3]⟩ => some ⟨(v0, v1, v2, v3), rfl⟩
  | _ => none
def kp72 : Nat → Keep := pinned 1 fun i => ⟨[], [], 0⟩
def on72 : Int × Int × Int × List (List Int) × List T126 → NSt Ty := fun x => ⟨[.int .i64 (x.1)], [.var (.cons (.row 100001) (.cons (.row 100002) (.cons (.int .i64 (x.2.1)) (.cons (.int .i64 (x.2.2.1)) (.nil))))), .row 84 (x.2.2.2.1), .row 127 (x.2.2.2.2)]⟩
def oa72 : (n : NSt Ty) → Option {y : Int × Int × Int × List (List Int) × List T126 // on72 y = n}
  | ⟨[.int .i64 v0], [.var (.cons (.row 100001) (.cons (.row 100002) (.cons (.int .i64 v1) (.cons (.int .i64 v2) (.nil))))), .row 84 v3, .row 127 v4]⟩ => some ⟨(v0, v1, v2, v3, v4), rfl⟩
  | _ => none
/-- "(*silt/dev.Dev).pass"  -/
def F72 (k : Nat) (x : Int × Int × List (List Int) × List T126) : Option (Int × Int × Int × List (List Int) × List T126) :=
  match x with
  | (v0, v1, v2, v3) => bif v0 == (0 : Int) then some ((12 : Int), (-1 : Int), v1, v2, v3) else bif decide (v0 > (0 : Int)) then some ((0 : Int), IntKind.i64.wrap (v0 - (1 : Int)), IntKind.i64.wrap (v1 + (1 : Int)), v2, v3) else some ((0 : Int), v0, IntKind.i64.wrap (v1 + (1 : Int)), v2, v3)
noncomputable def sp72 : FSpec Ty := addH 1 ab72 F72 on72 noH
theorem ok72 : FOK Tryd.prog tab 72 sp72 := addH_ok (keeps := kp72) tabOK fs14OK Tryd.func72 bo72 (by kernel_rfl) nd72 (LSOK.none) oa72 (F := F72) (fun k x => by kernel_rfl) (pinned_le (Nat.le_refl _) _) FOK.none rfl
noncomputable def fs72 : Nat → Option (FSpec Ty) := addF 72 sp72 fs14
theorem fs72OK : SpecsOK Tryd.prog tab fs72 := fs14OK.add ok72 Tryd.call72
theorem bo49 : Tryd.f49.body = some (bodyOf Tryd.f49) := by kernel_rfl
theorem nd49 : nodupB ((loopsIn (bodyOf Tryd.f49)).map firstRegion) = true := by kernel_rfl
def of49hn : Int × List Int → NSt Ty := fun x => ⟨[.nilp, .int .i64 (x.1), .arr 5 64 (x.2)], []⟩
def ab49hn : (n : NSt Ty) → Option {x : Int × List Int // of49hn x = n}
  | ⟨[.nilp, .int .i64 v0, .arr 5 64 v1], []⟩ => some ⟨(v0, v1), rfl⟩
  | _ => none
def kp49hn : Nat → Keep := pinned 0 fun i => ⟨[], [], 0⟩
def on49hn : Int → NSt Ty := fun x => ⟨[.int .i64 (x)], []⟩
def oa49hn : (n : NSt Ty) → Option {y : Int // on49hn y = n}
  | ⟨[.int .i64 v0], []⟩ => some ⟨v0, rfl⟩
  | _ => none
/-- "(*silt/dev.Dev).Write" hn -/
def F49hn (k : Nat) (x : Int × List Int) : Option (Int) :=
  match x with
  | (v0, v1) => (F59hn k v0).bind fun r => bif !r then some (1 : Int) else none
noncomputable def sp49hn : FSpec Ty := addH 0 ab49hn F49hn on49hn noH
theorem ok49hn : FOK Tryd.prog tab 49 sp49hn := addH_ok (keeps := kp49hn) tabOK fs72OK Tryd.func49 bo49 (by kernel_rfl) nd49 (LSOK.none) oa49hn (F := F49hn) (fun k x => by kernel_rfl) (pinned_le (Nat.le_refl _) _) FOK.none rfl
def of49 : Int × List Int × Int × Int × List (List Int) × List T126 → NSt Ty := fun x => ⟨[.ptr 100000 [], .int .i64 (x.1), .arr 5 64 (x.2.1)], [.var (.cons (.row 100001) (.cons (.row 100002) (.cons (.int .i64 (x.2.2.1)) (.cons (.int .i64 (x.2.2.2.1)) (.nil))))), .row 84 (x.2.2.2.2.1), .row 127 (x.2.2.2.2.2)]⟩
def ab49 : (n : NSt Ty) → Option {x : Int × List Int × Int × Int × List (List Int) × List T126 // of49 x = n}
  | ⟨[.ptr 100000 [], .int .i64 v0, .arr 5 64 v1], [.var (.cons (.row 100001) (.cons (.row 100002) (.cons (.int .i64 v2) (.cons (.int .i64 v3) (.nil))))), .row 84 v4, .row 127 v5]⟩ => some ⟨(v0, v1, v2, v3, v4, v5), rfl⟩
  | _ => none
def kp49 : Nat → Keep := pinned 1 fun i => ⟨[], [], 0⟩
def on49 : Int × Int × Int × List (List Int) × List T126 → NSt Ty := fun x => ⟨[.int .i64 (x.1)], [.var (.cons (.row 100001) (.cons (.row 100002) (.cons (.int .i64 (x.2.1)) (.cons (.int .i64 (x.2.2.1)) (.nil))))), .row 84 (x.2.2.2.1), .row 127 (x.2.2.2.2)]⟩
def oa49 : (n : NSt Ty) → Option {y : Int × Int × Int × List (List Int) × List T126 // on49 y = n}
  | ⟨[.int .i64 v0], [.var (.cons (.row 100001) (.cons (.row 100002) (.cons (.int .i64 v1) (.cons (.int .i64 v2) (.nil))))), .row 84 v3, .row 127 v4]⟩ => some ⟨(v0, v1, v2, v3, v4), rfl⟩
  | _ => none
/-- "(*silt/dev.Dev).Write"  -/
def F49 (k : Nat) (x : Int × List Int × Int × Int × List (List Int) × List T126) : Option (Int × Int × Int × List (List Int) × List T126) :=
  match x with
  | (v0, v1, v2, v3, v4, v5) => (F59 k (v0, v2, v3, v4, v5)).bind fun r => bif !r.fst then some ((1 : Int), r.snd.fst, r.snd.snd.fst, r.snd.snd.snd.fst, r.snd.snd.snd.snd) else (F72 k (r.snd.fst, r.snd.snd.fst, r.snd.snd.snd.fst, r.snd.snd.snd.snd)).bind fun r => bif r.fst != (0 : Int) then some (r.fst, r.snd.fst, r.snd.snd.fst, r.snd.snd.snd.fst, r.snd.snd.snd.snd) else bif decide (r.snd.snd.snd.snd.length + ((List.replicate (1 : Nat) (T126.mk (0 : Int) (List.replicate (64 : Nat) (0 : Int)))).set (0 : Nat) (T126.mk v0 v1)).length ≤ roomMost) then some ((0 : Int), r.snd.fst, r.snd.snd.fst, r.snd.snd.snd.fst, r.snd.snd.snd.snd ++ (List.replicate (1 : Nat) (T126.mk (0 : Int) (List.replicate (64 : Nat) (0 : Int)))).set (0 : Nat) (T126.mk v0 v1)) else none
noncomputable def sp49 : FSpec Ty := addH 1 ab49 F49 on49 sp49hn
theorem ok49 : FOK Tryd.prog tab 49 sp49 := addH_ok (keeps := kp49) tabOK fs72OK Tryd.func49 bo49 (by kernel_rfl) nd49 (LSOK.none) oa49 (F := F49) (fun k x => by kernel_rfl) (pinned_le (Nat.le_refl _) _) ok49hn rfl
noncomputable def fs49 : Nat → Option (FSpec Ty) := addF 49 sp49 fs72
theorem fs49OK : SpecsOK Tryd.prog tab fs49 := fs72OK.add ok49 Tryd.call49
theorem bo50 : Tryd.f50.body = some (bodyOf Tryd.f50) := by kernel_rfl
theorem nd50 : nodupB ((loopsIn (bodyOf Tryd.f50)).map firstRegion) = true := by kernel_rfl
def of50hn : Unit → NSt Ty := fun x => ⟨[.nilp], []⟩
def ab50hn : (n : NSt Ty) → Option {x : Unit // of50hn x = n}
  | ⟨[.nilp], []⟩ => some ⟨(), rfl⟩
  | _ => none
def kp50hn : Nat → Keep := pinned 0 fun i => cond (i == 7) ⟨[0, 16, 17, 18], [0], 0⟩ (⟨[], [], 0⟩)
def on50hn : Int → NSt Ty := fun x => ⟨[.int .i64 (x)], []⟩
def oa50hn : (n : NSt Ty) → Option {y : Int // on50hn y = n}
  | ⟨[.int .i64 v0], []⟩ => some ⟨v0, rfl⟩
  | _ => none
/-- "(*silt/dev.Dev).Flush" hn -/
def F50hn (k : Nat) (x : Unit) : Option (Int) :=
  match x with
  | () => some (1 : Int)
noncomputable def sp50hn : FSpec Ty := addH 0 ab50hn F50hn on50hn noH
theorem ok50hn : FOK Tryd.prog tab 50 sp50hn := addH_ok (keeps := kp50hn) tabOK fs49OK Tryd.func50 bo50 (by kernel_rfl) nd50 (LSOK.none) oa50hn (F := F50hn) (fun k x => by kernel_rfl) (pinned_le (Nat.le_refl _) _) FOK.none rfl
def of50 : Int × Int × List (List Int) × List T126 → NSt Ty := fun x => ⟨[.ptr 100000 []], [.var (.cons (.row 100001) (.cons (.row 100002) (.cons (.int .i64 (x.1)) (.cons (.int .i64 (x.2.1)) (.nil))))), .row 84 (x.2.2.1), .row 127 (x.2.2.2)]⟩
def ab50 : (n : NSt Ty) → Option {x : Int × Int × List (List Int) × List T126 // of50 x = n}
  | ⟨[.ptr 100000 []], [.var (.cons (.row 100001) (.cons (.row 100002) (.cons (.int .i64 v0) (.cons (.int .i64 v1) (.nil))))), .row 84 v2, .row 127 v3]⟩ => some ⟨(v0, v1, v2, v3), rfl⟩
  | _ => none
def of50_7 : Int × Int × Int × Int × List T126 × List (List Int) → NSt Ty := fun x => ⟨[.ptr 100000 [], .row 100001, .int .i64 (x.1), .int .i64 (x.2.1)], [.var (.cons (.row 100002) (.cons (.row 100001) (.cons (.int .i64 (x.2.2.1)) (.cons (.int .i64 (x.2.2.2.1)) (.nil))))), .row 127 (x.2.2.2.2.1), .row 84 (x.2.2.2.2.2)]⟩
def ab50_7 : (n : NSt Ty) → Option {x : Int × Int × Int × Int × List T126 × List (List Int) // of50_7 x = n}
  | ⟨[.ptr 100000 [], .row 100001, .int .i64 v0, .int .i64 v1], [.var (.cons (.row 100002) (.cons (.row 100001) (.cons (.int .i64 v2) (.cons (.int .i64 v3) (.nil))))), .row 127 v4, .row 84 v5]⟩ => some ⟨(v0, v1, v2, v3, v4, v5), rfl⟩
  | _ => none
def oe50_7 : Int × Int × List (List Int) × List T126 → Ex := fun _ => .exit 0
def on50_7 : Int × Int × List (List Int) × List T126 → NSt Ty := fun x => ⟨[.ptr 100000 []], [.var (.cons (.row 100001) (.cons (.row 100002) (.cons (.int .i64 (x.1)) (.cons (.int .i64 (x.2.1)) (.nil))))), .row 84 (x.2.2.1), .row 127 (x.2.2.2)]⟩
def oa50_7 : (e : Ex) → (n : NSt Ty) → Option {y : Int × Int × List (List Int) × List T126 // oe50_7 y = e ∧ on50_7 y = n}
  | .exit 0, ⟨[.ptr 100000 []], [.var (.cons (.row 100001) (.cons (.row 100002) (.cons (.int .i64 v0) (.cons (.int .i64 v1) (.nil))))), .row 84 v2, .row 127 v3]⟩ => some ⟨(v0, v1, v2, v3), rfl, rfl⟩
  | _, _ => none
/-- a round of the loop 7 of function 50 -/
def R50_7 (k : Nat) (again : Int × Int × Int × Int × List T126 × List (List Int) → Option (Int × Int × List (List Int) × List T126)) (x : Int × Int × Int × Int × List T126 × List (List Int)) : Option (Int × Int × List (List Int) × List T126) :=
  match x with
  | (v0, v1, v2, v3, v4, v5) => bif decide (v1 < v0) then bif inRange v1 v4.length then bif inRange (v4.getD v1.toNat (T126.mk (0 : Int) (List.replicate (64 : Nat) (0 : Int)))).1 v5.length then again (v0, IntKind.i64.wrap (v1 + (1 : Int)), v2, v3, v4, v5.set (v4.getD v1.toNat (T126.mk (0 : Int) (List.replicate (64 : Nat) (0 : Int)))).1.toNat (v4.getD v1.toNat (T126.mk (0 : Int) (List.replicate (64 : Nat) (0 : Int)))).2) else none else none else some (v2, v3, v5, v4)
def L50_7 (k n : Nat) (x : Int × Int × Int × Int × List T126 × List (List Int)) : Option (Int × Int × List (List Int) × List T126) := iterR (R50_7 k) n x
noncomputable def ls50_7 : Nat → Option (LSum Ty) := addL 7 (LSum.of of50_7 ab50_7 L50_7 oe50_7 on50_7) noL
def kp50 : Nat → Keep := pinned 1 fun i => cond (i == 7) ⟨[0, 16, 17, 18], [0], 0⟩ (⟨[], [], 0⟩)
def on50 : Int × Int × Int × List (List Int) × List T126 → NSt Ty := fun x => ⟨[.int .i64 (x.1)], [.var (.cons (.row 100001) (.cons (.row 100002) (.cons (.int .i64 (x.2.1)) (.cons (.int .i64 (x.2.2.1)) (.nil))))), .row 84 (x.2.2.2.1), .row 127 (x.2.2.2.2)]⟩
def oa50 : (n : NSt Ty) → Option {y : Int × Int × Int × List (List Int) × List T126 // on50 y = n}
  | ⟨[.int .i64 v0], [.var (.cons (.row 100001) (.cons (.row 100002) (.cons (.int .i64 v1) (.cons (.int .i64 v2) (.nil))))), .row 84 v3, .row 127 v4]⟩ => some ⟨(v0, v1, v2, v3, v4), rfl⟩
  | _ => none
/-- "(*silt/dev.Dev).Flush"  -/
def F50 (k : Nat) (x : Int × Int × List (List Int) × List T126) : Option (Int × Int × Int × List (List Int) × List T126) :=
  match x with
  | (v0, v1, v2, v3) => (F72 k (v0, v1, v2, v3)).bind fun r => bif r.fst != (0 : Int) then some (r.fst, r.snd.fst, r.snd.snd.fst, r.snd.snd.snd.fst, r.snd.snd.snd.snd) else (L50_7 k k ((↑r.snd.snd.snd.snd.length : Int), (0 : Int), r.snd.fst, r.snd.snd.fst, r.snd.snd.snd.snd, r.snd.snd.snd.fst)).bind fun r => some ((0 : Int), r.fst, r.snd.fst, r.snd.snd.fst, [])
noncomputable def sp50 : FSpec Ty := addH 1 ab50 F50 on50 sp50hn
theorem lo50_7 : LSOK fs49 kp50 tab Tryd.f50 ls50_7 := lsum_ok bo50 nd50 (LSOK.none) oa50_7 (R := R50_7) fun k again x => by kernel_rfl
theorem ok50 : FOK Tryd.prog tab 50 sp50 := addH_ok (keeps := kp50) tabOK fs49OK Tryd.func50 bo50 (by kernel_rfl) nd50 (lo50_7) oa50 (F := F50) (fun k x => by kernel_rfl) (pinned_le (Nat.le_refl _) _) ok50hn rfl
noncomputable def fs50 : Nat → Option (FSpec Ty) := addF 50 sp50 fs49
theorem fs50OK : SpecsOK Tryd.prog tab fs50 := fs49OK.add ok50 Tryd.call50
theorem bo15 : Tryd.f15.body = some (bodyOf Tryd.f15) := by kernel_rfl
theorem nd15 : nodupB ((loopsIn (bodyOf Tryd.f15)).map firstRegion) = true := by kernel_rfl
def of15hn : Int × Int × Int × Int × Int × Int × Int × Int × List Int → NSt Ty := fun x => ⟨[.nilp, .cons (.int .u32 (x.1)) (.cons (.cons (.int .i64 (x.2.1)) (.cons (.int .i64 (x.2.2.1)) (.cons (.int .i64 (x.2.2.2.1)) (.cons (.int .i64 (x.2.2.2.2.1)) (.nil))))) (.cons (.int .i64 (x.2.2.2.2.2.1)) (.cons (.int .i64 (x.2.2.2.2.2.2.1)) (.cons (.int .u32 (x.2.2.2.2.2.2.2.1)) (.cons (.arr 3 8 (x.2.2.2.2.2.2.2.2)) (.nil))))))], []⟩
def ab15hn : (n : NSt Ty) → Option {x : Int × Int × Int × Int × Int × Int × Int × Int × List Int // of15hn x = n}
  | ⟨[.nilp, .cons (.int .u32 v0) (.cons (.cons (.int .i64 v1) (.cons (.int .i64 v2) (.cons (.int .i64 v3) (.cons (.int .i64 v4) (.nil))))) (.cons (.int .i64 v5) (.cons (.int .i64 v6) (.cons (.int .u32 v7) (.cons (.arr 3 8 v8) (.nil))))))], []⟩ => some ⟨(v0, v1, v2, v3, v4, v5, v6, v7, v8), rfl⟩
  | _ => none
def of15hn_6 : Int × List (List Int) × Int → NSt Ty := fun x => ⟨[.nilp, .int .i64 (x.1), .arr 84 2 (x.2.1), .int .i64 (x.2.2)], []⟩
def ab15hn_6 : (n : NSt Ty) → Option {x : Int × List (List Int) × Int // of15hn_6 x = n}
  | ⟨[.nilp, .int .i64 v0, .arr 84 2 v1, .int .i64 v2], []⟩ => some ⟨(v0, v1, v2), rfl⟩
  | _ => none
def on15hn_6a : Int → NSt Ty := fun x => ⟨[.nilp, .int .i64 (x)], []⟩
def on15hn_6b : Unit → NSt Ty := fun x => ⟨[.nilp, .undef], []⟩
def oa15hn_6 : (e : Ex) → (n : NSt Ty) → Option {y : (Int) ⊕ (Unit) // oe2 .ret (.exit 0) y = e ∧ on2 on15hn_6a on15hn_6b y = n}
  | .ret, ⟨[.nilp, .int .i64 v0], []⟩ => some ⟨.inl v0, rfl, rfl⟩
  | .exit 0, ⟨[.nilp, .undef], []⟩ => some ⟨.inr (), rfl, rfl⟩
  | _, _ => none
/-- a round of the loop 6 of function 15 -/
def R15hn_6 (k : Nat) (again : Int × List (List Int) × Int → Option ((Int) ⊕ (Unit))) (x : Int × List (List Int) × Int) : Option ((Int) ⊕ (Unit)) :=
  match x with
  | (v0, v1, v2) => bif decide (v2 < (2 : Int)) then bif inRange v2 (2 : Nat) then (F49hn k (IntKind.i64.wrap (v0 + v2), v1.getD v2.toNat (List.replicate (64 : Nat) (0 : Int)))).bind fun r => bif r != (0 : Int) then some (Sum.inl r) else again (v0, v1, IntKind.i64.wrap (v2 + (1 : Int))) else none else some (Sum.inr ())
def L15hn_6 (k n : Nat) (x : Int × List (List Int) × Int) : Option ((Int) ⊕ (Unit)) := iterR (R15hn_6 k) n x
noncomputable def ls15hn_6 : Nat → Option (LSum Ty) := addL 6 (lsum2 of15hn_6 ab15hn_6 L15hn_6 .ret on15hn_6a (.exit 0) on15hn_6b) noL
def kp15hn : Nat → Keep := pinned 0 fun i => cond (i == 6) ⟨[0, 7, 31, 32], [0, 4], 0⟩ (⟨[], [], 0⟩)
def on15hn : Int → NSt Ty := fun x => ⟨[.int .i64 (x)], []⟩
def oa15hn : (n : NSt Ty) → Option {y : Int // on15hn y = n}
  | ⟨[.int .i64 v0], []⟩ => some ⟨v0, rfl⟩
  | _ => none
/-- "silt/anchor.Write" hn -/
def F15hn (k : Nat) (x : Int × Int × Int × Int × Int × Int × Int × Int × List Int) : Option (Int) :=
  match x with
  | (v0, v1, v2, v3, v4, v5, v6, v7, v8) => (F46 k (T26.mk v0 (T23.mk v1 v2 v3 v4) v5 v6 v7 v8, ())).bind fun r => bif r.snd.fst != (0 : Int) then some (1 : Int) else (F47hn k ()).bind fun r_1 => (F48 k (T23.mk v1 v2 v3 v4, ())).bind fun r_2 => bif decide (r_1 < r_2) then some (1 : Int) else (L15hn_6 k k (IntKind.i64.wrap ((2 : Int) * IntKind.i64.wrap (v0.tmod (2 : Int))), r.fst, (0 : Int))).bind fun r => sumK r (fun a => some a) fun b => (F50hn k ()).bind fun r => some r
noncomputable def sp15hn : FSpec Ty := addH 0 ab15hn F15hn on15hn noH
theorem lo15hn_6 : LSOK fs50 kp15hn tab Tryd.f15 ls15hn_6 := lsum2_ok bo15 nd15 (LSOK.none) oa15hn_6 (R := R15hn_6) fun k again x => by kernel_rfl
theorem ok15hn : FOK Tryd.prog tab 15 sp15hn := addH_ok (keeps := kp15hn) tabOK fs50OK Tryd.func15 bo15 (by kernel_rfl) nd15 (lo15hn_6) oa15hn (F := F15hn) (fun k x => by kernel_rfl) (pinned_le (Nat.le_refl _) _) FOK.none rfl
def of15 : Int × Int × Int × Int × Int × Int × Int × Int × List Int × Int × Int × List (List Int) × List T126 → NSt Ty := fun x => ⟨[.ptr 100000 [], .cons (.int .u32 (x.1)) (.cons (.cons (.int .i64 (x.2.1)) (.cons (.int .i64 (x.2.2.1)) (.cons (.int .i64 (x.2.2.2.1)) (.cons (.int .i64 (x.2.2.2.2.1)) (.nil))))) (.cons (.int .i64 (x.2.2.2.2.2.1)) (.cons (.int .i64 (x.2.2.2.2.2.2.1)) (.cons (.int .u32 (x.2.2.2.2.2.2.2.1)) (.cons (.arr 3 8 (x.2.2.2.2.2.2.2.2.1)) (.nil))))))], [.var (.cons (.row 100001) (.cons (.row 100002) (.cons (.int .i64 (x.2.2.2.2.2.2.2.2.2.1)) (.cons (.int .i64 (x.2.2.2.2.2.2.2.2.2.2.1)) (.nil))))), .row 84 (x.2.2.2.2.2.2.2.2.2.2.2.1), .row 127 (x.2.2.2.2.2.2.2.2.2.2.2.2)]⟩
def ab15 : (n : NSt Ty) → Option {x : Int × Int × Int × Int × Int × Int × Int × Int × List Int × Int × Int × List (List Int) × List T126 // of15 x = n}
  | ⟨[.ptr 100000 [], .cons (.int .u32 v0) (.cons (.cons (.int .i64 v1) (.cons (.int .i64 v2) (.cons (.int .i64 v3) (.cons (.int .i64 v4) (.nil))))) (.cons (.int .i64 v5) (.cons (.int .i64 v6) (.cons (.int .u32 v7) (.cons (.arr 3 8 v8) (.nil))))))], [.var (.cons (.row 100001) (.cons (.row 100002) (.cons (.int .i64 v9) (.cons (.int .i64 v10) (.nil))))), .row 84 v11, .row 127 v12]⟩ => some ⟨(v0, v1, v2, v3, v4, v5, v6, v7, v8, v9, v10, v11, v12), rfl⟩
  | _ => none
def of15_6 : Int × List (List Int) × Int × Int × Int × List (List Int) × List T126 → NSt Ty := fun x => ⟨[.ptr 100000 [], .int .i64 (x.1), .arr 84 2 (x.2.1), .int .i64 (x.2.2.1)], [.var (.cons (.row 100001) (.cons (.row 100002) (.cons (.int .i64 (x.2.2.2.1)) (.cons (.int .i64 (x.2.2.2.2.1)) (.nil))))), .row 84 (x.2.2.2.2.2.1), .row 127 (x.2.2.2.2.2.2)]⟩
def ab15_6 : (n : NSt Ty) → Option {x : Int × List (List Int) × Int × Int × Int × List (List Int) × List T126 // of15_6 x = n}
  | ⟨[.ptr 100000 [], .int .i64 v0, .arr 84 2 v1, .int .i64 v2], [.var (.cons (.row 100001) (.cons (.row 100002) (.cons (.int .i64 v3) (.cons (.int .i64 v4) (.nil))))), .row 84 v5, .row 127 v6]⟩ => some ⟨(v0, v1, v2, v3, v4, v5, v6), rfl⟩
  | _ => none
def on15_6a : Int × Int × Int × List (List Int) × List T126 → NSt Ty := fun x => ⟨[.ptr 100000 [], .int .i64 (x.1)], [.var (.cons (.row 100001) (.cons (.row 100002) (.cons (.int .i64 (x.2.1)) (.cons (.int .i64 (x.2.2.1)) (.nil))))), .row 84 (x.2.2.2.1), .row 127 (x.2.2.2.2)]⟩
def on15_6b : Int × Int × List (List Int) × List T126 → NSt Ty := fun x => ⟨[.ptr 100000 [], .undef], [.var (.cons (.row 100001) (.cons (.row 100002) (.cons (.int .i64 (x.1)) (.cons (.int .i64 (x.2.1)) (.nil))))), .row 84 (x.2.2.1), .row 127 (x.2.2.2)]⟩
def oa15_6 : (e : Ex) → (n : NSt Ty) → Option {y : (Int × Int × Int × List (List Int) × List T126) ⊕ (Int × Int × List (List Int) × List T126) // oe2 .ret (.exit 0) y = e ∧ on2 on15_6a on15_6b y = n}
  | .ret, ⟨[.ptr 100000 [], .int .i64 v0], [.var (.cons (.row 100001) (.cons (.row 100002) (.cons (.int .i64 v1) (.cons (.int .i64 v2) (.nil))))), .row 84 v3, .row 127 v4]⟩ => some ⟨.inl (v0, v1, v2, v3, v4), rfl, rfl⟩
  | .exit 0, ⟨[.ptr 100000 [], .undef], [.var (.cons (.row 100001) (.cons (.row 100002) (.cons (.int .i64 v0) (.cons (.int .i64 v1) (.nil))))), .row 84 v2, .row 127 v3]⟩ => some ⟨.inr (v0, v1, v2, v3), rfl, rfl⟩
  | _, _ => none
/-- a round of the loop 6 of function 15 -/
def R15_6 (k : Nat) (again : Int × List (List Int) × Int × Int × Int × List (List Int) × List T126 → Option ((Int × Int × Int × List (List Int) × List T126) ⊕ (Int × Int × List (List Int) × List T126))) (x : Int × List (List Int) × Int × Int × Int × List (List Int) × List T126) : Option ((Int × Int × Int × List (List Int) × List T126) ⊕ (Int × Int × List (List Int) × List T126)) :=
  match x with
  | (v0, v1, v2, v3, v4, v5, v6) => bif decide (v2 < (2 : Int)) then bif inRange v2 (2 : Nat) then (F49 k (IntKind.i64.wrap (v0 + v2), v1.getD v2.toNat (List.replicate (64 : Nat) (0 : Int)), v3, v4, v5, v6)).bind fun r => bif r.fst != (0 : Int) then some (Sum.inl (r.fst, r.snd.fst, r.snd.snd.fst, r.snd.snd.snd.fst, r.snd.snd.snd.snd)) else again (v0, v1, IntKind.i64.wrap (v2 + (1 : Int)), r.snd.fst, r.snd.snd.fst, r.snd.snd.snd.fst, r.snd.snd.snd.snd) else none else some (Sum.inr (v3, v4, v5, v6))
def L15_6 (k n : Nat) (x : Int × List (List Int) × Int × Int × Int × List (List Int) × List T126) : Option ((Int × Int × Int × List (List Int) × List T126) ⊕ (Int × Int × List (List Int) × List T126)) := iterR (R15_6 k) n x
noncomputable def ls15_6 : Nat → Option (LSum Ty) := addL 6 (lsum2 of15_6 ab15_6 L15_6 .ret on15_6a (.exit 0) on15_6b) noL
def kp15 : Nat → Keep := pinned 1 fun i => cond (i == 6) ⟨[0, 7, 31, 32], [0, 4], 0⟩ (⟨[], [], 0⟩)
def on15 : Int × Int × Int × List (List Int) × List T126 → NSt Ty := fun x => ⟨[.int .i64 (x.1)], [.var (.cons (.row 100001) (.cons (.row 100002) (.cons (.int .i64 (x.2.1)) (.cons (.int .i64 (x.2.2.1)) (.nil))))), .row 84 (x.2.2.2.1), .row 127 (x.2.2.2.2)]⟩
def oa15 : (n : NSt Ty) → Option {y : Int × Int × Int × List (List Int) × List T126 // on15 y = n}
  | ⟨[.int .i64 v0], [.var (.cons (.row 100001) (.cons (.row 100002) (.cons (.int .i64 v1) (.cons (.int .i64 v2) (.nil))))), .row 84 v3, .row 127 v4]⟩ => some ⟨(v0, v1, v2, v3, v4), rfl⟩
  | _ => none
/-- "silt/anchor.Write"  -/
def F15 (k : Nat) (x : Int × Int × Int × Int × Int × Int × Int × Int × List Int × Int × Int × List (List Int) × List T126) : Option (Int × Int × Int × List (List Int) × List T126) :=
  match x with
  | (v0, v1, v2, v3, v4, v5, v6, v7, v8, v9, v10, v11, v12) => (F46 k (T26.mk v0 (T23.mk v1 v2 v3 v4) v5 v6 v7 v8, ())).bind fun r => bif r.snd.fst != (0 : Int) then some ((1 : Int), v9, v10, v11, v12) else (F47 k (v9, v10, v11, v12)).bind fun r_1 => (F48 k (T23.mk v1 v2 v3 v4, ())).bind fun r_2 => bif decide (r_1.fst < r_2) then some ((1 : Int), r_1.snd.fst, r_1.snd.snd.fst, r_1.snd.snd.snd.fst, r_1.snd.snd.snd.snd) else (L15_6 k k (IntKind.i64.wrap ((2 : Int) * IntKind.i64.wrap (v0.tmod (2 : Int))), r.fst, (0 : Int), r_1.snd.fst, r_1.snd.snd.fst, r_1.snd.snd.snd.fst, r_1.snd.snd.snd.snd)).bind fun r => sumK r (fun a => some (a.fst, a.snd.fst, a.snd.snd.fst, a.snd.snd.snd.fst, a.snd.snd.snd.snd)) fun b => (F50 k (b.fst, b.snd.fst, b.snd.snd.fst, b.snd.snd.snd)).bind fun r => some (r.fst, r.snd.fst, r.snd.snd.fst, r.snd.snd.snd.fst, r.snd.snd.snd.snd)
noncomputable def sp15 : FSpec Ty := addH 1 ab15 F15 on15 sp15hn
theorem lo15_6 : LSOK fs50 kp15 tab Tryd.f15 ls15_6 := lsum2_ok bo15 nd15 (LSOK.none) oa15_6 (R := R15_6) fun k again x => by kernel_rfl
theorem ok15 : FOK Tryd.prog tab 15 sp15 := addH_ok (keeps := kp15) tabOK fs50OK Tryd.func15 bo15 (by kernel_rfl) nd15 (lo15_6) oa15 (F := F15) (fun k x => by kernel_rfl) (pinned_le (Nat.le_refl _) _) ok15hn rfl
noncomputable def fs15 : Nat → Option (FSpec Ty) := addF 15 sp15 fs50
theorem fs15OK : SpecsOK Tryd.prog tab fs15 := fs50OK.add ok15 Tryd.call15
def ag35 : Args Ty (Unit) := noArgs
def rs35 : Res Ty tab (T23) false := V.oneRes (tab.den 24) (ent 24).ids (ent 24).plain (fun x _ => (ent 24).flat x rfl)
def kp35 : Nat → Keep := fun i => ⟨[], [], 0⟩
/-- "silt/siltlaw03.Small" -/
def F35 (k : Nat) (x : Unit) : Option (T23) :=
  match x with
  | () => some (T23.mk (16 : Int) (8 : Int) (24 : Int) (4 : Int))
noncomputable def sp35 : FSpec Ty := spec ag35 rs35 F35
theorem bo35 : Tryd.f35.body = some (bodyOf Tryd.f35) := by kernel_rfl
theorem nd35 : nodupB ((loopsIn (bodyOf Tryd.f35)).map firstRegion) = true := by kernel_rfl
theorem ok35 : FOK Tryd.prog tab 35 sp35 := spec_ok (keeps := kp35) tabOK fs15OK Tryd.func35 bo35 (by kernel_rfl) nd35 (LSOK.none) (F := F35) fun k x => by kernel_rfl
noncomputable def fs35 : Nat → Option (FSpec Ty) := addF 35 sp35 fs15
theorem fs35OK : SpecsOK Tryd.prog tab fs35 := fs15OK.add ok35 Tryd.call35
def ag16 : Args Ty (Unit) := noArgs
def rs16 : Res Ty tab (Bool) false := V.oneRes (tab.den 4) (ent 4).ids (ent 4).plain (fun x _ => (ent 4).flat x rfl)
def kp16 : Nat → Keep := fun i => ⟨[], [], 0⟩
/-- "silt/siltlaw19.wakes" -/
def F16 (k : Nat) (x : Unit) : Option (Bool) :=
  match x with
  | () => (F13 k (200 : Int)).bind fun r => sumK r (fun a => (F14hn k ()).bind fun r => (F35 k ()).bind fun r_1 => bif a != (0 : Int) then some false else bif r.snd.snd.snd.snd.snd.snd.snd.snd.snd != (13 : Int) then some false else (F15hn k ((3 : Int), r_1.1, r_1.2, r_1.3, r_1.4, (1 : Int), (2 : Int), (9 : Int), List.replicate (8 : Nat) (0 : Int))).bind fun r => bif r != (0 : Int) then some false else (F15hn k ((4 : Int), r_1.1, r_1.2, r_1.3, r_1.4, (1 : Int), (2 : Int), (9 : Int), List.replicate (8 : Nat) (0 : Int))).bind fun r => bif r != (0 : Int) then some false else (F14hn k ()).bind fun r => (F49hn k ((0 : Int), List.replicate (64 : Nat) (0 : Int))).bind fun r_2 => (F14hn k ()).bind fun r_3 => bif r.snd.snd.snd.snd.snd.snd.snd.snd.snd == (0 : Int) then bif r.fst == (4 : Int) && (r.snd.fst == r_1.1 && (r.snd.snd.fst == r_1.2 && (r.snd.snd.snd.fst == r_1.3 && (r.snd.snd.snd.snd.fst == r_1.4 && true))) && (r.snd.snd.snd.snd.snd.fst == (1 : Int) && (r.snd.snd.snd.snd.snd.snd.fst == (2 : Int) && (r.snd.snd.snd.snd.snd.snd.snd.fst == (9 : Int) && (decide (r.snd.snd.snd.snd.snd.snd.snd.snd.fst = List.replicate (8 : Nat) (0 : Int)) && true))))) then bif r_3.snd.snd.snd.snd.snd.snd.snd.snd.snd == (0 : Int) then some (r_3.fst == (3 : Int) && (r_3.snd.fst == r_1.1 && (r_3.snd.snd.fst == r_1.2 && (r_3.snd.snd.snd.fst == r_1.3 && (r_3.snd.snd.snd.snd.fst == r_1.4 && true))) && (r_3.snd.snd.snd.snd.snd.fst == (1 : Int) && (r_3.snd.snd.snd.snd.snd.snd.fst == (2 : Int) && (r_3.snd.snd.snd.snd.snd.snd.snd.fst == (9 : Int) && (decide (r_3.snd.snd.snd.snd.snd.snd.snd.snd.fst = List.replicate (8 : Nat) (0 : Int)) && true)))))) else some false else some false else some false) fun b => (F14 k (b.snd.fst, b.snd.snd.fst, b.snd.snd.snd.fst, b.snd.snd.snd.snd)).bind fun r => (F35 k ()).bind fun r_1 => bif b.fst != (0 : Int) then some false else bif r.snd.snd.snd.snd.snd.snd.snd.snd.snd.fst != (13 : Int) then some false else (F15 k ((3 : Int), r_1.1, r_1.2, r_1.3, r_1.4, (1 : Int), (2 : Int), (9 : Int), List.replicate (8 : Nat) (0 : Int), r.snd.snd.snd.snd.snd.snd.snd.snd.snd.snd.fst, r.snd.snd.snd.snd.snd.snd.snd.snd.snd.snd.snd.fst, r.snd.snd.snd.snd.snd.snd.snd.snd.snd.snd.snd.snd.fst, r.snd.snd.snd.snd.snd.snd.snd.snd.snd.snd.snd.snd.snd)).bind fun r => bif r.fst != (0 : Int) then some false else (F15 k ((4 : Int), r_1.1, r_1.2, r_1.3, r_1.4, (1 : Int), (2 : Int), (9 : Int), List.replicate (8 : Nat) (0 : Int), r.snd.fst, r.snd.snd.fst, r.snd.snd.snd.fst, r.snd.snd.snd.snd)).bind fun r => bif r.fst != (0 : Int) then some false else (F14 k (r.snd.fst, r.snd.snd.fst, r.snd.snd.snd.fst, r.snd.snd.snd.snd)).bind fun r => (F49 k ((0 : Int), List.replicate (64 : Nat) (0 : Int), r.snd.snd.snd.snd.snd.snd.snd.snd.snd.snd.fst, r.snd.snd.snd.snd.snd.snd.snd.snd.snd.snd.snd.fst, r.snd.snd.snd.snd.snd.snd.snd.snd.snd.snd.snd.snd.fst, r.snd.snd.snd.snd.snd.snd.snd.snd.snd.snd.snd.snd.snd)).bind fun r_2 => (F14 k (r_2.snd.fst, r_2.snd.snd.fst, r_2.snd.snd.snd.fst, r_2.snd.snd.snd.snd)).bind fun r_3 => bif r.snd.snd.snd.snd.snd.snd.snd.snd.snd.fst == (0 : Int) then bif r.fst == (4 : Int) && (r.snd.fst == r_1.1 && (r.snd.snd.fst == r_1.2 && (r.snd.snd.snd.fst == r_1.3 && (r.snd.snd.snd.snd.fst == r_1.4 && true))) && (r.snd.snd.snd.snd.snd.fst == (1 : Int) && (r.snd.snd.snd.snd.snd.snd.fst == (2 : Int) && (r.snd.snd.snd.snd.snd.snd.snd.fst == (9 : Int) && (decide (r.snd.snd.snd.snd.snd.snd.snd.snd.fst = List.replicate (8 : Nat) (0 : Int)) && true))))) then bif r_3.snd.snd.snd.snd.snd.snd.snd.snd.snd.fst == (0 : Int) then some (r_3.fst == (3 : Int) && (r_3.snd.fst == r_1.1 && (r_3.snd.snd.fst == r_1.2 && (r_3.snd.snd.snd.fst == r_1.3 && (r_3.snd.snd.snd.snd.fst == r_1.4 && true))) && (r_3.snd.snd.snd.snd.snd.fst == (1 : Int) && (r_3.snd.snd.snd.snd.snd.snd.fst == (2 : Int) && (r_3.snd.snd.snd.snd.snd.snd.snd.fst == (9 : Int) && (decide (r_3.snd.snd.snd.snd.snd.snd.snd.snd.fst = List.replicate (8 : Nat) (0 : Int)) && true)))))) else some false else some false else some false
noncomputable def sp16 : FSpec Ty := spec ag16 rs16 F16
theorem bo16 : Tryd.f16.body = some (bodyOf Tryd.f16) := by kernel_rfl
theorem nd16 : nodupB ((loopsIn (bodyOf Tryd.f16)).map firstRegion) = true := by kernel_rfl
theorem ok16 : FOK Tryd.prog tab 16 sp16 := spec_ok (keeps := kp16) tabOK fs35OK Tryd.func16 bo16 (by kernel_rfl) nd16 (LSOK.none) (F := F16) fun k x => by kernel_rfl
noncomputable def fs16 : Nat → Option (FSpec Ty) := addF 16 sp16 fs35
theorem fs16OK : SpecsOK Tryd.prog tab fs16 := fs35OK.add ok16 Tryd.call16
def ag3 : Args Ty (T26 × Unit) := V.arg (tab.den 27) (noArgs)
def rs3 : Res Ty tab (Bool) false := V.oneRes (tab.den 4) (ent 4).ids (ent 4).plain (fun x _ => (ent 4).flat x rfl)
def kp3 : Nat → Keep := fun i => ⟨[], [], 0⟩
/-- "silt/siltlaw19.AnchorNone" -/
def F3 (k : Nat) (x : T26 × Unit) : Option (Bool) :=
  match x with
  | (a0, ()) => (F13 k (3 : Int)).bind fun r => sumK r (fun a => (F14hn k ()).bind fun r => (F14hn k ()).bind fun r_1 => bif r.fst == (0 : Int) && (r.snd.fst == (0 : Int) && (r.snd.snd.fst == (0 : Int) && (r.snd.snd.snd.fst == (0 : Int) && (r.snd.snd.snd.snd.fst == (0 : Int) && true))) && (r.snd.snd.snd.snd.snd.fst == (0 : Int) && (r.snd.snd.snd.snd.snd.snd.fst == (0 : Int) && (r.snd.snd.snd.snd.snd.snd.snd.fst == (0 : Int) && (decide (r.snd.snd.snd.snd.snd.snd.snd.snd.fst = List.replicate (8 : Nat) (0 : Int)) && true))))) then bif r.snd.snd.snd.snd.snd.snd.snd.snd.snd == (1 : Int) then bif r_1.fst == (0 : Int) && (r_1.snd.fst == (0 : Int) && (r_1.snd.snd.fst == (0 : Int) && (r_1.snd.snd.snd.fst == (0 : Int) && (r_1.snd.snd.snd.snd.fst == (0 : Int) && true))) && (r_1.snd.snd.snd.snd.snd.fst == (0 : Int) && (r_1.snd.snd.snd.snd.snd.snd.fst == (0 : Int) && (r_1.snd.snd.snd.snd.snd.snd.snd.fst == (0 : Int) && (decide (r_1.snd.snd.snd.snd.snd.snd.snd.snd.fst = List.replicate (8 : Nat) (0 : Int)) && true))))) then bif r_1.snd.snd.snd.snd.snd.snd.snd.snd.snd == (13 : Int) then (F15hn k (a0.1, a0.2.1, a0.2.2, a0.2.3, a0.2.4, a0.3, a0.4, a0.5, a0.6)).bind fun r => bif r == (1 : Int) then (F15hn k (a0.1, a0.2.1, a0.2.2, a0.2.3, a0.2.4, a0.3, a0.4, a0.5, a0.6)).bind fun r => bif r == (1 : Int) then (F16 k ()).bind fun r => some r else some false else some false else some false else some false else some false else some false) fun b => (F14hn k ()).bind fun r => (F14 k (b.snd.fst, b.snd.snd.fst, b.snd.snd.snd.fst, b.snd.snd.snd.snd)).bind fun r_1 => bif r.fst == (0 : Int) && (r.snd.fst == (0 : Int) && (r.snd.snd.fst == (0 : Int) && (r.snd.snd.snd.fst == (0 : Int) && (r.snd.snd.snd.snd.fst == (0 : Int) && true))) && (r.snd.snd.snd.snd.snd.fst == (0 : Int) && (r.snd.snd.snd.snd.snd.snd.fst == (0 : Int) && (r.snd.snd.snd.snd.snd.snd.snd.fst == (0 : Int) && (decide (r.snd.snd.snd.snd.snd.snd.snd.snd.fst = List.replicate (8 : Nat) (0 : Int)) && true))))) then bif r.snd.snd.snd.snd.snd.snd.snd.snd.snd == (1 : Int) then bif r_1.fst == (0 : Int) && (r_1.snd.fst == (0 : Int) && (r_1.snd.snd.fst == (0 : Int) && (r_1.snd.snd.snd.fst == (0 : Int) && (r_1.snd.snd.snd.snd.fst == (0 : Int) && true))) && (r_1.snd.snd.snd.snd.snd.fst == (0 : Int) && (r_1.snd.snd.snd.snd.snd.snd.fst == (0 : Int) && (r_1.snd.snd.snd.snd.snd.snd.snd.fst == (0 : Int) && (decide (r_1.snd.snd.snd.snd.snd.snd.snd.snd.fst = List.replicate (8 : Nat) (0 : Int)) && true))))) then bif r_1.snd.snd.snd.snd.snd.snd.snd.snd.snd.fst == (13 : Int) then (F15hn k (a0.1, a0.2.1, a0.2.2, a0.2.3, a0.2.4, a0.3, a0.4, a0.5, a0.6)).bind fun r => bif r == (1 : Int) then (F15 k (a0.1, a0.2.1, a0.2.2, a0.2.3, a0.2.4, a0.3, a0.4, a0.5, a0.6, r_1.snd.snd.snd.snd.snd.snd.snd.snd.snd.snd.fst, r_1.snd.snd.snd.snd.snd.snd.snd.snd.snd.snd.snd.fst, r_1.snd.snd.snd.snd.snd.snd.snd.snd.snd.snd.snd.snd.fst, r_1.snd.snd.snd.snd.snd.snd.snd.snd.snd.snd.snd.snd.snd)).bind fun r => bif r.fst == (1 : Int) then (F16 k ()).bind fun r => some r else some false else some false else some false else some false else some false else some false
noncomputable def sp3 : FSpec Ty := spec ag3 rs3 F3
theorem bo3 : Tryd.f3.body = some (bodyOf Tryd.f3) := by kernel_rfl
theorem nd3 : nodupB ((loopsIn (bodyOf Tryd.f3)).map firstRegion) = true := by kernel_rfl
theorem ok3 : FOK Tryd.prog tab 3 sp3 := spec_ok (keeps := kp3) tabOK fs16OK Tryd.func3 bo3 (by kernel_rfl) nd3 (LSOK.none) (F := F3) fun k x => by kernel_rfl
noncomputable def fs3 : Nat → Option (FSpec Ty) := addF 3 sp3 fs16
theorem fs3OK : SpecsOK Tryd.prog tab fs3 := fs16OK.add ok3 Tryd.call3
end Go.Proofs.YtbhnkjnjeifdhaaDoor.W
