/-
  The functions that the statement reaches, as typed functions, and that the program computes them. No conditions. Printed by program.
-/
import Derived.Test.YtbhnkjnjeifdhaaDoorVI
set_option linter.unusedVariables false
namespace Go.Proofs.YtbhnkjnjeifdhaaDoor.W
open Go Go.Proofs V
theorem noFOK : SpecsOK Tryd.prog tab noF := SpecsOK.none cmpOK asOK
def ag17 : Args Ty (T23 × Unit) := V.arg (tab.den 24) (noArgs)
def rs17 : Res Ty tab (Bool) false := V.oneRes (tab.den 4) (ent 4).ids (ent 4).plain (fun x _ => (ent 4).flat x rfl)
def kp17 : Nat → Keep := fun i => ⟨[], [], 0⟩
/-- "silt/siltref03.Good" -/
def F17 (k : Nat) (x : T23 × Unit) : Option (Bool) :=
  match x with
  | (a0, ()) => bif decide (a0.1 ≥ (1 : Int)) then bif decide (a0.1 ≤ (64 : Int)) then bif decide (a0.2 ≥ (6 : Int)) then bif decide (a0.2 ≤ (16 : Int)) then bif decide (a0.3 ≥ (24 : Int)) then bif decide (a0.3 ≤ (32 : Int)) then bif decide (a0.4 ≥ (2 : Int)) then some (decide (a0.4 ≤ (16 : Int))) else some false else some false else some false else some false else some false else some false else some false
noncomputable def sp17 : FSpec Ty := spec ag17 rs17 F17
theorem bo17 : Tryd.f17.body = some (bodyOf Tryd.f17) := by kernel_rfl
theorem nd17 : nodupB ((loopsIn (bodyOf Tryd.f17)).map firstRegion) = true := by kernel_rfl
theorem ok17 : FOK Tryd.prog tab 17 sp17 := spec_ok (keeps := kp17) tabOK noFOK Tryd.func17 bo17 (by kernel_rfl) nd17 (LSOK.none) (F := F17) fun k x => by kernel_rfl
noncomputable def fs17 : Nat → Option (FSpec Ty) := addF 17 sp17 noF
theorem fs17OK : SpecsOK Tryd.prog tab fs17 := noFOK.add ok17 Tryd.call17
def ag35 : Args Ty (Unit) := noArgs
def rs35 : Res Ty tab (T23) false := V.oneRes (tab.den 24) (ent 24).ids (ent 24).plain (fun x _ => (ent 24).flat x rfl)
def kp35 : Nat → Keep := fun i => ⟨[], [], 0⟩
/-- "silt/siltlaw03.Small" -/
def F35 (k : Nat) (x : Unit) : Option (T23) :=
  match x with
  | () => some (T23.mk (16 : Int) (8 : Int) (24 : Int) (4 : Int))
noncomputable def sp35 : FSpec Ty := spec ag35 rs35 F35
theorem bo35 : Tryd.f35.body = some (bodyOf Tryd.f35) := by kernel_rfl
theorem nd35 : nodupB ((loopsIn (bodyOf Tryd.f35)).map firstRegion) = true := by kernel_rfl
theorem ok35 : FOK Tryd.prog tab 35 sp35 := spec_ok (keeps := kp35) tabOK fs17OK Tryd.func35 bo35 (by kernel_rfl) nd35 (LSOK.none) (F := F35) fun k x => by kernel_rfl
noncomputable def fs35 : Nat → Option (FSpec Ty) := addF 35 sp35 fs17
theorem fs35OK : SpecsOK Tryd.prog tab fs35 := fs17OK.add ok35 Tryd.call35
theorem bo13 : Tryd.f13.body = some (bodyOf Tryd.f13) := by kernel_rfl
theorem nd13 : nodupB ((loopsIn (bodyOf Tryd.f13)).map firstRegion) = true := by kernel_rfl
def of13 : Int → NSt Ty := fun x => ⟨[.int .i64 (x)], []⟩
def ab13 : (n : NSt Ty) → Option {x : Int // of13 x = n}
  | ⟨[.int .i64 v0], []⟩ => some ⟨v0, rfl⟩
  | _ => none
def kp13 : Nat → Keep := pinned 0 fun i => ⟨[], [], 0⟩
def on13a : Int → NSt Ty := fun x => ⟨[.tup (.cons (.nilp) (.cons (.int .i64 (x)) (.nil)))], []⟩
def on13b : Int × Int × Int × List (List Int) × List T126 → NSt Ty := fun x => ⟨[.tup (.cons (.ptr 100000 []) (.cons (.int .i64 (x.1)) (.nil)))], [.var (.cons (.row 100001) (.cons (.row 100002) (.cons (.int .i64 (x.2.1)) (.cons (.int .i64 (x.2.2.1)) (.nil))))), .row 84 (x.2.2.2.1), .row 127 (x.2.2.2.2)]⟩
def oa13 : (n : NSt Ty) → Option {y : (Int) ⊕ (Int × Int × Int × List (List Int) × List T126) // on2 on13a on13b y = n}
  | ⟨[.tup (.cons (.nilp) (.cons (.int .i64 v0) (.nil)))], []⟩ => some ⟨.inl v0, rfl⟩
  | ⟨[.tup (.cons (.ptr 100000 []) (.cons (.int .i64 v0) (.nil)))], [.var (.cons (.row 100001) (.cons (.row 100002) (.cons (.int .i64 v1) (.cons (.int .i64 v2) (.nil))))), .row 84 v3, .row 127 v4]⟩ => some ⟨.inr (v0, v1, v2, v3, v4), rfl⟩
  | _ => none
/-- "silt/dev.New"  -/
def F13 (k : Nat) (x : Int) : Option ((Int) ⊕ (Int × Int × Int × List (List Int) × List T126)) :=
  match x with
  | v0 => bif decide (v0 < (1 : Int)) then some (Sum.inl (1 : Int)) else bif decide (v0 > (1024 : Int)) then some (Sum.inl (1 : Int)) else bif decide (v0 = v0) && decide ((0 : Int) ≤ v0) && decide (v0 ≤ (↑roomMost : Int)) then some (Sum.inr ((0 : Int), (-1 : Int), (0 : Int), List.replicate v0.toNat (List.replicate (64 : Nat) (0 : Int)), [])) else none
noncomputable def sp13 : FSpec Ty := addH2 0 ab13 F13 on13a on13b noH
theorem ok13 : FOK Tryd.prog tab 13 sp13 := addH2_ok (keeps := kp13) tabOK fs35OK Tryd.func13 bo13 (by kernel_rfl) nd13 (LSOK.none) oa13 (F := F13) (fun k x => by kernel_rfl) (pinned_le (Nat.le_refl _) _) FOK.none rfl
noncomputable def fs13 : Nat → Option (FSpec Ty) := addF 13 sp13 fs35
theorem fs13OK : SpecsOK Tryd.prog tab fs13 := fs35OK.add ok13 Tryd.call13
def ag57 : Args Ty (T23 × Unit) := V.arg (tab.den 24) (noArgs)
def rs57 : Res Ty tab (Bool) false := V.oneRes (tab.den 4) (ent 4).ids (ent 4).plain (fun x _ => (ent 4).flat x rfl)
def kp57 : Nat → Keep := fun i => ⟨[], [], 0⟩
/-- "silt/plan.Good" -/
def F57 (k : Nat) (x : T23 × Unit) : Option (Bool) :=
  match x with
  | (a0, ()) => bif decide (a0.1 ≥ (1 : Int)) then bif decide (a0.1 ≤ (64 : Int)) then bif decide (a0.2 ≥ (6 : Int)) then bif decide (a0.2 ≤ (16 : Int)) then bif decide (a0.3 ≥ (24 : Int)) then bif decide (a0.3 ≤ (32 : Int)) then bif decide (a0.4 ≥ (2 : Int)) then some (decide (a0.4 ≤ (16 : Int))) else some false else some false else some false else some false else some false else some false else some false
noncomputable def sp57 : FSpec Ty := spec ag57 rs57 F57
theorem bo57 : Tryd.f57.body = some (bodyOf Tryd.f57) := by kernel_rfl
theorem nd57 : nodupB ((loopsIn (bodyOf Tryd.f57)).map firstRegion) = true := by kernel_rfl
theorem ok57 : FOK Tryd.prog tab 57 sp57 := spec_ok (keeps := kp57) tabOK fs13OK Tryd.func57 bo57 (by kernel_rfl) nd57 (LSOK.none) (F := F57) fun k x => by kernel_rfl
noncomputable def fs57 : Nat → Option (FSpec Ty) := addF 57 sp57 fs13
theorem fs57OK : SpecsOK Tryd.prog tab fs57 := fs13OK.add ok57 Tryd.call57
def ag36 : Args Ty (T23 × T46 × Unit) := V.arg (tab.den 24) (V.arg (tab.den 47) (noArgs))
def rs36 : Res Ty tab (Bool) false := V.oneRes (tab.den 4) (ent 4).ids (ent 4).plain (fun x _ => (ent 4).flat x rfl)
def of36_5 : Int × List Int × Int × Int × Int × Int × Int × Int × Int × Int × Int × List Int → NSt Ty := fun x => ⟨[.ptr 100000 [], .ptr 100001 [], .int .i64 (x.1), .slice 3 (x.2.1), .int .i64 (x.2.2.1), .int .i64 (x.2.2.2.1)], [.var (.cons (.int .i64 (x.2.2.2.2.1)) (.cons (.int .i64 (x.2.2.2.2.2.1)) (.cons (.int .i64 (x.2.2.2.2.2.2.1)) (.cons (.int .i64 (x.2.2.2.2.2.2.2.1)) (.nil))))), .var (.cons (.int .i64 (x.2.2.2.2.2.2.2.2.1)) (.cons (.int .i64 (x.2.2.2.2.2.2.2.2.2.1)) (.cons (.int .u32 (x.2.2.2.2.2.2.2.2.2.2.1)) (.cons (.slice 3 (x.2.2.2.2.2.2.2.2.2.2.2)) (.nil)))))]⟩
def ab36_5 : (n : NSt Ty) → Option {x : Int × List Int × Int × Int × Int × Int × Int × Int × Int × Int × Int × List Int // of36_5 x = n}
  | ⟨[.ptr 100000 [], .ptr 100001 [], .int .i64 v0, .slice 3 v1, .int .i64 v2, .int .i64 v3], [.var (.cons (.int .i64 v4) (.cons (.int .i64 v5) (.cons (.int .i64 v6) (.cons (.int .i64 v7) (.nil))))), .var (.cons (.int .i64 v8) (.cons (.int .i64 v9) (.cons (.int .u32 v10) (.cons (.slice 3 v11) (.nil)))))]⟩ => some ⟨(v0, v1, v2, v3, v4, v5, v6, v7, v8, v9, v10, v11), rfl⟩
  | _ => none
def on36_5a : Bool → NSt Ty := fun x => ⟨[.bool (x)], []⟩
def on36_5b : Unit → NSt Ty := fun x => ⟨[.undef], []⟩
def oa36_5 : (e : Ex) → (n : NSt Ty) → Option {y : (Bool) ⊕ (Unit) // oe2 .ret (.exit 0) y = e ∧ on2 on36_5a on36_5b y = n}
  | .ret, ⟨[.bool v0], []⟩ => some ⟨.inl v0, rfl, rfl⟩
  | .exit 0, ⟨[.undef], []⟩ => some ⟨.inr (), rfl, rfl⟩
  | _, _ => none
/-- a round of the loop 5 of function 36 -/
def R36_5 (k : Nat) (again : Int × List Int × Int × Int × Int × Int × Int × Int × Int × Int × Int × List Int → Option ((Bool) ⊕ (Unit))) (x : Int × List Int × Int × Int × Int × Int × Int × Int × Int × Int × Int × List Int) : Option ((Bool) ⊕ (Unit)) :=
  match x with
  | (v0, v1, v2, v3, v4, v5, v6, v7, v8, v9, v10, v11) => bif decide (v3 < v2) then bif inRange v3 v1.length then bif decide (v1.getD v3.toNat (0 : Int) ≤ v0) then some (Sum.inl false) else bif decide (v1.getD v3.toNat (0 : Int) ≥ v5) then some (Sum.inl false) else bif v1.getD v3.toNat (0 : Int) == v8 then some (Sum.inl false) else again (v1.getD v3.toNat (0 : Int), v1, v2, IntKind.i64.wrap (v3 + (1 : Int)), v4, v5, v6, v7, v8, v9, v10, v11) else none else some (Sum.inr ())
def L36_5 (k n : Nat) (x : Int × List Int × Int × Int × Int × Int × Int × Int × Int × Int × Int × List Int) : Option ((Bool) ⊕ (Unit)) := iterR (R36_5 k) n x
noncomputable def ls36_5 : Nat → Option (LSum Ty) := addL 5 (lsum2 of36_5 ab36_5 L36_5 .ret on36_5a (.exit 0) on36_5b) noL
def kp36 : Nat → Keep := fun i => cond (i == 5) ⟨[2, 3, 5, 36, 37, 38], [4], 0⟩ (⟨[], [], 0⟩)
/-- "silt/journal.Good" -/
def F36 (k : Nat) (x : T23 × T46 × Unit) : Option (Bool) :=
  match x with
  | (a0, a1, ()) => (F57 k (T23.mk a0.1 a0.2 a0.3 a0.4, ())).bind fun r => bif !r then some false else bif decide (a1.1 < (0 : Int)) then some false else bif decide (a1.1 ≥ a0.2) then some false else bif decide (a1.2 < (0 : Int)) then some false else bif decide (a1.2 > a0.3) then some false else (L36_5 k k ((-1 : Int), a1.4, (↑a1.4.length : Int), (0 : Int), a0.1, a0.2, a0.3, a0.4, a1.1, a1.2, a1.3, a1.4)).bind fun r => sumK r (fun a => some a) fun b => some true
noncomputable def sp36 : FSpec Ty := spec ag36 rs36 F36
theorem bo36 : Tryd.f36.body = some (bodyOf Tryd.f36) := by kernel_rfl
theorem nd36 : nodupB ((loopsIn (bodyOf Tryd.f36)).map firstRegion) = true := by kernel_rfl
theorem lo36_5 : LSOK fs57 kp36 tab Tryd.f36 ls36_5 := lsum2_ok bo36 nd36 (LSOK.none) oa36_5 (R := R36_5) fun k again x => by kernel_rfl
theorem ok36 : FOK Tryd.prog tab 36 sp36 := spec_ok (keeps := kp36) tabOK fs57OK Tryd.func36 bo36 (by kernel_rfl) nd36 (lo36_5) (F := F36) fun k x => by kernel_rfl
noncomputable def fs36 : Nat → Option (FSpec Ty) := addF 36 sp36 fs57
theorem fs36OK : SpecsOK Tryd.prog tab fs36 := fs57OK.add ok36 Tryd.call36
theorem bo54 : Tryd.f54.body = some (bodyOf Tryd.f54) := by kernel_rfl
theorem nd54 : nodupB ((loopsIn (bodyOf Tryd.f54)).map firstRegion) = true := by kernel_rfl
def of54hn : Int → NSt Ty := fun x => ⟨[.nilp, .int .i64 (x)], []⟩
def ab54hn : (n : NSt Ty) → Option {x : Int // of54hn x = n}
  | ⟨[.nilp, .int .i64 v0], []⟩ => some ⟨v0, rfl⟩
  | _ => none
def kp54hn : Nat → Keep := pinned 0 fun i => ⟨[], [], 0⟩
def on54hn : Int → NSt Ty := fun x => ⟨[.int .i64 (x)], []⟩
def oa54hn : (n : NSt Ty) → Option {y : Int // on54hn y = n}
  | ⟨[.int .i64 v0], []⟩ => some ⟨v0, rfl⟩
  | _ => none
/-- "(*silt/dev.Dev).tell" hn -/
def F54hn (k : Nat) (x : Int) : Option (Int) :=
  match x with
  | v0 => some (0 : Int)
noncomputable def sp54hn : FSpec Ty := addH 0 ab54hn F54hn on54hn noH
theorem ok54hn : FOK Tryd.prog tab 54 sp54hn := addH_ok (keeps := kp54hn) tabOK fs36OK Tryd.func54 bo54 (by kernel_rfl) nd54 (LSOK.none) oa54hn (F := F54hn) (fun k x => by kernel_rfl) (pinned_le (Nat.le_refl _) _) FOK.none rfl
def of54 : Int × Int × Int × List (List Int) × List T126 → NSt Ty := fun x => ⟨[.ptr 100000 [], .int .i64 (x.1)], [.var (.cons (.row 100001) (.cons (.row 100002) (.cons (.int .i64 (x.2.1)) (.cons (.int .i64 (x.2.2.1)) (.nil))))), .row 84 (x.2.2.2.1), .row 127 (x.2.2.2.2)]⟩
def ab54 : (n : NSt Ty) → Option {x : Int × Int × Int × List (List Int) × List T126 // of54 x = n}
  | ⟨[.ptr 100000 [], .int .i64 v0], [.var (.cons (.row 100001) (.cons (.row 100002) (.cons (.int .i64 v1) (.cons (.int .i64 v2) (.nil))))), .row 84 v3, .row 127 v4]⟩ => some ⟨(v0, v1, v2, v3, v4), rfl⟩
  | _ => none
def kp54 : Nat → Keep := pinned 1 fun i => ⟨[], [], 0⟩
def on54 : Int × Int × Int × List (List Int) × List T126 → NSt Ty := fun x => ⟨[.int .i64 (x.1)], [.var (.cons (.row 100001) (.cons (.row 100002) (.cons (.int .i64 (x.2.1)) (.cons (.int .i64 (x.2.2.1)) (.nil))))), .row 84 (x.2.2.2.1), .row 127 (x.2.2.2.2)]⟩
def oa54 : (n : NSt Ty) → Option {y : Int × Int × Int × List (List Int) × List T126 // on54 y = n}
  | ⟨[.int .i64 v0], [.var (.cons (.row 100001) (.cons (.row 100002) (.cons (.int .i64 v1) (.cons (.int .i64 v2) (.nil))))), .row 84 v3, .row 127 v4]⟩ => some ⟨(v0, v1, v2, v3, v4), rfl⟩
  | _ => none
/-- "(*silt/dev.Dev).tell"  -/
def F54 (k : Nat) (x : Int × Int × Int × List (List Int) × List T126) : Option (Int × Int × Int × List (List Int) × List T126) :=
  match x with
  | (v0, v1, v2, v3, v4) => bif v0 == (0 : Int) then some (IntKind.i64.wrap (IntKind.i64.wrap ((↑v3.length : Int) - (↑v4.length : Int)) + (↑v4.length : Int)), v1, v2, v3, v4) else bif v0 == (1 : Int) then some (IntKind.i64.wrap ((0 : Int) + (↑v4.length : Int)), v1, v2, v3, v4) else bif v0 == (2 : Int) then some (v2, v1, v2, v3, v4) else some ((0 : Int), v1, v2, v3, v4)
noncomputable def sp54 : FSpec Ty := addH 1 ab54 F54 on54 sp54hn
theorem ok54 : FOK Tryd.prog tab 54 sp54 := addH_ok (keeps := kp54) tabOK fs36OK Tryd.func54 bo54 (by kernel_rfl) nd54 (LSOK.none) oa54 (F := F54) (fun k x => by kernel_rfl) (pinned_le (Nat.le_refl _) _) ok54hn rfl
noncomputable def fs54 : Nat → Option (FSpec Ty) := addF 54 sp54 fs36
theorem fs54OK : SpecsOK Tryd.prog tab fs54 := fs36OK.add ok54 Tryd.call54
theorem bo47 : Tryd.f47.body = some (bodyOf Tryd.f47) := by kernel_rfl
theorem nd47 : nodupB ((loopsIn (bodyOf Tryd.f47)).map firstRegion) = true := by kernel_rfl
def of47hn : Unit → NSt Ty := fun x => ⟨[.nilp], []⟩
def ab47hn : (n : NSt Ty) → Option {x : Unit // of47hn x = n}
  | ⟨[.nilp], []⟩ => some ⟨(), rfl⟩
  | _ => none
def kp47hn : Nat → Keep := pinned 0 fun i => ⟨[], [], 0⟩
def on47hn : Int → NSt Ty := fun x => ⟨[.int .i64 (x)], []⟩
def oa47hn : (n : NSt Ty) → Option {y : Int // on47hn y = n}
  | ⟨[.int .i64 v0], []⟩ => some ⟨v0, rfl⟩
  | _ => none
/-- "(*silt/dev.Dev).Len" hn -/
def F47hn (k : Nat) (x : Unit) : Option (Int) :=
  match x with
  | () => (F54hn k (0 : Int)).bind fun r => some r
noncomputable def sp47hn : FSpec Ty := addH 0 ab47hn F47hn on47hn noH
theorem ok47hn : FOK Tryd.prog tab 47 sp47hn := addH_ok (keeps := kp47hn) tabOK fs54OK Tryd.func47 bo47 (by kernel_rfl) nd47 (LSOK.none) oa47hn (F := F47hn) (fun k x => by kernel_rfl) (pinned_le (Nat.le_refl _) _) FOK.none rfl
def of47 : Int × Int × List (List Int) × List T126 → NSt Ty := fun x => ⟨[.ptr 100000 []], [.var (.cons (.row 100001) (.cons (.row 100002) (.cons (.int .i64 (x.1)) (.cons (.int .i64 (x.2.1)) (.nil))))), .row 84 (x.2.2.1), .row 127 (x.2.2.2)]⟩
def ab47 : (n : NSt Ty) → Option {x : Int × Int × List (List Int) × List T126 // of47 x = n}
  | ⟨[.ptr 100000 []], [.var (.cons (.row 100001) (.cons (.row 100002) (.cons (.int .i64 v0) (.cons (.int .i64 v1) (.nil))))), .row 84 v2, .row 127 v3]⟩ => some ⟨(v0, v1, v2, v3), rfl⟩
  | _ => none
def kp47 : Nat → Keep := pinned 1 fun i => ⟨[], [], 0⟩
def on47 : Int × Int × Int × List (List Int) × List T126 → NSt Ty := fun x => ⟨[.int .i64 (x.1)], [.var (.cons (.row 100001) (.cons (.row 100002) (.cons (.int .i64 (x.2.1)) (.cons (.int .i64 (x.2.2.1)) (.nil))))), .row 84 (x.2.2.2.1), .row 127 (x.2.2.2.2)]⟩
def oa47 : (n : NSt Ty) → Option {y : Int × Int × Int × List (List Int) × List T126 // on47 y = n}
  | ⟨[.int .i64 v0], [.var (.cons (.row 100001) (.cons (.row 100002) (.cons (.int .i64 v1) (.cons (.int .i64 v2) (.nil))))), .row 84 v3, .row 127 v4]⟩ => some ⟨(v0, v1, v2, v3, v4), rfl⟩
  | _ => none
/-- "(*silt/dev.Dev).Len"  -/
def F47 (k : Nat) (x : Int × Int × List (List Int) × List T126) : Option (Int × Int × Int × List (List Int) × List T126) :=
  match x with
  | (v0, v1, v2, v3) => (F54 k ((0 : Int), v0, v1, v2, v3)).bind fun r => some (r.fst, r.snd.fst, r.snd.snd.fst, r.snd.snd.snd.fst, r.snd.snd.snd.snd)
noncomputable def sp47 : FSpec Ty := addH 1 ab47 F47 on47 sp47hn
theorem ok47 : FOK Tryd.prog tab 47 sp47 := addH_ok (keeps := kp47) tabOK fs54OK Tryd.func47 bo47 (by kernel_rfl) nd47 (LSOK.none) oa47 (F := F47) (fun k x => by kernel_rfl) (pinned_le (Nat.le_refl _) _) ok47hn rfl
noncomputable def fs47 : Nat → Option (FSpec Ty) := addF 47 sp47 fs54
theorem fs47OK : SpecsOK Tryd.prog tab fs47 := fs54OK.add ok47 Tryd.call47
def ag48 : Args Ty (T23 × Unit) := V.arg (tab.den 24) (noArgs)
def rs48 : Res Ty tab (Int) false := V.oneRes (tab.den 3) (ent 3).ids (ent 3).plain (fun x _ => (ent 3).flat x rfl)
def kp48 : Nat → Keep := fun i => ⟨[], [], 0⟩
/-- "silt/plan.Total" -/
def F48 (k : Nat) (x : T23 × Unit) : Option (Int) :=
  match x with
  | (a0, ()) => (F57 k (T23.mk a0.1 a0.2 a0.3 a0.4, ())).bind fun r => bif !r then some (0 : Int) else some (IntKind.i64.wrap ((4 : Int) + IntKind.i64.wrap (a0.2 * a0.3)))
noncomputable def sp48 : FSpec Ty := spec ag48 rs48 F48
theorem bo48 : Tryd.f48.body = some (bodyOf Tryd.f48) := by kernel_rfl
theorem nd48 : nodupB ((loopsIn (bodyOf Tryd.f48)).map firstRegion) = true := by kernel_rfl
theorem ok48 : FOK Tryd.prog tab 48 sp48 := spec_ok (keeps := kp48) tabOK fs47OK Tryd.func48 bo48 (by kernel_rfl) nd48 (LSOK.none) (F := F48) fun k x => by kernel_rfl
noncomputable def fs48 : Nat → Option (FSpec Ty) := addF 48 sp48 fs47
theorem fs48OK : SpecsOK Tryd.prog tab fs48 := fs47OK.add ok48 Tryd.call48
def ag56 : Args Ty ((List Int) × Unit) := V.arg (tab.den 42) noArgs
def rs56 : Res Ty tab ((List Int)) true := V.oneRes (tab.den 42) (ent 42).ids (ent 42).plain (fun _ h => by cases h)
/-- slices.Clone -/
def F56 : Nat → ((List Int) × Unit) → Option ((List Int)) := cloneF
noncomputable def sp56 : FSpec Ty := spec ag56 rs56 F56
theorem bo56 : Tryd.f56.body = some (bodyOf Tryd.f56) := by kernel_rfl
theorem nd56 : nodupB ((loopsIn (bodyOf Tryd.f56)).map firstRegion) = true := by kernel_rfl
theorem ok56 : FOK Tryd.prog tab 56 sp56 := clone_ok (e := 3) (A := ag56) (B := rs56) tabOK noFOK Tryd.func56 bo56 (by kernel_rfl) nd56 (fun _ => rfl) (fun _ => rfl) (by kernel_rfl) (fun xs => by kernel_rfl)
noncomputable def fs56 : Nat → Option (FSpec Ty) := addF 56 sp56 fs48
theorem fs56OK : SpecsOK Tryd.prog tab fs56 := fs48OK.add ok56 Tryd.call56
def ag51 : Args Ty (T46 × Unit) := V.arg (tab.den 47) (noArgs)
def rs51 : Res Ty tab (T46) true := V.oneRes (tab.den 47) (ent 47).ids (ent 47).plain (fun _ h => by cases h)
def kp51 : Nat → Keep := fun i => ⟨[], [], 0⟩
/-- "(silt/journal.At).own" -/
def F51 (k : Nat) (x : T46 × Unit) : Option (T46) :=
  match x with
  | (a0, ()) => (F56 k (a0.4, ())).bind fun r => some (T46.mk a0.1 a0.2 a0.3 r)
noncomputable def sp51 : FSpec Ty := spec ag51 rs51 F51
theorem bo51 : Tryd.f51.body = some (bodyOf Tryd.f51) := by kernel_rfl
theorem nd51 : nodupB ((loopsIn (bodyOf Tryd.f51)).map firstRegion) = true := by kernel_rfl
theorem ok51 : FOK Tryd.prog tab 51 sp51 := spec_ok (keeps := kp51) tabOK fs56OK Tryd.func51 bo51 (by kernel_rfl) nd51 (LSOK.none) (F := F51) fun k x => by kernel_rfl
noncomputable def fs51 : Nat → Option (FSpec Ty) := addF 51 sp51 fs56
theorem fs51OK : SpecsOK Tryd.prog tab fs51 := fs56OK.add ok51 Tryd.call51
theorem bo20 : Tryd.f20.body = some (bodyOf Tryd.f20) := by kernel_rfl
theorem nd20 : nodupB ((loopsIn (bodyOf Tryd.f20)).map firstRegion) = true := by kernel_rfl
def of20hn : Int × Int × Int × Int × Int × Int × Int × List Int → NSt Ty := fun x => ⟨[.nilp, .cons (.int .i64 (x.1)) (.cons (.int .i64 (x.2.1)) (.cons (.int .i64 (x.2.2.1)) (.cons (.int .i64 (x.2.2.2.1)) (.nil)))), .cons (.int .i64 (x.2.2.2.2.1)) (.cons (.int .i64 (x.2.2.2.2.2.1)) (.cons (.int .u32 (x.2.2.2.2.2.2.1)) (.cons (.slice 3 (x.2.2.2.2.2.2.2)) (.nil))))], []⟩
def ab20hn : (n : NSt Ty) → Option {x : Int × Int × Int × Int × Int × Int × Int × List Int // of20hn x = n}
  | ⟨[.nilp, .cons (.int .i64 v0) (.cons (.int .i64 v1) (.cons (.int .i64 v2) (.cons (.int .i64 v3) (.nil)))), .cons (.int .i64 v4) (.cons (.int .i64 v5) (.cons (.int .u32 v6) (.cons (.slice 3 v7) (.nil))))], []⟩ => some ⟨(v0, v1, v2, v3, v4, v5, v6, v7), rfl⟩
  | _ => none
def kp20hn : Nat → Keep := pinned 0 fun i => ⟨[], [], 0⟩
def on20hna : Int → NSt Ty := fun x => ⟨[.tup (.cons (.nilp) (.cons (.int .i64 (x)) (.nil)))], []⟩
def on20hnb : Int × Int × Int × Int × Int × Int × Int × Int × List Int → NSt Ty := fun x => ⟨[.tup (.cons (.ptr 100000 []) (.cons (.int .i64 (x.1)) (.nil)))], [.var (.cons (.nilp) (.cons (.cons (.int .i64 (x.2.1)) (.cons (.int .i64 (x.2.2.1)) (.cons (.int .i64 (x.2.2.2.1)) (.cons (.int .i64 (x.2.2.2.2.1)) (.nil))))) (.cons (.cons (.int .i64 (x.2.2.2.2.2.1)) (.cons (.int .i64 (x.2.2.2.2.2.2.1)) (.cons (.int .u32 (x.2.2.2.2.2.2.2.1)) (.cons (.slice 3 (x.2.2.2.2.2.2.2.2)) (.nil))))) (.nil))))]⟩
def oa20hn : (n : NSt Ty) → Option {y : (Int) ⊕ (Int × Int × Int × Int × Int × Int × Int × Int × List Int) // on2 on20hna on20hnb y = n}
  | ⟨[.tup (.cons (.nilp) (.cons (.int .i64 v0) (.nil)))], []⟩ => some ⟨.inl v0, rfl⟩
  | ⟨[.tup (.cons (.ptr 100000 []) (.cons (.int .i64 v0) (.nil)))], [.var (.cons (.nilp) (.cons (.cons (.int .i64 v1) (.cons (.int .i64 v2) (.cons (.int .i64 v3) (.cons (.int .i64 v4) (.nil))))) (.cons (.cons (.int .i64 v5) (.cons (.int .i64 v6) (.cons (.int .u32 v7) (.cons (.slice 3 v8) (.nil))))) (.nil))))]⟩ => some ⟨.inr (v0, v1, v2, v3, v4, v5, v6, v7, v8), rfl⟩
  | _ => none
/-- "silt/journal.New" hn -/
def F20hn (k : Nat) (x : Int × Int × Int × Int × Int × Int × Int × List Int) : Option ((Int) ⊕ (Int × Int × Int × Int × Int × Int × Int × Int × List Int)) :=
  match x with
  | (v0, v1, v2, v3, v4, v5, v6, v7) => (F36 k (T23.mk v0 v1 v2 v3, T46.mk v4 v5 v6 v7, ())).bind fun r => bif !r then some (Sum.inl (1 : Int)) else (F47hn k ()).bind fun r => (F48 k (T23.mk v0 v1 v2 v3, ())).bind fun r_1 => bif decide (r < r_1) then some (Sum.inl (1 : Int)) else (F51 k (T46.mk v4 v5 v6 v7, ())).bind fun r => some (Sum.inr ((0 : Int), v0, v1, v2, v3, r.1, r.2, r.3, r.4))
noncomputable def sp20hn : FSpec Ty := addH2 0 ab20hn F20hn on20hna on20hnb noH
theorem ok20hn : FOK Tryd.prog tab 20 sp20hn := addH2_ok (keeps := kp20hn) tabOK fs51OK Tryd.func20 bo20 (by kernel_rfl) nd20 (LSOK.none) oa20hn (F := F20hn) (fun k x => by kernel_rfl) (pinned_le (Nat.le_refl _) _) FOK.none rfl
def of20 : Int × Int × Int × Int × Int × Int × Int × List Int × Int × Int × List (List Int) × List T126 → NSt Ty := fun x => ⟨[.ptr 100000 [], .cons (.int .i64 (x.1)) (.cons (.int .i64 (x.2.1)) (.cons (.int .i64 (x.2.2.1)) (.cons (.int .i64 (x.2.2.2.1)) (.nil)))), .cons (.int .i64 (x.2.2.2.2.1)) (.cons (.int .i64 (x.2.2.2.2.2.1)) (.cons (.int .u32 (x.2.2.2.2.2.2.1)) (.cons (.slice 3 (x.2.2.2.2.2.2.2.1)) (.nil))))], [.var (.cons (.row 100001) (.cons (.row 100002) (.cons (.int .i64 (x.2.2.2.2.2.2.2.2.1)) (.cons (.int .i64 (x.2.2.2.2.2.2.2.2.2.1)) (.nil))))), .row 84 (x.2.2.2.2.2.2.2.2.2.2.1), .row 127 (x.2.2.2.2.2.2.2.2.2.2.2)]⟩
def ab20 : (n : NSt Ty) → Option {x : Int × Int × Int × Int × Int × Int × Int × List Int × Int × Int × List (List Int) × List T126 // of20 x = n}
  | ⟨[.ptr 100000 [], .cons (.int .i64 v0) (.cons (.int .i64 v1) (.cons (.int .i64 v2) (.cons (.int .i64 v3) (.nil)))), .cons (.int .i64 v4) (.cons (.int .i64 v5) (.cons (.int .u32 v6) (.cons (.slice 3 v7) (.nil))))], [.var (.cons (.row 100001) (.cons (.row 100002) (.cons (.int .i64 v8) (.cons (.int .i64 v9) (.nil))))), .row 84 v10, .row 127 v11]⟩ => some ⟨(v0, v1, v2, v3, v4, v5, v6, v7, v8, v9, v10, v11), rfl⟩
  | _ => none
def kp20 : Nat → Keep := pinned 1 fun i => ⟨[], [], 0⟩
def on20a : Int × Int × Int × List (List Int) × List T126 → NSt Ty := fun x => ⟨[.tup (.cons (.nilp) (.cons (.int .i64 (x.1)) (.nil)))], [.var (.cons (.row 100001) (.cons (.row 100002) (.cons (.int .i64 (x.2.1)) (.cons (.int .i64 (x.2.2.1)) (.nil))))), .row 84 (x.2.2.2.1), .row 127 (x.2.2.2.2)]⟩
def on20b : Int × Int × Int × Int × Int × Int × Int × Int × Int × Int × List Int × List (List Int) × List T126 → NSt Ty := fun x => ⟨[.tup (.cons (.ptr 100001 []) (.cons (.int .i64 (x.1)) (.nil)))], [.var (.cons (.row 100002) (.cons (.row 100003) (.cons (.int .i64 (x.2.1)) (.cons (.int .i64 (x.2.2.1)) (.nil))))), .var (.cons (.ptr 100000 []) (.cons (.cons (.int .i64 (x.2.2.2.1)) (.cons (.int .i64 (x.2.2.2.2.1)) (.cons (.int .i64 (x.2.2.2.2.2.1)) (.cons (.int .i64 (x.2.2.2.2.2.2.1)) (.nil))))) (.cons (.cons (.int .i64 (x.2.2.2.2.2.2.2.1)) (.cons (.int .i64 (x.2.2.2.2.2.2.2.2.1)) (.cons (.int .u32 (x.2.2.2.2.2.2.2.2.2.1)) (.cons (.slice 3 (x.2.2.2.2.2.2.2.2.2.2.1)) (.nil))))) (.nil)))), .row 84 (x.2.2.2.2.2.2.2.2.2.2.2.1), .row 127 (x.2.2.2.2.2.2.2.2.2.2.2.2)]⟩
def oa20 : (n : NSt Ty) → Option {y : (Int × Int × Int × List (List Int) × List T126) ⊕ (Int × Int × Int × Int × Int × Int × Int × Int × Int × Int × List Int × List (List Int) × List T126) // on2 on20a on20b y = n}
  | ⟨[.tup (.cons (.nilp) (.cons (.int .i64 v0) (.nil)))], [.var (.cons (.row 100001) (.cons (.row 100002) (.cons (.int .i64 v1) (.cons (.int .i64 v2) (.nil))))), .row 84 v3, .row 127 v4]⟩ => some ⟨.inl (v0, v1, v2, v3, v4), rfl⟩
  | ⟨[.tup (.cons (.ptr 100001 []) (.cons (.int .i64 v0) (.nil)))], [.var (.cons (.row 100002) (.cons (.row 100003) (.cons (.int .i64 v1) (.cons (.int .i64 v2) (.nil))))), .var (.cons (.ptr 100000 []) (.cons (.cons (.int .i64 v3) (.cons (.int .i64 v4) (.cons (.int .i64 v5) (.cons (.int .i64 v6) (.nil))))) (.cons (.cons (.int .i64 v7) (.cons (.int .i64 v8) (.cons (.int .u32 v9) (.cons (.slice 3 v10) (.nil))))) (.nil)))), .row 84 v11, .row 127 v12]⟩ => some ⟨.inr (v0, v1, v2, v3, v4, v5, v6, v7, v8, v9, v10, v11, v12), rfl⟩
  | _ => none
/-- "silt/journal.New"  -/
def F20 (k : Nat) (x : Int × Int × Int × Int × Int × Int × Int × List Int × Int × Int × List (List Int) × List T126) : Option ((Int × Int × Int × List (List Int) × List T126) ⊕ (Int × Int × Int × Int × Int × Int × Int × Int × Int × Int × List Int × List (List Int) × List T126)) :=
  match x with
  | (v0, v1, v2, v3, v4, v5, v6, v7, v8, v9, v10, v11) => (F36 k (T23.mk v0 v1 v2 v3, T46.mk v4 v5 v6 v7, ())).bind fun r => bif !r then some (Sum.inl ((1 : Int), v8, v9, v10, v11)) else (F47 k (v8, v9, v10, v11)).bind fun r => (F48 k (T23.mk v0 v1 v2 v3, ())).bind fun r_1 => bif decide (r.fst < r_1) then some (Sum.inl ((1 : Int), r.snd.fst, r.snd.snd.fst, r.snd.snd.snd.fst, r.snd.snd.snd.snd)) else (F51 k (T46.mk v4 v5 v6 v7, ())).bind fun r_2 => some (Sum.inr ((0 : Int), r.snd.fst, r.snd.snd.fst, v0, v1, v2, v3, r_2.1, r_2.2, r_2.3, r_2.4, r.snd.snd.snd.fst, r.snd.snd.snd.snd))
noncomputable def sp20 : FSpec Ty := addH2 1 ab20 F20 on20a on20b sp20hn
theorem ok20 : FOK Tryd.prog tab 20 sp20 := addH2_ok (keeps := kp20) tabOK fs51OK Tryd.func20 bo20 (by kernel_rfl) nd20 (LSOK.none) oa20 (F := F20) (fun k x => by kernel_rfl) (pinned_le (Nat.le_refl _) _) ok20hn rfl
noncomputable def fs20 : Nat → Option (FSpec Ty) := addF 20 sp20 fs51
theorem fs20OK : SpecsOK Tryd.prog tab fs20 := fs51OK.add ok20 Tryd.call20
def ag58 : Args Ty (Int × Unit) := V.arg (tab.den 5) (noArgs)
def rs58 : Res Ty tab ((List Int)) false := V.oneRes (tab.den 76) (ent 76).ids (ent 76).plain (fun x _ => (ent 76).flat x rfl)
def of58_3 : Int × Int × List Int × List Int → NSt Ty := fun x => ⟨[.int .u8 (x.1), .ptr 100000 [], .ptr 100001 [], .int .i64 (x.2.1)], [.var (.arr 5 32 (x.2.2.1)), .var (.arr 5 32 (x.2.2.2))]⟩
def ab58_3 : (n : NSt Ty) → Option {x : Int × Int × List Int × List Int // of58_3 x = n}
  | ⟨[.int .u8 v0, .ptr 100000 [], .ptr 100001 [], .int .i64 v1], [.var (.arr 5 32 v2), .var (.arr 5 32 v3)]⟩ => some ⟨(v0, v1, v2, v3), rfl⟩
  | _ => none
def oe58_3 : List Int × List Int → Ex := fun _ => .exit 0
def on58_3 : List Int × List Int → NSt Ty := fun x => ⟨[.ptr 100000 [], .ptr 100001 []], [.var (.arr 5 32 (x.1)), .var (.arr 5 32 (x.2))]⟩
def oa58_3 : (e : Ex) → (n : NSt Ty) → Option {y : List Int × List Int // oe58_3 y = e ∧ on58_3 y = n}
  | .exit 0, ⟨[.ptr 100000 [], .ptr 100001 []], [.var (.arr 5 32 v0), .var (.arr 5 32 v1)]⟩ => some ⟨(v0, v1), rfl, rfl⟩
  | _, _ => none
/-- a round of the loop 3 of function 58 -/
def R58_3 (k : Nat) (again : Int × Int × List Int × List Int → Option (List Int × List Int)) (x : Int × Int × List Int × List Int) : Option (List Int × List Int) :=
  match x with
  | (v0, v1, v2, v3) => bif decide (v1 < (32 : Int)) then bif inRange v1 (32 : Nat) then again (v0, IntKind.i64.wrap (v1 + (1 : Int)), v2, v3.set v1.toNat v0) else none else some (v2, v3)
def L58_3 (k n : Nat) (x : Int × Int × List Int × List Int) : Option (List Int × List Int) := iterR (R58_3 k) n x
noncomputable def ls58_3 : Nat → Option (LSum Ty) := addL 3 (LSum.of of58_3 ab58_3 L58_3 oe58_3 on58_3) noL
def kp58 : Nat → Keep := fun i => cond (i == 3) ⟨[0, 2, 3, 4], [2, 3], 0⟩ (⟨[], [], 0⟩)
/-- "silt/siltkeep.Leaf" -/
def F58 (k : Nat) (x : Int × Unit) : Option ((List Int)) :=
  match x with
  | (a0, ()) => (L58_3 k k (a0, (0 : Int), List.replicate (32 : Nat) (0 : Int), List.replicate (32 : Nat) (0 : Int))).bind fun r => some r.snd
noncomputable def sp58 : FSpec Ty := spec ag58 rs58 F58
theorem bo58 : Tryd.f58.body = some (bodyOf Tryd.f58) := by kernel_rfl
theorem nd58 : nodupB ((loopsIn (bodyOf Tryd.f58)).map firstRegion) = true := by kernel_rfl
theorem lo58_3 : LSOK fs20 kp58 tab Tryd.f58 ls58_3 := lsum_ok bo58 nd58 (LSOK.none) oa58_3 (R := R58_3) fun k again x => by kernel_rfl
theorem ok58 : FOK Tryd.prog tab 58 sp58 := spec_ok (keeps := kp58) tabOK fs20OK Tryd.func58 bo58 (by kernel_rfl) nd58 (lo58_3) (F := F58) fun k x => by kernel_rfl
noncomputable def fs58 : Nat → Option (FSpec Ty) := addF 58 sp58 fs20
theorem fs58OK : SpecsOK Tryd.prog tab fs58 := fs20OK.add ok58 Tryd.call58
def ag37 : Args Ty (Int × Int × Unit) := V.arg (tab.den 3) (V.arg (tab.den 5) (noArgs))
def rs37 : Res Ty tab (T80) true := V.oneRes (tab.den 81) (ent 81).ids (ent 81).plain (fun _ h => by cases h)
def kp37 : Nat → Keep := fun i => ⟨[], [], 0⟩
/-- "silt/siltlaw13.Image" -/
def F37 (k : Nat) (x : Int × Int × Unit) : Option (T80) :=
  match x with
  | (a0, a1, ()) => (F58 k (a1, ())).bind fun r => some (T80.mk (T73.mk (1 : Int) a0) (T78.mk (1 : Int) a0 r (0 : Int) [] (0 : Int) (List.replicate (8 : Nat) (0 : Int))))
noncomputable def sp37 : FSpec Ty := spec ag37 rs37 F37
theorem bo37 : Tryd.f37.body = some (bodyOf Tryd.f37) := by kernel_rfl
theorem nd37 : nodupB ((loopsIn (bodyOf Tryd.f37)).map firstRegion) = true := by kernel_rfl
theorem ok37 : FOK Tryd.prog tab 37 sp37 := spec_ok (keeps := kp37) tabOK fs58OK Tryd.func37 bo37 (by kernel_rfl) nd37 (LSOK.none) (F := F37) fun k x => by kernel_rfl
noncomputable def fs37 : Nat → Option (FSpec Ty) := addF 37 sp37 fs58
theorem fs37OK : SpecsOK Tryd.prog tab fs37 := fs58OK.add ok37 Tryd.call37
def ag96 : Args Ty (T73 × Unit) := V.arg (tab.den 74) (noArgs)
def rs96 : Res Ty tab (Int) false := V.oneRes (tab.den 3) (ent 3).ids (ent 3).plain (fun x _ => (ent 3).flat x rfl)
def kp96 : Nat → Keep := fun i => ⟨[], [], 0⟩
/-- "silt/group.key" -/
def F96 (k : Nat) (x : T73 × Unit) : Option (Int) :=
  match x with
  | (a0, ()) => bif a0.1 == (3 : Int) then some (IntKind.i64.wrap ((64 : Int) + a0.2)) else some a0.2
noncomputable def sp96 : FSpec Ty := spec ag96 rs96 F96
theorem bo96 : Tryd.f96.body = some (bodyOf Tryd.f96) := by kernel_rfl
theorem nd96 : nodupB ((loopsIn (bodyOf Tryd.f96)).map firstRegion) = true := by kernel_rfl
theorem ok96 : FOK Tryd.prog tab 96 sp96 := spec_ok (keeps := kp96) tabOK fs37OK Tryd.func96 bo96 (by kernel_rfl) nd96 (LSOK.none) (F := F96) fun k x => by kernel_rfl
noncomputable def fs96 : Nat → Option (FSpec Ty) := addF 96 sp96 fs37
theorem fs96OK : SpecsOK Tryd.prog tab fs96 := fs37OK.add ok96 Tryd.call96
def ag100 : Args Ty (Int × Unit) := V.arg (tab.den 3) (noArgs)
def rs100 : Res Ty tab (Bool) false := V.oneRes (tab.den 4) (ent 4).ids (ent 4).plain (fun x _ => (ent 4).flat x rfl)
def kp100 : Nat → Keep := fun i => ⟨[], [], 0⟩
/-- "silt/group.blocked" -/
def F100 (k : Nat) (x : Int × Unit) : Option (Bool) :=
  match x with
  | (a0, ()) => bif a0 == (1 : Int) then some true else bif a0 == (2 : Int) then some true else bif a0 == (3 : Int) then some true else some false
noncomputable def sp100 : FSpec Ty := spec ag100 rs100 F100
theorem bo100 : Tryd.f100.body = some (bodyOf Tryd.f100) := by kernel_rfl
theorem nd100 : nodupB ((loopsIn (bodyOf Tryd.f100)).map firstRegion) = true := by kernel_rfl
theorem ok100 : FOK Tryd.prog tab 100 sp100 := spec_ok (keeps := kp100) tabOK fs96OK Tryd.func100 bo100 (by kernel_rfl) nd100 (LSOK.none) (F := F100) fun k x => by kernel_rfl
noncomputable def fs100 : Nat → Option (FSpec Ty) := addF 100 sp100 fs96
theorem fs100OK : SpecsOK Tryd.prog tab fs100 := fs96OK.add ok100 Tryd.call100
def ag104 : Args Ty (T78 × Unit) := V.arg (tab.den 79) (noArgs)
def rs104 : Res Ty tab (Bool) false := V.oneRes (tab.den 4) (ent 4).ids (ent 4).plain (fun x _ => (ent 4).flat x rfl)
def kp104 : Nat → Keep := fun i => ⟨[], [], 0⟩
/-- "silt/group.empty" -/
def F104 (k : Nat) (x : T78 × Unit) : Option (Bool) :=
  match x with
  | (a0, ()) => bif a0.1 == (0 : Int) then bif a0.2 == (0 : Int) then bif decide (a0.3 = List.replicate (32 : Nat) (0 : Int)) then bif a0.4 == (0 : Int) then bif (↑a0.5.length : Int) == (0 : Int) then bif a0.6 == (0 : Int) then some (decide (a0.7 = List.replicate (8 : Nat) (0 : Int))) else some false else some false else some false else some false else some false else some false
noncomputable def sp104 : FSpec Ty := spec ag104 rs104 F104
theorem bo104 : Tryd.f104.body = some (bodyOf Tryd.f104) := by kernel_rfl
theorem nd104 : nodupB ((loopsIn (bodyOf Tryd.f104)).map firstRegion) = true := by kernel_rfl
theorem ok104 : FOK Tryd.prog tab 104 sp104 := spec_ok (keeps := kp104) tabOK fs100OK Tryd.func104 bo104 (by kernel_rfl) nd104 (LSOK.none) (F := F104) fun k x => by kernel_rfl
noncomputable def fs104 : Nat → Option (FSpec Ty) := addF 104 sp104 fs100
theorem fs104OK : SpecsOK Tryd.prog tab fs104 := fs100OK.add ok104 Tryd.call104
def ag109 : Args Ty (T78 × Unit) := V.arg (tab.den 79) (noArgs)
def rs109 : Res Ty tab (Bool) false := V.oneRes (tab.den 4) (ent 4).ids (ent 4).plain (fun x _ => (ent 4).flat x rfl)
def kp109 : Nat → Keep := fun i => ⟨[], [], 0⟩
/-- "silt/block.plain" -/
def F109 (k : Nat) (x : T78 × Unit) : Option (Bool) :=
  match x with
  | (a0, ()) => bif a0.4 == (0 : Int) then bif (↑a0.5.length : Int) == (0 : Int) then bif a0.1 == (1 : Int) then bif decide (a0.7 = List.replicate (8 : Nat) (0 : Int)) then some (a0.6 == (0 : Int)) else some false else bif a0.1 == (2 : Int) then bif decide (a0.7 = List.replicate (8 : Nat) (0 : Int)) then some (decide (a0.3 = List.replicate (32 : Nat) (0 : Int))) else some false else bif decide (a0.3 = List.replicate (32 : Nat) (0 : Int)) then some (a0.6 == (0 : Int)) else some false else bif a0.1 == (1 : Int) then bif decide (a0.7 = List.replicate (8 : Nat) (0 : Int)) then some false else some false else bif a0.1 == (2 : Int) then bif decide (a0.7 = List.replicate (8 : Nat) (0 : Int)) then some (decide (a0.3 = List.replicate (32 : Nat) (0 : Int))) else some false else bif decide (a0.3 = List.replicate (32 : Nat) (0 : Int)) then some false else some false else bif a0.1 == (1 : Int) then bif decide (a0.7 = List.replicate (8 : Nat) (0 : Int)) then some false else some false else bif a0.1 == (2 : Int) then bif decide (a0.7 = List.replicate (8 : Nat) (0 : Int)) then some (decide (a0.3 = List.replicate (32 : Nat) (0 : Int))) else some false else bif decide (a0.3 = List.replicate (32 : Nat) (0 : Int)) then some false else some false
noncomputable def sp109 : FSpec Ty := spec ag109 rs109 F109
theorem bo109 : Tryd.f109.body = some (bodyOf Tryd.f109) := by kernel_rfl
theorem nd109 : nodupB ((loopsIn (bodyOf Tryd.f109)).map firstRegion) = true := by kernel_rfl
theorem ok109 : FOK Tryd.prog tab 109 sp109 := spec_ok (keeps := kp109) tabOK fs104OK Tryd.func109 bo109 (by kernel_rfl) nd109 (LSOK.none) (F := F109) fun k x => by kernel_rfl
noncomputable def fs109 : Nat → Option (FSpec Ty) := addF 109 sp109 fs104
theorem fs109OK : SpecsOK Tryd.prog tab fs109 := fs104OK.add ok109 Tryd.call109
def ag110 : Args Ty (Int × Unit) := V.arg (tab.den 3) (noArgs)
def rs110 : Res Ty tab (Bool) false := V.oneRes (tab.den 4) (ent 4).ids (ent 4).plain (fun x _ => (ent 4).flat x rfl)
def kp110 : Nat → Keep := fun i => ⟨[], [], 0⟩
/-- "silt/block.head" -/
def F110 (k : Nat) (x : Int × Unit) : Option (Bool) :=
  match x with
  | (a0, ()) => bif a0 == (0 : Int) then some true else bif a0 == (1 : Int) then some true else bif decide (a0 ≥ (4 : Int)) then some (decide (a0 ≤ (1023 : Int))) else some false
noncomputable def sp110 : FSpec Ty := spec ag110 rs110 F110
theorem bo110 : Tryd.f110.body = some (bodyOf Tryd.f110) := by kernel_rfl
theorem nd110 : nodupB ((loopsIn (bodyOf Tryd.f110)).map firstRegion) = true := by kernel_rfl
theorem ok110 : FOK Tryd.prog tab 110 sp110 := spec_ok (keeps := kp110) tabOK fs109OK Tryd.func110 bo110 (by kernel_rfl) nd110 (LSOK.none) (F := F110) fun k x => by kernel_rfl
noncomputable def fs110 : Nat → Option (FSpec Ty) := addF 110 sp110 fs109
theorem fs110OK : SpecsOK Tryd.prog tab fs110 := fs109OK.add ok110 Tryd.call110
def ag112 : Args Ty (Int × Unit) := V.arg (tab.den 3) (noArgs)
def rs112 : Res Ty tab (Bool) false := V.oneRes (tab.den 4) (ent 4).ids (ent 4).plain (fun x _ => (ent 4).flat x rfl)
def kp112 : Nat → Keep := fun i => ⟨[], [], 0⟩
/-- "silt/block.Good$1" -/
def F112 (k : Nat) (x : Int × Unit) : Option (Bool) :=
  match x with
  | (a0, ()) => (F110 k (a0, ())).bind fun r => some !r
noncomputable def sp112 : FSpec Ty := spec ag112 rs112 F112
theorem bo112 : Tryd.f112.body = some (bodyOf Tryd.f112) := by kernel_rfl
theorem nd112 : nodupB ((loopsIn (bodyOf Tryd.f112)).map firstRegion) = true := by kernel_rfl
theorem ok112 : FOK Tryd.prog tab 112 sp112 := spec_ok (keeps := kp112) tabOK fs110OK Tryd.func112 bo112 (by kernel_rfl) nd112 (LSOK.none) (F := F112) fun k x => by kernel_rfl
noncomputable def fs112 : Nat → Option (FSpec Ty) := addF 112 sp112 fs110
theorem fs112OK : SpecsOK Tryd.prog tab fs112 := fs110OK.add ok112 Tryd.call112
def ag115 : Args Ty ((List Int) × Unit × Unit) := V.arg (tab.den 42) (V.arg (tab.den 125) (noArgs))
def rs115 : Res Ty tab (Int) false := V.oneRes (tab.den 3) (ent 3).ids (ent 3).plain (fun x _ => (ent 3).flat x rfl)
def of115_2 : List Int × Int × Int → NSt Ty := fun x => ⟨[.slice 3 (x.1), .func 112, .int .i64 (x.2.1), .int .i64 (x.2.2)], []⟩
def ab115_2 : (n : NSt Ty) → Option {x : List Int × Int × Int // of115_2 x = n}
  | ⟨[.slice 3 v0, .func 112, .int .i64 v1, .int .i64 v2], []⟩ => some ⟨(v0, v1, v2), rfl⟩
  | _ => none
def on115_2a : Int → NSt Ty := fun x => ⟨[.int .i64 (x)], []⟩
def on115_2b : Unit → NSt Ty := fun x => ⟨[.undef], []⟩
def oa115_2 : (e : Ex) → (n : NSt Ty) → Option {y : (Int) ⊕ (Unit) // oe2 .ret (.exit 0) y = e ∧ on2 on115_2a on115_2b y = n}
  | .ret, ⟨[.int .i64 v0], []⟩ => some ⟨.inl v0, rfl, rfl⟩
  | .exit 0, ⟨[.undef], []⟩ => some ⟨.inr (), rfl, rfl⟩
  | _, _ => none
/-- a round of the loop 2 of function 115 -/
def R115_2 (k : Nat) (again : List Int × Int × Int → Option ((Int) ⊕ (Unit))) (x : List Int × Int × Int) : Option ((Int) ⊕ (Unit)) :=
  match x with
  | (v0, v1, v2) => bif decide (v2 < v1) then bif inRange v2 v0.length then (F112 k (v0.getD v2.toNat (0 : Int), ())).bind fun r => bif r then some (Sum.inl v2) else again (v0, v1, IntKind.i64.wrap (v2 + (1 : Int))) else none else some (Sum.inr ())
def L115_2 (k n : Nat) (x : List Int × Int × Int) : Option ((Int) ⊕ (Unit)) := iterR (R115_2 k) n x
noncomputable def ls115_2 : Nat → Option (LSum Ty) := addL 2 (lsum2 of115_2 ab115_2 L115_2 .ret on115_2a (.exit 0) on115_2b) noL
def kp115 : Nat → Keep := fun i => cond (i == 2) ⟨[0, 1, 7, 8], [4], 0⟩ (⟨[], [], 0⟩)
/-- "slices.IndexFunc[[]int,int]" -/
def F115 (k : Nat) (x : (List Int) × Unit × Unit) : Option (Int) :=
  match x with
  | (a0, a1, ()) => (L115_2 k k (a0, (↑a0.length : Int), (0 : Int))).bind fun r => sumK r (fun a => some a) fun b => some (-1 : Int)
noncomputable def sp115 : FSpec Ty := spec ag115 rs115 F115
theorem bo115 : Tryd.f115.body = some (bodyOf Tryd.f115) := by kernel_rfl
theorem nd115 : nodupB ((loopsIn (bodyOf Tryd.f115)).map firstRegion) = true := by kernel_rfl
theorem lo115_2 : LSOK fs112 kp115 tab Tryd.f115 ls115_2 := lsum2_ok bo115 nd115 (LSOK.none) oa115_2 (R := R115_2) fun k again x => by kernel_rfl
theorem ok115 : FOK Tryd.prog tab 115 sp115 := spec_ok (keeps := kp115) tabOK fs112OK Tryd.func115 bo115 (by kernel_rfl) nd115 (lo115_2) (F := F115) fun k x => by kernel_rfl
noncomputable def fs115 : Nat → Option (FSpec Ty) := addF 115 sp115 fs112
theorem fs115OK : SpecsOK Tryd.prog tab fs115 := fs112OK.add ok115 Tryd.call115
def ag111 : Args Ty ((List Int) × Unit × Unit) := V.arg (tab.den 42) (V.arg (tab.den 125) (noArgs))
def rs111 : Res Ty tab (Bool) false := V.oneRes (tab.den 4) (ent 4).ids (ent 4).plain (fun x _ => (ent 4).flat x rfl)
def kp111 : Nat → Keep := fun i => ⟨[], [], 0⟩
/-- "slices.ContainsFunc[[]int,int]" -/
def F111 (k : Nat) (x : (List Int) × Unit × Unit) : Option (Bool) :=
  match x with
  | (a0, a1, ()) => (F115 k (a0, (), ())).bind fun r => some (decide (r ≥ (0 : Int)))
noncomputable def sp111 : FSpec Ty := spec ag111 rs111 F111
theorem bo111 : Tryd.f111.body = some (bodyOf Tryd.f111) := by kernel_rfl
theorem nd111 : nodupB ((loopsIn (bodyOf Tryd.f111)).map firstRegion) = true := by kernel_rfl
theorem ok111 : FOK Tryd.prog tab 111 sp111 := spec_ok (keeps := kp111) tabOK fs115OK Tryd.func111 bo111 (by kernel_rfl) nd111 (LSOK.none) (F := F111) fun k x => by kernel_rfl
noncomputable def fs111 : Nat → Option (FSpec Ty) := addF 111 sp111 fs115
theorem fs111OK : SpecsOK Tryd.prog tab fs111 := fs115OK.add ok111 Tryd.call111
def ag105 : Args Ty (T78 × Unit) := V.arg (tab.den 79) (noArgs)
def rs105 : Res Ty tab (Bool) false := V.oneRes (tab.den 4) (ent 4).ids (ent 4).plain (fun x _ => (ent 4).flat x rfl)
def kp105 : Nat → Keep := fun i => ⟨[], [], 0⟩
/-- "silt/block.Good" -/
def F105 (k : Nat) (x : T78 × Unit) : Option (Bool) :=
  match x with
  | (a0, ()) => bif decide (a0.2 < (0 : Int)) then some false else (F109 k (T78.mk a0.1 a0.2 a0.3 a0.4 a0.5 a0.6 a0.7, ())).bind fun r => bif !r then some false else bif a0.1 == (2 : Int) then bif decide (a0.4 < (0 : Int)) then some false else bif decide ((↑a0.5.length : Int) < (1 : Int)) then some false else bif decide ((↑a0.5.length : Int) > (16 : Int)) then some false else bif decide (a0.4 > IntKind.i64.wrap ((32 : Int) - (↑a0.5.length : Int))) then some false else bif a0.6 == (0 : Int) then some false else (F110 k (a0.6, ())).bind fun r => bif !r then some false else some (decide (a0.2 < (64 : Int))) else bif a0.1 == (1 : Int) then some (decide (a0.2 < (64 : Int))) else bif a0.1 == (3 : Int) then bif decide (a0.2 < (8 : Int)) then (F111 k (List.take ((↑(8 : Nat) : Int) - (0 : Int)).toNat (List.drop (Int.toNat (0 : Int)) a0.7), (), ())).bind fun r => some !r else some false else some false
noncomputable def sp105 : FSpec Ty := spec ag105 rs105 F105
theorem bo105 : Tryd.f105.body = some (bodyOf Tryd.f105) := by kernel_rfl
theorem nd105 : nodupB ((loopsIn (bodyOf Tryd.f105)).map firstRegion) = true := by kernel_rfl
theorem ok105 : FOK Tryd.prog tab 105 sp105 := spec_ok (keeps := kp105) tabOK fs111OK Tryd.func105 bo105 (by kernel_rfl) nd105 (LSOK.none) (F := F105) fun k x => by kernel_rfl
noncomputable def fs105 : Nat → Option (FSpec Ty) := addF 105 sp105 fs111
theorem fs105OK : SpecsOK Tryd.prog tab fs105 := fs111OK.add ok105 Tryd.call105
def ag97 : Args Ty (T80 × Unit) := V.arg (tab.den 81) (noArgs)
def rs97 : Res Ty tab (Bool) false := V.oneRes (tab.den 4) (ent 4).ids (ent 4).plain (fun x _ => (ent 4).flat x rfl)
def kp97 : Nat → Keep := fun i => ⟨[], [], 0⟩
/-- "silt/group.fits" -/
def F97 (k : Nat) (x : T80 × Unit) : Option (Bool) :=
  match x with
  | (a0, ()) => (F100 k (a0.1.1, ())).bind fun r => bif !r then (F104 k (T78.mk a0.2.1 a0.2.2 a0.2.3 a0.2.4 a0.2.5 a0.2.6 a0.2.7, ())).bind fun r => some r else bif a0.2.1 == a0.1.1 then bif a0.2.2 == a0.1.2 then (F105 k (T78.mk a0.2.1 a0.2.2 a0.2.3 a0.2.4 a0.2.5 a0.2.6 a0.2.7, ())).bind fun r => some r else some false else some false
noncomputable def sp97 : FSpec Ty := spec ag97 rs97 F97
theorem bo97 : Tryd.f97.body = some (bodyOf Tryd.f97) := by kernel_rfl
theorem nd97 : nodupB ((loopsIn (bodyOf Tryd.f97)).map firstRegion) = true := by kernel_rfl
theorem ok97 : FOK Tryd.prog tab 97 sp97 := spec_ok (keeps := kp97) tabOK fs105OK Tryd.func97 bo97 (by kernel_rfl) nd97 (LSOK.none) (F := F97) fun k x => by kernel_rfl
noncomputable def fs97 : Nat → Option (FSpec Ty) := addF 97 sp97 fs105
theorem fs97OK : SpecsOK Tryd.prog tab fs97 := fs105OK.add ok97 Tryd.call97
def ag106 : Args Ty (T73 × Unit) := V.arg (tab.den 74) (noArgs)
def rs106 : Res Ty tab (Bool) false := V.oneRes (tab.den 4) (ent 4).ids (ent 4).plain (fun x _ => (ent 4).flat x rfl)
def kp106 : Nat → Keep := fun i => ⟨[], [], 0⟩
/-- "silt/summary.good" -/
def F106 (k : Nat) (x : T73 × Unit) : Option (Bool) :=
  match x with
  | (a0, ()) => bif a0.1 == (3 : Int) then bif decide (a0.2 ≥ (0 : Int)) then some (decide (a0.2 < (8 : Int))) else some false else bif a0.1 == (1 : Int) then bif decide (a0.2 ≥ (0 : Int)) then some (decide (a0.2 < (64 : Int))) else some false else bif a0.1 == (2 : Int) then bif decide (a0.2 ≥ (0 : Int)) then some (decide (a0.2 < (64 : Int))) else some false else bif a0.1 == (4 : Int) then bif decide (a0.2 ≥ (0 : Int)) then some (decide (a0.2 < (64 : Int))) else some false else bif a0.1 == (5 : Int) then bif decide (a0.2 ≥ (0 : Int)) then some (decide (a0.2 < (64 : Int))) else some false else some false
noncomputable def sp106 : FSpec Ty := spec ag106 rs106 F106
theorem bo106 : Tryd.f106.body = some (bodyOf Tryd.f106) := by kernel_rfl
theorem nd106 : nodupB ((loopsIn (bodyOf Tryd.f106)).map firstRegion) = true := by kernel_rfl
theorem ok106 : FOK Tryd.prog tab 106 sp106 := spec_ok (keeps := kp106) tabOK fs97OK Tryd.func106 bo106 (by kernel_rfl) nd106 (LSOK.none) (F := F106) fun k x => by kernel_rfl
noncomputable def fs106 : Nat → Option (FSpec Ty) := addF 106 sp106 fs97
theorem fs106OK : SpecsOK Tryd.prog tab fs106 := fs97OK.add ok106 Tryd.call106
def ag98 : Args Ty (T197 × Unit) := V.arg (tab.den 198) (noArgs)
def rs98 : Res Ty tab ((List Int) × Int × Unit) false := V.manyRes (V.part (tab.den 84) (ent 84).ids (ent 84).plain (fun x _ => (ent 84).flat x rfl) (V.part (tab.den 29) (ent 29).ids (ent 29).plain (fun x _ => (ent 29).flat x rfl) (noParts)))
def of98_7 : List T73 × Int × Int × List Int × List Int → NSt Ty := fun x => ⟨[.ptr 100000 [], .ptr 100001 [], .slice 74 (x.1), .int .i64 (x.2.1), .int .i64 (x.2.2.1)], [.var (.arr 5 64 (x.2.2.2.1)), .var (.arr 5 64 (x.2.2.2.2))]⟩
def ab98_7 : (n : NSt Ty) → Option {x : List T73 × Int × Int × List Int × List Int // of98_7 x = n}
  | ⟨[.ptr 100000 [], .ptr 100001 [], .slice 74 v0, .int .i64 v1, .int .i64 v2], [.var (.arr 5 64 v3), .var (.arr 5 64 v4)]⟩ => some ⟨(v0, v1, v2, v3, v4), rfl⟩
  | _ => none
def on98_7a : Int × List Int × List Int → NSt Ty := fun x => ⟨[.ptr 100000 [], .int .i64 (x.1), .ptr 100001 []], [.var (.arr 5 64 (x.2.1)), .var (.arr 5 64 (x.2.2))]⟩
def on98_7b : List Int × List Int → NSt Ty := fun x => ⟨[.ptr 100000 [], .undef, .ptr 100001 []], [.var (.arr 5 64 (x.1)), .var (.arr 5 64 (x.2))]⟩
def oa98_7 : (e : Ex) → (n : NSt Ty) → Option {y : (Int × List Int × List Int) ⊕ (List Int × List Int) // oe2 .ret (.exit 0) y = e ∧ on2 on98_7a on98_7b y = n}
  | .ret, ⟨[.ptr 100000 [], .int .i64 v0, .ptr 100001 []], [.var (.arr 5 64 v1), .var (.arr 5 64 v2)]⟩ => some ⟨.inl (v0, v1, v2), rfl, rfl⟩
  | .exit 0, ⟨[.ptr 100000 [], .undef, .ptr 100001 []], [.var (.arr 5 64 v0), .var (.arr 5 64 v1)]⟩ => some ⟨.inr (v0, v1), rfl, rfl⟩
  | _, _ => none
/-- a round of the loop 7 of function 98 -/
def R98_7 (k : Nat) (again : List T73 × Int × Int × List Int × List Int → Option ((Int × List Int × List Int) ⊕ (List Int × List Int))) (x : List T73 × Int × Int × List Int × List Int) : Option ((Int × List Int × List Int) ⊕ (List Int × List Int)) :=
  match x with
  | (v0, v1, v2, v3, v4) => bif decide (v2 < v1) then bif inRange v2 v0.length then (F106 k (T73.mk (v0.getD v2.toNat (T73.mk (0 : Int) (0 : Int))).1 (v0.getD v2.toNat (T73.mk (0 : Int) (0 : Int))).2, ())).bind fun r => bif !r then some (Sum.inl ((11 : Int), List.replicate (64 : Nat) (0 : Int), v4)) else bif inRange (IntKind.i64.wrap ((7 : Int) + IntKind.i64.wrap ((2 : Int) * v2))) (64 : Nat) then bif inRange (IntKind.i64.wrap (IntKind.i64.wrap ((7 : Int) + IntKind.i64.wrap ((2 : Int) * v2)) + (1 : Int))) (64 : Nat) then again (v0, v1, IntKind.i64.wrap (v2 + (1 : Int)), v3, (v4.set (IntKind.i64.wrap ((7 : Int) + IntKind.i64.wrap ((2 : Int) * v2))).toNat (IntKind.u8.wrap (v0.getD v2.toNat (T73.mk (0 : Int) (0 : Int))).1)).set (IntKind.i64.wrap (IntKind.i64.wrap ((7 : Int) + IntKind.i64.wrap ((2 : Int) * v2)) + (1 : Int))).toNat (IntKind.u8.wrap (v0.getD v2.toNat (T73.mk (0 : Int) (0 : Int))).2)) else none else none else none else some (Sum.inr (v3, v4))
def L98_7 (k n : Nat) (x : List T73 × Int × Int × List Int × List Int) : Option ((Int × List Int × List Int) ⊕ (List Int × List Int)) := iterR (R98_7 k) n x
noncomputable def ls98_7 : Nat → Option (LSum Ty) := addL 7 (lsum2 of98_7 ab98_7 L98_7 .ret on98_7a (.exit 0) on98_7b) noL
def kp98 : Nat → Keep := fun i => cond (i == 7) ⟨[2, 4, 42, 43, 44], [2, 3, 4], 0⟩ (⟨[], [], 0⟩)
/-- "silt/summary.Encode" -/
def F98 (k : Nat) (x : T197 × Unit) : Option ((List Int) × Int × Unit) :=
  match x with
  | (a0, ()) => bif decide ((↑a0.3.length : Int) < (1 : Int)) then some (List.replicate (64 : Nat) (0 : Int), (11 : Int), ()) else bif decide ((↑a0.3.length : Int) > (24 : Int)) then some (List.replicate (64 : Nat) (0 : Int), (11 : Int), ()) else bif a0.2 then (L98_7 k k (a0.3, (↑a0.3.length : Int), (0 : Int), List.replicate (64 : Nat) (0 : Int), ((((((((List.replicate (64 : Nat) (0 : Int)).set (0 : Nat) (83 : Int)).set (1 : Nat) (0 : Int)).set (2 : Nat) (IntKind.u8.wrap a0.1)).set (3 : Nat) (IntKind.u8.wrap (a0.1.fdiv ((2 : Int) ^ min (Int.toNat (8 : Int)) IntKind.u32.bits)))).set (4 : Nat) (IntKind.u8.wrap (a0.1.fdiv ((2 : Int) ^ min (Int.toNat (16 : Int)) IntKind.u32.bits)))).set (5 : Nat) (IntKind.u8.wrap (a0.1.fdiv ((2 : Int) ^ min (Int.toNat (24 : Int)) IntKind.u32.bits)))).set (6 : Nat) (IntKind.u8.wrap (↑a0.3.length : Int))).set (Int.toNat (1 : Int)) (1 : Int))).bind fun r => sumK r (fun a => some (a.snd.fst, a.fst, ())) fun b => some (b.snd, (0 : Int), ()) else (L98_7 k k (a0.3, (↑a0.3.length : Int), (0 : Int), List.replicate (64 : Nat) (0 : Int), (((((((List.replicate (64 : Nat) (0 : Int)).set (0 : Nat) (83 : Int)).set (1 : Nat) (0 : Int)).set (2 : Nat) (IntKind.u8.wrap a0.1)).set (3 : Nat) (IntKind.u8.wrap (a0.1.fdiv ((2 : Int) ^ min (Int.toNat (8 : Int)) IntKind.u32.bits)))).set (4 : Nat) (IntKind.u8.wrap (a0.1.fdiv ((2 : Int) ^ min (Int.toNat (16 : Int)) IntKind.u32.bits)))).set (5 : Nat) (IntKind.u8.wrap (a0.1.fdiv ((2 : Int) ^ min (Int.toNat (24 : Int)) IntKind.u32.bits)))).set (6 : Nat) (IntKind.u8.wrap (↑a0.3.length : Int)))).bind fun r => sumK r (fun a => some (a.snd.fst, a.fst, ())) fun b => some (b.snd, (0 : Int), ())
noncomputable def sp98 : FSpec Ty := spec ag98 rs98 F98
theorem bo98 : Tryd.f98.body = some (bodyOf Tryd.f98) := by kernel_rfl
theorem nd98 : nodupB ((loopsIn (bodyOf Tryd.f98)).map firstRegion) = true := by kernel_rfl
theorem lo98_7 : LSOK fs106 kp98 tab Tryd.f98 ls98_7 := lsum2_ok bo98 nd98 (LSOK.none) oa98_7 (R := R98_7) fun k again x => by kernel_rfl
theorem ok98 : FOK Tryd.prog tab 98 sp98 := spec_ok (keeps := kp98) tabOK fs106OK Tryd.func98 bo98 (by kernel_rfl) nd98 (lo98_7) (F := F98) fun k x => by kernel_rfl
noncomputable def fs98 : Nat → Option (FSpec Ty) := addF 98 sp98 fs106
theorem fs98OK : SpecsOK Tryd.prog tab fs98 := fs106OK.add ok98 Tryd.call98
def ag88 : Args Ty ((List T80) × Unit) := V.arg (tab.den 50) (noArgs)
def rs88 : Res Ty tab (Bool) false := V.oneRes (tab.den 4) (ent 4).ids (ent 4).plain (fun x _ => (ent 4).flat x rfl)
def of88_5 : List T80 × Int × Int × List Int → NSt Ty := fun x => ⟨[.mapp 100000, .slice 81 (x.1), .int .i64 (x.2.1), .int .i64 (x.2.2.1)], [.map (x.2.2.2)]⟩
def ab88_5 : (n : NSt Ty) → Option {x : List T80 × Int × Int × List Int // of88_5 x = n}
  | ⟨[.mapp 100000, .slice 81 v0, .int .i64 v1, .int .i64 v2], [.map v3]⟩ => some ⟨(v0, v1, v2, v3), rfl⟩
  | _ => none
def on88_5a : Bool → NSt Ty := fun x => ⟨[.bool (x)], []⟩
def on88_5b : Unit → NSt Ty := fun x => ⟨[.undef], []⟩
def oa88_5 : (e : Ex) → (n : NSt Ty) → Option {y : (Bool) ⊕ (Unit) // oe2 .ret (.exit 0) y = e ∧ on2 on88_5a on88_5b y = n}
  | .ret, ⟨[.bool v0], []⟩ => some ⟨.inl v0, rfl, rfl⟩
  | .exit 0, ⟨[.undef], []⟩ => some ⟨.inr (), rfl, rfl⟩
  | _, _ => none
/-- a round of the loop 5 of function 88 -/
def R88_5 (k : Nat) (again : List T80 × Int × Int × List Int → Option ((Bool) ⊕ (Unit))) (x : List T80 × Int × Int × List Int) : Option ((Bool) ⊕ (Unit)) :=
  match x with
  | (v0, v1, v2, v3) => bif decide (v2 < v1) then bif inRange v2 v0.length then (F96 k (T73.mk (v0.getD v2.toNat (T80.mk (T73.mk (0 : Int) (0 : Int)) (T78.mk (0 : Int) (0 : Int) (List.replicate (32 : Nat) (0 : Int)) (0 : Int) [] (0 : Int) (List.replicate (8 : Nat) (0 : Int))))).1.1 (v0.getD v2.toNat (T80.mk (T73.mk (0 : Int) (0 : Int)) (T78.mk (0 : Int) (0 : Int) (List.replicate (32 : Nat) (0 : Int)) (0 : Int) [] (0 : Int) (List.replicate (8 : Nat) (0 : Int))))).1.2, ())).bind fun r => bif v3.contains r then some (Sum.inl false) else (F97 k (T80.mk (T73.mk (v0.getD v2.toNat (T80.mk (T73.mk (0 : Int) (0 : Int)) (T78.mk (0 : Int) (0 : Int) (List.replicate (32 : Nat) (0 : Int)) (0 : Int) [] (0 : Int) (List.replicate (8 : Nat) (0 : Int))))).1.1 (v0.getD v2.toNat (T80.mk (T73.mk (0 : Int) (0 : Int)) (T78.mk (0 : Int) (0 : Int) (List.replicate (32 : Nat) (0 : Int)) (0 : Int) [] (0 : Int) (List.replicate (8 : Nat) (0 : Int))))).1.2) (T78.mk (v0.getD v2.toNat (T80.mk (T73.mk (0 : Int) (0 : Int)) (T78.mk (0 : Int) (0 : Int) (List.replicate (32 : Nat) (0 : Int)) (0 : Int) [] (0 : Int) (List.replicate (8 : Nat) (0 : Int))))).2.1 (v0.getD v2.toNat (T80.mk (T73.mk (0 : Int) (0 : Int)) (T78.mk (0 : Int) (0 : Int) (List.replicate (32 : Nat) (0 : Int)) (0 : Int) [] (0 : Int) (List.replicate (8 : Nat) (0 : Int))))).2.2 (v0.getD v2.toNat (T80.mk (T73.mk (0 : Int) (0 : Int)) (T78.mk (0 : Int) (0 : Int) (List.replicate (32 : Nat) (0 : Int)) (0 : Int) [] (0 : Int) (List.replicate (8 : Nat) (0 : Int))))).2.3 (v0.getD v2.toNat (T80.mk (T73.mk (0 : Int) (0 : Int)) (T78.mk (0 : Int) (0 : Int) (List.replicate (32 : Nat) (0 : Int)) (0 : Int) [] (0 : Int) (List.replicate (8 : Nat) (0 : Int))))).2.4 (v0.getD v2.toNat (T80.mk (T73.mk (0 : Int) (0 : Int)) (T78.mk (0 : Int) (0 : Int) (List.replicate (32 : Nat) (0 : Int)) (0 : Int) [] (0 : Int) (List.replicate (8 : Nat) (0 : Int))))).2.5 (v0.getD v2.toNat (T80.mk (T73.mk (0 : Int) (0 : Int)) (T78.mk (0 : Int) (0 : Int) (List.replicate (32 : Nat) (0 : Int)) (0 : Int) [] (0 : Int) (List.replicate (8 : Nat) (0 : Int))))).2.6 (v0.getD v2.toNat (T80.mk (T73.mk (0 : Int) (0 : Int)) (T78.mk (0 : Int) (0 : Int) (List.replicate (32 : Nat) (0 : Int)) (0 : Int) [] (0 : Int) (List.replicate (8 : Nat) (0 : Int))))).2.7), ())).bind fun r => bif !r then some (Sum.inl false) else (F96 k (T73.mk (v0.getD v2.toNat (T80.mk (T73.mk (0 : Int) (0 : Int)) (T78.mk (0 : Int) (0 : Int) (List.replicate (32 : Nat) (0 : Int)) (0 : Int) [] (0 : Int) (List.replicate (8 : Nat) (0 : Int))))).1.1 (v0.getD v2.toNat (T80.mk (T73.mk (0 : Int) (0 : Int)) (T78.mk (0 : Int) (0 : Int) (List.replicate (32 : Nat) (0 : Int)) (0 : Int) [] (0 : Int) (List.replicate (8 : Nat) (0 : Int))))).1.2, ())).bind fun r => (F98 k (T197.mk (0 : Int) false ((List.replicate (1 : Nat) (T73.mk (0 : Int) (0 : Int))).set (0 : Nat) (T73.mk (v0.getD v2.toNat (T80.mk (T73.mk (0 : Int) (0 : Int)) (T78.mk (0 : Int) (0 : Int) (List.replicate (32 : Nat) (0 : Int)) (0 : Int) [] (0 : Int) (List.replicate (8 : Nat) (0 : Int))))).1.1 (v0.getD v2.toNat (T80.mk (T73.mk (0 : Int) (0 : Int)) (T78.mk (0 : Int) (0 : Int) (List.replicate (32 : Nat) (0 : Int)) (0 : Int) [] (0 : Int) (List.replicate (8 : Nat) (0 : Int))))).1.2)), ())).bind fun r_1 => bif r_1.snd.fst != (0 : Int) then some (Sum.inl false) else again (v0, v1, IntKind.i64.wrap (v2 + (1 : Int)), bif v3.contains r then v3 else v3 ++ [r]) else none else some (Sum.inr ())
def L88_5 (k n : Nat) (x : List T80 × Int × Int × List Int) : Option ((Bool) ⊕ (Unit)) := iterR (R88_5 k) n x
noncomputable def ls88_5 : Nat → Option (LSum Ty) := addL 5 (lsum2 of88_5 ab88_5 L88_5 .ret on88_5a (.exit 0) on88_5b) noL
def kp88 : Nat → Keep := fun i => cond (i == 5) ⟨[3, 19, 20, 21], [2], 0⟩ (⟨[], [], 0⟩)
/-- "silt/group.good" -/
def F88 (k : Nat) (x : (List T80) × Unit) : Option (Bool) :=
  match x with
  | (a0, ()) => bif decide ((↑a0.length : Int) < (1 : Int)) then some false else bif decide ((↑a0.length : Int) > (64 : Int)) then some false else (L88_5 k k (a0, (↑a0.length : Int), (0 : Int), [])).bind fun r => sumK r (fun a => some a) fun b => some true
noncomputable def sp88 : FSpec Ty := spec ag88 rs88 F88
theorem bo88 : Tryd.f88.body = some (bodyOf Tryd.f88) := by kernel_rfl
theorem nd88 : nodupB ((loopsIn (bodyOf Tryd.f88)).map firstRegion) = true := by kernel_rfl
theorem lo88_5 : LSOK fs98 kp88 tab Tryd.f88 ls88_5 := lsum2_ok bo88 nd88 (LSOK.none) oa88_5 (R := R88_5) fun k again x => by kernel_rfl
theorem ok88 : FOK Tryd.prog tab 88 sp88 := spec_ok (keeps := kp88) tabOK fs98OK Tryd.func88 bo88 (by kernel_rfl) nd88 (lo88_5) (F := F88) fun k x => by kernel_rfl
noncomputable def fs88 : Nat → Option (FSpec Ty) := addF 88 sp88 fs98
theorem fs88OK : SpecsOK Tryd.prog tab fs88 := fs98OK.add ok88 Tryd.call88
def ag99 : Args Ty ((List T80) × Unit) := V.arg (tab.den 50) (noArgs)
def rs99 : Res Ty tab ((List T73)) true := V.oneRes (tab.den 196) (ent 196).ids (ent 196).plain (fun _ h => by cases h)
def of99_3 : List T80 × Int × Int × List T73 → NSt Ty := fun x => ⟨[.row 100000, .slice 81 (x.1), .int .i64 (x.2.1), .int .i64 (x.2.2.1)], [.row 74 (x.2.2.2)]⟩
def ab99_3 : (n : NSt Ty) → Option {x : List T80 × Int × Int × List T73 // of99_3 x = n}
  | ⟨[.row 100000, .slice 81 v0, .int .i64 v1, .int .i64 v2], [.row 74 v3]⟩ => some ⟨(v0, v1, v2, v3), rfl⟩
  | _ => none
def oe99_3 : List T73 → Ex := fun _ => .exit 0
def on99_3 : List T73 → NSt Ty := fun x => ⟨[.row 100000], [.row 74 (x)]⟩
def oa99_3 : (e : Ex) → (n : NSt Ty) → Option {y : List T73 // oe99_3 y = e ∧ on99_3 y = n}
  | .exit 0, ⟨[.row 100000], [.row 74 v0]⟩ => some ⟨v0, rfl, rfl⟩
  | _, _ => none
/-- a round of the loop 3 of function 99 -/
def R99_3 (k : Nat) (again : List T80 × Int × Int × List T73 → Option (List T73)) (x : List T80 × Int × Int × List T73) : Option (List T73) :=
  match x with
  | (v0, v1, v2, v3) => bif decide (v2 < v1) then bif inRange v2 v0.length then bif decide (v3.length + ((List.replicate (1 : Nat) (T73.mk (0 : Int) (0 : Int))).set (0 : Nat) (T73.mk (v0.getD v2.toNat (T80.mk (T73.mk (0 : Int) (0 : Int)) (T78.mk (0 : Int) (0 : Int) (List.replicate (32 : Nat) (0 : Int)) (0 : Int) [] (0 : Int) (List.replicate (8 : Nat) (0 : Int))))).1.1 (v0.getD v2.toNat (T80.mk (T73.mk (0 : Int) (0 : Int)) (T78.mk (0 : Int) (0 : Int) (List.replicate (32 : Nat) (0 : Int)) (0 : Int) [] (0 : Int) (List.replicate (8 : Nat) (0 : Int))))).1.2)).length ≤ roomMost) then again (v0, v1, IntKind.i64.wrap (v2 + (1 : Int)), v3 ++ (List.replicate (1 : Nat) (T73.mk (0 : Int) (0 : Int))).set (0 : Nat) (T73.mk (v0.getD v2.toNat (T80.mk (T73.mk (0 : Int) (0 : Int)) (T78.mk (0 : Int) (0 : Int) (List.replicate (32 : Nat) (0 : Int)) (0 : Int) [] (0 : Int) (List.replicate (8 : Nat) (0 : Int))))).1.1 (v0.getD v2.toNat (T80.mk (T73.mk (0 : Int) (0 : Int)) (T78.mk (0 : Int) (0 : Int) (List.replicate (32 : Nat) (0 : Int)) (0 : Int) [] (0 : Int) (List.replicate (8 : Nat) (0 : Int))))).1.2)) else none else none else some v3
def L99_3 (k n : Nat) (x : List T80 × Int × Int × List T73) : Option (List T73) := iterR (R99_3 k) n x
noncomputable def ls99_3 : Nat → Option (LSum Ty) := addL 3 (LSum.of of99_3 ab99_3 L99_3 oe99_3 on99_3) noL
def kp99 : Nat → Keep := fun i => cond (i == 3) ⟨[3, 6, 7, 8], [3], 0⟩ (⟨[], [], 0⟩)
/-- "silt/group.marks" -/
def F99 (k : Nat) (x : (List T80) × Unit) : Option ((List T73)) :=
  match x with
  | (a0, ()) => (L99_3 k k (a0, (↑a0.length : Int), (0 : Int), [])).bind fun r => some r
noncomputable def sp99 : FSpec Ty := spec ag99 rs99 F99
theorem bo99 : Tryd.f99.body = some (bodyOf Tryd.f99) := by kernel_rfl
theorem nd99 : nodupB ((loopsIn (bodyOf Tryd.f99)).map firstRegion) = true := by kernel_rfl
theorem lo99_3 : LSOK fs88 kp99 tab Tryd.f99 ls99_3 := lsum_ok bo99 nd99 (LSOK.none) oa99_3 (R := R99_3) fun k again x => by kernel_rfl
theorem ok99 : FOK Tryd.prog tab 99 sp99 := spec_ok (keeps := kp99) tabOK fs88OK Tryd.func99 bo99 (by kernel_rfl) nd99 (lo99_3) (F := F99) fun k x => by kernel_rfl
noncomputable def fs99 : Nat → Option (FSpec Ty) := addF 99 sp99 fs88
theorem fs99OK : SpecsOK Tryd.prog tab fs99 := fs88OK.add ok99 Tryd.call99
def ag101 : Args Ty (T78 × Int × Unit) := V.arg (tab.den 79) (V.arg (tab.den 22) (noArgs))
def rs101 : Res Ty tab ((List Int) × Int × Unit) false := V.manyRes (V.part (tab.den 84) (ent 84).ids (ent 84).plain (fun x _ => (ent 84).flat x rfl) (V.part (tab.den 29) (ent 29).ids (ent 29).plain (fun x _ => (ent 29).flat x rfl) (noParts)))
def of101_13 : List Int × Int × List Int × List Int → NSt Ty := fun x => ⟨[.ptr 100000 [], .ptr 100001 [], .arr 3 8 (x.1), .int .i64 (x.2.1)], [.var (.arr 5 64 (x.2.2.1)), .var (.arr 5 64 (x.2.2.2))]⟩
def ab101_13 : (n : NSt Ty) → Option {x : List Int × Int × List Int × List Int // of101_13 x = n}
  | ⟨[.ptr 100000 [], .ptr 100001 [], .arr 3 8 v0, .int .i64 v1], [.var (.arr 5 64 v2), .var (.arr 5 64 v3)]⟩ => some ⟨(v0, v1, v2, v3), rfl⟩
  | _ => none
def oe101_13 : List Int × List Int → Ex := fun _ => .exit 1
def on101_13 : List Int × List Int → NSt Ty := fun x => ⟨[.ptr 100000 [], .ptr 100001 []], [.var (.arr 5 64 (x.1)), .var (.arr 5 64 (x.2))]⟩
def oa101_13 : (e : Ex) → (n : NSt Ty) → Option {y : List Int × List Int // oe101_13 y = e ∧ on101_13 y = n}
  | .exit 1, ⟨[.ptr 100000 [], .ptr 100001 []], [.var (.arr 5 64 v0), .var (.arr 5 64 v1)]⟩ => some ⟨(v0, v1), rfl, rfl⟩
  | _, _ => none
/-- a round of the loop 13 of function 101 -/
def R101_13 (k : Nat) (again : List Int × Int × List Int × List Int → Option (List Int × List Int)) (x : List Int × Int × List Int × List Int) : Option (List Int × List Int) :=
  match x with
  | (v0, v1, v2, v3) => bif decide (v1 < (8 : Int)) then bif inRange v1 (8 : Nat) then bif inRange (IntKind.i64.wrap ((6 : Int) + IntKind.i64.wrap ((2 : Int) * v1))) (64 : Nat) then bif inRange (IntKind.i64.wrap (IntKind.i64.wrap ((6 : Int) + IntKind.i64.wrap ((2 : Int) * v1)) + (1 : Int))) (64 : Nat) then again (v0, IntKind.i64.wrap (v1 + (1 : Int)), v2, (v3.set (IntKind.i64.wrap ((6 : Int) + IntKind.i64.wrap ((2 : Int) * v1))).toNat (IntKind.u8.wrap (v0.getD v1.toNat (0 : Int)))).set (IntKind.i64.wrap (IntKind.i64.wrap ((6 : Int) + IntKind.i64.wrap ((2 : Int) * v1)) + (1 : Int))).toNat (IntKind.u8.wrap (Int.fdiv (v0.getD v1.toNat (0 : Int)) ((2 : Int) ^ min (Int.toNat (8 : Int)) IntKind.i64.bits)))) else none else none else none else some (v2, v3)
def L101_13 (k n : Nat) (x : List Int × Int × List Int × List Int) : Option (List Int × List Int) := iterR (R101_13 k) n x
noncomputable def ls101_13 : Nat → Option (LSum Ty) := addL 13 (LSum.of of101_13 ab101_13 L101_13 oe101_13 on101_13) noL
def kp101 : Nat → Keep := fun i => cond (i == 13) ⟨[4, 6, 66, 67], [4, 6], 0⟩ (⟨[], [], 0⟩)
/-- "silt/block.Encode" -/
def F101 (k : Nat) (x : T78 × Int × Unit) : Option ((List Int) × Int × Unit) :=
  match x with
  | (a0, a1, ()) => (F105 k (T78.mk a0.1 a0.2 a0.3 a0.4 a0.5 a0.6 a0.7, ())).bind fun r => bif !r then some (List.replicate (64 : Nat) (0 : Int), (11 : Int), ()) else bif a0.1 == (1 : Int) then some (splice (((((((List.replicate (64 : Nat) (0 : Int)).set (0 : Nat) (IntKind.u8.wrap a0.1)).set (1 : Nat) (IntKind.u8.wrap a0.2)).set (2 : Nat) (IntKind.u8.wrap a1)).set (3 : Nat) (IntKind.u8.wrap (a1.fdiv ((2 : Int) ^ min (Int.toNat (8 : Int)) IntKind.u32.bits)))).set (4 : Nat) (IntKind.u8.wrap (a1.fdiv ((2 : Int) ^ min (Int.toNat (16 : Int)) IntKind.u32.bits)))).set (5 : Nat) (IntKind.u8.wrap (a1.fdiv ((2 : Int) ^ min (Int.toNat (24 : Int)) IntKind.u32.bits)))) (List.take ((↑(32 : Nat) : Int) - (0 : Int)).toNat (List.drop (Int.toNat (0 : Int)) a0.3)) (Int.toNat (6 : Int)) (min (List.take ((↑(32 : Nat) : Int) - (0 : Int)).toNat (List.drop (Int.toNat (0 : Int)) a0.3)).length ((↑(64 : Nat) : Int) - (6 : Int)).toNat), (0 : Int), ()) else bif a0.1 == (2 : Int) then some (((splice (((((((((List.replicate (64 : Nat) (0 : Int)).set (0 : Nat) (IntKind.u8.wrap a0.1)).set (1 : Nat) (IntKind.u8.wrap a0.2)).set (2 : Nat) (IntKind.u8.wrap a1)).set (3 : Nat) (IntKind.u8.wrap (a1.fdiv ((2 : Int) ^ min (Int.toNat (8 : Int)) IntKind.u32.bits)))).set (4 : Nat) (IntKind.u8.wrap (a1.fdiv ((2 : Int) ^ min (Int.toNat (16 : Int)) IntKind.u32.bits)))).set (5 : Nat) (IntKind.u8.wrap (a1.fdiv ((2 : Int) ^ min (Int.toNat (24 : Int)) IntKind.u32.bits)))).set (Int.toNat (6 : Int)) (IntKind.u8.wrap a0.4)).set (Int.toNat (7 : Int)) (IntKind.u8.wrap (↑a0.5.length : Int))) a0.5 (Int.toNat (8 : Int)) (min a0.5.length ((↑(64 : Nat) : Int) - (8 : Int)).toNat)).set (Int.toNat (24 : Int)) (IntKind.u8.wrap a0.6)).set (Int.toNat (25 : Int)) (IntKind.u8.wrap (a0.6.fdiv ((2 : Int) ^ min (Int.toNat (8 : Int)) IntKind.i64.bits))), (0 : Int), ()) else bif a0.1 == (3 : Int) then (L101_13 k k (a0.7, (0 : Int), List.replicate (64 : Nat) (0 : Int), ((((((List.replicate (64 : Nat) (0 : Int)).set (0 : Nat) (IntKind.u8.wrap a0.1)).set (1 : Nat) (IntKind.u8.wrap a0.2)).set (2 : Nat) (IntKind.u8.wrap a1)).set (3 : Nat) (IntKind.u8.wrap (a1.fdiv ((2 : Int) ^ min (Int.toNat (8 : Int)) IntKind.u32.bits)))).set (4 : Nat) (IntKind.u8.wrap (a1.fdiv ((2 : Int) ^ min (Int.toNat (16 : Int)) IntKind.u32.bits)))).set (5 : Nat) (IntKind.u8.wrap (a1.fdiv ((2 : Int) ^ min (Int.toNat (24 : Int)) IntKind.u32.bits))))).bind fun r => some (r.snd, (0 : Int), ()) else some (((((((List.replicate (64 : Nat) (0 : Int)).set (0 : Nat) (IntKind.u8.wrap a0.1)).set (1 : Nat) (IntKind.u8.wrap a0.2)).set (2 : Nat) (IntKind.u8.wrap a1)).set (3 : Nat) (IntKind.u8.wrap (a1.fdiv ((2 : Int) ^ min (Int.toNat (8 : Int)) IntKind.u32.bits)))).set (4 : Nat) (IntKind.u8.wrap (a1.fdiv ((2 : Int) ^ min (Int.toNat (16 : Int)) IntKind.u32.bits)))).set (5 : Nat) (IntKind.u8.wrap (a1.fdiv ((2 : Int) ^ min (Int.toNat (24 : Int)) IntKind.u32.bits))), (0 : Int), ())
noncomputable def sp101 : FSpec Ty := spec ag101 rs101 F101
theorem bo101 : Tryd.f101.body = some (bodyOf Tryd.f101) := by kernel_rfl
theorem nd101 : nodupB ((loopsIn (bodyOf Tryd.f101)).map firstRegion) = true := by kernel_rfl
theorem lo101_13 : LSOK fs99 kp101 tab Tryd.f101 ls101_13 := lsum_ok bo101 nd101 (LSOK.none) oa101_13 (R := R101_13) fun k again x => by kernel_rfl
theorem ok101 : FOK Tryd.prog tab 101 sp101 := spec_ok (keeps := kp101) tabOK fs99OK Tryd.func101 bo101 (by kernel_rfl) nd101 (lo101_13) (F := F101) fun k x => by kernel_rfl
noncomputable def fs101 : Nat → Option (FSpec Ty) := addF 101 sp101 fs99
theorem fs101OK : SpecsOK Tryd.prog tab fs101 := fs99OK.add ok101 Tryd.call101
def ag89 : Args Ty (Int × Bool × (List T80) × Unit) := V.arg (tab.den 22) (V.arg (tab.den 4) (V.arg (tab.den 50) (noArgs)))
def rs89 : Res Ty tab ((List (List Int)) × (List Int) × Int × Unit) true := V.manyRes (V.part (tab.den 101) (ent 101).ids (ent 101).plain (fun _ h => by cases h) (V.part (tab.den 42) (ent 42).ids (ent 42).plain (fun _ h => by cases h) (V.part (tab.den 29) (ent 29).ids (ent 29).plain (fun _ h => by cases h) (noParts))))
def of89_7 : Int × List T80 × Int × Int × List (List Int) × List Int → NSt Ty := fun x => ⟨[.int .u32 (x.1), .row 100000, .row 100001, .slice 81 (x.2.1), .int .i64 (x.2.2.1), .int .i64 (x.2.2.2.1)], [.row 84 (x.2.2.2.2.1), .row 3 (x.2.2.2.2.2)]⟩
def ab89_7 : (n : NSt Ty) → Option {x : Int × List T80 × Int × Int × List (List Int) × List Int // of89_7 x = n}
  | ⟨[.int .u32 v0, .row 100000, .row 100001, .slice 81 v1, .int .i64 v2, .int .i64 v3], [.row 84 v4, .row 3 v5]⟩ => some ⟨(v0, v1, v2, v3, v4, v5), rfl⟩
  | _ => none
def on89_7a : Int × List (List Int) × List Int × List (List Int) × List Int → NSt Ty := fun x => ⟨[.row 100000, .row 100001, .int .i64 (x.1), .row 100002, .row 100003], [.row 84 (x.2.1), .row 3 (x.2.2.1), .row 84 (x.2.2.2.1), .row 3 (x.2.2.2.2)]⟩
def on89_7b : List (List Int) × List Int → NSt Ty := fun x => ⟨[.undef, .undef, .undef, .row 100000, .row 100001], [.row 84 (x.1), .row 3 (x.2)]⟩
def oa89_7 : (e : Ex) → (n : NSt Ty) → Option {y : (Int × List (List Int) × List Int × List (List Int) × List Int) ⊕ (List (List Int) × List Int) // oe2 .ret (.exit 0) y = e ∧ on2 on89_7a on89_7b y = n}
  | .ret, ⟨[.row 100000, .row 100001, .int .i64 v0, .row 100002, .row 100003], [.row 84 v1, .row 3 v2, .row 84 v3, .row 3 v4]⟩ => some ⟨.inl (v0, v1, v2, v3, v4), rfl, rfl⟩
  | .exit 0, ⟨[.undef, .undef, .undef, .row 100000, .row 100001], [.row 84 v0, .row 3 v1]⟩ => some ⟨.inr (v0, v1), rfl, rfl⟩
  | _, _ => none
/-- a round of the loop 7 of function 89 -/
def R89_7 (k : Nat) (again : Int × List T80 × Int × Int × List (List Int) × List Int → Option ((Int × List (List Int) × List Int × List (List Int) × List Int) ⊕ (List (List Int) × List Int))) (x : Int × List T80 × Int × Int × List (List Int) × List Int) : Option ((Int × List (List Int) × List Int × List (List Int) × List Int) ⊕ (List (List Int) × List Int)) :=
  match x with
  | (v0, v1, v2, v3, v4, v5) => bif decide (v3 < v2) then bif inRange v3 v1.length then (F100 k ((v1.getD v3.toNat (T80.mk (T73.mk (0 : Int) (0 : Int)) (T78.mk (0 : Int) (0 : Int) (List.replicate (32 : Nat) (0 : Int)) (0 : Int) [] (0 : Int) (List.replicate (8 : Nat) (0 : Int))))).1.1, ())).bind fun r => bif !r then bif decide (v5.length + ((List.replicate (1 : Nat) (0 : Int)).set (0 : Nat) (-1 : Int)).length ≤ roomMost) then again (v0, v1, v2, IntKind.i64.wrap (v3 + (1 : Int)), v4, v5 ++ (List.replicate (1 : Nat) (0 : Int)).set (0 : Nat) (-1 : Int)) else none else (F101 k (T78.mk (v1.getD v3.toNat (T80.mk (T73.mk (0 : Int) (0 : Int)) (T78.mk (0 : Int) (0 : Int) (List.replicate (32 : Nat) (0 : Int)) (0 : Int) [] (0 : Int) (List.replicate (8 : Nat) (0 : Int))))).2.1 (v1.getD v3.toNat (T80.mk (T73.mk (0 : Int) (0 : Int)) (T78.mk (0 : Int) (0 : Int) (List.replicate (32 : Nat) (0 : Int)) (0 : Int) [] (0 : Int) (List.replicate (8 : Nat) (0 : Int))))).2.2 (v1.getD v3.toNat (T80.mk (T73.mk (0 : Int) (0 : Int)) (T78.mk (0 : Int) (0 : Int) (List.replicate (32 : Nat) (0 : Int)) (0 : Int) [] (0 : Int) (List.replicate (8 : Nat) (0 : Int))))).2.3 (v1.getD v3.toNat (T80.mk (T73.mk (0 : Int) (0 : Int)) (T78.mk (0 : Int) (0 : Int) (List.replicate (32 : Nat) (0 : Int)) (0 : Int) [] (0 : Int) (List.replicate (8 : Nat) (0 : Int))))).2.4 (v1.getD v3.toNat (T80.mk (T73.mk (0 : Int) (0 : Int)) (T78.mk (0 : Int) (0 : Int) (List.replicate (32 : Nat) (0 : Int)) (0 : Int) [] (0 : Int) (List.replicate (8 : Nat) (0 : Int))))).2.5 (v1.getD v3.toNat (T80.mk (T73.mk (0 : Int) (0 : Int)) (T78.mk (0 : Int) (0 : Int) (List.replicate (32 : Nat) (0 : Int)) (0 : Int) [] (0 : Int) (List.replicate (8 : Nat) (0 : Int))))).2.6 (v1.getD v3.toNat (T80.mk (T73.mk (0 : Int) (0 : Int)) (T78.mk (0 : Int) (0 : Int) (List.replicate (32 : Nat) (0 : Int)) (0 : Int) [] (0 : Int) (List.replicate (8 : Nat) (0 : Int))))).2.7, v0, ())).bind fun r => bif r.snd.fst != (0 : Int) then some (Sum.inl (r.snd.fst, [], [], v4, v5)) else bif decide (v5.length + ((List.replicate (1 : Nat) (0 : Int)).set (0 : Nat) (↑v4.length : Int)).length ≤ roomMost) then bif decide (v4.length + ((List.replicate (1 : Nat) (List.replicate (64 : Nat) (0 : Int))).set (0 : Nat) r.fst).length ≤ roomMost) then again (v0, v1, v2, IntKind.i64.wrap (v3 + (1 : Int)), v4 ++ (List.replicate (1 : Nat) (List.replicate (64 : Nat) (0 : Int))).set (0 : Nat) r.fst, v5 ++ (List.replicate (1 : Nat) (0 : Int)).set (0 : Nat) (↑v4.length : Int)) else none else none else none else some (Sum.inr (v4, v5))
def L89_7 (k n : Nat) (x : Int × List T80 × Int × Int × List (List Int) × List Int) : Option ((Int × List (List Int) × List Int × List (List Int) × List Int) ⊕ (List (List Int) × List Int)) := iterR (R89_7 k) n x
noncomputable def ls89_7 : Nat → Option (LSum Ty) := addL 7 (lsum2 of89_7 ab89_7 L89_7 .ret on89_7a (.exit 0) on89_7b) noL
def kp89 : Nat → Keep := fun i => cond (i == 7) ⟨[0, 11, 12, 31, 32, 33], [6, 7, 8, 11, 12], 0⟩ (⟨[], [], 0⟩)
/-- "silt/group.part" -/
def F89 (k : Nat) (x : Int × Bool × (List T80) × Unit) : Option ((List (List Int)) × (List Int) × Int × Unit) :=
  match x with
  | (a0, a1, a2, ()) => (F99 k (a2, ())).bind fun r => (F98 k (T197.mk a0 a1 r, ())).bind fun r => bif r.snd.fst != (0 : Int) then some ([], [], r.snd.fst, ()) else (L89_7 k k (a0, a2, (↑a2.length : Int), (0 : Int), (List.replicate (1 : Nat) (List.replicate (64 : Nat) (0 : Int))).set (0 : Nat) r.fst, [])).bind fun r => sumK r (fun a => some (a.snd.fst, a.snd.snd.fst, a.fst, ())) fun b => some (b.fst, b.snd, (0 : Int), ())
noncomputable def sp89 : FSpec Ty := spec ag89 rs89 F89
theorem bo89 : Tryd.f89.body = some (bodyOf Tryd.f89) := by kernel_rfl
theorem nd89 : nodupB ((loopsIn (bodyOf Tryd.f89)).map firstRegion) = true := by kernel_rfl
theorem lo89_7 : LSOK fs101 kp89 tab Tryd.f89 ls89_7 := lsum2_ok bo89 nd89 (LSOK.none) oa89_7 (R := R89_7) fun k again x => by kernel_rfl
theorem ok89 : FOK Tryd.prog tab 89 sp89 := spec_ok (keeps := kp89) tabOK fs101OK Tryd.func89 bo89 (by kernel_rfl) nd89 (lo89_7) (F := F89) fun k x => by kernel_rfl
noncomputable def fs89 : Nat → Option (FSpec Ty) := addF 89 sp89 fs101
theorem fs89OK : SpecsOK Tryd.prog tab fs89 := fs101OK.add ok89 Tryd.call89
def ag73 : Args Ty (Int × (List T80) × Unit) := V.arg (tab.den 22) (V.arg (tab.den 50) (noArgs))
def rs73 : Res Ty tab ((List (List Int)) × (List Int) × Int × Unit) true := V.manyRes (V.part (tab.den 101) (ent 101).ids (ent 101).plain (fun _ h => by cases h) (V.part (tab.den 42) (ent 42).ids (ent 42).plain (fun _ h => by cases h) (V.part (tab.den 29) (ent 29).ids (ent 29).plain (fun _ h => by cases h) (noParts))))
def of73_11 : Int × List T80 × Int × List (List Int) × List Int × Int × Int × List (List Int) × List Int → NSt Ty := fun x => ⟨[.int .u32 (x.1), .slice 81 (x.2.1), .row 100000, .row 100001, .int .i64 (x.2.2.1), .slice 84 (x.2.2.2.1), .slice 3 (x.2.2.2.2.1), .int .i64 (x.2.2.2.2.2.1), .int .i64 (x.2.2.2.2.2.2.1)], [.row 84 (x.2.2.2.2.2.2.2.1), .row 3 (x.2.2.2.2.2.2.2.2)]⟩
def ab73_11 : (n : NSt Ty) → Option {x : Int × List T80 × Int × List (List Int) × List Int × Int × Int × List (List Int) × List Int // of73_11 x = n}
  | ⟨[.int .u32 v0, .slice 81 v1, .row 100000, .row 100001, .int .i64 v2, .slice 84 v3, .slice 3 v4, .int .i64 v5, .int .i64 v6], [.row 84 v7, .row 3 v8]⟩ => some ⟨(v0, v1, v2, v3, v4, v5, v6, v7, v8), rfl⟩
  | _ => none
def oe73_11 : Int × List T80 × Int × List (List Int) × List (List Int) × List Int → Ex := fun _ => .exit 2
def on73_11 : Int × List T80 × Int × List (List Int) × List (List Int) × List Int → NSt Ty := fun x => ⟨[.int .u32 (x.1), .slice 81 (x.2.1), .row 100000, .row 100001, .int .i64 (x.2.2.1), .slice 84 (x.2.2.2.1)], [.row 84 (x.2.2.2.2.1), .row 3 (x.2.2.2.2.2)]⟩
def oa73_11 : (e : Ex) → (n : NSt Ty) → Option {y : Int × List T80 × Int × List (List Int) × List (List Int) × List Int // oe73_11 y = e ∧ on73_11 y = n}
  | .exit 2, ⟨[.int .u32 v0, .slice 81 v1, .row 100000, .row 100001, .int .i64 v2, .slice 84 v3], [.row 84 v4, .row 3 v5]⟩ => some ⟨(v0, v1, v2, v3, v4, v5), rfl, rfl⟩
  | _, _ => none
/-- a round of the loop 11 of function 73 -/
def R73_11 (k : Nat) (again : Int × List T80 × Int × List (List Int) × List Int × Int × Int × List (List Int) × List Int → Option (Int × List T80 × Int × List (List Int) × List (List Int) × List Int)) (x : Int × List T80 × Int × List (List Int) × List Int × Int × Int × List (List Int) × List Int) : Option (Int × List T80 × Int × List (List Int) × List (List Int) × List Int) :=
  match x with
  | (v0, v1, v2, v3, v4, v5, v6, v7, v8) => bif decide (v6 < v5) then bif inRange v6 v4.length then bif decide (v4.getD v6.toNat (0 : Int) ≥ (0 : Int)) then bif decide (v8.length + ((List.replicate (1 : Nat) (0 : Int)).set (0 : Nat) (IntKind.i64.wrap (v4.getD v6.toNat (0 : Int) + (↑v7.length : Int)))).length ≤ roomMost) then again (v0, v1, v2, v3, v4, v5, IntKind.i64.wrap (v6 + (1 : Int)), v7, v8 ++ (List.replicate (1 : Nat) (0 : Int)).set (0 : Nat) (IntKind.i64.wrap (v4.getD v6.toNat (0 : Int) + (↑v7.length : Int)))) else none else bif decide (v8.length + ((List.replicate (1 : Nat) (0 : Int)).set (0 : Nat) (v4.getD v6.toNat (0 : Int))).length ≤ roomMost) then again (v0, v1, v2, v3, v4, v5, IntKind.i64.wrap (v6 + (1 : Int)), v7, v8 ++ (List.replicate (1 : Nat) (0 : Int)).set (0 : Nat) (v4.getD v6.toNat (0 : Int))) else none else none else some (v0, v1, v2, v3, v7, v8)
def L73_11 (k n : Nat) (x : Int × List T80 × Int × List (List Int) × List Int × Int × Int × List (List Int) × List Int) : Option (Int × List T80 × Int × List (List Int) × List (List Int) × List Int) := iterR (R73_11 k) n x
noncomputable def ls73_11 : Nat → Option (LSum Ty) := addL 11 (LSum.of of73_11 ab73_11 L73_11 oe73_11 on73_11) noL
def of73_5 : Int × List T80 × List (List Int) × List Int → NSt Ty := fun x => ⟨[.int .u32 (x.1), .slice 81 (x.2.1), .row 100000, .row 100001], [.row 84 (x.2.2.1), .row 3 (x.2.2.2)]⟩
def ab73_5 : (n : NSt Ty) → Option {x : Int × List T80 × List (List Int) × List Int // of73_5 x = n}
  | ⟨[.int .u32 v0, .slice 81 v1, .row 100000, .row 100001], [.row 84 v2, .row 3 v3]⟩ => some ⟨(v0, v1, v2, v3), rfl⟩
  | _ => none
def on73_5a : Int × List (List Int) × List Int × List (List Int) × List Int → NSt Ty := fun x => ⟨[.row 100000, .row 100001, .int .i64 (x.1), .row 100002, .row 100003], [.row 84 (x.2.1), .row 3 (x.2.2.1), .row 84 (x.2.2.2.1), .row 3 (x.2.2.2.2)]⟩
def on73_5b : List (List Int) × List Int → NSt Ty := fun x => ⟨[.undef, .undef, .undef, .row 100000, .row 100001], [.row 84 (x.1), .row 3 (x.2)]⟩
def oa73_5 : (e : Ex) → (n : NSt Ty) → Option {y : (Int × List (List Int) × List Int × List (List Int) × List Int) ⊕ (List (List Int) × List Int) // oe2 .ret (.exit 0) y = e ∧ on2 on73_5a on73_5b y = n}
  | .ret, ⟨[.row 100000, .row 100001, .int .i64 v0, .row 100002, .row 100003], [.row 84 v1, .row 3 v2, .row 84 v3, .row 3 v4]⟩ => some ⟨.inl (v0, v1, v2, v3, v4), rfl, rfl⟩
  | .exit 0, ⟨[.undef, .undef, .undef, .row 100000, .row 100001], [.row 84 v0, .row 3 v1]⟩ => some ⟨.inr (v0, v1), rfl, rfl⟩
  | _, _ => none
/-- a round of the loop 5 of function 73 -/
def R73_5 (k : Nat) (again : Int × List T80 × List (List Int) × List Int → Option ((Int × List (List Int) × List Int × List (List Int) × List Int) ⊕ (List (List Int) × List Int))) (x : Int × List T80 × List (List Int) × List Int) : Option ((Int × List (List Int) × List Int × List (List Int) × List Int) ⊕ (List (List Int) × List Int)) :=
  match x with
  | (v0, v1, v2, v3) => bif decide ((↑v1.length : Int) > (0 : Int)) then bif decide ((0 : Int) ≤ (0 : Int)) && decide ((0 : Int) ≤ if (24 : Int) < (↑v1.length : Int) then (24 : Int) else (↑v1.length : Int)) && decide ((if (24 : Int) < (↑v1.length : Int) then (24 : Int) else (↑v1.length : Int)) ≤ (↑v1.length : Int)) then (F89 k (v0, decide ((if (24 : Int) < (↑v1.length : Int) then (24 : Int) else (↑v1.length : Int)) < (↑v1.length : Int)), List.drop (Int.toNat (0 : Int)) (List.take (if (24 : Int) < (↑v1.length : Int) then (24 : Int) else (↑v1.length : Int)).toNat v1), ())).bind fun r => bif r.snd.snd.fst != (0 : Int) then some (Sum.inl ((1 : Int), [], [], v2, v3)) else (L73_11 k k (v0, v1, if (24 : Int) < (↑v1.length : Int) then (24 : Int) else (↑v1.length : Int), r.fst, r.snd.fst, (↑r.snd.fst.length : Int), (0 : Int), v2, v3)).bind fun r => bif decide (r.snd.snd.snd.snd.fst.length + r.snd.snd.snd.fst.length ≤ roomMost) then bif decide ((0 : Int) ≤ r.snd.snd.fst) && decide (r.snd.snd.fst ≤ (↑r.snd.fst.length : Int)) && decide ((↑r.snd.fst.length : Int) ≤ (↑r.snd.fst.length : Int)) then again (IntKind.u32.wrap (r.fst + (1 : Int)), List.drop r.snd.snd.fst.toNat (List.take (↑r.snd.fst.length : Int).toNat r.snd.fst), r.snd.snd.snd.snd.fst ++ r.snd.snd.snd.fst, r.snd.snd.snd.snd.snd) else none else none else none else some (Sum.inr (v2, v3))
def L73_5 (k n : Nat) (x : Int × List T80 × List (List Int) × List Int) : Option ((Int × List (List Int) × List Int × List (List Int) × List Int) ⊕ (List (List Int) × List Int)) := iterR (R73_5 k) n x
noncomputable def ls73_5 : Nat → Option (LSum Ty) := addL 5 (lsum2 of73_5 ab73_5 L73_5 .ret on73_5a (.exit 0) on73_5b) ls73_11
def kp73 : Nat → Keep := fun i => cond (i == 5) ⟨[0, 1, 7, 8], [4, 5, 6, 7, 8], 0⟩ (cond (i == 11) ⟨[0, 1, 7, 8, 9, 10, 39, 40, 41], [0, 1, 7, 8, 9, 10], 0⟩ (⟨[], [], 0⟩))
/-- "silt/group.Lay" -/
def F73 (k : Nat) (x : Int × (List T80) × Unit) : Option ((List (List Int)) × (List Int) × Int × Unit) :=
  match x with
  | (a0, a1, ()) => (F88 k (a1, ())).bind fun r => bif !r then some ([], [], (1 : Int), ()) else (L73_5 k k (a0, a1, [], [])).bind fun r => sumK r (fun a => some (a.snd.fst, a.snd.snd.fst, a.fst, ())) fun b => some (b.fst, b.snd, (0 : Int), ())
noncomputable def sp73 : FSpec Ty := spec ag73 rs73 F73
theorem bo73 : Tryd.f73.body = some (bodyOf Tryd.f73) := by kernel_rfl
theorem nd73 : nodupB ((loopsIn (bodyOf Tryd.f73)).map firstRegion) = true := by kernel_rfl
theorem lo73_11 : LSOK fs89 kp73 tab Tryd.f73 ls73_11 := lsum_ok bo73 nd73 (LSOK.none) oa73_11 (R := R73_11) fun k again x => by kernel_rfl
theorem lo73_5 : LSOK fs89 kp73 tab Tryd.f73 ls73_5 := lsum2_ok bo73 nd73 (lo73_11) oa73_5 (R := R73_5) fun k again x => by kernel_rfl
theorem ok73 : FOK Tryd.prog tab 73 sp73 := spec_ok (keeps := kp73) tabOK fs89OK Tryd.func73 bo73 (by kernel_rfl) nd73 (lo73_5) (F := F73) fun k x => by kernel_rfl
noncomputable def fs73 : Nat → Option (FSpec Ty) := addF 73 sp73 fs89
theorem fs73OK : SpecsOK Tryd.prog tab fs73 := fs89OK.add ok73 Tryd.call73
def ag65 : Args Ty (Int × ByteArray × Unit) := V.arg (tab.den 29) (V.arg (tab.den 9) (noArgs))
def rs65 : Res Ty tab (GErr) true := V.oneRes (tab.den 106) (ent 106).ids (ent 106).plain (fun _ h => by cases h)
def kp65 : Nat → Keep := fun i => ⟨[], [], 0⟩
/-- "silt/fault.New" -/
def F65 (k : Nat) (x : Int × ByteArray × Unit) : Option (GErr) :=
  match x with
  | (a0, a1, ()) => bif a0 == (0 : Int) then some GErr.nil else some (GErr.flt a1 (GErr.num a0) false)
noncomputable def sp65 : FSpec Ty := spec ag65 rs65 F65
theorem bo65 : Tryd.f65.body = some (bodyOf Tryd.f65) := by kernel_rfl
theorem nd65 : nodupB ((loopsIn (bodyOf Tryd.f65)).map firstRegion) = true := by kernel_rfl
theorem ok65 : FOK Tryd.prog tab 65 sp65 := spec_ok (keeps := kp65) tabOK fs73OK Tryd.func65 bo65 (by kernel_rfl) nd65 (LSOK.none) (F := F65) fun k x => by kernel_rfl
noncomputable def fs65 : Nat → Option (FSpec Ty) := addF 65 sp65 fs73
theorem fs65OK : SpecsOK Tryd.prog tab fs65 := fs73OK.add ok65 Tryd.call65
def ag64 : Args Ty (GErr × ByteArray × Unit) := V.arg (tab.den 106) (V.arg (tab.den 9) (noArgs))
def rs64 : Res Ty tab (GErr) true := V.oneRes (tab.den 106) (ent 106).ids (ent 106).plain (fun _ h => by cases h)
def kp64 : Nat → Keep := fun i => ⟨[], [], 0⟩
/-- "silt/fault.Wrap" -/
def F64 (k : Nat) (x : GErr × ByteArray × Unit) : Option (GErr) :=
  match x with
  | (a0, a1, ()) => bif a0.isNil then some GErr.nil else some (GErr.flt a1 a0 true)
noncomputable def sp64 : FSpec Ty := spec ag64 rs64 F64
theorem bo64 : Tryd.f64.body = some (bodyOf Tryd.f64) := by kernel_rfl
theorem nd64 : nodupB ((loopsIn (bodyOf Tryd.f64)).map firstRegion) = true := by kernel_rfl
theorem ok64 : FOK Tryd.prog tab 64 sp64 := spec_ok (keeps := kp64) tabOK fs65OK Tryd.func64 bo64 (by kernel_rfl) nd64 (LSOK.none) (F := F64) fun k x => by kernel_rfl
noncomputable def fs64 : Nat → Option (FSpec Ty) := addF 64 sp64 fs65
theorem fs64OK : SpecsOK Tryd.prog tab fs64 := fs65OK.add ok64 Tryd.call64
theorem bo74 : Tryd.f74.body = some (bodyOf Tryd.f74) := by kernel_rfl
theorem nd74 : nodupB ((loopsIn (bodyOf Tryd.f74)).map firstRegion) = true := by kernel_rfl
def of74 : Int × Int × Int × Int × Int × Int × Int × Int × List Int × Int × Int × List (List Int) × List T126 → NSt Ty := fun x => ⟨[.ptr 100000 [], .int .i64 (x.1)], [.var (.cons (.ptr 100001 []) (.cons (.cons (.int .i64 (x.2.1)) (.cons (.int .i64 (x.2.2.1)) (.cons (.int .i64 (x.2.2.2.1)) (.cons (.int .i64 (x.2.2.2.2.1)) (.nil))))) (.cons (.cons (.int .i64 (x.2.2.2.2.2.1)) (.cons (.int .i64 (x.2.2.2.2.2.2.1)) (.cons (.int .u32 (x.2.2.2.2.2.2.2.1)) (.cons (.slice 3 (x.2.2.2.2.2.2.2.2.1)) (.nil))))) (.nil)))), .var (.cons (.row 100002) (.cons (.row 100003) (.cons (.int .i64 (x.2.2.2.2.2.2.2.2.2.1)) (.cons (.int .i64 (x.2.2.2.2.2.2.2.2.2.2.1)) (.nil))))), .row 84 (x.2.2.2.2.2.2.2.2.2.2.2.1), .row 127 (x.2.2.2.2.2.2.2.2.2.2.2.2)]⟩
def ab74 : (n : NSt Ty) → Option {x : Int × Int × Int × Int × Int × Int × Int × Int × List Int × Int × Int × List (List Int) × List T126 // of74 x = n}
  | ⟨[.ptr 100000 [], .int .i64 v0], [.var (.cons (.ptr 100001 []) (.cons (.cons (.int .i64 v1) (.cons (.int .i64 v2) (.cons (.int .i64 v3) (.cons (.int .i64 v4) (.nil))))) (.cons (.cons (.int .i64 v5) (.cons (.int .i64 v6) (.cons (.int .u32 v7) (.cons (.slice 3 v8) (.nil))))) (.nil)))), .var (.cons (.row 100002) (.cons (.row 100003) (.cons (.int .i64 v9) (.cons (.int .i64 v10) (.nil))))), .row 84 v11, .row 127 v12]⟩ => some ⟨(v0, v1, v2, v3, v4, v5, v6, v7, v8, v9, v10, v11, v12), rfl⟩
  | _ => none
def kp74 : Nat → Keep := pinned 2 fun i => ⟨[], [], 0⟩
def on74a : Int × Int × Int × List Int × GErr × Int × Int × Int × Int × Int × Int × Int × List Int × Int × Int × List (List Int) × List T126 → NSt Ty := fun x => ⟨[.tup (.cons (.cons (.int .i64 (x.1)) (.cons (.int .i64 (x.2.1)) (.cons (.int .u32 (x.2.2.1)) (.cons (.slice 3 (x.2.2.2.1)) (.nil))))) (.cons (.err (x.2.2.2.2.1)) (.nil)))], [.var (.cons (.ptr 100001 []) (.cons (.cons (.int .i64 (x.2.2.2.2.2.1)) (.cons (.int .i64 (x.2.2.2.2.2.2.1)) (.cons (.int .i64 (x.2.2.2.2.2.2.2.1)) (.cons (.int .i64 (x.2.2.2.2.2.2.2.2.1)) (.nil))))) (.cons (.cons (.int .i64 (x.2.2.2.2.2.2.2.2.2.1)) (.cons (.int .i64 (x.2.2.2.2.2.2.2.2.2.2.1)) (.cons (.int .u32 (x.2.2.2.2.2.2.2.2.2.2.2.1)) (.cons (.slice 3 (x.2.2.2.2.2.2.2.2.2.2.2.2.1)) (.nil))))) (.nil)))), .var (.cons (.row 100002) (.cons (.row 100003) (.cons (.int .i64 (x.2.2.2.2.2.2.2.2.2.2.2.2.2.1)) (.cons (.int .i64 (x.2.2.2.2.2.2.2.2.2.2.2.2.2.2.1)) (.nil))))), .row 84 (x.2.2.2.2.2.2.2.2.2.2.2.2.2.2.2.1), .row 127 (x.2.2.2.2.2.2.2.2.2.2.2.2.2.2.2.2)]⟩
def on74b : Int × Int × Int × GErr × Int × Int × Int × Int × Int × Int × Int × List Int × Int × Int × List Int × List (List Int) × List T126 → NSt Ty := fun x => ⟨[.tup (.cons (.cons (.int .i64 (x.1)) (.cons (.int .i64 (x.2.1)) (.cons (.int .u32 (x.2.2.1)) (.cons (.row 100002) (.nil))))) (.cons (.err (x.2.2.2.1)) (.nil)))], [.var (.cons (.ptr 100001 []) (.cons (.cons (.int .i64 (x.2.2.2.2.1)) (.cons (.int .i64 (x.2.2.2.2.2.1)) (.cons (.int .i64 (x.2.2.2.2.2.2.1)) (.cons (.int .i64 (x.2.2.2.2.2.2.2.1)) (.nil))))) (.cons (.cons (.int .i64 (x.2.2.2.2.2.2.2.2.1)) (.cons (.int .i64 (x.2.2.2.2.2.2.2.2.2.1)) (.cons (.int .u32 (x.2.2.2.2.2.2.2.2.2.2.1)) (.cons (.slice 3 (x.2.2.2.2.2.2.2.2.2.2.2.1)) (.nil))))) (.nil)))), .var (.cons (.row 100003) (.cons (.row 100004) (.cons (.int .i64 (x.2.2.2.2.2.2.2.2.2.2.2.2.1)) (.cons (.int .i64 (x.2.2.2.2.2.2.2.2.2.2.2.2.2.1)) (.nil))))), .row 3 (x.2.2.2.2.2.2.2.2.2.2.2.2.2.2.1), .row 84 (x.2.2.2.2.2.2.2.2.2.2.2.2.2.2.2.1), .row 127 (x.2.2.2.2.2.2.2.2.2.2.2.2.2.2.2.2)]⟩
def oa74 : (n : NSt Ty) → Option {y : (Int × Int × Int × List Int × GErr × Int × Int × Int × Int × Int × Int × Int × List Int × Int × Int × List (List Int) × List T126) ⊕ (Int × Int × Int × GErr × Int × Int × Int × Int × Int × Int × Int × List Int × Int × Int × List Int × List (List Int) × List T126) // on2 on74a on74b y = n}
  | ⟨[.tup (.cons (.cons (.int .i64 v0) (.cons (.int .i64 v1) (.cons (.int .u32 v2) (.cons (.slice 3 v3) (.nil))))) (.cons (.err v4) (.nil)))], [.var (.cons (.ptr 100001 []) (.cons (.cons (.int .i64 v5) (.cons (.int .i64 v6) (.cons (.int .i64 v7) (.cons (.int .i64 v8) (.nil))))) (.cons (.cons (.int .i64 v9) (.cons (.int .i64 v10) (.cons (.int .u32 v11) (.cons (.slice 3 v12) (.nil))))) (.nil)))), .var (.cons (.row 100002) (.cons (.row 100003) (.cons (.int .i64 v13) (.cons (.int .i64 v14) (.nil))))), .row 84 v15, .row 127 v16]⟩ => some ⟨.inl (v0, v1, v2, v3, v4, v5, v6, v7, v8, v9, v10, v11, v12, v13, v14, v15, v16), rfl⟩
  | ⟨[.tup (.cons (.cons (.int .i64 v0) (.cons (.int .i64 v1) (.cons (.int .u32 v2) (.cons (.row 100002) (.nil))))) (.cons (.err v3) (.nil)))], [.var (.cons (.ptr 100001 []) (.cons (.cons (.int .i64 v4) (.cons (.int .i64 v5) (.cons (.int .i64 v6) (.cons (.int .i64 v7) (.nil))))) (.cons (.cons (.int .i64 v8) (.cons (.int .i64 v9) (.cons (.int .u32 v10) (.cons (.slice 3 v11) (.nil))))) (.nil)))), .var (.cons (.row 100003) (.cons (.row 100004) (.cons (.int .i64 v12) (.cons (.int .i64 v13) (.nil))))), .row 3 v14, .row 84 v15, .row 127 v16]⟩ => some ⟨.inr (v0, v1, v2, v3, v4, v5, v6, v7, v8, v9, v10, v11, v12, v13, v14, v15, v16), rfl⟩
  | _ => none
/-- "(*silt/journal.Journal).room"  -/
def F74 (k : Nat) (x : Int × Int × Int × Int × Int × Int × Int × Int × List Int × Int × Int × List (List Int) × List T126) : Option ((Int × Int × Int × List Int × GErr × Int × Int × Int × Int × Int × Int × Int × List Int × Int × Int × List (List Int) × List T126) ⊕ (Int × Int × Int × GErr × Int × Int × Int × Int × Int × Int × Int × List Int × Int × Int × List Int × List (List Int) × List T126)) :=
  match x with
  | (v0, v1, v2, v3, v4, v5, v6, v7, v8, v9, v10, v11, v12) => (F51 k (T46.mk v5 v6 v7 v8, ())).bind fun r => bif decide (v0 ≤ IntKind.i64.wrap (v3 - r.2)) then some (Sum.inl (r.1, r.2, r.3, r.4, GErr.nil, v1, v2, v3, v4, v5, v6, v7, v8, v9, v10, v11, v12)) else bif (↑r.4.length : Int) == (0 : Int) then (F65 k ((14 : Int), ByteArray.mk (Array.mk [(115 : UInt8), (101 : UInt8), (103 : UInt8), (109 : UInt8), (101 : UInt8), (110 : UInt8), (116 : UInt8), (115 : UInt8)]), ())).bind fun r => (F64 k (r, ByteArray.mk (Array.mk [(114 : UInt8), (111 : UInt8), (111 : UInt8), (109 : UInt8)]), ())).bind fun r => some (Sum.inr ((0 : Int), (0 : Int), (0 : Int), r, v1, v2, v3, v4, v5, v6, v7, v8, v9, v10, [], v11, v12)) else bif inRange (0 : Int) r.4.length then bif decide ((0 : Int) ≤ (1 : Int)) && decide ((1 : Int) ≤ (↑r.4.length : Int)) && decide ((↑r.4.length : Int) ≤ (↑r.4.length : Int)) then some (Sum.inl (r.4.getD (Int.toNat (0 : Int)) (0 : Int), (0 : Int), r.3, List.drop (Int.toNat (1 : Int)) (List.take (↑r.4.length : Int).toNat r.4), GErr.nil, v1, v2, v3, v4, v5, v6, v7, v8, v9, v10, v11, v12)) else none else none
noncomputable def sp74 : FSpec Ty := addH2 2 ab74 F74 on74a on74b noH
theorem ok74 : FOK Tryd.prog tab 74 sp74 := addH2_ok (keeps := kp74) tabOK fs64OK Tryd.func74 bo74 (by kernel_rfl) nd74 (LSOK.none) oa74 (F := F74) (fun k x => by kernel_rfl) (pinned_le (Nat.le_refl _) _) FOK.none rfl
noncomputable def fs74 : Nat → Option (FSpec Ty) := addF 74 sp74 fs64
theorem fs74OK : SpecsOK Tryd.prog tab fs74 := fs64OK.add ok74 Tryd.call74
def ag75 : Args Ty (T23 × Int × Unit) := V.arg (tab.den 24) (V.arg (tab.den 3) (noArgs))
def rs75 : Res Ty tab (Int) false := V.oneRes (tab.den 3) (ent 3).ids (ent 3).plain (fun x _ => (ent 3).flat x rfl)
def kp75 : Nat → Keep := fun i => ⟨[], [], 0⟩
/-- "silt/plan.Seg" -/
def F75 (k : Nat) (x : T23 × Int × Unit) : Option (Int) :=
  match x with
  | (a0, a1, ()) => (F57 k (T23.mk a0.1 a0.2 a0.3 a0.4, ())).bind fun r => bif !r then some (0 : Int) else bif decide (a1 < (0 : Int)) then some (0 : Int) else bif decide (a1 ≥ a0.2) then some (0 : Int) else some (IntKind.i64.wrap ((4 : Int) + IntKind.i64.wrap (a1 * a0.3)))
noncomputable def sp75 : FSpec Ty := spec ag75 rs75 F75
theorem bo75 : Tryd.f75.body = some (bodyOf Tryd.f75) := by kernel_rfl
theorem nd75 : nodupB ((loopsIn (bodyOf Tryd.f75)).map firstRegion) = true := by kernel_rfl
theorem ok75 : FOK Tryd.prog tab 75 sp75 := spec_ok (keeps := kp75) tabOK fs74OK Tryd.func75 bo75 (by kernel_rfl) nd75 (LSOK.none) (F := F75) fun k x => by kernel_rfl
noncomputable def fs75 : Nat → Option (FSpec Ty) := addF 75 sp75 fs74
theorem fs75OK : SpecsOK Tryd.prog tab fs75 := fs74OK.add ok75 Tryd.call75
theorem bo59 : Tryd.f59.body = some (bodyOf Tryd.f59) := by kernel_rfl
theorem nd59 : nodupB ((loopsIn (bodyOf Tryd.f59)).map firstRegion) = true := by kernel_rfl
def of59hn : Int → NSt Ty := fun x => ⟨[.nilp, .int .i64 (x)], []⟩
def ab59hn : (n : NSt Ty) → Option {x : Int // of59hn x = n}
  | ⟨[.nilp, .int .i64 v0], []⟩ => some ⟨v0, rfl⟩
  | _ => none
def kp59hn : Nat → Keep := pinned 0 fun i => ⟨[], [], 0⟩
def on59hn : Bool → NSt Ty := fun x => ⟨[.bool (x)], []⟩
def oa59hn : (n : NSt Ty) → Option {y : Bool // on59hn y = n}
  | ⟨[.bool v0], []⟩ => some ⟨v0, rfl⟩
  | _ => none
/-- "(*silt/dev.Dev).has" hn -/
def F59hn (k : Nat) (x : Int) : Option (Bool) :=
  match x with
  | v0 => bif decide (v0 ≥ (0 : Int)) then (F47hn k ()).bind fun r => some (decide (v0 < r)) else some false
noncomputable def sp59hn : FSpec Ty := addH 0 ab59hn F59hn on59hn noH
theorem ok59hn : FOK Tryd.prog tab 59 sp59hn := addH_ok (keeps := kp59hn) tabOK fs75OK Tryd.func59 bo59 (by kernel_rfl) nd59 (LSOK.none) oa59hn (F := F59hn) (fun k x => by kernel_rfl) (pinned_le (Nat.le_refl _) _) FOK.none rfl
def of59 : Int × Int × Int × List (List Int) × List T126 → NSt Ty := fun x => ⟨[.ptr 100000 [], .int .i64 (x.1)], [.var (.cons (.row 100001) (.cons (.row 100002) (.cons (.int .i64 (x.2.1)) (.cons (.int .i64 (x.2.2.1)) (.nil))))), .row 84 (x.2.2.2.1), .row 127 (x.2.2.2.2)]⟩
def ab59 : (n : NSt Ty) → Option {x : Int × Int × Int × List (List Int) × List T126 // of59 x = n}
  | ⟨[.ptr 100000 [], .int .i64 v0], [.var (.cons (.row 100001) (.cons (.row 100002) (.cons (.int .i64 v1) (.cons (.int .i64 v2) (.nil))))), .row 84 v3, .row 127 v4]⟩ => some ⟨(v0, v1, v2, v3, v4), rfl⟩
  | _ => none
def kp59 : Nat → Keep := pinned 1 fun i => ⟨[], [], 0⟩
def on59 : Bool × Int × Int × List (List Int) × List T126 → NSt Ty := fun x => ⟨[.bool (x.1)], [.var (.cons (.row 100001) (.cons (.row 100002) (.cons (.int .i64 (x.2.1)) (.cons (.int .i64 (x.2.2.1)) (.nil))))), .row 84 (x.2.2.2.1), .row 127 (x.2.2.2.2)]⟩
def oa59 : (n : NSt Ty) → Option {y : Bool × Int × Int × List (List Int) × List T126 // on59 y = n}
  | ⟨[.bool v0], [.var (.cons (.row 100001) (.cons (.row 100002) (.cons (.int .i64 v1) (.cons (.int .i64 v2) (.nil))))), .row 84 v3, .row 127 v4]⟩ => some ⟨(v0, v1, v2, v3, v4), rfl⟩
  | _ => none
/-- "(*silt/dev.Dev).has"  -/
def F59 (k : Nat) (x : Int × Int × Int × List (List Int) × List T126) : Option (Bool × Int × Int × List (List Int) × List T126) :=
  match x with
  | (v0, v1, v2, v3, v4) => bif decide (v0 ≥ (0 : Int)) then (F47 k (v1, v2, v3, v4)).bind fun r => some (decide (v0 < r.fst), r.snd.fst, r.snd.snd.fst, r.snd.snd.snd.fst, r.snd.snd.snd.snd) else some (false, v1, v2, v3, v4)
noncomputable def sp59 : FSpec Ty := addH 1 ab59 F59 on59 sp59hn
theorem ok59 : FOK Tryd.prog tab 59 sp59 := addH_ok (keeps := kp59) tabOK fs75OK Tryd.func59 bo59 (by kernel_rfl) nd59 (LSOK.none) oa59 (F := F59) (fun k x => by kernel_rfl) (pinned_le (Nat.le_refl _) _) ok59hn rfl
noncomputable def fs59 : Nat → Option (FSpec Ty) := addF 59 sp59 fs75
theorem fs59OK : SpecsOK Tryd.prog tab fs59 := fs75OK.add ok59 Tryd.call59
theorem bo72 : Tryd.f72.body = some (bodyOf Tryd.f72) := by kernel_rfl
theorem nd72 : nodupB ((loopsIn (bodyOf Tryd.f72)).map firstRegion) = true := by kernel_rfl
def of72 : Int × Int × List (List Int) × List T126 → NSt Ty := fun x => ⟨[.ptr 100000 []], [.var (.cons (.row 100001) (.cons (.row 100002) (.cons (.int .i64 (x.1)) (.cons (.int .i64 (x.2.1)) (.nil))))), .row 84 (x.2.2.1), .row 127 (x.2.2.2)]⟩
def ab72 : (n : NSt Ty) → Option {x : Int × Int × List (List Int) × List T126 // of72 x = n}
  | ⟨[.ptr 100000 []], [.var (.cons (.row 100001) (.cons (.row 100002) (.cons (.int .i64 v0) (.cons (.int .i64 v1) (.nil))))), .row 84 v2, .row 127 v3]⟩ => some ⟨(v0, v1, v2, v3), rfl⟩
  | _ => none
def kp72 : Nat → Keep := pinned 1 fun i => ⟨[], [], 0⟩
def on72 : Int × Int × Int × List (List Int) × List T126 → NSt Ty := fun x => ⟨[.int .i64 (x.1)], [.var (.cons (.row 100001) (.cons (.row 100002) (.cons (.int .i64 (x.2.1)) (.cons (.int .i64 (x.2.2.1)) (.nil))))), .row 84 (x.2.2.2.1), .row 127 (x.2.2.2.2)]⟩
def oa72 : (n : NSt Ty) → Option {y : Int × Int × Int × List (List Int) × List T126 // on72 y = n}
  | ⟨[.int .i64 v0], [.var (.cons (.row 100001) (.cons (.row 100002) (.cons (.int .i64 v1) (.cons (.int .i64 v2) (.nil))))), .row 84 v3, .row 127 v4]⟩ => some ⟨(v0, v1, v2, v3, v4), rfl⟩
  | _ => none
/-- "(*silt/dev.Dev).pass"  -/
def F72 (k : Nat) (x : Int × Int × List (List Int) × List T126) : Option (Int × Int × Int × List (List Int) × List T126) :=
  match x with
  | (v0, v1, v2, v3) => bif v0 == (0 : Int) then some ((12 : Int), (-1 : Int), v1, v2, v3) else bif decide (v0 > (0 : Int)) then some ((0 : Int), IntKind.i64.wrap (v0 - (1 : Int)), IntKind.i64.wrap (v1 + (1 : Int)), v2, v3) else some ((0 : Int), v0, IntKind.i64.wrap (v1 + (1 : Int)), v2, v3)
noncomputable def sp72 : FSpec Ty := addH 1 ab72 F72 on72 noH
theorem ok72 : FOK Tryd.prog tab 72 sp72 := addH_ok (keeps := kp72) tabOK fs59OK Tryd.func72 bo72 (by kernel_rfl) nd72 (LSOK.none) oa72 (F := F72) (fun k x => by kernel_rfl) (pinned_le (Nat.le_refl _) _) FOK.none rfl
noncomputable def fs72 : Nat → Option (FSpec Ty) := addF 72 sp72 fs59
theorem fs72OK : SpecsOK Tryd.prog tab fs72 := fs59OK.add ok72 Tryd.call72
theorem bo49 : Tryd.f49.body = some (bodyOf Tryd.f49) := by kernel_rfl
theorem nd49 : nodupB ((loopsIn (bodyOf Tryd.f49)).map firstRegion) = true := by kernel_rfl
def of49hn : Int × List Int → NSt Ty := fun x => ⟨[.nilp, .int .i64 (x.1), .arr 5 64 (x.2)], []⟩
def ab49hn : (n : NSt Ty) → Option {x : Int × List Int // of49hn x = n}
  | ⟨[.nilp, .int .i64 v0, .arr 5 64 v1], []⟩ => some ⟨(v0, v1), rfl⟩
  | _ => none
def kp49hn : Nat → Keep := pinned 0 fun i => ⟨[], [], 0⟩
def on49hn : Int → NSt Ty := fun x => ⟨[.int .i64 (x)], []⟩
def oa49hn : (n : NSt Ty) → Option {y : Int // on49hn y = n}
  | ⟨[.int .i64 v0], []⟩ => some ⟨v0, rfl⟩
  | _ => none
/-- "(*silt/dev.Dev).Write" hn -/
def F49hn (k : Nat) (x : Int × List Int) : Option (Int) :=
  match x with
  | (v0, v1) => (F59hn k v0).bind fun r => bif !r then some (1 : Int) else none
noncomputable def sp49hn : FSpec Ty := addH 0 ab49hn F49hn on49hn noH
theorem ok49hn : FOK Tryd.prog tab 49 sp49hn := addH_ok (keeps := kp49hn) tabOK fs72OK Tryd.func49 bo49 (by kernel_rfl) nd49 (LSOK.none) oa49hn (F := F49hn) (fun k x => by kernel_rfl) (pinned_le (Nat.le_refl _) _) FOK.none rfl
def of49 : Int × List Int × Int × Int × List (List Int) × List T126 → NSt Ty := fun x => ⟨[.ptr 100000 [], .int .i64 (x.1), .arr 5 64 (x.2.1)], [.var (.cons (.row 100001) (.cons (.row 100002) (.cons (.int .i64 (x.2.2.1)) (.cons (.int .i64 (x.2.2.2.1)) (.nil))))), .row 84 (x.2.2.2.2.1), .row 127 (x.2.2.2.2.2)]⟩
def ab49 : (n : NSt Ty) → Option {x : Int × List Int × Int × Int × List (List Int) × List T126 // of49 x = n}
  | ⟨[.ptr 100000 [], .int .i64 v0, .arr 5 64 v1], [.var (.cons (.row 100001) (.cons (.row 100002) (.cons (.int .i64 v2) (.cons (.int .i64 v3) (.nil))))), .row 84 v4, .row 127 v5]⟩ => some ⟨(v0, v1, v2, v3, v4, v5), rfl⟩
  | _ => none
def kp49 : Nat → Keep := pinned 1 fun i => ⟨[], [], 0⟩
def on49 : Int × Int × Int × List (List Int) × List T126 → NSt Ty := fun x => ⟨[.int .i64 (x.1)], [.var (.cons (.row 100001) (.cons (.row 100002) (.cons (.int .i64 (x.2.1)) (.cons (.int .i64 (x.2.2.1)) (.nil))))), .row 84 (x.2.2.2.1), .row 127 (x.2.2.2.2)]⟩
def oa49 : (n : NSt Ty) → Option {y : Int × Int × Int × List (List Int) × List T126 // on49 y = n}
  | ⟨[.int .i64 v0], [.var (.cons (.row 100001) (.cons (.row 100002) (.cons (.int .i64 v1) (.cons (.int .i64 v2) (.nil))))), .row 84 v3, .row 127 v4]⟩ => some ⟨(v0, v1, v2, v3, v4), rfl⟩
  | _ => none
/-- "(*silt/dev.Dev).Write"  -/
def F49 (k : Nat) (x : Int × List Int × Int × Int × List (List Int) × List T126) : Option (Int × Int × Int × List (List Int) × List T126) :=
  match x with
  | (v0, v1, v2, v3, v4, v5) => (F59 k (v0, v2, v3, v4, v5)).bind fun r => bif !r.fst then some ((1 : Int), r.snd.fst, r.snd.snd.fst, r.snd.snd.snd.fst, r.snd.snd.snd.snd) else (F72 k (r.snd.fst, r.snd.snd.fst, r.snd.snd.snd.fst, r.snd.snd.snd.snd)).bind fun r => bif r.fst != (0 : Int) then some (r.fst, r.snd.fst, r.snd.snd.fst, r.snd.snd.snd.fst, r.snd.snd.snd.snd) else bif decide (r.snd.snd.snd.snd.length + ((List.replicate (1 : Nat) (T126.mk (0 : Int) (List.replicate (64 : Nat) (0 : Int)))).set (0 : Nat) (T126.mk v0 v1)).length ≤ roomMost) then some ((0 : Int), r.snd.fst, r.snd.snd.fst, r.snd.snd.snd.fst, r.snd.snd.snd.snd ++ (List.replicate (1 : Nat) (T126.mk (0 : Int) (List.replicate (64 : Nat) (0 : Int)))).set (0 : Nat) (T126.mk v0 v1)) else none
noncomputable def sp49 : FSpec Ty := addH 1 ab49 F49 on49 sp49hn
theorem ok49 : FOK Tryd.prog tab 49 sp49 := addH_ok (keeps := kp49) tabOK fs72OK Tryd.func49 bo49 (by kernel_rfl) nd49 (LSOK.none) oa49 (F := F49) (fun k x => by kernel_rfl) (pinned_le (Nat.le_refl _) _) ok49hn rfl
noncomputable def fs49 : Nat → Option (FSpec Ty) := addF 49 sp49 fs72
theorem fs49OK : SpecsOK Tryd.prog tab fs49 := fs72OK.add ok49 Tryd.call49
theorem bo50 : Tryd.f50.body = some (bodyOf Tryd.f50) := by kernel_rfl
theorem nd50 : nodupB ((loopsIn (bodyOf Tryd.f50)).map firstRegion) = true := by kernel_rfl
def of50hn : Unit → NSt Ty := fun x => ⟨[.nilp], []⟩
def ab50hn : (n : NSt Ty) → Option {x : Unit // of50hn x = n}
  | ⟨[.nilp], []⟩ => some ⟨(), rfl⟩
  | _ => none
def kp50hn : Nat → Keep := pinned 0 fun i => cond (i == 7) ⟨[0, 16, 17, 18], [0], 0⟩ (⟨[], [], 0⟩)
def on50hn : Int → NSt Ty := fun x => ⟨[.int .i64 (x)], []⟩
def oa50hn : (n : NSt Ty) → Option {y : Int // on50hn y = n}
  | ⟨[.int .i64 v0], []⟩ => some ⟨v0, rfl⟩
  | _ => none
/-- "(*silt/dev.Dev).Flush" hn -/
def F50hn (k : Nat) (x : Unit) : Option (Int) :=
  match x with
  | () => some (1 : Int)
noncomputable def sp50hn : FSpec Ty := addH 0 ab50hn F50hn on50hn noH
theorem ok50hn : FOK Tryd.prog tab 50 sp50hn := addH_ok (keeps := kp50hn) tabOK fs49OK Tryd.func50 bo50 (by kernel_rfl) nd50 (LSOK.none) oa50hn (F := F50hn) (fun k x => by kernel_rfl) (pinned_le (Nat.le_refl _) _) FOK.none rfl
def of50 : Int × Int × List (List Int) × List T126 → NSt Ty := fun x => ⟨[.ptr 100000 []], [.var (.cons (.row 100001) (.cons (.row 100002) (.cons (.int .i64 (x.1)) (.cons (.int .i64 (x.2.1)) (.nil))))), .row 84 (x.2.2.1), .row 127 (x.2.2.2)]⟩
def ab50 : (n : NSt Ty) → Option {x : Int × Int × List (List Int) × List T126 // of50 x = n}
  | ⟨[.ptr 100000 []], [.var (.cons (.row 100001) (.cons (.row 100002) (.cons (.int .i64 v0) (.cons (.int .i64 v1) (.nil))))), .row 84 v2, .row 127 v3]⟩ => some ⟨(v0, v1, v2, v3), rfl⟩
  | _ => none
def of50_7 : Int × Int × Int × Int × List T126 × List (List Int) → NSt Ty := fun x => ⟨[.ptr 100000 [], .row 100001, .int .i64 (x.1), .int .i64 (x.2.1)], [.var (.cons (.row 100002) (.cons (.row 100001) (.cons (.int .i64 (x.2.2.1)) (.cons (.int .i64 (x.2.2.2.1)) (.nil))))), .row 127 (x.2.2.2.2.1), .row 84 (x.2.2.2.2.2)]⟩
def ab50_7 : (n : NSt Ty) → Option {x : Int × Int × Int × Int × List T126 × List (List Int) // of50_7 x = n}
  | ⟨[.ptr 100000 [], .row 100001, .int .i64 v0, .int .i64 v1], [.var (.cons (.row 100002) (.cons (.row 100001) (.cons (.int .i64 v2) (.cons (.int .i64 v3) (.nil))))), .row 127 v4, .row 84 v5]⟩ => some ⟨(v0, v1, v2, v3, v4, v5), rfl⟩
  | _ => none
def oe50_7 : Int × Int × List (List Int) × List T126 → Ex := fun _ => .exit 0
def on50_7 : Int × Int × List (List Int) × List T126 → NSt Ty := fun x => ⟨[.ptr 100000 []], [.var (.cons (.row 100001) (.cons (.row 100002) (.cons (.int .i64 (x.1)) (.cons (.int .i64 (x.2.1)) (.nil))))), .row 84 (x.2.2.1), .row 127 (x.2.2.2)]⟩
def oa50_7 : (e : Ex) → (n : NSt Ty) → Option {y : Int × Int × List (List Int) × List T126 // oe50_7 y = e ∧ on50_7 y = n}
  | .exit 0, ⟨[.ptr 100000 []], [.var (.cons (.row 100001) (.cons (.row 100002) (.cons (.int .i64 v0) (.cons (.int .i64 v1) (.nil))))), .row 84 v2, .row 127 v3]⟩ => some ⟨(v0, v1, v2, v3), rfl, rfl⟩
  | _, _ => none
/-- a round of the loop 7 of function 50 -/
def R50_7 (k : Nat) (again : Int × Int × Int × Int × List T126 × List (List Int) → Option (Int × Int × List (List Int) × List T126)) (x : Int × Int × Int × Int × List T126 × List (List Int)) : Option (Int × Int × List (List Int) × List T126) :=
  match x with
  | (v0, v1, v2, v3, v4, v5) => bif decide (v1 < v0) then bif inRange v1 v4.length then bif inRange (v4.getD v1.toNat (T126.mk (0 : Int) (List.replicate (64 : Nat) (0 : Int)))).1 v5.length then again (v0, IntKind.i64.wrap (v1 + (1 : Int)), v2, v3, v4, v5.set (v4.getD v1.toNat (T126.mk (0 : Int) (List.replicate (64 : Nat) (0 : Int)))).1.toNat (v4.getD v1.toNat (T126.mk (0 : Int) (List.replicate (64 : Nat) (0 : Int)))).2) else none else none else some (v2, v3, v5, v4)
def L50_7 (k n : Nat) (x : Int × Int × Int × Int × List T126 × List (List Int)) : Option (Int × Int × List (List Int) × List T126) := iterR (R50_7 k) n x
noncomputable def ls50_7 : Nat → Option (LSum Ty) := addL 7 (LSum.of of50_7 ab50_7 L50_7 oe50_7 on50_7) noL
def kp50 : Nat → Keep := pinned 1 fun i => cond (i == 7) ⟨[0, 16, 17, 18], [0], 0⟩ (⟨[], [], 0⟩)
def on50 : Int × Int × Int × List (List Int) × List T126 → NSt Ty := fun x => ⟨[.int .i64 (x.1)], [.var (.cons (.row 100001) (.cons (.row 100002) (.cons (.int .i64 (x.2.1)) (.cons (.int .i64 (x.2.2.1)) (.nil))))), .row 84 (x.2.2.2.1), .row 127 (x.2.2.2.2)]⟩
def oa50 : (n : NSt Ty) → Option {y : Int × Int × Int × List (List Int) × List T126 // on50 y = n}
  | ⟨[.int .i64 v0], [.var (.cons (.row 100001) (.cons (.row 100002) (.cons (.int .i64 v1) (.cons (.int .i64 v2) (.nil))))), .row 84 v3, .row 127 v4]⟩ => some ⟨(v0, v1, v2, v3, v4), rfl⟩
  | _ => none
/-- "(*silt/dev.Dev).Flush"  -/
def F50 (k : Nat) (x : Int × Int × List (List Int) × List T126) : Option (Int × Int × Int × List (List Int) × List T126) :=
  match x with
  | (v0, v1, v2, v3) => (F72 k (v0, v1, v2, v3)).bind fun r => bif r.fst != (0 : Int) then some (r.fst, r.snd.fst, r.snd.snd.fst, r.snd.snd.snd.fst, r.snd.snd.snd.snd) else (L50_7 k k ((↑r.snd.snd.snd.snd.length : Int), (0 : Int), r.snd.fst, r.snd.snd.fst, r.snd.snd.snd.snd, r.snd.snd.snd.fst)).bind fun r => some ((0 : Int), r.fst, r.snd.fst, r.snd.snd.fst, [])
noncomputable def sp50 : FSpec Ty := addH 1 ab50 F50 on50 sp50hn
theorem lo50_7 : LSOK fs49 kp50 tab Tryd.f50 ls50_7 := lsum_ok bo50 nd50 (LSOK.none) oa50_7 (R := R50_7) fun k again x => by kernel_rfl
theorem ok50 : FOK Tryd.prog tab 50 sp50 := addH_ok (keeps := kp50) tabOK fs49OK Tryd.func50 bo50 (by kernel_rfl) nd50 (lo50_7) oa50 (F := F50) (fun k x => by kernel_rfl) (pinned_le (Nat.le_refl _) _) ok50hn rfl
noncomputable def fs50 : Nat → Option (FSpec Ty) := addF 50 sp50 fs49
theorem fs50OK : SpecsOK Tryd.prog tab fs50 := fs49OK.add ok50 Tryd.call50
theorem bo76 : Tryd.f76.body = some (bodyOf Tryd.f76) := by kernel_rfl
theorem nd76 : nodupB ((loopsIn (bodyOf Tryd.f76)).map firstRegion) = true := by kernel_rfl
def of76 : Int × List (List Int) × Int × Int × Int × Int × Int × Int × Int × List Int × Int × Int × List (List Int) × List T126 → NSt Ty := fun x => ⟨[.ptr 100000 [], .int .i64 (x.1), .slice 84 (x.2.1)], [.var (.cons (.ptr 100001 []) (.cons (.cons (.int .i64 (x.2.2.1)) (.cons (.int .i64 (x.2.2.2.1)) (.cons (.int .i64 (x.2.2.2.2.1)) (.cons (.int .i64 (x.2.2.2.2.2.1)) (.nil))))) (.cons (.cons (.int .i64 (x.2.2.2.2.2.2.1)) (.cons (.int .i64 (x.2.2.2.2.2.2.2.1)) (.cons (.int .u32 (x.2.2.2.2.2.2.2.2.1)) (.cons (.slice 3 (x.2.2.2.2.2.2.2.2.2.1)) (.nil))))) (.nil)))), .var (.cons (.row 100002) (.cons (.row 100003) (.cons (.int .i64 (x.2.2.2.2.2.2.2.2.2.2.1)) (.cons (.int .i64 (x.2.2.2.2.2.2.2.2.2.2.2.1)) (.nil))))), .row 84 (x.2.2.2.2.2.2.2.2.2.2.2.2.1), .row 127 (x.2.2.2.2.2.2.2.2.2.2.2.2.2)]⟩
def ab76 : (n : NSt Ty) → Option {x : Int × List (List Int) × Int × Int × Int × Int × Int × Int × Int × List Int × Int × Int × List (List Int) × List T126 // of76 x = n}
  | ⟨[.ptr 100000 [], .int .i64 v0, .slice 84 v1], [.var (.cons (.ptr 100001 []) (.cons (.cons (.int .i64 v2) (.cons (.int .i64 v3) (.cons (.int .i64 v4) (.cons (.int .i64 v5) (.nil))))) (.cons (.cons (.int .i64 v6) (.cons (.int .i64 v7) (.cons (.int .u32 v8) (.cons (.slice 3 v9) (.nil))))) (.nil)))), .var (.cons (.row 100002) (.cons (.row 100003) (.cons (.int .i64 v10) (.cons (.int .i64 v11) (.nil))))), .row 84 v12, .row 127 v13]⟩ => some ⟨(v0, v1, v2, v3, v4, v5, v6, v7, v8, v9, v10, v11, v12, v13), rfl⟩
  | _ => none
def of76_2 : Int × List (List Int) × Int × Int × Int × Int × Int × Int × Int × Int × Int × List Int × Int × Int × List (List Int) × List T126 → NSt Ty := fun x => ⟨[.ptr 100000 [], .int .i64 (x.1), .slice 84 (x.2.1), .int .i64 (x.2.2.1), .int .i64 (x.2.2.2.1)], [.var (.cons (.ptr 100001 []) (.cons (.cons (.int .i64 (x.2.2.2.2.1)) (.cons (.int .i64 (x.2.2.2.2.2.1)) (.cons (.int .i64 (x.2.2.2.2.2.2.1)) (.cons (.int .i64 (x.2.2.2.2.2.2.2.1)) (.nil))))) (.cons (.cons (.int .i64 (x.2.2.2.2.2.2.2.2.1)) (.cons (.int .i64 (x.2.2.2.2.2.2.2.2.2.1)) (.cons (.int .u32 (x.2.2.2.2.2.2.2.2.2.2.1)) (.cons (.slice 3 (x.2.2.2.2.2.2.2.2.2.2.2.1)) (.nil))))) (.nil)))), .var (.cons (.row 100002) (.cons (.row 100003) (.cons (.int .i64 (x.2.2.2.2.2.2.2.2.2.2.2.2.1)) (.cons (.int .i64 (x.2.2.2.2.2.2.2.2.2.2.2.2.2.1)) (.nil))))), .row 84 (x.2.2.2.2.2.2.2.2.2.2.2.2.2.2.1), .row 127 (x.2.2.2.2.2.2.2.2.2.2.2.2.2.2.2)]⟩
def ab76_2 : (n : NSt Ty) → Option {x : Int × List (List Int) × Int × Int × Int × Int × Int × Int × Int × Int × Int × List Int × Int × Int × List (List Int) × List T126 // of76_2 x = n}
  | ⟨[.ptr 100000 [], .int .i64 v0, .slice 84 v1, .int .i64 v2, .int .i64 v3], [.var (.cons (.ptr 100001 []) (.cons (.cons (.int .i64 v4) (.cons (.int .i64 v5) (.cons (.int .i64 v6) (.cons (.int .i64 v7) (.nil))))) (.cons (.cons (.int .i64 v8) (.cons (.int .i64 v9) (.cons (.int .u32 v10) (.cons (.slice 3 v11) (.nil))))) (.nil)))), .var (.cons (.row 100002) (.cons (.row 100003) (.cons (.int .i64 v12) (.cons (.int .i64 v13) (.nil))))), .row 84 v14, .row 127 v15]⟩ => some ⟨(v0, v1, v2, v3, v4, v5, v6, v7, v8, v9, v10, v11, v12, v13, v14, v15), rfl⟩
  | _ => none
def on76_2a : GErr × Int × Int × Int × Int × Int × Int × Int × List Int × Int × Int × List (List Int) × List T126 → NSt Ty := fun x => ⟨[.ptr 100000 [], .err (x.1)], [.var (.cons (.ptr 100001 []) (.cons (.cons (.int .i64 (x.2.1)) (.cons (.int .i64 (x.2.2.1)) (.cons (.int .i64 (x.2.2.2.1)) (.cons (.int .i64 (x.2.2.2.2.1)) (.nil))))) (.cons (.cons (.int .i64 (x.2.2.2.2.2.1)) (.cons (.int .i64 (x.2.2.2.2.2.2.1)) (.cons (.int .u32 (x.2.2.2.2.2.2.2.1)) (.cons (.slice 3 (x.2.2.2.2.2.2.2.2.1)) (.nil))))) (.nil)))), .var (.cons (.row 100002) (.cons (.row 100003) (.cons (.int .i64 (x.2.2.2.2.2.2.2.2.2.1)) (.cons (.int .i64 (x.2.2.2.2.2.2.2.2.2.2.1)) (.nil))))), .row 84 (x.2.2.2.2.2.2.2.2.2.2.2.1), .row 127 (x.2.2.2.2.2.2.2.2.2.2.2.2)]⟩
def on76_2b : Int × Int × Int × Int × Int × Int × Int × List Int × Int × Int × List (List Int) × List T126 → NSt Ty := fun x => ⟨[.ptr 100000 [], .undef], [.var (.cons (.ptr 100001 []) (.cons (.cons (.int .i64 (x.1)) (.cons (.int .i64 (x.2.1)) (.cons (.int .i64 (x.2.2.1)) (.cons (.int .i64 (x.2.2.2.1)) (.nil))))) (.cons (.cons (.int .i64 (x.2.2.2.2.1)) (.cons (.int .i64 (x.2.2.2.2.2.1)) (.cons (.int .u32 (x.2.2.2.2.2.2.1)) (.cons (.slice 3 (x.2.2.2.2.2.2.2.1)) (.nil))))) (.nil)))), .var (.cons (.row 100002) (.cons (.row 100003) (.cons (.int .i64 (x.2.2.2.2.2.2.2.2.1)) (.cons (.int .i64 (x.2.2.2.2.2.2.2.2.2.1)) (.nil))))), .row 84 (x.2.2.2.2.2.2.2.2.2.2.1), .row 127 (x.2.2.2.2.2.2.2.2.2.2.2)]⟩
def oa76_2 : (e : Ex) → (n : NSt Ty) → Option {y : (GErr × Int × Int × Int × Int × Int × Int × Int × List Int × Int × Int × List (List Int) × List T126) ⊕ (Int × Int × Int × Int × Int × Int × Int × List Int × Int × Int × List (List Int) × List T126) // oe2 .ret (.exit 0) y = e ∧ on2 on76_2a on76_2b y = n}
  | .ret, ⟨[.ptr 100000 [], .err v0], [.var (.cons (.ptr 100001 []) (.cons (.cons (.int .i64 v1) (.cons (.int .i64 v2) (.cons (.int .i64 v3) (.cons (.int .i64 v4) (.nil))))) (.cons (.cons (.int .i64 v5) (.cons (.int .i64 v6) (.cons (.int .u32 v7) (.cons (.slice 3 v8) (.nil))))) (.nil)))), .var (.cons (.row 100002) (.cons (.row 100003) (.cons (.int .i64 v9) (.cons (.int .i64 v10) (.nil))))), .row 84 v11, .row 127 v12]⟩ => some ⟨.inl (v0, v1, v2, v3, v4, v5, v6, v7, v8, v9, v10, v11, v12), rfl, rfl⟩
  | .exit 0, ⟨[.ptr 100000 [], .undef], [.var (.cons (.ptr 100001 []) (.cons (.cons (.int .i64 v0) (.cons (.int .i64 v1) (.cons (.int .i64 v2) (.cons (.int .i64 v3) (.nil))))) (.cons (.cons (.int .i64 v4) (.cons (.int .i64 v5) (.cons (.int .u32 v6) (.cons (.slice 3 v7) (.nil))))) (.nil)))), .var (.cons (.row 100002) (.cons (.row 100003) (.cons (.int .i64 v8) (.cons (.int .i64 v9) (.nil))))), .row 84 v10, .row 127 v11]⟩ => some ⟨.inr (v0, v1, v2, v3, v4, v5, v6, v7, v8, v9, v10, v11), rfl, rfl⟩
  | _, _ => none
/-- a round of the loop 2 of function 76 -/
def R76_2 (k : Nat) (again : Int × List (List Int) × Int × Int × Int × Int × Int × Int × Int × Int × Int × List Int × Int × Int × List (List Int) × List T126 → Option ((GErr × Int × Int × Int × Int × Int × Int × Int × List Int × Int × Int × List (List Int) × List T126) ⊕ (Int × Int × Int × Int × Int × Int × Int × List Int × Int × Int × List (List Int) × List T126))) (x : Int × List (List Int) × Int × Int × Int × Int × Int × Int × Int × Int × Int × List Int × Int × Int × List (List Int) × List T126) : Option ((GErr × Int × Int × Int × Int × Int × Int × Int × List Int × Int × Int × List (List Int) × List T126) ⊕ (Int × Int × Int × Int × Int × Int × Int × List Int × Int × Int × List (List Int) × List T126)) :=
  match x with
  | (v0, v1, v2, v3, v4, v5, v6, v7, v8, v9, v10, v11, v12, v13, v14, v15) => bif decide (v3 < v2) then bif inRange v3 v1.length then (F49 k (IntKind.i64.wrap (v0 + v3), v1.getD v3.toNat (List.replicate (64 : Nat) (0 : Int)), v12, v13, v14, v15)).bind fun r => bif r.fst != (0 : Int) then (F65 k (r.fst, ByteArray.mk (Array.mk [(119 : UInt8), (114 : UInt8), (105 : UInt8), (116 : UInt8), (101 : UInt8)]), ())).bind fun r_1 => (F64 k (r_1, ByteArray.mk (Array.mk [(103 : UInt8), (114 : UInt8), (111 : UInt8), (117 : UInt8), (112 : UInt8)]), ())).bind fun r_2 => some (Sum.inl (r_2, v4, v5, v6, v7, v8, v9, v10, v11, r.snd.fst, r.snd.snd.fst, r.snd.snd.snd.fst, r.snd.snd.snd.snd)) else again (v0, v1, v2, IntKind.i64.wrap (v3 + (1 : Int)), v4, v5, v6, v7, v8, v9, v10, v11, r.snd.fst, r.snd.snd.fst, r.snd.snd.snd.fst, r.snd.snd.snd.snd) else none else some (Sum.inr (v4, v5, v6, v7, v8, v9, v10, v11, v12, v13, v14, v15))
def L76_2 (k n : Nat) (x : Int × List (List Int) × Int × Int × Int × Int × Int × Int × Int × Int × Int × List Int × Int × Int × List (List Int) × List T126) : Option ((GErr × Int × Int × Int × Int × Int × Int × Int × List Int × Int × Int × List (List Int) × List T126) ⊕ (Int × Int × Int × Int × Int × Int × Int × List Int × Int × Int × List (List Int) × List T126)) := iterR (R76_2 k) n x
noncomputable def ls76_2 : Nat → Option (LSum Ty) := addL 2 (lsum2 of76_2 ab76_2 L76_2 .ret on76_2a (.exit 0) on76_2b) noL
def kp76 : Nat → Keep := pinned 2 fun i => cond (i == 2) ⟨[0, 1, 10, 11, 12], [0, 6], 0⟩ (⟨[], [], 0⟩)
def on76 : GErr × Int × Int × Int × Int × Int × Int × Int × List Int × Int × Int × List (List Int) × List T126 → NSt Ty := fun x => ⟨[.err (x.1)], [.var (.cons (.ptr 100001 []) (.cons (.cons (.int .i64 (x.2.1)) (.cons (.int .i64 (x.2.2.1)) (.cons (.int .i64 (x.2.2.2.1)) (.cons (.int .i64 (x.2.2.2.2.1)) (.nil))))) (.cons (.cons (.int .i64 (x.2.2.2.2.2.1)) (.cons (.int .i64 (x.2.2.2.2.2.2.1)) (.cons (.int .u32 (x.2.2.2.2.2.2.2.1)) (.cons (.slice 3 (x.2.2.2.2.2.2.2.2.1)) (.nil))))) (.nil)))), .var (.cons (.row 100002) (.cons (.row 100003) (.cons (.int .i64 (x.2.2.2.2.2.2.2.2.2.1)) (.cons (.int .i64 (x.2.2.2.2.2.2.2.2.2.2.1)) (.nil))))), .row 84 (x.2.2.2.2.2.2.2.2.2.2.2.1), .row 127 (x.2.2.2.2.2.2.2.2.2.2.2.2)]⟩
def oa76 : (n : NSt Ty) → Option {y : GErr × Int × Int × Int × Int × Int × Int × Int × List Int × Int × Int × List (List Int) × List T126 // on76 y = n}
  | ⟨[.err v0], [.var (.cons (.ptr 100001 []) (.cons (.cons (.int .i64 v1) (.cons (.int .i64 v2) (.cons (.int .i64 v3) (.cons (.int .i64 v4) (.nil))))) (.cons (.cons (.int .i64 v5) (.cons (.int .i64 v6) (.cons (.int .u32 v7) (.cons (.slice 3 v8) (.nil))))) (.nil)))), .var (.cons (.row 100002) (.cons (.row 100003) (.cons (.int .i64 v9) (.cons (.int .i64 v10) (.nil))))), .row 84 v11, .row 127 v12]⟩ => some ⟨(v0, v1, v2, v3, v4, v5, v6, v7, v8, v9, v10, v11, v12), rfl⟩
  | _ => none
/-- "(*silt/journal.Journal).write"  -/
def F76 (k : Nat) (x : Int × List (List Int) × Int × Int × Int × Int × Int × Int × Int × List Int × Int × Int × List (List Int) × List T126) : Option (GErr × Int × Int × Int × Int × Int × Int × Int × List Int × Int × Int × List (List Int) × List T126) :=
  match x with
  | (v0, v1, v2, v3, v4, v5, v6, v7, v8, v9, v10, v11, v12, v13) => (L76_2 k k (v0, v1, (↑v1.length : Int), (0 : Int), v2, v3, v4, v5, v6, v7, v8, v9, v10, v11, v12, v13)).bind fun r => sumK r (fun a => some (a.fst, a.snd.fst, a.snd.snd.fst, a.snd.snd.snd.fst, a.snd.snd.snd.snd.fst, a.snd.snd.snd.snd.snd.fst, a.snd.snd.snd.snd.snd.snd.fst, a.snd.snd.snd.snd.snd.snd.snd.fst, a.snd.snd.snd.snd.snd.snd.snd.snd.fst, a.snd.snd.snd.snd.snd.snd.snd.snd.snd.fst, a.snd.snd.snd.snd.snd.snd.snd.snd.snd.snd.fst, a.snd.snd.snd.snd.snd.snd.snd.snd.snd.snd.snd.fst, a.snd.snd.snd.snd.snd.snd.snd.snd.snd.snd.snd.snd)) fun b => (F50 k (b.snd.snd.snd.snd.snd.snd.snd.snd.fst, b.snd.snd.snd.snd.snd.snd.snd.snd.snd.fst, b.snd.snd.snd.snd.snd.snd.snd.snd.snd.snd.fst, b.snd.snd.snd.snd.snd.snd.snd.snd.snd.snd.snd)).bind fun r => (F65 k (r.fst, ByteArray.mk (Array.mk [(102 : UInt8), (108 : UInt8), (117 : UInt8), (115 : UInt8), (104 : UInt8)]), ())).bind fun r_1 => (F64 k (r_1, ByteArray.mk (Array.mk [(103 : UInt8), (114 : UInt8), (111 : UInt8), (117 : UInt8), (112 : UInt8)]), ())).bind fun r_2 => some (r_2, b.fst, b.snd.fst, b.snd.snd.fst, b.snd.snd.snd.fst, b.snd.snd.snd.snd.fst, b.snd.snd.snd.snd.snd.fst, b.snd.snd.snd.snd.snd.snd.fst, b.snd.snd.snd.snd.snd.snd.snd.fst, r.snd.fst, r.snd.snd.fst, r.snd.snd.snd.fst, r.snd.snd.snd.snd)
noncomputable def sp76 : FSpec Ty := addH 2 ab76 F76 on76 noH
theorem lo76_2 : LSOK fs50 kp76 tab Tryd.f76 ls76_2 := lsum2_ok bo76 nd76 (LSOK.none) oa76_2 (R := R76_2) fun k again x => by kernel_rfl
theorem ok76 : FOK Tryd.prog tab 76 sp76 := addH_ok (keeps := kp76) tabOK fs50OK Tryd.func76 bo76 (by kernel_rfl) nd76 (lo76_2) oa76 (F := F76) (fun k x => by kernel_rfl) (pinned_le (Nat.le_refl _) _) FOK.none rfl
noncomputable def fs76 : Nat → Option (FSpec Ty) := addF 76 sp76 fs50
theorem fs76OK : SpecsOK Tryd.prog tab fs76 := fs50OK.add ok76 Tryd.call76
def ag77 : Args Ty ((List T80) × Unit) := V.arg (tab.den 50) (noArgs)
def rs77 : Res Ty tab (Int) false := V.oneRes (tab.den 3) (ent 3).ids (ent 3).plain (fun x _ => (ent 3).flat x rfl)
def kp77 : Nat → Keep := fun i => ⟨[], [], 0⟩
/-- "silt/group.Parts" -/
def F77 (k : Nat) (x : (List T80) × Unit) : Option (Int) :=
  match x with
  | (a0, ()) => (F88 k (a0, ())).bind fun r => bif !r then some (0 : Int) else some (IntKind.i64.wrap (IntKind.i64.wrap ((IntKind.i64.wrap ((↑a0.length : Int) - (1 : Int))).tdiv (24 : Int)) + (1 : Int)))
noncomputable def sp77 : FSpec Ty := spec ag77 rs77 F77
theorem bo77 : Tryd.f77.body = some (bodyOf Tryd.f77) := by kernel_rfl
theorem nd77 : nodupB ((loopsIn (bodyOf Tryd.f77)).map firstRegion) = true := by kernel_rfl
theorem ok77 : FOK Tryd.prog tab 77 sp77 := spec_ok (keeps := kp77) tabOK fs76OK Tryd.func77 bo77 (by kernel_rfl) nd77 (LSOK.none) (F := F77) fun k x => by kernel_rfl
noncomputable def fs77 : Nat → Option (FSpec Ty) := addF 77 sp77 fs76
theorem fs77OK : SpecsOK Tryd.prog tab fs77 := fs76OK.add ok77 Tryd.call77
theorem bo52 : Tryd.f52.body = some (bodyOf Tryd.f52) := by kernel_rfl
theorem nd52 : nodupB ((loopsIn (bodyOf Tryd.f52)).map firstRegion) = true := by kernel_rfl
def of52 : List T80 × Int × Int × Int × Int × Int × Int × Int × List Int × Int × Int × List (List Int) × List T126 → NSt Ty := fun x => ⟨[.ptr 100000 [], .slice 81 (x.1)], [.var (.cons (.ptr 100001 []) (.cons (.cons (.int .i64 (x.2.1)) (.cons (.int .i64 (x.2.2.1)) (.cons (.int .i64 (x.2.2.2.1)) (.cons (.int .i64 (x.2.2.2.2.1)) (.nil))))) (.cons (.cons (.int .i64 (x.2.2.2.2.2.1)) (.cons (.int .i64 (x.2.2.2.2.2.2.1)) (.cons (.int .u32 (x.2.2.2.2.2.2.2.1)) (.cons (.slice 3 (x.2.2.2.2.2.2.2.2.1)) (.nil))))) (.nil)))), .var (.cons (.row 100002) (.cons (.row 100003) (.cons (.int .i64 (x.2.2.2.2.2.2.2.2.2.1)) (.cons (.int .i64 (x.2.2.2.2.2.2.2.2.2.2.1)) (.nil))))), .row 84 (x.2.2.2.2.2.2.2.2.2.2.2.1), .row 127 (x.2.2.2.2.2.2.2.2.2.2.2.2)]⟩
def ab52 : (n : NSt Ty) → Option {x : List T80 × Int × Int × Int × Int × Int × Int × Int × List Int × Int × Int × List (List Int) × List T126 // of52 x = n}
  | ⟨[.ptr 100000 [], .slice 81 v0], [.var (.cons (.ptr 100001 []) (.cons (.cons (.int .i64 v1) (.cons (.int .i64 v2) (.cons (.int .i64 v3) (.cons (.int .i64 v4) (.nil))))) (.cons (.cons (.int .i64 v5) (.cons (.int .i64 v6) (.cons (.int .u32 v7) (.cons (.slice 3 v8) (.nil))))) (.nil)))), .var (.cons (.row 100002) (.cons (.row 100003) (.cons (.int .i64 v9) (.cons (.int .i64 v10) (.nil))))), .row 84 v11, .row 127 v12]⟩ => some ⟨(v0, v1, v2, v3, v4, v5, v6, v7, v8, v9, v10, v11, v12), rfl⟩
  | _ => none
def of52_13 : List T80 × List (List Int) × Int × List Int × Int × Int × Int × Int × Int × Int × Int × Int × Int × List Int × Int × Int × Int × Int × Int × List Int × List Int × List (List Int) × List T126 → NSt Ty := fun x => ⟨[.ptr 100000 [], .slice 81 (x.1), .slice 84 (x.2.1), .ptr 100002 [], .int .i64 (x.2.2.1), .row 100003, .slice 3 (x.2.2.2.1), .int .i64 (x.2.2.2.2.1), .int .i64 (x.2.2.2.2.2.1)], [.var (.cons (.ptr 100001 []) (.cons (.cons (.int .i64 (x.2.2.2.2.2.2.1)) (.cons (.int .i64 (x.2.2.2.2.2.2.2.1)) (.cons (.int .i64 (x.2.2.2.2.2.2.2.2.1)) (.cons (.int .i64 (x.2.2.2.2.2.2.2.2.2.1)) (.nil))))) (.cons (.cons (.int .i64 (x.2.2.2.2.2.2.2.2.2.2.1)) (.cons (.int .i64 (x.2.2.2.2.2.2.2.2.2.2.2.1)) (.cons (.int .u32 (x.2.2.2.2.2.2.2.2.2.2.2.2.1)) (.cons (.slice 3 (x.2.2.2.2.2.2.2.2.2.2.2.2.2.1)) (.nil))))) (.nil)))), .var (.cons (.row 100004) (.cons (.row 100005) (.cons (.int .i64 (x.2.2.2.2.2.2.2.2.2.2.2.2.2.2.1)) (.cons (.int .i64 (x.2.2.2.2.2.2.2.2.2.2.2.2.2.2.2.1)) (.nil))))), .var (.cons (.int .i64 (x.2.2.2.2.2.2.2.2.2.2.2.2.2.2.2.2.1)) (.cons (.int .i64 (x.2.2.2.2.2.2.2.2.2.2.2.2.2.2.2.2.2.1)) (.cons (.int .u32 (x.2.2.2.2.2.2.2.2.2.2.2.2.2.2.2.2.2.2.1)) (.cons (.slice 3 (x.2.2.2.2.2.2.2.2.2.2.2.2.2.2.2.2.2.2.2.1)) (.nil))))), .row 3 (x.2.2.2.2.2.2.2.2.2.2.2.2.2.2.2.2.2.2.2.2.1), .row 84 (x.2.2.2.2.2.2.2.2.2.2.2.2.2.2.2.2.2.2.2.2.2.1), .row 127 (x.2.2.2.2.2.2.2.2.2.2.2.2.2.2.2.2.2.2.2.2.2.2)]⟩
def ab52_13 : (n : NSt Ty) → Option {x : List T80 × List (List Int) × Int × List Int × Int × Int × Int × Int × Int × Int × Int × Int × Int × List Int × Int × Int × Int × Int × Int × List Int × List Int × List (List Int) × List T126 // of52_13 x = n}
  | ⟨[.ptr 100000 [], .slice 81 v0, .slice 84 v1, .ptr 100002 [], .int .i64 v2, .row 100003, .slice 3 v3, .int .i64 v4, .int .i64 v5], [.var (.cons (.ptr 100001 []) (.cons (.cons (.int .i64 v6) (.cons (.int .i64 v7) (.cons (.int .i64 v8) (.cons (.int .i64 v9) (.nil))))) (.cons (.cons (.int .i64 v10) (.cons (.int .i64 v11) (.cons (.int .u32 v12) (.cons (.slice 3 v13) (.nil))))) (.nil)))), .var (.cons (.row 100004) (.cons (.row 100005) (.cons (.int .i64 v14) (.cons (.int .i64 v15) (.nil))))), .var (.cons (.int .i64 v16) (.cons (.int .i64 v17) (.cons (.int .u32 v18) (.cons (.slice 3 v19) (.nil))))), .row 3 v20, .row 84 v21, .row 127 v22]⟩ => some ⟨(v0, v1, v2, v3, v4, v5, v6, v7, v8, v9, v10, v11, v12, v13, v14, v15, v16, v17, v18, v19, v20, v21, v22), rfl⟩
  | _ => none
def oe52_13 : List T80 × List (List Int) × Int × Int × Int × Int × Int × Int × Int × List Int × Int × Int × Int × Int × Int × List Int × List Int × List (List Int) × List T126 → Ex := fun _ => .exit 0
def on52_13 : List T80 × List (List Int) × Int × Int × Int × Int × Int × Int × Int × List Int × Int × Int × Int × Int × Int × List Int × List Int × List (List Int) × List T126 → NSt Ty := fun x => ⟨[.ptr 100000 [], .slice 81 (x.1), .slice 84 (x.2.1), .ptr 100002 [], .row 100003], [.var (.cons (.ptr 100001 []) (.cons (.cons (.int .i64 (x.2.2.1)) (.cons (.int .i64 (x.2.2.2.1)) (.cons (.int .i64 (x.2.2.2.2.1)) (.cons (.int .i64 (x.2.2.2.2.2.1)) (.nil))))) (.cons (.cons (.int .i64 (x.2.2.2.2.2.2.1)) (.cons (.int .i64 (x.2.2.2.2.2.2.2.1)) (.cons (.int .u32 (x.2.2.2.2.2.2.2.2.1)) (.cons (.slice 3 (x.2.2.2.2.2.2.2.2.2.1)) (.nil))))) (.nil)))), .var (.cons (.row 100004) (.cons (.row 100005) (.cons (.int .i64 (x.2.2.2.2.2.2.2.2.2.2.1)) (.cons (.int .i64 (x.2.2.2.2.2.2.2.2.2.2.2.1)) (.nil))))), .var (.cons (.int .i64 (x.2.2.2.2.2.2.2.2.2.2.2.2.1)) (.cons (.int .i64 (x.2.2.2.2.2.2.2.2.2.2.2.2.2.1)) (.cons (.int .u32 (x.2.2.2.2.2.2.2.2.2.2.2.2.2.2.1)) (.cons (.slice 3 (x.2.2.2.2.2.2.2.2.2.2.2.2.2.2.2.1)) (.nil))))), .row 3 (x.2.2.2.2.2.2.2.2.2.2.2.2.2.2.2.2.1), .row 84 (x.2.2.2.2.2.2.2.2.2.2.2.2.2.2.2.2.2.1), .row 127 (x.2.2.2.2.2.2.2.2.2.2.2.2.2.2.2.2.2.2)]⟩
def oa52_13 : (e : Ex) → (n : NSt Ty) → Option {y : List T80 × List (List Int) × Int × Int × Int × Int × Int × Int × Int × List Int × Int × Int × Int × Int × Int × List Int × List Int × List (List Int) × List T126 // oe52_13 y = e ∧ on52_13 y = n}
  | .exit 0, ⟨[.ptr 100000 [], .slice 81 v0, .slice 84 v1, .ptr 100002 [], .row 100003], [.var (.cons (.ptr 100001 []) (.cons (.cons (.int .i64 v2) (.cons (.int .i64 v3) (.cons (.int .i64 v4) (.cons (.int .i64 v5) (.nil))))) (.cons (.cons (.int .i64 v6) (.cons (.int .i64 v7) (.cons (.int .u32 v8) (.cons (.slice 3 v9) (.nil))))) (.nil)))), .var (.cons (.row 100004) (.cons (.row 100005) (.cons (.int .i64 v10) (.cons (.int .i64 v11) (.nil))))), .var (.cons (.int .i64 v12) (.cons (.int .i64 v13) (.cons (.int .u32 v14) (.cons (.slice 3 v15) (.nil))))), .row 3 v16, .row 84 v17, .row 127 v18]⟩ => some ⟨(v0, v1, v2, v3, v4, v5, v6, v7, v8, v9, v10, v11, v12, v13, v14, v15, v16, v17, v18), rfl, rfl⟩
  | _, _ => none
/-- a round of the loop 13 of function 52 -/
def R52_13 (k : Nat) (again : List T80 × List (List Int) × Int × List Int × Int × Int × Int × Int × Int × Int × Int × Int × Int × List Int × Int × Int × Int × Int × Int × List Int × List Int × List (List Int) × List T126 → Option (List T80 × List (List Int) × Int × Int × Int × Int × Int × Int × Int × List Int × Int × Int × Int × Int × Int × List Int × List Int × List (List Int) × List T126)) (x : List T80 × List (List Int) × Int × List Int × Int × Int × Int × Int × Int × Int × Int × Int × Int × List Int × Int × Int × Int × Int × Int × List Int × List Int × List (List Int) × List T126) : Option (List T80 × List (List Int) × Int × Int × Int × Int × Int × Int × Int × List Int × Int × Int × Int × Int × Int × List Int × List Int × List (List Int) × List T126) :=
  match x with
  | (v0, v1, v2, v3, v4, v5, v6, v7, v8, v9, v10, v11, v12, v13, v14, v15, v16, v17, v18, v19, v20, v21, v22) => bif decide (v5 < v4) then bif inRange v5 v3.length then bif decide (v3.getD v5.toNat (0 : Int) ≥ (0 : Int)) then bif decide (v20.length + ((List.replicate (1 : Nat) (0 : Int)).set (0 : Nat) (IntKind.i64.wrap (v2 + v3.getD v5.toNat (0 : Int)))).length ≤ roomMost) then again (v0, v1, v2, v3, v4, IntKind.i64.wrap (v5 + (1 : Int)), v6, v7, v8, v9, v10, v11, v12, v13, v14, v15, v16, v17, v18, v19, v20 ++ (List.replicate (1 : Nat) (0 : Int)).set (0 : Nat) (IntKind.i64.wrap (v2 + v3.getD v5.toNat (0 : Int))), v21, v22) else none else bif decide (v20.length + ((List.replicate (1 : Nat) (0 : Int)).set (0 : Nat) (0 : Int)).length ≤ roomMost) then again (v0, v1, v2, v3, v4, IntKind.i64.wrap (v5 + (1 : Int)), v6, v7, v8, v9, v10, v11, v12, v13, v14, v15, v16, v17, v18, v19, v20 ++ (List.replicate (1 : Nat) (0 : Int)).set (0 : Nat) (0 : Int), v21, v22) else none else none else some (v0, v1, v6, v7, v8, v9, v10, v11, v12, v13, v14, v15, v16, v17, v18, v19, v20, v21, v22)
def L52_13 (k n : Nat) (x : List T80 × List (List Int) × Int × List Int × Int × Int × Int × Int × Int × Int × Int × Int × Int × List Int × Int × Int × Int × Int × Int × List Int × List Int × List (List Int) × List T126) : Option (List T80 × List (List Int) × Int × Int × Int × Int × Int × Int × Int × List Int × Int × Int × Int × Int × Int × List Int × List Int × List (List Int) × List T126) := iterR (R52_13 k) n x
noncomputable def ls52_13 : Nat → Option (LSum Ty) := addL 13 (LSum.of of52_13 ab52_13 L52_13 oe52_13 on52_13) noL
def kp52 : Nat → Keep := pinned 2 fun i => cond (i == 13) ⟨[0, 1, 6, 9, 11, 13, 68, 69, 70], [0, 1, 6, 9, 13], 0⟩ (⟨[], [], 0⟩)
def on52 : GErr × Int × Int × Int × Int × Int × Int × Int × List Int × Int × Int × List Int × List (List Int) × List T126 → NSt Ty := fun x => ⟨[.tup (.cons (.row 100002) (.cons (.err (x.1)) (.nil)))], [.var (.cons (.ptr 100001 []) (.cons (.cons (.int .i64 (x.2.1)) (.cons (.int .i64 (x.2.2.1)) (.cons (.int .i64 (x.2.2.2.1)) (.cons (.int .i64 (x.2.2.2.2.1)) (.nil))))) (.cons (.cons (.int .i64 (x.2.2.2.2.2.1)) (.cons (.int .i64 (x.2.2.2.2.2.2.1)) (.cons (.int .u32 (x.2.2.2.2.2.2.2.1)) (.cons (.slice 3 (x.2.2.2.2.2.2.2.2.1)) (.nil))))) (.nil)))), .var (.cons (.row 100003) (.cons (.row 100004) (.cons (.int .i64 (x.2.2.2.2.2.2.2.2.2.1)) (.cons (.int .i64 (x.2.2.2.2.2.2.2.2.2.2.1)) (.nil))))), .row 3 (x.2.2.2.2.2.2.2.2.2.2.2.1), .row 84 (x.2.2.2.2.2.2.2.2.2.2.2.2.1), .row 127 (x.2.2.2.2.2.2.2.2.2.2.2.2.2)]⟩
def oa52 : (n : NSt Ty) → Option {y : GErr × Int × Int × Int × Int × Int × Int × Int × List Int × Int × Int × List Int × List (List Int) × List T126 // on52 y = n}
  | ⟨[.tup (.cons (.row 100002) (.cons (.err v0) (.nil)))], [.var (.cons (.ptr 100001 []) (.cons (.cons (.int .i64 v1) (.cons (.int .i64 v2) (.cons (.int .i64 v3) (.cons (.int .i64 v4) (.nil))))) (.cons (.cons (.int .i64 v5) (.cons (.int .i64 v6) (.cons (.int .u32 v7) (.cons (.slice 3 v8) (.nil))))) (.nil)))), .var (.cons (.row 100003) (.cons (.row 100004) (.cons (.int .i64 v9) (.cons (.int .i64 v10) (.nil))))), .row 3 v11, .row 84 v12, .row 127 v13]⟩ => some ⟨(v0, v1, v2, v3, v4, v5, v6, v7, v8, v9, v10, v11, v12, v13), rfl⟩
  | _ => none
/-- "(*silt/journal.Journal).put"  -/
def F52 (k : Nat) (x : List T80 × Int × Int × Int × Int × Int × Int × Int × List Int × Int × Int × List (List Int) × List T126) : Option (GErr × Int × Int × Int × Int × Int × Int × Int × List Int × Int × Int × List Int × List (List Int) × List T126) :=
  match x with
  | (v0, v1, v2, v3, v4, v5, v6, v7, v8, v9, v10, v11, v12) => (F73 k (v7, v0, ())).bind fun r => bif r.snd.snd.fst != (0 : Int) then (F65 k ((1 : Int), ByteArray.mk (Array.mk [(105 : UInt8), (116 : UInt8), (101 : UInt8), (109 : UInt8), (115 : UInt8)]), ())).bind fun r => some (r, v1, v2, v3, v4, v5, v6, v7, v8, v9, v10, [], v11, v12) else bif decide ((↑r.fst.length : Int) > v3) then (F65 k ((1 : Int), ByteArray.mk (Array.mk [(105 : UInt8), (116 : UInt8), (101 : UInt8), (109 : UInt8), (115 : UInt8)]), ())).bind fun r => some (r, v1, v2, v3, v4, v5, v6, v7, v8, v9, v10, [], v11, v12) else (F74 k ((↑r.fst.length : Int), v1, v2, v3, v4, v5, v6, v7, v8, v9, v10, v11, v12)).bind fun r_1 => sumK r_1 (fun a => bif !a.snd.snd.snd.snd.fst.isNil then some (a.snd.snd.snd.snd.fst, a.snd.snd.snd.snd.snd.fst, a.snd.snd.snd.snd.snd.snd.fst, a.snd.snd.snd.snd.snd.snd.snd.fst, a.snd.snd.snd.snd.snd.snd.snd.snd.fst, a.snd.snd.snd.snd.snd.snd.snd.snd.snd.fst, a.snd.snd.snd.snd.snd.snd.snd.snd.snd.snd.fst, a.snd.snd.snd.snd.snd.snd.snd.snd.snd.snd.snd.fst, a.snd.snd.snd.snd.snd.snd.snd.snd.snd.snd.snd.snd.fst, a.snd.snd.snd.snd.snd.snd.snd.snd.snd.snd.snd.snd.snd.fst, a.snd.snd.snd.snd.snd.snd.snd.snd.snd.snd.snd.snd.snd.snd.fst, [], a.snd.snd.snd.snd.snd.snd.snd.snd.snd.snd.snd.snd.snd.snd.snd.fst, a.snd.snd.snd.snd.snd.snd.snd.snd.snd.snd.snd.snd.snd.snd.snd.snd) else (F75 k (T23.mk a.snd.snd.snd.snd.snd.fst a.snd.snd.snd.snd.snd.snd.fst a.snd.snd.snd.snd.snd.snd.snd.fst a.snd.snd.snd.snd.snd.snd.snd.snd.fst, a.fst, ())).bind fun r_2 => (F76 k (IntKind.i64.wrap (r_2 + a.snd.fst), r.fst, a.snd.snd.snd.snd.snd.fst, a.snd.snd.snd.snd.snd.snd.fst, a.snd.snd.snd.snd.snd.snd.snd.fst, a.snd.snd.snd.snd.snd.snd.snd.snd.fst, a.snd.snd.snd.snd.snd.snd.snd.snd.snd.fst, a.snd.snd.snd.snd.snd.snd.snd.snd.snd.snd.fst, a.snd.snd.snd.snd.snd.snd.snd.snd.snd.snd.snd.fst, a.snd.snd.snd.snd.snd.snd.snd.snd.snd.snd.snd.snd.fst, a.snd.snd.snd.snd.snd.snd.snd.snd.snd.snd.snd.snd.snd.fst, a.snd.snd.snd.snd.snd.snd.snd.snd.snd.snd.snd.snd.snd.snd.fst, a.snd.snd.snd.snd.snd.snd.snd.snd.snd.snd.snd.snd.snd.snd.snd.fst, a.snd.snd.snd.snd.snd.snd.snd.snd.snd.snd.snd.snd.snd.snd.snd.snd)).bind fun r_3 => bif !r_3.fst.isNil then some (r_3.fst, r_3.snd.fst, r_3.snd.snd.fst, r_3.snd.snd.snd.fst, r_3.snd.snd.snd.snd.fst, r_3.snd.snd.snd.snd.snd.fst, r_3.snd.snd.snd.snd.snd.snd.fst, r_3.snd.snd.snd.snd.snd.snd.snd.fst, r_3.snd.snd.snd.snd.snd.snd.snd.snd.fst, r_3.snd.snd.snd.snd.snd.snd.snd.snd.snd.fst, r_3.snd.snd.snd.snd.snd.snd.snd.snd.snd.snd.fst, [], r_3.snd.snd.snd.snd.snd.snd.snd.snd.snd.snd.snd.fst, r_3.snd.snd.snd.snd.snd.snd.snd.snd.snd.snd.snd.snd) else (L52_13 k k (v0, r.fst, IntKind.i64.wrap (r_2 + a.snd.fst), r.snd.fst, (↑r.snd.fst.length : Int), (0 : Int), r_3.snd.fst, r_3.snd.snd.fst, r_3.snd.snd.snd.fst, r_3.snd.snd.snd.snd.fst, r_3.snd.snd.snd.snd.snd.fst, r_3.snd.snd.snd.snd.snd.snd.fst, r_3.snd.snd.snd.snd.snd.snd.snd.fst, r_3.snd.snd.snd.snd.snd.snd.snd.snd.fst, r_3.snd.snd.snd.snd.snd.snd.snd.snd.snd.fst, r_3.snd.snd.snd.snd.snd.snd.snd.snd.snd.snd.fst, a.fst, a.snd.fst, a.snd.snd.fst, a.snd.snd.snd.fst, [], r_3.snd.snd.snd.snd.snd.snd.snd.snd.snd.snd.snd.fst, r_3.snd.snd.snd.snd.snd.snd.snd.snd.snd.snd.snd.snd)).bind fun r => (F77 k (r.fst, ())).bind fun r_4 => some (GErr.nil, r.snd.snd.fst, r.snd.snd.snd.fst, r.snd.snd.snd.snd.fst, r.snd.snd.snd.snd.snd.fst, r.snd.snd.snd.snd.snd.snd.snd.snd.snd.snd.snd.snd.fst, IntKind.i64.wrap (r.snd.snd.snd.snd.snd.snd.snd.snd.snd.snd.snd.snd.snd.fst + (↑r.snd.fst.length : Int)), IntKind.u32.wrap (r.snd.snd.snd.snd.snd.snd.snd.snd.snd.snd.snd.snd.snd.snd.fst + IntKind.u32.wrap r_4), r.snd.snd.snd.snd.snd.snd.snd.snd.snd.snd.snd.snd.snd.snd.snd.fst, r.snd.snd.snd.snd.snd.snd.snd.snd.snd.snd.fst, r.snd.snd.snd.snd.snd.snd.snd.snd.snd.snd.snd.fst, r.snd.snd.snd.snd.snd.snd.snd.snd.snd.snd.snd.snd.snd.snd.snd.snd.fst, r.snd.snd.snd.snd.snd.snd.snd.snd.snd.snd.snd.snd.snd.snd.snd.snd.snd.fst, r.snd.snd.snd.snd.snd.snd.snd.snd.snd.snd.snd.snd.snd.snd.snd.snd.snd.snd)) fun b => bif !b.snd.snd.snd.fst.isNil then some (b.snd.snd.snd.fst, b.snd.snd.snd.snd.fst, b.snd.snd.snd.snd.snd.fst, b.snd.snd.snd.snd.snd.snd.fst, b.snd.snd.snd.snd.snd.snd.snd.fst, b.snd.snd.snd.snd.snd.snd.snd.snd.fst, b.snd.snd.snd.snd.snd.snd.snd.snd.snd.fst, b.snd.snd.snd.snd.snd.snd.snd.snd.snd.snd.fst, b.snd.snd.snd.snd.snd.snd.snd.snd.snd.snd.snd.fst, b.snd.snd.snd.snd.snd.snd.snd.snd.snd.snd.snd.snd.fst, b.snd.snd.snd.snd.snd.snd.snd.snd.snd.snd.snd.snd.snd.fst, [], b.snd.snd.snd.snd.snd.snd.snd.snd.snd.snd.snd.snd.snd.snd.snd.fst, b.snd.snd.snd.snd.snd.snd.snd.snd.snd.snd.snd.snd.snd.snd.snd.snd) else (F75 k (T23.mk b.snd.snd.snd.snd.fst b.snd.snd.snd.snd.snd.fst b.snd.snd.snd.snd.snd.snd.fst b.snd.snd.snd.snd.snd.snd.snd.fst, b.fst, ())).bind fun r_2 => (F76 k (IntKind.i64.wrap (r_2 + b.snd.fst), r.fst, b.snd.snd.snd.snd.fst, b.snd.snd.snd.snd.snd.fst, b.snd.snd.snd.snd.snd.snd.fst, b.snd.snd.snd.snd.snd.snd.snd.fst, b.snd.snd.snd.snd.snd.snd.snd.snd.fst, b.snd.snd.snd.snd.snd.snd.snd.snd.snd.fst, b.snd.snd.snd.snd.snd.snd.snd.snd.snd.snd.fst, b.snd.snd.snd.snd.snd.snd.snd.snd.snd.snd.snd.fst, b.snd.snd.snd.snd.snd.snd.snd.snd.snd.snd.snd.snd.fst, b.snd.snd.snd.snd.snd.snd.snd.snd.snd.snd.snd.snd.snd.fst, b.snd.snd.snd.snd.snd.snd.snd.snd.snd.snd.snd.snd.snd.snd.snd.fst, b.snd.snd.snd.snd.snd.snd.snd.snd.snd.snd.snd.snd.snd.snd.snd.snd)).bind fun r => bif !r.fst.isNil then some (r.fst, r.snd.fst, r.snd.snd.fst, r.snd.snd.snd.fst, r.snd.snd.snd.snd.fst, r.snd.snd.snd.snd.snd.fst, r.snd.snd.snd.snd.snd.snd.fst, r.snd.snd.snd.snd.snd.snd.snd.fst, r.snd.snd.snd.snd.snd.snd.snd.snd.fst, r.snd.snd.snd.snd.snd.snd.snd.snd.snd.fst, r.snd.snd.snd.snd.snd.snd.snd.snd.snd.snd.fst, [], r.snd.snd.snd.snd.snd.snd.snd.snd.snd.snd.snd.fst, r.snd.snd.snd.snd.snd.snd.snd.snd.snd.snd.snd.snd) else none
noncomputable def sp52 : FSpec Ty := addH 2 ab52 F52 on52 noH
theorem lo52_13 : LSOK fs77 kp52 tab Tryd.f52 ls52_13 := lsum_ok bo52 nd52 (LSOK.none) oa52_13 (R := R52_13) fun k again x => by kernel_rfl
theorem ok52 : FOK Tryd.prog tab 52 sp52 := addH_ok (keeps := kp52) tabOK fs77OK Tryd.func52 bo52 (by kernel_rfl) nd52 (lo52_13) oa52 (F := F52) (fun k x => by kernel_rfl) (pinned_le (Nat.le_refl _) _) FOK.none rfl
noncomputable def fs52 : Nat → Option (FSpec Ty) := addF 52 sp52 fs77
theorem fs52OK : SpecsOK Tryd.prog tab fs52 := fs77OK.add ok52 Tryd.call52
theorem bo23 : Tryd.f23.body = some (bodyOf Tryd.f23) := by kernel_rfl
theorem nd23 : nodupB ((loopsIn (bodyOf Tryd.f23)).map firstRegion) = true := by kernel_rfl
def of23hn : List T80 → NSt Ty := fun x => ⟨[.nilp, .slice 81 (x)], []⟩
def ab23hn : (n : NSt Ty) → Option {x : List T80 // of23hn x = n}
  | ⟨[.nilp, .slice 81 v0], []⟩ => some ⟨v0, rfl⟩
  | _ => none
def kp23hn : Nat → Keep := pinned 0 fun i => ⟨[], [], 0⟩
def on23hn : Int × List Int → NSt Ty := fun x => ⟨[.tup (.cons (.row 100000) (.cons (.int .i64 (x.1)) (.nil)))], [.row 3 (x.2)]⟩
def oa23hn : (n : NSt Ty) → Option {y : Int × List Int // on23hn y = n}
  | ⟨[.tup (.cons (.row 100000) (.cons (.int .i64 v0) (.nil)))], [.row 3 v1]⟩ => some ⟨(v0, v1), rfl⟩
  | _ => none
/-- "(*silt/journal.Journal).Put" hn -/
def F23hn (k : Nat) (x : List T80) : Option (Int × List Int) :=
  match x with
  | v0 => some ((1 : Int), [])
noncomputable def sp23hn : FSpec Ty := addH 0 ab23hn F23hn on23hn noH
theorem ok23hn : FOK Tryd.prog tab 23 sp23hn := addH_ok (keeps := kp23hn) tabOK fs52OK Tryd.func23 bo23 (by kernel_rfl) nd23 (LSOK.none) oa23hn (F := F23hn) (fun k x => by kernel_rfl) (pinned_le (Nat.le_refl _) _) FOK.none rfl
def of23 : List T80 × Int × Int × Int × Int × Int × Int × Int × List Int × Int × Int × List (List Int) × List T126 → NSt Ty := fun x => ⟨[.ptr 100000 [], .slice 81 (x.1)], [.var (.cons (.ptr 100001 []) (.cons (.cons (.int .i64 (x.2.1)) (.cons (.int .i64 (x.2.2.1)) (.cons (.int .i64 (x.2.2.2.1)) (.cons (.int .i64 (x.2.2.2.2.1)) (.nil))))) (.cons (.cons (.int .i64 (x.2.2.2.2.2.1)) (.cons (.int .i64 (x.2.2.2.2.2.2.1)) (.cons (.int .u32 (x.2.2.2.2.2.2.2.1)) (.cons (.slice 3 (x.2.2.2.2.2.2.2.2.1)) (.nil))))) (.nil)))), .var (.cons (.row 100002) (.cons (.row 100003) (.cons (.int .i64 (x.2.2.2.2.2.2.2.2.2.1)) (.cons (.int .i64 (x.2.2.2.2.2.2.2.2.2.2.1)) (.nil))))), .row 84 (x.2.2.2.2.2.2.2.2.2.2.2.1), .row 127 (x.2.2.2.2.2.2.2.2.2.2.2.2)]⟩
def ab23 : (n : NSt Ty) → Option {x : List T80 × Int × Int × Int × Int × Int × Int × Int × List Int × Int × Int × List (List Int) × List T126 // of23 x = n}
  | ⟨[.ptr 100000 [], .slice 81 v0], [.var (.cons (.ptr 100001 []) (.cons (.cons (.int .i64 v1) (.cons (.int .i64 v2) (.cons (.int .i64 v3) (.cons (.int .i64 v4) (.nil))))) (.cons (.cons (.int .i64 v5) (.cons (.int .i64 v6) (.cons (.int .u32 v7) (.cons (.slice 3 v8) (.nil))))) (.nil)))), .var (.cons (.row 100002) (.cons (.row 100003) (.cons (.int .i64 v9) (.cons (.int .i64 v10) (.nil))))), .row 84 v11, .row 127 v12]⟩ => some ⟨(v0, v1, v2, v3, v4, v5, v6, v7, v8, v9, v10, v11, v12), rfl⟩
  | _ => none
def kp23 : Nat → Keep := pinned 2 fun i => ⟨[], [], 0⟩
def on23 : Int × Int × Int × Int × Int × Int × Int × Int × List Int × Int × Int × List Int × List (List Int) × List T126 → NSt Ty := fun x => ⟨[.tup (.cons (.row 100002) (.cons (.int .i64 (x.1)) (.nil)))], [.var (.cons (.ptr 100001 []) (.cons (.cons (.int .i64 (x.2.1)) (.cons (.int .i64 (x.2.2.1)) (.cons (.int .i64 (x.2.2.2.1)) (.cons (.int .i64 (x.2.2.2.2.1)) (.nil))))) (.cons (.cons (.int .i64 (x.2.2.2.2.2.1)) (.cons (.int .i64 (x.2.2.2.2.2.2.1)) (.cons (.int .u32 (x.2.2.2.2.2.2.2.1)) (.cons (.slice 3 (x.2.2.2.2.2.2.2.2.1)) (.nil))))) (.nil)))), .var (.cons (.row 100003) (.cons (.row 100004) (.cons (.int .i64 (x.2.2.2.2.2.2.2.2.2.1)) (.cons (.int .i64 (x.2.2.2.2.2.2.2.2.2.2.1)) (.nil))))), .row 3 (x.2.2.2.2.2.2.2.2.2.2.2.1), .row 84 (x.2.2.2.2.2.2.2.2.2.2.2.2.1), .row 127 (x.2.2.2.2.2.2.2.2.2.2.2.2.2)]⟩
def oa23 : (n : NSt Ty) → Option {y : Int × Int × Int × Int × Int × Int × Int × Int × List Int × Int × Int × List Int × List (List Int) × List T126 // on23 y = n}
  | ⟨[.tup (.cons (.row 100002) (.cons (.int .i64 v0) (.nil)))], [.var (.cons (.ptr 100001 []) (.cons (.cons (.int .i64 v1) (.cons (.int .i64 v2) (.cons (.int .i64 v3) (.cons (.int .i64 v4) (.nil))))) (.cons (.cons (.int .i64 v5) (.cons (.int .i64 v6) (.cons (.int .u32 v7) (.cons (.slice 3 v8) (.nil))))) (.nil)))), .var (.cons (.row 100003) (.cons (.row 100004) (.cons (.int .i64 v9) (.cons (.int .i64 v10) (.nil))))), .row 3 v11, .row 84 v12, .row 127 v13]⟩ => some ⟨(v0, v1, v2, v3, v4, v5, v6, v7, v8, v9, v10, v11, v12, v13), rfl⟩
  | _ => none
/-- "(*silt/journal.Journal).Put"  -/
def F23 (k : Nat) (x : List T80 × Int × Int × Int × Int × Int × Int × Int × List Int × Int × Int × List (List Int) × List T126) : Option (Int × Int × Int × Int × Int × Int × Int × Int × List Int × Int × Int × List Int × List (List Int) × List T126) :=
  match x with
  | (v0, v1, v2, v3, v4, v5, v6, v7, v8, v9, v10, v11, v12) => (F52 k (v0, v1, v2, v3, v4, v5, v6, v7, v8, v9, v10, v11, v12)).bind fun r => bif r.fst.first.isSome then some (r.fst.first.getD (0 : Int), r.snd.fst, r.snd.snd.fst, r.snd.snd.snd.fst, r.snd.snd.snd.snd.fst, r.snd.snd.snd.snd.snd.fst, r.snd.snd.snd.snd.snd.snd.fst, r.snd.snd.snd.snd.snd.snd.snd.fst, r.snd.snd.snd.snd.snd.snd.snd.snd.fst, r.snd.snd.snd.snd.snd.snd.snd.snd.snd.fst, r.snd.snd.snd.snd.snd.snd.snd.snd.snd.snd.fst, [], r.snd.snd.snd.snd.snd.snd.snd.snd.snd.snd.snd.snd.fst, r.snd.snd.snd.snd.snd.snd.snd.snd.snd.snd.snd.snd.snd) else some ((0 : Int), r.snd.fst, r.snd.snd.fst, r.snd.snd.snd.fst, r.snd.snd.snd.snd.fst, r.snd.snd.snd.snd.snd.fst, r.snd.snd.snd.snd.snd.snd.fst, r.snd.snd.snd.snd.snd.snd.snd.fst, r.snd.snd.snd.snd.snd.snd.snd.snd.fst, r.snd.snd.snd.snd.snd.snd.snd.snd.snd.fst, r.snd.snd.snd.snd.snd.snd.snd.snd.snd.snd.fst, r.snd.snd.snd.snd.snd.snd.snd.snd.snd.snd.snd.fst, r.snd.snd.snd.snd.snd.snd.snd.snd.snd.snd.snd.snd.fst, r.snd.snd.snd.snd.snd.snd.snd.snd.snd.snd.snd.snd.snd)
noncomputable def sp23 : FSpec Ty := addH 2 ab23 F23 on23 sp23hn
theorem ok23 : FOK Tryd.prog tab 23 sp23 := addH_ok (keeps := kp23) tabOK fs52OK Tryd.func23 bo23 (by kernel_rfl) nd23 (LSOK.none) oa23 (F := F23) (fun k x => by kernel_rfl) (pinned_le (Nat.le_refl _) _) ok23hn rfl
noncomputable def fs23 : Nat → Option (FSpec Ty) := addF 23 sp23 fs52
theorem fs23OK : SpecsOK Tryd.prog tab fs23 := fs52OK.add ok23 Tryd.call23
theorem bo22 : Tryd.f22.body = some (bodyOf Tryd.f22) := by kernel_rfl
theorem nd22 : nodupB ((loopsIn (bodyOf Tryd.f22)).map firstRegion) = true := by kernel_rfl
def of22hn : Unit → NSt Ty := fun x => ⟨[.nilp], []⟩
def ab22hn : (n : NSt Ty) → Option {x : Unit // of22hn x = n}
  | ⟨[.nilp], []⟩ => some ⟨(), rfl⟩
  | _ => none
def kp22hn : Nat → Keep := pinned 0 fun i => ⟨[], [], 0⟩
def on22hn : Int × Int × Int × List Int → NSt Ty := fun x => ⟨[.cons (.int .i64 (x.1)) (.cons (.int .i64 (x.2.1)) (.cons (.int .u32 (x.2.2.1)) (.cons (.row 100000) (.nil))))], [.row 3 (x.2.2.2)]⟩
def oa22hn : (n : NSt Ty) → Option {y : Int × Int × Int × List Int // on22hn y = n}
  | ⟨[.cons (.int .i64 v0) (.cons (.int .i64 v1) (.cons (.int .u32 v2) (.cons (.row 100000) (.nil))))], [.row 3 v3]⟩ => some ⟨(v0, v1, v2, v3), rfl⟩
  | _ => none
/-- "(*silt/journal.Journal).At" hn -/
def F22hn (k : Nat) (x : Unit) : Option (Int × Int × Int × List Int) :=
  match x with
  | () => some ((0 : Int), (0 : Int), (0 : Int), [])
noncomputable def sp22hn : FSpec Ty := addH 0 ab22hn F22hn on22hn noH
theorem ok22hn : FOK Tryd.prog tab 22 sp22hn := addH_ok (keeps := kp22hn) tabOK fs23OK Tryd.func22 bo22 (by kernel_rfl) nd22 (LSOK.none) oa22hn (F := F22hn) (fun k x => by kernel_rfl) (pinned_le (Nat.le_refl _) _) FOK.none rfl
def of22 : Int × Int × Int × Int × Int × Int × Int × List Int × Int × Int × List (List Int) × List T126 → NSt Ty := fun x => ⟨[.ptr 100000 []], [.var (.cons (.ptr 100001 []) (.cons (.cons (.int .i64 (x.1)) (.cons (.int .i64 (x.2.1)) (.cons (.int .i64 (x.2.2.1)) (.cons (.int .i64 (x.2.2.2.1)) (.nil))))) (.cons (.cons (.int .i64 (x.2.2.2.2.1)) (.cons (.int .i64 (x.2.2.2.2.2.1)) (.cons (.int .u32 (x.2.2.2.2.2.2.1)) (.cons (.slice 3 (x.2.2.2.2.2.2.2.1)) (.nil))))) (.nil)))), .var (.cons (.row 100002) (.cons (.row 100003) (.cons (.int .i64 (x.2.2.2.2.2.2.2.2.1)) (.cons (.int .i64 (x.2.2.2.2.2.2.2.2.2.1)) (.nil))))), .row 84 (x.2.2.2.2.2.2.2.2.2.2.1), .row 127 (x.2.2.2.2.2.2.2.2.2.2.2)]⟩
def ab22 : (n : NSt Ty) → Option {x : Int × Int × Int × Int × Int × Int × Int × List Int × Int × Int × List (List Int) × List T126 // of22 x = n}
  | ⟨[.ptr 100000 []], [.var (.cons (.ptr 100001 []) (.cons (.cons (.int .i64 v0) (.cons (.int .i64 v1) (.cons (.int .i64 v2) (.cons (.int .i64 v3) (.nil))))) (.cons (.cons (.int .i64 v4) (.cons (.int .i64 v5) (.cons (.int .u32 v6) (.cons (.slice 3 v7) (.nil))))) (.nil)))), .var (.cons (.row 100002) (.cons (.row 100003) (.cons (.int .i64 v8) (.cons (.int .i64 v9) (.nil))))), .row 84 v10, .row 127 v11]⟩ => some ⟨(v0, v1, v2, v3, v4, v5, v6, v7, v8, v9, v10, v11), rfl⟩
  | _ => none
def kp22 : Nat → Keep := pinned 2 fun i => ⟨[], [], 0⟩
def on22 : Int × Int × Int × List Int × Int × Int × Int × Int × Int × Int × Int × List Int × Int × Int × List (List Int) × List T126 → NSt Ty := fun x => ⟨[.cons (.int .i64 (x.1)) (.cons (.int .i64 (x.2.1)) (.cons (.int .u32 (x.2.2.1)) (.cons (.slice 3 (x.2.2.2.1)) (.nil))))], [.var (.cons (.ptr 100001 []) (.cons (.cons (.int .i64 (x.2.2.2.2.1)) (.cons (.int .i64 (x.2.2.2.2.2.1)) (.cons (.int .i64 (x.2.2.2.2.2.2.1)) (.cons (.int .i64 (x.2.2.2.2.2.2.2.1)) (.nil))))) (.cons (.cons (.int .i64 (x.2.2.2.2.2.2.2.2.1)) (.cons (.int .i64 (x.2.2.2.2.2.2.2.2.2.1)) (.cons (.int .u32 (x.2.2.2.2.2.2.2.2.2.2.1)) (.cons (.slice 3 (x.2.2.2.2.2.2.2.2.2.2.2.1)) (.nil))))) (.nil)))), .var (.cons (.row 100002) (.cons (.row 100003) (.cons (.int .i64 (x.2.2.2.2.2.2.2.2.2.2.2.2.1)) (.cons (.int .i64 (x.2.2.2.2.2.2.2.2.2.2.2.2.2.1)) (.nil))))), .row 84 (x.2.2.2.2.2.2.2.2.2.2.2.2.2.2.1), .row 127 (x.2.2.2.2.2.2.2.2.2.2.2.2.2.2.2)]⟩
def oa22 : (n : NSt Ty) → Option {y : Int × Int × Int × List Int × Int × Int × Int × Int × Int × Int × Int × List Int × Int × Int × List (List Int) × List T126 // on22 y = n}
  | ⟨[.cons (.int .i64 v0) (.cons (.int .i64 v1) (.cons (.int .u32 v2) (.cons (.slice 3 v3) (.nil))))], [.var (.cons (.ptr 100001 []) (.cons (.cons (.int .i64 v4) (.cons (.int .i64 v5) (.cons (.int .i64 v6) (.cons (.int .i64 v7) (.nil))))) (.cons (.cons (.int .i64 v8) (.cons (.int .i64 v9) (.cons (.int .u32 v10) (.cons (.slice 3 v11) (.nil))))) (.nil)))), .var (.cons (.row 100002) (.cons (.row 100003) (.cons (.int .i64 v12) (.cons (.int .i64 v13) (.nil))))), .row 84 v14, .row 127 v15]⟩ => some ⟨(v0, v1, v2, v3, v4, v5, v6, v7, v8, v9, v10, v11, v12, v13, v14, v15), rfl⟩
  | _ => none
/-- "(*silt/journal.Journal).At"  -/
def F22 (k : Nat) (x : Int × Int × Int × Int × Int × Int × Int × List Int × Int × Int × List (List Int) × List T126) : Option (Int × Int × Int × List Int × Int × Int × Int × Int × Int × Int × Int × List Int × Int × Int × List (List Int) × List T126) :=
  match x with
  | (v0, v1, v2, v3, v4, v5, v6, v7, v8, v9, v10, v11) => (F51 k (T46.mk v4 v5 v6 v7, ())).bind fun r => some (r.1, r.2, r.3, r.4, v0, v1, v2, v3, v4, v5, v6, v7, v8, v9, v10, v11)
noncomputable def sp22 : FSpec Ty := addH 2 ab22 F22 on22 sp22hn
theorem ok22 : FOK Tryd.prog tab 22 sp22 := addH_ok (keeps := kp22) tabOK fs23OK Tryd.func22 bo22 (by kernel_rfl) nd22 (LSOK.none) oa22 (F := F22) (fun k x => by kernel_rfl) (pinned_le (Nat.le_refl _) _) ok22hn rfl
noncomputable def fs22 : Nat → Option (FSpec Ty) := addF 22 sp22 fs23
theorem fs22OK : SpecsOK Tryd.prog tab fs22 := fs23OK.add ok22 Tryd.call22
theorem bo38 : Tryd.f38.body = some (bodyOf Tryd.f38) := by kernel_rfl
theorem nd38 : nodupB ((loopsIn (bodyOf Tryd.f38)).map firstRegion) = true := by kernel_rfl
def of38hn : Int → NSt Ty := fun x => ⟨[.nilp, .int .i64 (x)], []⟩
def ab38hn : (n : NSt Ty) → Option {x : Int // of38hn x = n}
  | ⟨[.nilp, .int .i64 v0], []⟩ => some ⟨v0, rfl⟩
  | _ => none
def kp38hn : Nat → Keep := pinned 0 fun i => cond (i == 5) ⟨[1, 4, 6, 24, 25, 26], [4, 6], 0⟩ (⟨[], [], 0⟩)
def on38hn : List Int × Int → NSt Ty := fun x => ⟨[.tup (.cons (.arr 5 64 (x.1)) (.cons (.int .i64 (x.2)) (.nil)))], []⟩
def oa38hn : (n : NSt Ty) → Option {y : List Int × Int // on38hn y = n}
  | ⟨[.tup (.cons (.arr 5 64 v0) (.cons (.int .i64 v1) (.nil)))], []⟩ => some ⟨(v0, v1), rfl⟩
  | _ => none
/-- "(*silt/dev.Dev).Read" hn -/
def F38hn (k : Nat) (x : Int) : Option (List Int × Int) :=
  match x with
  | v0 => (F59hn k v0).bind fun r => bif !r then some (List.replicate (64 : Nat) (0 : Int), (1 : Int)) else none
noncomputable def sp38hn : FSpec Ty := addH 0 ab38hn F38hn on38hn noH
theorem ok38hn : FOK Tryd.prog tab 38 sp38hn := addH_ok (keeps := kp38hn) tabOK fs22OK Tryd.func38 bo38 (by kernel_rfl) nd38 (LSOK.none) oa38hn (F := F38hn) (fun k x => by kernel_rfl) (pinned_le (Nat.le_refl _) _) FOK.none rfl
def of38 : Int × Int × Int × List (List Int) × List T126 → NSt Ty := fun x => ⟨[.ptr 100000 [], .int .i64 (x.1)], [.var (.cons (.row 100001) (.cons (.row 100002) (.cons (.int .i64 (x.2.1)) (.cons (.int .i64 (x.2.2.1)) (.nil))))), .row 84 (x.2.2.2.1), .row 127 (x.2.2.2.2)]⟩
def ab38 : (n : NSt Ty) → Option {x : Int × Int × Int × List (List Int) × List T126 // of38 x = n}
  | ⟨[.ptr 100000 [], .int .i64 v0], [.var (.cons (.row 100001) (.cons (.row 100002) (.cons (.int .i64 v1) (.cons (.int .i64 v2) (.nil))))), .row 84 v3, .row 127 v4]⟩ => some ⟨(v0, v1, v2, v3, v4), rfl⟩
  | _ => none
def of38_5 : Int × Int × Int × Int × Int × List Int × List Int × List T126 × List (List Int) → NSt Ty := fun x => ⟨[.int .i64 (x.1), .ptr 100001 [], .ptr 100002 [], .row 100003, .int .i64 (x.2.1), .int .i64 (x.2.2.1)], [.var (.cons (.row 100004) (.cons (.row 100003) (.cons (.int .i64 (x.2.2.2.1)) (.cons (.int .i64 (x.2.2.2.2.1)) (.nil))))), .var (.arr 5 64 (x.2.2.2.2.2.1)), .var (.arr 5 64 (x.2.2.2.2.2.2.1)), .row 127 (x.2.2.2.2.2.2.2.1), .row 84 (x.2.2.2.2.2.2.2.2)]⟩
def ab38_5 : (n : NSt Ty) → Option {x : Int × Int × Int × Int × Int × List Int × List Int × List T126 × List (List Int) // of38_5 x = n}
  | ⟨[.int .i64 v0, .ptr 100001 [], .ptr 100002 [], .row 100003, .int .i64 v1, .int .i64 v2], [.var (.cons (.row 100004) (.cons (.row 100003) (.cons (.int .i64 v3) (.cons (.int .i64 v4) (.nil))))), .var (.arr 5 64 v5), .var (.arr 5 64 v6), .row 127 v7, .row 84 v8]⟩ => some ⟨(v0, v1, v2, v3, v4, v5, v6, v7, v8), rfl⟩
  | _ => none
def oe38_5 : Int × Int × List Int × List Int × List (List Int) × List T126 → Ex := fun _ => .exit 0
def on38_5 : Int × Int × List Int × List Int × List (List Int) × List T126 → NSt Ty := fun x => ⟨[.ptr 100001 [], .ptr 100002 []], [.var (.cons (.row 100003) (.cons (.row 100004) (.cons (.int .i64 (x.1)) (.cons (.int .i64 (x.2.1)) (.nil))))), .var (.arr 5 64 (x.2.2.1)), .var (.arr 5 64 (x.2.2.2.1)), .row 84 (x.2.2.2.2.1), .row 127 (x.2.2.2.2.2)]⟩
def oa38_5 : (e : Ex) → (n : NSt Ty) → Option {y : Int × Int × List Int × List Int × List (List Int) × List T126 // oe38_5 y = e ∧ on38_5 y = n}
  | .exit 0, ⟨[.ptr 100001 [], .ptr 100002 []], [.var (.cons (.row 100003) (.cons (.row 100004) (.cons (.int .i64 v0) (.cons (.int .i64 v1) (.nil))))), .var (.arr 5 64 v2), .var (.arr 5 64 v3), .row 84 v4, .row 127 v5]⟩ => some ⟨(v0, v1, v2, v3, v4, v5), rfl, rfl⟩
  | _, _ => none
/-- a round of the loop 5 of function 38 -/
def R38_5 (k : Nat) (again : Int × Int × Int × Int × Int × List Int × List Int × List T126 × List (List Int) → Option (Int × Int × List Int × List Int × List (List Int) × List T126)) (x : Int × Int × Int × Int × Int × List Int × List Int × List T126 × List (List Int)) : Option (Int × Int × List Int × List Int × List (List Int) × List T126) :=
  match x with
  | (v0, v1, v2, v3, v4, v5, v6, v7, v8) => bif decide (v2 < v1) then bif inRange v2 v7.length then bif (v7.getD v2.toNat (T126.mk (0 : Int) (List.replicate (64 : Nat) (0 : Int)))).1 == v0 then again (v0, v1, IntKind.i64.wrap (v2 + (1 : Int)), v3, v4, v5, (v7.getD v2.toNat (T126.mk (0 : Int) (List.replicate (64 : Nat) (0 : Int)))).2, v7, v8) else again (v0, v1, IntKind.i64.wrap (v2 + (1 : Int)), v3, v4, v5, v6, v7, v8) else none else some (v3, v4, v5, v6, v8, v7)
def L38_5 (k n : Nat) (x : Int × Int × Int × Int × Int × List Int × List Int × List T126 × List (List Int)) : Option (Int × Int × List Int × List Int × List (List Int) × List T126) := iterR (R38_5 k) n x
noncomputable def ls38_5 : Nat → Option (LSum Ty) := addL 5 (LSum.of of38_5 ab38_5 L38_5 oe38_5 on38_5) noL
def kp38 : Nat → Keep := pinned 1 fun i => cond (i == 5) ⟨[1, 4, 6, 24, 25, 26], [4, 6], 0⟩ (⟨[], [], 0⟩)
def on38 : List Int × Int × Int × Int × List (List Int) × List T126 → NSt Ty := fun x => ⟨[.tup (.cons (.arr 5 64 (x.1)) (.cons (.int .i64 (x.2.1)) (.nil)))], [.var (.cons (.row 100001) (.cons (.row 100002) (.cons (.int .i64 (x.2.2.1)) (.cons (.int .i64 (x.2.2.2.1)) (.nil))))), .row 84 (x.2.2.2.2.1), .row 127 (x.2.2.2.2.2)]⟩
def oa38 : (n : NSt Ty) → Option {y : List Int × Int × Int × Int × List (List Int) × List T126 // on38 y = n}
  | ⟨[.tup (.cons (.arr 5 64 v0) (.cons (.int .i64 v1) (.nil)))], [.var (.cons (.row 100001) (.cons (.row 100002) (.cons (.int .i64 v2) (.cons (.int .i64 v3) (.nil))))), .row 84 v4, .row 127 v5]⟩ => some ⟨(v0, v1, v2, v3, v4, v5), rfl⟩
  | _ => none
/-- "(*silt/dev.Dev).Read"  -/
def F38 (k : Nat) (x : Int × Int × Int × List (List Int) × List T126) : Option (List Int × Int × Int × Int × List (List Int) × List T126) :=
  match x with
  | (v0, v1, v2, v3, v4) => (F59 k (v0, v1, v2, v3, v4)).bind fun r => bif !r.fst then some (List.replicate (64 : Nat) (0 : Int), (1 : Int), r.snd.fst, r.snd.snd.fst, r.snd.snd.snd.fst, r.snd.snd.snd.snd) else bif inRange v0 r.snd.snd.snd.fst.length then (L38_5 k k (v0, (↑r.snd.snd.snd.snd.length : Int), (0 : Int), r.snd.fst, r.snd.snd.fst, List.replicate (64 : Nat) (0 : Int), r.snd.snd.snd.fst.getD v0.toNat (List.replicate (64 : Nat) (0 : Int)), r.snd.snd.snd.snd, r.snd.snd.snd.fst)).bind fun r => some (r.snd.snd.snd.fst, (0 : Int), r.fst, r.snd.fst, r.snd.snd.snd.snd.fst, r.snd.snd.snd.snd.snd) else none
noncomputable def sp38 : FSpec Ty := addH 1 ab38 F38 on38 sp38hn
theorem lo38_5 : LSOK fs22 kp38 tab Tryd.f38 ls38_5 := lsum_ok bo38 nd38 (LSOK.none) oa38_5 (R := R38_5) fun k again x => by kernel_rfl
theorem ok38 : FOK Tryd.prog tab 38 sp38 := addH_ok (keeps := kp38) tabOK fs22OK Tryd.func38 bo38 (by kernel_rfl) nd38 (lo38_5) oa38 (F := F38) (fun k x => by kernel_rfl) (pinned_le (Nat.le_refl _) _) ok38hn rfl
noncomputable def fs38 : Nat → Option (FSpec Ty) := addF 38 sp38 fs22
theorem fs38OK : SpecsOK Tryd.prog tab fs38 := fs22OK.add ok38 Tryd.call38
def ag107 : Args Ty ((List Int) × Unit) := V.arg (tab.den 84) (noArgs)
def rs107 : Res Ty tab (T197 × Int × Unit) true := V.manyRes (V.part (tab.den 198) (ent 198).ids (ent 198).plain (fun _ h => by cases h) (V.part (tab.den 29) (ent 29).ids (ent 29).plain (fun _ h => by cases h) (noParts)))
def of107_3 : Int × List Int × Int × Bool × Int × Bool × List T73 × List T73 → NSt Ty := fun x => ⟨[.ptr 100000 [], .ptr 100001 [], .ptr 100002 [], .int .i64 (x.1)], [.var (.arr 5 64 (x.2.1)), .var (.cons (.int .u32 (x.2.2.1)) (.cons (.bool (x.2.2.2.1)) (.cons (.row 100003) (.nil)))), .var (.cons (.int .u32 (x.2.2.2.2.1)) (.cons (.bool (x.2.2.2.2.2.1)) (.cons (.row 100004) (.nil)))), .row 74 (x.2.2.2.2.2.2.1), .row 74 (x.2.2.2.2.2.2.2)]⟩
def ab107_3 : (n : NSt Ty) → Option {x : Int × List Int × Int × Bool × Int × Bool × List T73 × List T73 // of107_3 x = n}
  | ⟨[.ptr 100000 [], .ptr 100001 [], .ptr 100002 [], .int .i64 v0], [.var (.arr 5 64 v1), .var (.cons (.int .u32 v2) (.cons (.bool v3) (.cons (.row 100003) (.nil)))), .var (.cons (.int .u32 v4) (.cons (.bool v5) (.cons (.row 100004) (.nil)))), .row 74 v6, .row 74 v7]⟩ => some ⟨(v0, v1, v2, v3, v4, v5, v6, v7), rfl⟩
  | _ => none
def oe107_3 : List Int × Int × Bool × Int × Bool × List T73 × List T73 → Ex := fun _ => .exit 0
def on107_3 : List Int × Int × Bool × Int × Bool × List T73 × List T73 → NSt Ty := fun x => ⟨[.ptr 100000 [], .ptr 100001 [], .ptr 100002 []], [.var (.arr 5 64 (x.1)), .var (.cons (.int .u32 (x.2.1)) (.cons (.bool (x.2.2.1)) (.cons (.row 100003) (.nil)))), .var (.cons (.int .u32 (x.2.2.2.1)) (.cons (.bool (x.2.2.2.2.1)) (.cons (.row 100004) (.nil)))), .row 74 (x.2.2.2.2.2.1), .row 74 (x.2.2.2.2.2.2)]⟩
def oa107_3 : (e : Ex) → (n : NSt Ty) → Option {y : List Int × Int × Bool × Int × Bool × List T73 × List T73 // oe107_3 y = e ∧ on107_3 y = n}
  | .exit 0, ⟨[.ptr 100000 [], .ptr 100001 [], .ptr 100002 []], [.var (.arr 5 64 v0), .var (.cons (.int .u32 v1) (.cons (.bool v2) (.cons (.row 100003) (.nil)))), .var (.cons (.int .u32 v3) (.cons (.bool v4) (.cons (.row 100004) (.nil)))), .row 74 v5, .row 74 v6]⟩ => some ⟨(v0, v1, v2, v3, v4, v5, v6), rfl, rfl⟩
  | _, _ => none
/-- a round of the loop 3 of function 107 -/
def R107_3 (k : Nat) (again : Int × List Int × Int × Bool × Int × Bool × List T73 × List T73 → Option (List Int × Int × Bool × Int × Bool × List T73 × List T73)) (x : Int × List Int × Int × Bool × Int × Bool × List T73 × List T73) : Option (List Int × Int × Bool × Int × Bool × List T73 × List T73) :=
  match x with
  | (v0, v1, v2, v3, v4, v5, v6, v7) => bif decide (v0 < (4 : Int)) then bif inRange (IntKind.i64.wrap ((2 : Int) + v0)) (64 : Nat) then bif decide ((0 : Int) ≤ IntKind.i64.wrap ((8 : Int) * v0)) then again (IntKind.i64.wrap (v0 + (1 : Int)), v1, v2, v3, IntKind.u32.wrap (↑(BitVec.ofInt IntKind.u32.bits v4 ||| BitVec.ofInt IntKind.u32.bits (IntKind.u32.wrap (IntKind.u32.wrap (v1.getD (IntKind.i64.wrap ((2 : Int) + v0)).toNat (0 : Int)) * (2 : Int) ^ min (IntKind.i64.wrap ((8 : Int) * v0)).toNat IntKind.u32.bits))).toNat : Int), v5, v6, v7) else none else none else some (v1, v2, v3, v4, v5, v6, v7)
def L107_3 (k n : Nat) (x : Int × List Int × Int × Bool × Int × Bool × List T73 × List T73) : Option (List Int × Int × Bool × Int × Bool × List T73 × List T73) := iterR (R107_3 k) n x
noncomputable def ls107_3 : Nat → Option (LSum Ty) := addL 3 (LSum.of of107_3 ab107_3 L107_3 oe107_3 on107_3) noL
def of107_8 : Int × Int × List Int × Int × Bool × Int × Bool × List T73 × List T73 → NSt Ty := fun x => ⟨[.ptr 100000 [], .ptr 100001 [], .ptr 100002 [], .int .i64 (x.1), .int .i64 (x.2.1)], [.var (.arr 5 64 (x.2.2.1)), .var (.cons (.int .u32 (x.2.2.2.1)) (.cons (.bool (x.2.2.2.2.1)) (.cons (.row 100003) (.nil)))), .var (.cons (.int .u32 (x.2.2.2.2.2.1)) (.cons (.bool (x.2.2.2.2.2.2.1)) (.cons (.row 100004) (.nil)))), .row 74 (x.2.2.2.2.2.2.2.1), .row 74 (x.2.2.2.2.2.2.2.2)]⟩
def ab107_8 : (n : NSt Ty) → Option {x : Int × Int × List Int × Int × Bool × Int × Bool × List T73 × List T73 // of107_8 x = n}
  | ⟨[.ptr 100000 [], .ptr 100001 [], .ptr 100002 [], .int .i64 v0, .int .i64 v1], [.var (.arr 5 64 v2), .var (.cons (.int .u32 v3) (.cons (.bool v4) (.cons (.row 100003) (.nil)))), .var (.cons (.int .u32 v5) (.cons (.bool v6) (.cons (.row 100004) (.nil)))), .row 74 v7, .row 74 v8]⟩ => some ⟨(v0, v1, v2, v3, v4, v5, v6, v7, v8), rfl⟩
  | _ => none
def oe107_8 : List Int × Int × Bool × Int × Bool × List T73 × List T73 → Ex := fun _ => .exit 2
def on107_8 : List Int × Int × Bool × Int × Bool × List T73 × List T73 → NSt Ty := fun x => ⟨[.ptr 100000 [], .ptr 100001 [], .ptr 100002 []], [.var (.arr 5 64 (x.1)), .var (.cons (.int .u32 (x.2.1)) (.cons (.bool (x.2.2.1)) (.cons (.row 100003) (.nil)))), .var (.cons (.int .u32 (x.2.2.2.1)) (.cons (.bool (x.2.2.2.2.1)) (.cons (.row 100004) (.nil)))), .row 74 (x.2.2.2.2.2.1), .row 74 (x.2.2.2.2.2.2)]⟩
def oa107_8 : (e : Ex) → (n : NSt Ty) → Option {y : List Int × Int × Bool × Int × Bool × List T73 × List T73 // oe107_8 y = e ∧ on107_8 y = n}
  | .exit 2, ⟨[.ptr 100000 [], .ptr 100001 [], .ptr 100002 []], [.var (.arr 5 64 v0), .var (.cons (.int .u32 v1) (.cons (.bool v2) (.cons (.row 100003) (.nil)))), .var (.cons (.int .u32 v3) (.cons (.bool v4) (.cons (.row 100004) (.nil)))), .row 74 v5, .row 74 v6]⟩ => some ⟨(v0, v1, v2, v3, v4, v5, v6), rfl, rfl⟩
  | _, _ => none
/-- a round of the loop 8 of function 107 -/
def R107_8 (k : Nat) (again : Int × Int × List Int × Int × Bool × Int × Bool × List T73 × List T73 → Option (List Int × Int × Bool × Int × Bool × List T73 × List T73)) (x : Int × Int × List Int × Int × Bool × Int × Bool × List T73 × List T73) : Option (List Int × Int × Bool × Int × Bool × List T73 × List T73) :=
  match x with
  | (v0, v1, v2, v3, v4, v5, v6, v7, v8) => bif decide (v1 < v0) then bif inRange (IntKind.i64.wrap ((7 : Int) + IntKind.i64.wrap ((2 : Int) * v1))) (64 : Nat) then bif inRange (IntKind.i64.wrap (IntKind.i64.wrap ((7 : Int) + IntKind.i64.wrap ((2 : Int) * v1)) + (1 : Int))) (64 : Nat) then bif decide (v8.length + ((List.replicate (1 : Nat) (T73.mk (0 : Int) (0 : Int))).set (0 : Nat) (T73.mk (IntKind.i64.wrap (v2.getD (IntKind.i64.wrap ((7 : Int) + IntKind.i64.wrap ((2 : Int) * v1))).toNat (0 : Int))) (IntKind.i64.wrap (v2.getD (IntKind.i64.wrap (IntKind.i64.wrap ((7 : Int) + IntKind.i64.wrap ((2 : Int) * v1)) + (1 : Int))).toNat (0 : Int))))).length ≤ roomMost) then again (v0, IntKind.i64.wrap (v1 + (1 : Int)), v2, v3, v4, v5, v6, v7, v8 ++ (List.replicate (1 : Nat) (T73.mk (0 : Int) (0 : Int))).set (0 : Nat) (T73.mk (IntKind.i64.wrap (v2.getD (IntKind.i64.wrap ((7 : Int) + IntKind.i64.wrap ((2 : Int) * v1))).toNat (0 : Int))) (IntKind.i64.wrap (v2.getD (IntKind.i64.wrap (IntKind.i64.wrap ((7 : Int) + IntKind.i64.wrap ((2 : Int) * v1)) + (1 : Int))).toNat (0 : Int))))) else none else none else none else some (v2, v3, v4, v5, v6, v7, v8)
def L107_8 (k n : Nat) (x : Int × Int × List Int × Int × Bool × Int × Bool × List T73 × List T73) : Option (List Int × Int × Bool × Int × Bool × List T73 × List T73) := iterR (R107_8 k) n x
noncomputable def ls107_8 : Nat → Option (LSum Ty) := addL 8 (LSum.of of107_8 ab107_8 L107_8 oe107_8 on107_8) ls107_3
def kp107 : Nat → Keep := fun i => cond (i == 3) ⟨[1, 2, 4, 13], [1, 2, 4], 0⟩ (cond (i == 8) ⟨[1, 2, 4, 32, 33], [1, 2, 4], 0⟩ (⟨[], [], 0⟩))
/-- "silt/summary.Decode" -/
def F107 (k : Nat) (x : (List Int) × Unit) : Option (T197 × Int × Unit) :=
  match x with
  | (a0, ()) => (L107_3 k k ((0 : Int), a0, (0 : Int), false, (0 : Int), a0.getD (Int.toNat (1 : Int)) (0 : Int) == (1 : Int), [], [])).bind fun r => (L107_8 k k (if (24 : Int) < IntKind.i64.wrap (r.fst.getD (Int.toNat (6 : Int)) (0 : Int)) then (24 : Int) else IntKind.i64.wrap (r.fst.getD (Int.toNat (6 : Int)) (0 : Int)), (0 : Int), r.fst, r.snd.fst, r.snd.snd.fst, r.snd.snd.snd.fst, r.snd.snd.snd.snd.fst, r.snd.snd.snd.snd.snd.fst, r.snd.snd.snd.snd.snd.snd)).bind fun r => (F98 k (T197.mk r.snd.snd.snd.fst r.snd.snd.snd.snd.fst r.snd.snd.snd.snd.snd.snd, ())).bind fun r_1 => bif r_1.snd.fst != (0 : Int) then some (T197.mk (0 : Int) false [], (11 : Int), ()) else bif !decide (r_1.fst = r.fst) then some (T197.mk (0 : Int) false [], (11 : Int), ()) else some (T197.mk r.snd.snd.snd.fst r.snd.snd.snd.snd.fst r.snd.snd.snd.snd.snd.snd, (0 : Int), ())
noncomputable def sp107 : FSpec Ty := spec ag107 rs107 F107
theorem bo107 : Tryd.f107.body = some (bodyOf Tryd.f107) := by kernel_rfl
theorem nd107 : nodupB ((loopsIn (bodyOf Tryd.f107)).map firstRegion) = true := by kernel_rfl
theorem lo107_3 : LSOK fs38 kp107 tab Tryd.f107 ls107_3 := lsum_ok bo107 nd107 (LSOK.none) oa107_3 (R := R107_3) fun k again x => by kernel_rfl
theorem lo107_8 : LSOK fs38 kp107 tab Tryd.f107 ls107_8 := lsum_ok bo107 nd107 (lo107_3) oa107_8 (R := R107_8) fun k again x => by kernel_rfl
theorem ok107 : FOK Tryd.prog tab 107 sp107 := spec_ok (keeps := kp107) tabOK fs38OK Tryd.func107 bo107 (by kernel_rfl) nd107 (lo107_8) (F := F107) fun k x => by kernel_rfl
noncomputable def fs107 : Nat → Option (FSpec Ty) := addF 107 sp107 fs38
theorem fs107OK : SpecsOK Tryd.prog tab fs107 := fs38OK.add ok107 Tryd.call107
def ag113 : Args Ty ((List Int) × Unit) := V.arg (tab.den 77) (noArgs)
def rs113 : Res Ty tab (Int) false := V.oneRes (tab.den 3) (ent 3).ids (ent 3).plain (fun x _ => (ent 3).flat x rfl)
def kp113 : Nat → Keep := fun i => ⟨[], [], 0⟩
/-- "silt/block.two" -/
def F113 (k : Nat) (x : (List Int) × Unit) : Option (Int) :=
  match x with
  | (a0, ()) => bif inRange (0 : Int) a0.length then bif inRange (1 : Int) a0.length then some (IntKind.i64.wrap (↑(BitVec.ofInt IntKind.i64.bits (IntKind.i64.wrap (a0.getD (Int.toNat (0 : Int)) (0 : Int))) ||| BitVec.ofInt IntKind.i64.bits (IntKind.i64.wrap (IntKind.i64.wrap (a0.getD (Int.toNat (1 : Int)) (0 : Int)) * (2 : Int) ^ min (Int.toNat (8 : Int)) IntKind.i64.bits))).toNat : Int)) else none else none
noncomputable def sp113 : FSpec Ty := spec ag113 rs113 F113
theorem bo113 : Tryd.f113.body = some (bodyOf Tryd.f113) := by kernel_rfl
theorem nd113 : nodupB ((loopsIn (bodyOf Tryd.f113)).map firstRegion) = true := by kernel_rfl
theorem ok113 : FOK Tryd.prog tab 113 sp113 := spec_ok (keeps := kp113) tabOK fs107OK Tryd.func113 bo113 (by kernel_rfl) nd113 (LSOK.none) (F := F113) fun k x => by kernel_rfl
noncomputable def fs113 : Nat → Option (FSpec Ty) := addF 113 sp113 fs107
theorem fs113OK : SpecsOK Tryd.prog tab fs113 := fs107OK.add ok113 Tryd.call113
def ag114 : Args Ty ((List Int) × Unit) := V.arg (tab.den 77) noArgs
def rs114 : Res Ty tab ((List Int)) true := V.oneRes (tab.den 77) (ent 77).ids (ent 77).plain (fun _ h => by cases h)
/-- slices.Clone -/
def F114 : Nat → ((List Int) × Unit) → Option ((List Int)) := cloneF
noncomputable def sp114 : FSpec Ty := spec ag114 rs114 F114
theorem bo114 : Tryd.f114.body = some (bodyOf Tryd.f114) := by kernel_rfl
theorem nd114 : nodupB ((loopsIn (bodyOf Tryd.f114)).map firstRegion) = true := by kernel_rfl
theorem ok114 : FOK Tryd.prog tab 114 sp114 := clone_ok (e := 5) (A := ag114) (B := rs114) tabOK noFOK Tryd.func114 bo114 (by kernel_rfl) nd114 (fun _ => rfl) (fun _ => rfl) (by kernel_rfl) (fun xs => by kernel_rfl)
noncomputable def fs114 : Nat → Option (FSpec Ty) := addF 114 sp114 fs113
theorem fs114OK : SpecsOK Tryd.prog tab fs114 := fs113OK.add ok114 Tryd.call114
def ag108 : Args Ty ((List Int) × Unit) := V.arg (tab.den 84) (noArgs)
def rs108 : Res Ty tab (T78 × Int × Int × Unit) true := V.manyRes (V.part (tab.den 79) (ent 79).ids (ent 79).plain (fun _ h => by cases h) (V.part (tab.den 22) (ent 22).ids (ent 22).plain (fun _ h => by cases h) (V.part (tab.den 29) (ent 29).ids (ent 29).plain (fun _ h => by cases h) (noParts))))
def of108_11 : Int × Int × List Int × Int × Int × List Int × Int × Int × List Int × Int × Int × List Int × Int × Int × List Int × List Int × List Int → NSt Ty := fun x => ⟨[.ptr 100000 [], .ptr 100001 [], .ptr 100002 [], .int .u32 (x.1), .int .i64 (x.2.1)], [.var (.arr 5 64 (x.2.2.1)), .var (.cons (.int .i64 (x.2.2.2.1)) (.cons (.int .i64 (x.2.2.2.2.1)) (.cons (.arr 5 32 (x.2.2.2.2.2.1)) (.cons (.int .i64 (x.2.2.2.2.2.2.1)) (.cons (.row 100003) (.cons (.int .i64 (x.2.2.2.2.2.2.2.1)) (.cons (.arr 3 8 (x.2.2.2.2.2.2.2.2.1)) (.nil)))))))), .var (.cons (.int .i64 (x.2.2.2.2.2.2.2.2.2.1)) (.cons (.int .i64 (x.2.2.2.2.2.2.2.2.2.2.1)) (.cons (.arr 5 32 (x.2.2.2.2.2.2.2.2.2.2.2.1)) (.cons (.int .i64 (x.2.2.2.2.2.2.2.2.2.2.2.2.1)) (.cons (.row 100004) (.cons (.int .i64 (x.2.2.2.2.2.2.2.2.2.2.2.2.2.1)) (.cons (.arr 3 8 (x.2.2.2.2.2.2.2.2.2.2.2.2.2.2.1)) (.nil)))))))), .row 5 (x.2.2.2.2.2.2.2.2.2.2.2.2.2.2.2.1), .row 5 (x.2.2.2.2.2.2.2.2.2.2.2.2.2.2.2.2)]⟩
def ab108_11 : (n : NSt Ty) → Option {x : Int × Int × List Int × Int × Int × List Int × Int × Int × List Int × Int × Int × List Int × Int × Int × List Int × List Int × List Int // of108_11 x = n}
  | ⟨[.ptr 100000 [], .ptr 100001 [], .ptr 100002 [], .int .u32 v0, .int .i64 v1], [.var (.arr 5 64 v2), .var (.cons (.int .i64 v3) (.cons (.int .i64 v4) (.cons (.arr 5 32 v5) (.cons (.int .i64 v6) (.cons (.row 100003) (.cons (.int .i64 v7) (.cons (.arr 3 8 v8) (.nil)))))))), .var (.cons (.int .i64 v9) (.cons (.int .i64 v10) (.cons (.arr 5 32 v11) (.cons (.int .i64 v12) (.cons (.row 100004) (.cons (.int .i64 v13) (.cons (.arr 3 8 v14) (.nil)))))))), .row 5 v15, .row 5 v16]⟩ => some ⟨(v0, v1, v2, v3, v4, v5, v6, v7, v8, v9, v10, v11, v12, v13, v14, v15, v16), rfl⟩
  | _ => none
def oe108_11 : Int × List Int × Int × Int × List Int × Int × Int × List Int × Int × Int × List Int × Int × Int × List Int × List Int × List Int → Ex := fun _ => .exit 1
def on108_11 : Int × List Int × Int × Int × List Int × Int × Int × List Int × Int × Int × List Int × Int × Int × List Int × List Int × List Int → NSt Ty := fun x => ⟨[.ptr 100000 [], .ptr 100001 [], .ptr 100002 [], .int .u32 (x.1)], [.var (.arr 5 64 (x.2.1)), .var (.cons (.int .i64 (x.2.2.1)) (.cons (.int .i64 (x.2.2.2.1)) (.cons (.arr 5 32 (x.2.2.2.2.1)) (.cons (.int .i64 (x.2.2.2.2.2.1)) (.cons (.row 100003) (.cons (.int .i64 (x.2.2.2.2.2.2.1)) (.cons (.arr 3 8 (x.2.2.2.2.2.2.2.1)) (.nil)))))))), .var (.cons (.int .i64 (x.2.2.2.2.2.2.2.2.1)) (.cons (.int .i64 (x.2.2.2.2.2.2.2.2.2.1)) (.cons (.arr 5 32 (x.2.2.2.2.2.2.2.2.2.2.1)) (.cons (.int .i64 (x.2.2.2.2.2.2.2.2.2.2.2.1)) (.cons (.row 100004) (.cons (.int .i64 (x.2.2.2.2.2.2.2.2.2.2.2.2.1)) (.cons (.arr 3 8 (x.2.2.2.2.2.2.2.2.2.2.2.2.2.1)) (.nil)))))))), .row 5 (x.2.2.2.2.2.2.2.2.2.2.2.2.2.2.1), .row 5 (x.2.2.2.2.2.2.2.2.2.2.2.2.2.2.2)]⟩
def oa108_11 : (e : Ex) → (n : NSt Ty) → Option {y : Int × List Int × Int × Int × List Int × Int × Int × List Int × Int × Int × List Int × Int × Int × List Int × List Int × List Int // oe108_11 y = e ∧ on108_11 y = n}
  | .exit 1, ⟨[.ptr 100000 [], .ptr 100001 [], .ptr 100002 [], .int .u32 v0], [.var (.arr 5 64 v1), .var (.cons (.int .i64 v2) (.cons (.int .i64 v3) (.cons (.arr 5 32 v4) (.cons (.int .i64 v5) (.cons (.row 100003) (.cons (.int .i64 v6) (.cons (.arr 3 8 v7) (.nil)))))))), .var (.cons (.int .i64 v8) (.cons (.int .i64 v9) (.cons (.arr 5 32 v10) (.cons (.int .i64 v11) (.cons (.row 100004) (.cons (.int .i64 v12) (.cons (.arr 3 8 v13) (.nil)))))))), .row 5 v14, .row 5 v15]⟩ => some ⟨(v0, v1, v2, v3, v4, v5, v6, v7, v8, v9, v10, v11, v12, v13, v14, v15), rfl, rfl⟩
  | _, _ => none
/-- a round of the loop 11 of function 108 -/
def R108_11 (k : Nat) (again : Int × Int × List Int × Int × Int × List Int × Int × Int × List Int × Int × Int × List Int × Int × Int × List Int × List Int × List Int → Option (Int × List Int × Int × Int × List Int × Int × Int × List Int × Int × Int × List Int × Int × Int × List Int × List Int × List Int)) (x : Int × Int × List Int × Int × Int × List Int × Int × Int × List Int × Int × Int × List Int × Int × Int × List Int × List Int × List Int) : Option (Int × List Int × Int × Int × List Int × Int × Int × List Int × Int × Int × List Int × Int × Int × List Int × List Int × List Int) :=
  match x with
  | (v0, v1, v2, v3, v4, v5, v6, v7, v8, v9, v10, v11, v12, v13, v14, v15, v16) => bif decide (v1 < (8 : Int)) then bif decide ((0 : Int) ≤ IntKind.i64.wrap ((6 : Int) + IntKind.i64.wrap ((2 : Int) * v1))) && decide (IntKind.i64.wrap ((6 : Int) + IntKind.i64.wrap ((2 : Int) * v1)) ≤ (↑(64 : Nat) : Int)) && decide ((↑(64 : Nat) : Int) ≤ (↑(64 : Nat) : Int)) then (F113 k (List.take ((↑(64 : Nat) : Int) - IntKind.i64.wrap ((6 : Int) + IntKind.i64.wrap ((2 : Int) * v1))).toNat (List.drop (IntKind.i64.wrap ((6 : Int) + IntKind.i64.wrap ((2 : Int) * v1))).toNat v2), ())).bind fun r => bif inRange v1 (8 : Nat) then again (v0, IntKind.i64.wrap (v1 + (1 : Int)), v2, v3, v4, v5, v6, v7, v8, v9, v10, v11, v12, v13, v14.set v1.toNat r, v15, v16) else none else none else some (v0, v2, v3, v4, v5, v6, v7, v8, v9, v10, v11, v12, v13, v14, v15, v16)
def L108_11 (k n : Nat) (x : Int × Int × List Int × Int × Int × List Int × Int × Int × List Int × Int × Int × List Int × Int × Int × List Int × List Int × List Int) : Option (Int × List Int × Int × Int × List Int × Int × Int × List Int × Int × Int × List Int × Int × Int × List Int × List Int × List Int) := iterR (R108_11 k) n x
noncomputable def ls108_11 : Nat → Option (LSum Ty) := addL 11 (LSum.of of108_11 ab108_11 L108_11 oe108_11 on108_11) noL
def kp108 : Nat → Keep := fun i => cond (i == 11) ⟨[1, 2, 5, 6, 52], [1, 2, 5, 6], 0⟩ (⟨[], [], 0⟩)
/-- "silt/block.Decode" -/
def F108 (k : Nat) (x : (List Int) × Unit) : Option (T78 × Int × Int × Unit) :=
  match x with
  | (a0, ()) => (F113 k (List.take ((↑(64 : Nat) : Int) - (2 : Int)).toNat (List.drop (Int.toNat (2 : Int)) a0), ())).bind fun r => (F113 k (List.take ((↑(64 : Nat) : Int) - (4 : Int)).toNat (List.drop (Int.toNat (4 : Int)) a0), ())).bind fun r_1 => bif IntKind.i64.wrap (a0.getD (Int.toNat (0 : Int)) (0 : Int)) == (1 : Int) then bif Nat.blt (0 : Nat) (32 : Nat) && Nat.ble (32 : Nat) (List.take ((38 : Int) - (6 : Int)).toNat (List.drop (Int.toNat (6 : Int)) a0)).length then (F101 k (T78.mk (IntKind.i64.wrap (a0.getD (Int.toNat (0 : Int)) (0 : Int))) (IntKind.i64.wrap (a0.getD (Int.toNat (1 : Int)) (0 : Int))) (List.take (32 : Nat) (List.take ((38 : Int) - (6 : Int)).toNat (List.drop (Int.toNat (6 : Int)) a0))) (0 : Int) [] (0 : Int) (List.replicate (8 : Nat) (0 : Int)), IntKind.u32.wrap (↑(BitVec.ofInt IntKind.u32.bits (IntKind.u32.wrap r) ||| BitVec.ofInt IntKind.u32.bits (IntKind.u32.wrap (IntKind.u32.wrap r_1 * (2 : Int) ^ min (Int.toNat (16 : Int)) IntKind.u32.bits))).toNat : Int), ())).bind fun r_2 => bif r_2.snd.fst != (0 : Int) then some (T78.mk (0 : Int) (0 : Int) (List.replicate (32 : Nat) (0 : Int)) (0 : Int) [] (0 : Int) (List.replicate (8 : Nat) (0 : Int)), (0 : Int), (11 : Int), ()) else bif !decide (r_2.fst = a0) then some (T78.mk (0 : Int) (0 : Int) (List.replicate (32 : Nat) (0 : Int)) (0 : Int) [] (0 : Int) (List.replicate (8 : Nat) (0 : Int)), (0 : Int), (11 : Int), ()) else some (T78.mk (IntKind.i64.wrap (a0.getD (Int.toNat (0 : Int)) (0 : Int))) (IntKind.i64.wrap (a0.getD (Int.toNat (1 : Int)) (0 : Int))) (List.take (32 : Nat) (List.take ((38 : Int) - (6 : Int)).toNat (List.drop (Int.toNat (6 : Int)) a0))) (0 : Int) [] (0 : Int) (List.replicate (8 : Nat) (0 : Int)), IntKind.u32.wrap (↑(BitVec.ofInt IntKind.u32.bits (IntKind.u32.wrap r) ||| BitVec.ofInt IntKind.u32.bits (IntKind.u32.wrap (IntKind.u32.wrap r_1 * (2 : Int) ^ min (Int.toNat (16 : Int)) IntKind.u32.bits))).toNat : Int), (0 : Int), ()) else none else bif IntKind.i64.wrap (a0.getD (Int.toNat (0 : Int)) (0 : Int)) == (2 : Int) then (F113 k (List.take ((↑(64 : Nat) : Int) - (24 : Int)).toNat (List.drop (Int.toNat (24 : Int)) a0), ())).bind fun r_2 => bif decide ((0 : Int) ≤ (8 : Int)) && decide ((8 : Int) ≤ IntKind.i64.wrap ((8 : Int) + if (16 : Int) < IntKind.i64.wrap (a0.getD (Int.toNat (7 : Int)) (0 : Int)) then (16 : Int) else IntKind.i64.wrap (a0.getD (Int.toNat (7 : Int)) (0 : Int)))) && decide (IntKind.i64.wrap ((8 : Int) + if (16 : Int) < IntKind.i64.wrap (a0.getD (Int.toNat (7 : Int)) (0 : Int)) then (16 : Int) else IntKind.i64.wrap (a0.getD (Int.toNat (7 : Int)) (0 : Int))) ≤ (↑(64 : Nat) : Int)) then (F114 k (List.take (IntKind.i64.wrap ((8 : Int) + if (16 : Int) < IntKind.i64.wrap (a0.getD (Int.toNat (7 : Int)) (0 : Int)) then (16 : Int) else IntKind.i64.wrap (a0.getD (Int.toNat (7 : Int)) (0 : Int))) - (8 : Int)).toNat (List.drop (Int.toNat (8 : Int)) a0), ())).bind fun r_3 => (F101 k (T78.mk (IntKind.i64.wrap (a0.getD (Int.toNat (0 : Int)) (0 : Int))) (IntKind.i64.wrap (a0.getD (Int.toNat (1 : Int)) (0 : Int))) (List.replicate (32 : Nat) (0 : Int)) (IntKind.i64.wrap (a0.getD (Int.toNat (6 : Int)) (0 : Int))) r_3 r_2 (List.replicate (8 : Nat) (0 : Int)), IntKind.u32.wrap (↑(BitVec.ofInt IntKind.u32.bits (IntKind.u32.wrap r) ||| BitVec.ofInt IntKind.u32.bits (IntKind.u32.wrap (IntKind.u32.wrap r_1 * (2 : Int) ^ min (Int.toNat (16 : Int)) IntKind.u32.bits))).toNat : Int), ())).bind fun r_4 => bif r_4.snd.fst != (0 : Int) then some (T78.mk (0 : Int) (0 : Int) (List.replicate (32 : Nat) (0 : Int)) (0 : Int) [] (0 : Int) (List.replicate (8 : Nat) (0 : Int)), (0 : Int), (11 : Int), ()) else bif !decide (r_4.fst = a0) then some (T78.mk (0 : Int) (0 : Int) (List.replicate (32 : Nat) (0 : Int)) (0 : Int) [] (0 : Int) (List.replicate (8 : Nat) (0 : Int)), (0 : Int), (11 : Int), ()) else some (T78.mk (IntKind.i64.wrap (a0.getD (Int.toNat (0 : Int)) (0 : Int))) (IntKind.i64.wrap (a0.getD (Int.toNat (1 : Int)) (0 : Int))) (List.replicate (32 : Nat) (0 : Int)) (IntKind.i64.wrap (a0.getD (Int.toNat (6 : Int)) (0 : Int))) r_3 r_2 (List.replicate (8 : Nat) (0 : Int)), IntKind.u32.wrap (↑(BitVec.ofInt IntKind.u32.bits (IntKind.u32.wrap r) ||| BitVec.ofInt IntKind.u32.bits (IntKind.u32.wrap (IntKind.u32.wrap r_1 * (2 : Int) ^ min (Int.toNat (16 : Int)) IntKind.u32.bits))).toNat : Int), (0 : Int), ()) else none else bif IntKind.i64.wrap (a0.getD (Int.toNat (0 : Int)) (0 : Int)) == (3 : Int) then (L108_11 k k (IntKind.u32.wrap (↑(BitVec.ofInt IntKind.u32.bits (IntKind.u32.wrap r) ||| BitVec.ofInt IntKind.u32.bits (IntKind.u32.wrap (IntKind.u32.wrap r_1 * (2 : Int) ^ min (Int.toNat (16 : Int)) IntKind.u32.bits))).toNat : Int), (0 : Int), a0, (0 : Int), (0 : Int), List.replicate (32 : Nat) (0 : Int), (0 : Int), (0 : Int), List.replicate (8 : Nat) (0 : Int), IntKind.i64.wrap (a0.getD (Int.toNat (0 : Int)) (0 : Int)), IntKind.i64.wrap (a0.getD (Int.toNat (1 : Int)) (0 : Int)), List.replicate (32 : Nat) (0 : Int), (0 : Int), (0 : Int), List.replicate (8 : Nat) (0 : Int), [], [])).bind fun r => (F101 k (T78.mk r.snd.snd.snd.snd.snd.snd.snd.snd.fst r.snd.snd.snd.snd.snd.snd.snd.snd.snd.fst r.snd.snd.snd.snd.snd.snd.snd.snd.snd.snd.fst r.snd.snd.snd.snd.snd.snd.snd.snd.snd.snd.snd.fst r.snd.snd.snd.snd.snd.snd.snd.snd.snd.snd.snd.snd.snd.snd.snd r.snd.snd.snd.snd.snd.snd.snd.snd.snd.snd.snd.snd.fst r.snd.snd.snd.snd.snd.snd.snd.snd.snd.snd.snd.snd.snd.fst, r.fst, ())).bind fun r_2 => bif r_2.snd.fst != (0 : Int) then some (T78.mk (0 : Int) (0 : Int) (List.replicate (32 : Nat) (0 : Int)) (0 : Int) [] (0 : Int) (List.replicate (8 : Nat) (0 : Int)), (0 : Int), (11 : Int), ()) else bif !decide (r_2.fst = r.snd.fst) then some (T78.mk (0 : Int) (0 : Int) (List.replicate (32 : Nat) (0 : Int)) (0 : Int) [] (0 : Int) (List.replicate (8 : Nat) (0 : Int)), (0 : Int), (11 : Int), ()) else some (T78.mk r.snd.snd.snd.snd.snd.snd.snd.snd.fst r.snd.snd.snd.snd.snd.snd.snd.snd.snd.fst r.snd.snd.snd.snd.snd.snd.snd.snd.snd.snd.fst r.snd.snd.snd.snd.snd.snd.snd.snd.snd.snd.snd.fst r.snd.snd.snd.snd.snd.snd.snd.snd.snd.snd.snd.snd.snd.snd.snd r.snd.snd.snd.snd.snd.snd.snd.snd.snd.snd.snd.snd.fst r.snd.snd.snd.snd.snd.snd.snd.snd.snd.snd.snd.snd.snd.fst, r.fst, (0 : Int), ()) else (F101 k (T78.mk (IntKind.i64.wrap (a0.getD (Int.toNat (0 : Int)) (0 : Int))) (IntKind.i64.wrap (a0.getD (Int.toNat (1 : Int)) (0 : Int))) (List.replicate (32 : Nat) (0 : Int)) (0 : Int) [] (0 : Int) (List.replicate (8 : Nat) (0 : Int)), IntKind.u32.wrap (↑(BitVec.ofInt IntKind.u32.bits (IntKind.u32.wrap r) ||| BitVec.ofInt IntKind.u32.bits (IntKind.u32.wrap (IntKind.u32.wrap r_1 * (2 : Int) ^ min (Int.toNat (16 : Int)) IntKind.u32.bits))).toNat : Int), ())).bind fun r_2 => bif r_2.snd.fst != (0 : Int) then some (T78.mk (0 : Int) (0 : Int) (List.replicate (32 : Nat) (0 : Int)) (0 : Int) [] (0 : Int) (List.replicate (8 : Nat) (0 : Int)), (0 : Int), (11 : Int), ()) else bif !decide (r_2.fst = a0) then some (T78.mk (0 : Int) (0 : Int) (List.replicate (32 : Nat) (0 : Int)) (0 : Int) [] (0 : Int) (List.replicate (8 : Nat) (0 : Int)), (0 : Int), (11 : Int), ()) else some (T78.mk (IntKind.i64.wrap (a0.getD (Int.toNat (0 : Int)) (0 : Int))) (IntKind.i64.wrap (a0.getD (Int.toNat (1 : Int)) (0 : Int))) (List.replicate (32 : Nat) (0 : Int)) (0 : Int) [] (0 : Int) (List.replicate (8 : Nat) (0 : Int)), IntKind.u32.wrap (↑(BitVec.ofInt IntKind.u32.bits (IntKind.u32.wrap r) ||| BitVec.ofInt IntKind.u32.bits (IntKind.u32.wrap (IntKind.u32.wrap r_1 * (2 : Int) ^ min (Int.toNat (16 : Int)) IntKind.u32.bits))).toNat : Int), (0 : Int), ())
noncomputable def sp108 : FSpec Ty := spec ag108 rs108 F108
theorem bo108 : Tryd.f108.body = some (bodyOf Tryd.f108) := by kernel_rfl
theorem nd108 : nodupB ((loopsIn (bodyOf Tryd.f108)).map firstRegion) = true := by kernel_rfl
theorem lo108_11 : LSOK fs114 kp108 tab Tryd.f108 ls108_11 := lsum_ok bo108 nd108 (LSOK.none) oa108_11 (R := R108_11) fun k again x => by kernel_rfl
theorem ok108 : FOK Tryd.prog tab 108 sp108 := spec_ok (keeps := kp108) tabOK fs114OK Tryd.func108 bo108 (by kernel_rfl) nd108 (lo108_11) (F := F108) fun k x => by kernel_rfl
noncomputable def fs108 : Nat → Option (FSpec Ty) := addF 108 sp108 fs114
theorem fs108OK : SpecsOK Tryd.prog tab fs108 := fs114OK.add ok108 Tryd.call108
def ag102 : Args Ty (Int × (List (List Int)) × Unit) := V.arg (tab.den 22) (V.arg (tab.den 101) (noArgs))
def rs102 : Res Ty tab ((List T80) × Int × Bool × Bool × Unit) true := V.manyRes (V.part (tab.den 50) (ent 50).ids (ent 50).plain (fun _ h => by cases h) (V.part (tab.den 3) (ent 3).ids (ent 3).plain (fun _ h => by cases h) (V.part (tab.den 4) (ent 4).ids (ent 4).plain (fun _ h => by cases h) (V.part (tab.den 4) (ent 4).ids (ent 4).plain (fun _ h => by cases h) (noParts)))))
def of102_8 : Int × List (List Int) × Int × List T73 × Int × Int × List T80 × Int × Bool × List T73 → NSt Ty := fun x => ⟨[.int .u32 (x.1), .slice 84 (x.2.1), .row 100000, .int .i64 (x.2.2.1), .ptr 100001 [], .slice 74 (x.2.2.2.1), .int .i64 (x.2.2.2.2.1), .int .i64 (x.2.2.2.2.2.1)], [.row 81 (x.2.2.2.2.2.2.1), .var (.cons (.int .u32 (x.2.2.2.2.2.2.2.1)) (.cons (.bool (x.2.2.2.2.2.2.2.2.1)) (.cons (.slice 74 (x.2.2.2.2.2.2.2.2.2)) (.nil))))]⟩
def ab102_8 : (n : NSt Ty) → Option {x : Int × List (List Int) × Int × List T73 × Int × Int × List T80 × Int × Bool × List T73 // of102_8 x = n}
  | ⟨[.int .u32 v0, .slice 84 v1, .row 100000, .int .i64 v2, .ptr 100001 [], .slice 74 v3, .int .i64 v4, .int .i64 v5], [.row 81 v6, .var (.cons (.int .u32 v7) (.cons (.bool v8) (.cons (.slice 74 v9) (.nil))))]⟩ => some ⟨(v0, v1, v2, v3, v4, v5, v6, v7, v8, v9), rfl⟩
  | _ => none
def on102_8a : Int × Bool × Bool × List T80 × Int × Bool × List T73 → NSt Ty := fun x => ⟨[.row 100000, .int .i64 (x.1), .bool (x.2.1), .bool (x.2.2.1), .ptr 100001 []], [.row 81 (x.2.2.2.1), .var (.cons (.int .u32 (x.2.2.2.2.1)) (.cons (.bool (x.2.2.2.2.2.1)) (.cons (.slice 74 (x.2.2.2.2.2.2)) (.nil))))]⟩
def on102_8b : Int × List T80 × Int × Bool × List T73 → NSt Ty := fun x => ⟨[.row 100000, .int .i64 (x.1), .undef, .undef, .ptr 100001 []], [.row 81 (x.2.1), .var (.cons (.int .u32 (x.2.2.1)) (.cons (.bool (x.2.2.2.1)) (.cons (.slice 74 (x.2.2.2.2)) (.nil))))]⟩
def oa102_8 : (e : Ex) → (n : NSt Ty) → Option {y : (Int × Bool × Bool × List T80 × Int × Bool × List T73) ⊕ (Int × List T80 × Int × Bool × List T73) // oe2 .ret (.exit 0) y = e ∧ on2 on102_8a on102_8b y = n}
  | .ret, ⟨[.row 100000, .int .i64 v0, .bool v1, .bool v2, .ptr 100001 []], [.row 81 v3, .var (.cons (.int .u32 v4) (.cons (.bool v5) (.cons (.slice 74 v6) (.nil))))]⟩ => some ⟨.inl (v0, v1, v2, v3, v4, v5, v6), rfl, rfl⟩
  | .exit 0, ⟨[.row 100000, .int .i64 v0, .undef, .undef, .ptr 100001 []], [.row 81 v1, .var (.cons (.int .u32 v2) (.cons (.bool v3) (.cons (.slice 74 v4) (.nil))))]⟩ => some ⟨.inr (v0, v1, v2, v3, v4), rfl, rfl⟩
  | _, _ => none
/-- a round of the loop 8 of function 102 -/
def R102_8 (k : Nat) (again : Int × List (List Int) × Int × List T73 × Int × Int × List T80 × Int × Bool × List T73 → Option ((Int × Bool × Bool × List T80 × Int × Bool × List T73) ⊕ (Int × List T80 × Int × Bool × List T73))) (x : Int × List (List Int) × Int × List T73 × Int × Int × List T80 × Int × Bool × List T73) : Option ((Int × Bool × Bool × List T80 × Int × Bool × List T73) ⊕ (Int × List T80 × Int × Bool × List T73)) :=
  match x with
  | (v0, v1, v2, v3, v4, v5, v6, v7, v8, v9) => bif decide (v5 < v4) then bif inRange v5 v3.length then (F100 k ((v3.getD v5.toNat (T73.mk (0 : Int) (0 : Int))).1, ())).bind fun r => bif r then bif decide (v2 ≥ (↑v1.length : Int)) then some (Sum.inl ((0 : Int), false, false, [], v7, v8, v9)) else bif inRange v2 v1.length then (F108 k (v1.getD v2.toNat (List.replicate (64 : Nat) (0 : Int)), ())).bind fun r => bif r.snd.snd.fst != (0 : Int) then some (Sum.inl ((0 : Int), false, false, [], v7, v8, v9)) else bif r.snd.fst != v0 then some (Sum.inl ((0 : Int), false, false, [], v7, v8, v9)) else bif decide (v6.length + ((List.replicate (1 : Nat) (T80.mk (T73.mk (0 : Int) (0 : Int)) (T78.mk (0 : Int) (0 : Int) (List.replicate (32 : Nat) (0 : Int)) (0 : Int) [] (0 : Int) (List.replicate (8 : Nat) (0 : Int))))).set (0 : Nat) (T80.mk (T73.mk (v3.getD v5.toNat (T73.mk (0 : Int) (0 : Int))).1 (v3.getD v5.toNat (T73.mk (0 : Int) (0 : Int))).2) (T78.mk r.fst.1 r.fst.2 r.fst.3 r.fst.4 r.fst.5 r.fst.6 r.fst.7))).length ≤ roomMost) then again (v0, v1, IntKind.i64.wrap (v2 + (1 : Int)), v3, v4, IntKind.i64.wrap (v5 + (1 : Int)), v6 ++ (List.replicate (1 : Nat) (T80.mk (T73.mk (0 : Int) (0 : Int)) (T78.mk (0 : Int) (0 : Int) (List.replicate (32 : Nat) (0 : Int)) (0 : Int) [] (0 : Int) (List.replicate (8 : Nat) (0 : Int))))).set (0 : Nat) (T80.mk (T73.mk (v3.getD v5.toNat (T73.mk (0 : Int) (0 : Int))).1 (v3.getD v5.toNat (T73.mk (0 : Int) (0 : Int))).2) (T78.mk r.fst.1 r.fst.2 r.fst.3 r.fst.4 r.fst.5 r.fst.6 r.fst.7)), v7, v8, v9) else none else none else bif decide (v6.length + ((List.replicate (1 : Nat) (T80.mk (T73.mk (0 : Int) (0 : Int)) (T78.mk (0 : Int) (0 : Int) (List.replicate (32 : Nat) (0 : Int)) (0 : Int) [] (0 : Int) (List.replicate (8 : Nat) (0 : Int))))).set (0 : Nat) (T80.mk (T73.mk (v3.getD v5.toNat (T73.mk (0 : Int) (0 : Int))).1 (v3.getD v5.toNat (T73.mk (0 : Int) (0 : Int))).2) (T78.mk (0 : Int) (0 : Int) (List.replicate (32 : Nat) (0 : Int)) (0 : Int) [] (0 : Int) (List.replicate (8 : Nat) (0 : Int))))).length ≤ roomMost) then again (v0, v1, v2, v3, v4, IntKind.i64.wrap (v5 + (1 : Int)), v6 ++ (List.replicate (1 : Nat) (T80.mk (T73.mk (0 : Int) (0 : Int)) (T78.mk (0 : Int) (0 : Int) (List.replicate (32 : Nat) (0 : Int)) (0 : Int) [] (0 : Int) (List.replicate (8 : Nat) (0 : Int))))).set (0 : Nat) (T80.mk (T73.mk (v3.getD v5.toNat (T73.mk (0 : Int) (0 : Int))).1 (v3.getD v5.toNat (T73.mk (0 : Int) (0 : Int))).2) (T78.mk (0 : Int) (0 : Int) (List.replicate (32 : Nat) (0 : Int)) (0 : Int) [] (0 : Int) (List.replicate (8 : Nat) (0 : Int)))), v7, v8, v9) else none else none else some (Sum.inr (v2, v6, v7, v8, v9))
def L102_8 (k n : Nat) (x : Int × List (List Int) × Int × List T73 × Int × Int × List T80 × Int × Bool × List T73) : Option ((Int × Bool × Bool × List T80 × Int × Bool × List T73) ⊕ (Int × List T80 × Int × Bool × List T73)) := iterR (R102_8 k) n x
noncomputable def ls102_8 : Nat → Option (LSum Ty) := addL 8 (lsum2 of102_8 ab102_8 L102_8 .ret on102_8a (.exit 0) on102_8b) noL
def kp102 : Nat → Keep := fun i => cond (i == 8) ⟨[0, 1, 4, 5, 8, 35, 36, 37], [4, 5, 6, 7, 8], 0⟩ (⟨[], [], 0⟩)
/-- "silt/group.items" -/
def F102 (k : Nat) (x : Int × (List (List Int)) × Unit) : Option ((List T80) × Int × Bool × Bool × Unit) :=
  match x with
  | (a0, a1, ()) => bif (↑a1.length : Int) == (0 : Int) then some ([], (0 : Int), false, false, ()) else bif inRange (0 : Int) a1.length then (F107 k (a1.getD (Int.toNat (0 : Int)) (List.replicate (64 : Nat) (0 : Int)), ())).bind fun r => bif r.snd.fst != (0 : Int) then some ([], (0 : Int), false, false, ()) else bif r.fst.1 != a0 then some ([], (0 : Int), false, false, ()) else (L102_8 k k (a0, a1, (1 : Int), r.fst.3, (↑r.fst.3.length : Int), (0 : Int), [], r.fst.1, r.fst.2, r.fst.3)).bind fun r => sumK r (fun a => some (a.snd.snd.snd.fst, a.fst, a.snd.fst, a.snd.snd.fst, ())) fun b => some (b.snd.fst, b.fst, b.snd.snd.snd.fst, true, ()) else none
noncomputable def sp102 : FSpec Ty := spec ag102 rs102 F102
theorem bo102 : Tryd.f102.body = some (bodyOf Tryd.f102) := by kernel_rfl
theorem nd102 : nodupB ((loopsIn (bodyOf Tryd.f102)).map firstRegion) = true := by kernel_rfl
theorem lo102_8 : LSOK fs108 kp102 tab Tryd.f102 ls102_8 := lsum2_ok bo102 nd102 (LSOK.none) oa102_8 (R := R102_8) fun k again x => by kernel_rfl
theorem ok102 : FOK Tryd.prog tab 102 sp102 := spec_ok (keeps := kp102) tabOK fs108OK Tryd.func102 bo102 (by kernel_rfl) nd102 (lo102_8) (F := F102) fun k x => by kernel_rfl
noncomputable def fs102 : Nat → Option (FSpec Ty) := addF 102 sp102 fs108
theorem fs102OK : SpecsOK Tryd.prog tab fs102 := fs108OK.add ok102 Tryd.call102
def ag93 : Args Ty (Int × (List (List Int)) × Unit) := V.arg (tab.den 22) (V.arg (tab.den 101) (noArgs))
def rs93 : Res Ty tab (T185 × Bool × Unit) true := V.manyRes (V.part (tab.den 186) (ent 186).ids (ent 186).plain (fun _ h => by cases h) (V.part (tab.den 4) (ent 4).ids (ent 4).plain (fun _ h => by cases h) (noParts)))
def of93_3 : Int × List (List Int) × Bool × Int × Int × Int × Int × List T80 × List Int × List T80 × List Int → NSt Ty := fun x => ⟨[.int .u32 (x.1), .slice 84 (x.2.1), .ptr 100000 [], .ptr 100001 [], .bool (x.2.2.1)], [.var (.cons (.row 100002) (.cons (.row 100003) (.cons (.int .i64 (x.2.2.2.1)) (.cons (.int .i64 (x.2.2.2.2.1)) (.nil))))), .var (.cons (.row 100004) (.cons (.row 100005) (.cons (.int .i64 (x.2.2.2.2.2.1)) (.cons (.int .i64 (x.2.2.2.2.2.2.1)) (.nil))))), .row 81 (x.2.2.2.2.2.2.2.1), .row 3 (x.2.2.2.2.2.2.2.2.1), .row 81 (x.2.2.2.2.2.2.2.2.2.1), .row 3 (x.2.2.2.2.2.2.2.2.2.2)]⟩
def ab93_3 : (n : NSt Ty) → Option {x : Int × List (List Int) × Bool × Int × Int × Int × Int × List T80 × List Int × List T80 × List Int // of93_3 x = n}
  | ⟨[.int .u32 v0, .slice 84 v1, .ptr 100000 [], .ptr 100001 [], .bool v2], [.var (.cons (.row 100002) (.cons (.row 100003) (.cons (.int .i64 v3) (.cons (.int .i64 v4) (.nil))))), .var (.cons (.row 100004) (.cons (.row 100005) (.cons (.int .i64 v5) (.cons (.int .i64 v6) (.nil))))), .row 81 v7, .row 3 v8, .row 81 v9, .row 3 v10]⟩ => some ⟨(v0, v1, v2, v3, v4, v5, v6, v7, v8, v9, v10), rfl⟩
  | _ => none
def on93_3a : Int × List (List Int) × Bool × Int × Int × Int × Int × List T80 × List Int × List T80 × List Int → NSt Ty := fun x => ⟨[.int .u32 (x.1), .slice 84 (x.2.1), .ptr 100000 [], .bool (x.2.2.1), .ptr 100001 []], [.var (.cons (.row 100002) (.cons (.row 100003) (.cons (.int .i64 (x.2.2.2.1)) (.cons (.int .i64 (x.2.2.2.2.1)) (.nil))))), .var (.cons (.row 100004) (.cons (.row 100005) (.cons (.int .i64 (x.2.2.2.2.2.1)) (.cons (.int .i64 (x.2.2.2.2.2.2.1)) (.nil))))), .row 81 (x.2.2.2.2.2.2.2.1), .row 3 (x.2.2.2.2.2.2.2.2.1), .row 81 (x.2.2.2.2.2.2.2.2.2.1), .row 3 (x.2.2.2.2.2.2.2.2.2.2)]⟩
def on93_3b : Int × List (List Int) × Int × Int × Int × Int × List T80 × List Int × List T80 × List Int → NSt Ty := fun x => ⟨[.int .u32 (x.1), .slice 84 (x.2.1), .ptr 100000 [], .undef, .ptr 100001 []], [.var (.cons (.row 100002) (.cons (.row 100003) (.cons (.int .i64 (x.2.2.1)) (.cons (.int .i64 (x.2.2.2.1)) (.nil))))), .var (.cons (.row 100004) (.cons (.row 100005) (.cons (.int .i64 (x.2.2.2.2.1)) (.cons (.int .i64 (x.2.2.2.2.2.1)) (.nil))))), .row 81 (x.2.2.2.2.2.2.1), .row 3 (x.2.2.2.2.2.2.2.1), .row 81 (x.2.2.2.2.2.2.2.2.1), .row 3 (x.2.2.2.2.2.2.2.2.2)]⟩
def oa93_3 : (e : Ex) → (n : NSt Ty) → Option {y : (Int × List (List Int) × Bool × Int × Int × Int × Int × List T80 × List Int × List T80 × List Int) ⊕ (Int × List (List Int) × Int × Int × Int × Int × List T80 × List Int × List T80 × List Int) // oe2 .ret (.exit 0) y = e ∧ on2 on93_3a on93_3b y = n}
  | .ret, ⟨[.int .u32 v0, .slice 84 v1, .ptr 100000 [], .bool v2, .ptr 100001 []], [.var (.cons (.row 100002) (.cons (.row 100003) (.cons (.int .i64 v3) (.cons (.int .i64 v4) (.nil))))), .var (.cons (.row 100004) (.cons (.row 100005) (.cons (.int .i64 v5) (.cons (.int .i64 v6) (.nil))))), .row 81 v7, .row 3 v8, .row 81 v9, .row 3 v10]⟩ => some ⟨.inl (v0, v1, v2, v3, v4, v5, v6, v7, v8, v9, v10), rfl, rfl⟩
  | .exit 0, ⟨[.int .u32 v0, .slice 84 v1, .ptr 100000 [], .undef, .ptr 100001 []], [.var (.cons (.row 100002) (.cons (.row 100003) (.cons (.int .i64 v2) (.cons (.int .i64 v3) (.nil))))), .var (.cons (.row 100004) (.cons (.row 100005) (.cons (.int .i64 v4) (.cons (.int .i64 v5) (.nil))))), .row 81 v6, .row 3 v7, .row 81 v8, .row 3 v9]⟩ => some ⟨.inr (v0, v1, v2, v3, v4, v5, v6, v7, v8, v9), rfl, rfl⟩
  | _, _ => none
/-- a round of the loop 3 of function 93 -/
def R93_3 (k : Nat) (again : Int × List (List Int) × Bool × Int × Int × Int × Int × List T80 × List Int × List T80 × List Int → Option ((Int × List (List Int) × Bool × Int × Int × Int × Int × List T80 × List Int × List T80 × List Int) ⊕ (Int × List (List Int) × Int × Int × Int × Int × List T80 × List Int × List T80 × List Int))) (x : Int × List (List Int) × Bool × Int × Int × Int × Int × List T80 × List Int × List T80 × List Int) : Option ((Int × List (List Int) × Bool × Int × Int × Int × Int × List T80 × List Int × List T80 × List Int) ⊕ (Int × List (List Int) × Int × Int × Int × Int × List T80 × List Int × List T80 × List Int)) :=
  match x with
  | (v0, v1, v2, v3, v4, v5, v6, v7, v8, v9, v10) => bif v2 then bif decide ((0 : Int) ≤ v5) && decide (v5 ≤ (↑v1.length : Int)) && decide ((↑v1.length : Int) ≤ (↑v1.length : Int)) then (F102 k (IntKind.u32.wrap (v0 + IntKind.u32.wrap v6), List.drop v5.toNat (List.take (↑v1.length : Int).toNat v1), ())).bind fun r => bif !r.snd.snd.snd.fst then some (Sum.inl (v0, v1, false, (0 : Int), (0 : Int), v5, v6, [], [], v9, v10)) else bif decide ((↑r.fst.length : Int) > IntKind.i64.wrap ((64 : Int) - (↑v9.length : Int))) then some (Sum.inl (v0, v1, false, (0 : Int), (0 : Int), v5, v6, [], [], v9, v10)) else bif decide (v9.length + r.fst.length ≤ roomMost) then again (v0, v1, r.snd.snd.fst, v3, v4, IntKind.i64.wrap (v5 + r.snd.fst), IntKind.i64.wrap (v6 + (1 : Int)), v7, v8, v9 ++ r.fst, v10) else none else none else some (Sum.inr (v0, v1, v3, v4, v5, v6, v7, v8, v9, v10))
def L93_3 (k n : Nat) (x : Int × List (List Int) × Bool × Int × Int × Int × Int × List T80 × List Int × List T80 × List Int) : Option ((Int × List (List Int) × Bool × Int × Int × Int × Int × List T80 × List Int × List T80 × List Int) ⊕ (Int × List (List Int) × Int × Int × Int × Int × List T80 × List Int × List T80 × List Int)) := iterR (R93_3 k) n x
noncomputable def ls93_3 : Nat → Option (LSum Ty) := addL 3 (lsum2 of93_3 ab93_3 L93_3 .ret on93_3a (.exit 0) on93_3b) noL
def of93_15 : List (List Int) × List Int × List (List Int) × Int × Int × Int × Int × Int × Int × List T80 × List Int × List T80 × List Int → NSt Ty := fun x => ⟨[.slice 84 (x.1), .ptr 100000 [], .ptr 100001 [], .slice 3 (x.2.1), .slice 84 (x.2.2.1), .int .i64 (x.2.2.2.1), .int .i64 (x.2.2.2.2.1)], [.var (.cons (.row 100002) (.cons (.row 100003) (.cons (.int .i64 (x.2.2.2.2.2.1)) (.cons (.int .i64 (x.2.2.2.2.2.2.1)) (.nil))))), .var (.cons (.row 100004) (.cons (.row 100005) (.cons (.int .i64 (x.2.2.2.2.2.2.2.1)) (.cons (.int .i64 (x.2.2.2.2.2.2.2.2.1)) (.nil))))), .row 81 (x.2.2.2.2.2.2.2.2.2.1), .row 3 (x.2.2.2.2.2.2.2.2.2.2.1), .frow 81 (x.2.2.2.2.2.2.2.2.2.2.2.1), .row 3 (x.2.2.2.2.2.2.2.2.2.2.2.2)]⟩
def ab93_15 : (n : NSt Ty) → Option {x : List (List Int) × List Int × List (List Int) × Int × Int × Int × Int × Int × Int × List T80 × List Int × List T80 × List Int // of93_15 x = n}
  | ⟨[.slice 84 v0, .ptr 100000 [], .ptr 100001 [], .slice 3 v1, .slice 84 v2, .int .i64 v3, .int .i64 v4], [.var (.cons (.row 100002) (.cons (.row 100003) (.cons (.int .i64 v5) (.cons (.int .i64 v6) (.nil))))), .var (.cons (.row 100004) (.cons (.row 100005) (.cons (.int .i64 v7) (.cons (.int .i64 v8) (.nil))))), .row 81 v9, .row 3 v10, .frow 81 v11, .row 3 v12]⟩ => some ⟨(v0, v1, v2, v3, v4, v5, v6, v7, v8, v9, v10, v11, v12), rfl⟩
  | _ => none
def on93_15a : Bool × List Int × Int × Int × Int × Int × List T80 × List Int × List T80 × List Int → NSt Ty := fun x => ⟨[.ptr 100000 [], .bool (x.1), .ptr 100001 [], .slice 3 (x.2.1)], [.var (.cons (.row 100002) (.cons (.row 100003) (.cons (.int .i64 (x.2.2.1)) (.cons (.int .i64 (x.2.2.2.1)) (.nil))))), .var (.cons (.row 100004) (.cons (.row 100005) (.cons (.int .i64 (x.2.2.2.2.1)) (.cons (.int .i64 (x.2.2.2.2.2.1)) (.nil))))), .row 81 (x.2.2.2.2.2.2.1), .row 3 (x.2.2.2.2.2.2.2.1), .frow 81 (x.2.2.2.2.2.2.2.2.1), .row 3 (x.2.2.2.2.2.2.2.2.2)]⟩
def on93_15b : List Int × Int × Int × Int × Int × List T80 × List Int × List T80 × List Int → NSt Ty := fun x => ⟨[.ptr 100000 [], .undef, .ptr 100001 [], .slice 3 (x.1)], [.var (.cons (.row 100002) (.cons (.row 100003) (.cons (.int .i64 (x.2.1)) (.cons (.int .i64 (x.2.2.1)) (.nil))))), .var (.cons (.row 100004) (.cons (.row 100005) (.cons (.int .i64 (x.2.2.2.1)) (.cons (.int .i64 (x.2.2.2.2.1)) (.nil))))), .row 81 (x.2.2.2.2.2.1), .row 3 (x.2.2.2.2.2.2.1), .frow 81 (x.2.2.2.2.2.2.2.1), .row 3 (x.2.2.2.2.2.2.2.2)]⟩
def oa93_15 : (e : Ex) → (n : NSt Ty) → Option {y : (Bool × List Int × Int × Int × Int × Int × List T80 × List Int × List T80 × List Int) ⊕ (List Int × Int × Int × Int × Int × List T80 × List Int × List T80 × List Int) // oe2 .ret (.exit 2) y = e ∧ on2 on93_15a on93_15b y = n}
  | .ret, ⟨[.ptr 100000 [], .bool v0, .ptr 100001 [], .slice 3 v1], [.var (.cons (.row 100002) (.cons (.row 100003) (.cons (.int .i64 v2) (.cons (.int .i64 v3) (.nil))))), .var (.cons (.row 100004) (.cons (.row 100005) (.cons (.int .i64 v4) (.cons (.int .i64 v5) (.nil))))), .row 81 v6, .row 3 v7, .frow 81 v8, .row 3 v9]⟩ => some ⟨.inl (v0, v1, v2, v3, v4, v5, v6, v7, v8, v9), rfl, rfl⟩
  | .exit 2, ⟨[.ptr 100000 [], .undef, .ptr 100001 [], .slice 3 v0], [.var (.cons (.row 100002) (.cons (.row 100003) (.cons (.int .i64 v1) (.cons (.int .i64 v2) (.nil))))), .var (.cons (.row 100004) (.cons (.row 100005) (.cons (.int .i64 v3) (.cons (.int .i64 v4) (.nil))))), .row 81 v5, .row 3 v6, .frow 81 v7, .row 3 v8]⟩ => some ⟨.inr (v0, v1, v2, v3, v4, v5, v6, v7, v8), rfl, rfl⟩
  | _, _ => none
/-- a round of the loop 15 of function 93 -/
def R93_15 (k : Nat) (again : List (List Int) × List Int × List (List Int) × Int × Int × Int × Int × Int × Int × List T80 × List Int × List T80 × List Int → Option ((Bool × List Int × Int × Int × Int × Int × List T80 × List Int × List T80 × List Int) ⊕ (List Int × Int × Int × Int × Int × List T80 × List Int × List T80 × List Int))) (x : List (List Int) × List Int × List (List Int) × Int × Int × Int × Int × Int × Int × List T80 × List Int × List T80 × List Int) : Option ((Bool × List Int × Int × Int × Int × Int × List T80 × List Int × List T80 × List Int) ⊕ (List Int × Int × Int × Int × Int × List T80 × List Int × List T80 × List Int)) :=
  match x with
  | (v0, v1, v2, v3, v4, v5, v6, v7, v8, v9, v10, v11, v12) => bif decide (v4 < v3) then bif inRange v4 v2.length then bif inRange v4 v0.length then bif !decide (v2.getD v4.toNat (List.replicate (64 : Nat) (0 : Int)) = v0.getD v4.toNat (List.replicate (64 : Nat) (0 : Int))) then some (Sum.inl (false, v1, (0 : Int), (0 : Int), v7, v8, [], [], v11, v12)) else again (v0, v1, v2, v3, IntKind.i64.wrap (v4 + (1 : Int)), v5, v6, v7, v8, v9, v10, v11, v12) else none else none else some (Sum.inr (v1, v5, v6, v7, v8, v9, v10, v11, v12))
def L93_15 (k n : Nat) (x : List (List Int) × List Int × List (List Int) × Int × Int × Int × Int × Int × Int × List T80 × List Int × List T80 × List Int) : Option ((Bool × List Int × Int × Int × Int × Int × List T80 × List Int × List T80 × List Int) ⊕ (List Int × Int × Int × Int × Int × List T80 × List Int × List T80 × List Int)) := iterR (R93_15 k) n x
noncomputable def ls93_15 : Nat → Option (LSum Ty) := addL 15 (lsum2 of93_15 ab93_15 L93_15 .ret on93_15a (.exit 2) on93_15b) ls93_3
def kp93 : Nat → Keep := fun i => cond (i == 3) ⟨[0, 1, 4, 6, 7], [0, 1, 4, 5, 6], 0⟩ (cond (i == 15) ⟨[1, 4, 6, 13, 78, 79, 80], [4, 5, 6, 13], 0⟩ (⟨[], [], 0⟩))
/-- "silt/group.Read" -/
def F93 (k : Nat) (x : Int × (List (List Int)) × Unit) : Option (T185 × Bool × Unit) :=
  match x with
  | (a0, a1, ()) => (L93_3 k k (a0, a1, true, (0 : Int), (0 : Int), (0 : Int), (0 : Int), [], [], [], [])).bind fun r => sumK r (fun a => some (T185.mk a.snd.snd.snd.snd.snd.snd.snd.fst a.snd.snd.snd.snd.snd.snd.snd.snd.fst a.snd.snd.snd.fst a.snd.snd.snd.snd.fst, a.snd.snd.fst, ())) fun b => (F73 k (b.fst, b.snd.snd.snd.snd.snd.snd.snd.snd.fst, ())).bind fun r => bif r.snd.snd.fst != (0 : Int) then some (T185.mk [] [] (0 : Int) (0 : Int), false, ()) else bif (↑r.fst.length : Int) != b.snd.snd.snd.snd.fst then some (T185.mk [] [] (0 : Int) (0 : Int), false, ()) else (L93_15 k k (b.snd.fst, r.snd.fst, r.fst, (↑r.fst.length : Int), (0 : Int), b.snd.snd.fst, b.snd.snd.snd.fst, b.snd.snd.snd.snd.fst, b.snd.snd.snd.snd.snd.fst, b.snd.snd.snd.snd.snd.snd.fst, b.snd.snd.snd.snd.snd.snd.snd.fst, b.snd.snd.snd.snd.snd.snd.snd.snd.fst, b.snd.snd.snd.snd.snd.snd.snd.snd.snd)).bind fun r => sumK r (fun a => some (T185.mk a.snd.snd.snd.snd.snd.snd.fst a.snd.snd.snd.snd.snd.snd.snd.fst a.snd.snd.fst a.snd.snd.snd.fst, a.fst, ())) fun b => some (T185.mk b.snd.snd.snd.snd.snd.snd.snd.fst b.fst b.snd.snd.snd.fst b.snd.snd.snd.snd.fst, true, ())
noncomputable def sp93 : FSpec Ty := spec ag93 rs93 F93
theorem bo93 : Tryd.f93.body = some (bodyOf Tryd.f93) := by kernel_rfl
theorem nd93 : nodupB ((loopsIn (bodyOf Tryd.f93)).map firstRegion) = true := by kernel_rfl
theorem lo93_3 : LSOK fs102 kp93 tab Tryd.f93 ls93_3 := lsum2_ok bo93 nd93 (LSOK.none) oa93_3 (R := R93_3) fun k again x => by kernel_rfl
theorem lo93_15 : LSOK fs102 kp93 tab Tryd.f93 ls93_15 := lsum2_ok bo93 nd93 (lo93_3) oa93_15 (R := R93_15) fun k again x => by kernel_rfl
theorem ok93 : FOK Tryd.prog tab 93 sp93 := spec_ok (keeps := kp93) tabOK fs102OK Tryd.func93 bo93 (by kernel_rfl) nd93 (lo93_15) (F := F93) fun k x => by kernel_rfl
noncomputable def fs93 : Nat → Option (FSpec Ty) := addF 93 sp93 fs102
theorem fs93OK : SpecsOK Tryd.prog tab fs93 := fs102OK.add ok93 Tryd.call93
theorem bo84 : Tryd.f84.body = some (bodyOf Tryd.f84) := by kernel_rfl
theorem nd84 : nodupB ((loopsIn (bodyOf Tryd.f84)).map firstRegion) = true := by kernel_rfl
def of84 : Int × Int × Int × Int × Int × Int × Int × List Int × Int × Int × List (List Int) × List T126 → NSt Ty := fun x => ⟨[.cons (.ptr 100000 []) (.cons (.cons (.int .i64 (x.1)) (.cons (.int .i64 (x.2.1)) (.cons (.int .i64 (x.2.2.1)) (.cons (.int .i64 (x.2.2.2.1)) (.nil))))) (.nil)), .cons (.int .i64 (x.2.2.2.2.1)) (.cons (.int .i64 (x.2.2.2.2.2.1)) (.cons (.int .u32 (x.2.2.2.2.2.2.1)) (.cons (.slice 3 (x.2.2.2.2.2.2.2.1)) (.nil))))], [.var (.cons (.row 100001) (.cons (.row 100002) (.cons (.int .i64 (x.2.2.2.2.2.2.2.2.1)) (.cons (.int .i64 (x.2.2.2.2.2.2.2.2.2.1)) (.nil))))), .row 84 (x.2.2.2.2.2.2.2.2.2.2.1), .row 127 (x.2.2.2.2.2.2.2.2.2.2.2)]⟩
def ab84 : (n : NSt Ty) → Option {x : Int × Int × Int × Int × Int × Int × Int × List Int × Int × Int × List (List Int) × List T126 // of84 x = n}
  | ⟨[.cons (.ptr 100000 []) (.cons (.cons (.int .i64 v0) (.cons (.int .i64 v1) (.cons (.int .i64 v2) (.cons (.int .i64 v3) (.nil))))) (.nil)), .cons (.int .i64 v4) (.cons (.int .i64 v5) (.cons (.int .u32 v6) (.cons (.slice 3 v7) (.nil))))], [.var (.cons (.row 100001) (.cons (.row 100002) (.cons (.int .i64 v8) (.cons (.int .i64 v9) (.nil))))), .row 84 v10, .row 127 v11]⟩ => some ⟨(v0, v1, v2, v3, v4, v5, v6, v7, v8, v9, v10, v11), rfl⟩
  | _ => none
def of84_3 : Int × Int × Int × Int × Int × Int × Int × Int × Int × Int × List Int × Int × Int × Int × List (List Int) × List (List Int) × List T126 × List T80 × List Int × List Int → NSt Ty := fun x => ⟨[.ptr 100001 [], .ptr 100002 [], .ptr 100003 [], .ptr 100004 [], .row 100005, .int .i64 (x.1)], [.var (.cons (.row 100006) (.cons (.row 100007) (.cons (.int .i64 (x.2.1)) (.cons (.int .i64 (x.2.2.1)) (.nil))))), .var (.cons (.ptr 100000 []) (.cons (.cons (.int .i64 (x.2.2.2.1)) (.cons (.int .i64 (x.2.2.2.2.1)) (.cons (.int .i64 (x.2.2.2.2.2.1)) (.cons (.int .i64 (x.2.2.2.2.2.2.1)) (.nil))))) (.nil))), .var (.cons (.int .i64 (x.2.2.2.2.2.2.2.1)) (.cons (.int .i64 (x.2.2.2.2.2.2.2.2.1)) (.cons (.int .u32 (x.2.2.2.2.2.2.2.2.2.1)) (.cons (.slice 3 (x.2.2.2.2.2.2.2.2.2.2.1)) (.nil))))), .var (.cons (.row 100008) (.cons (.row 100009) (.nil))), .var (.cons (.int .i64 (x.2.2.2.2.2.2.2.2.2.2.2.1)) (.cons (.int .i64 (x.2.2.2.2.2.2.2.2.2.2.2.2.1)) (.cons (.int .u32 (x.2.2.2.2.2.2.2.2.2.2.2.2.2.1)) (.cons (.row 100010) (.nil))))), .row 84 (x.2.2.2.2.2.2.2.2.2.2.2.2.2.2.1), .row 84 (x.2.2.2.2.2.2.2.2.2.2.2.2.2.2.2.1), .row 127 (x.2.2.2.2.2.2.2.2.2.2.2.2.2.2.2.2.1), .row 81 (x.2.2.2.2.2.2.2.2.2.2.2.2.2.2.2.2.2.1), .row 3 (x.2.2.2.2.2.2.2.2.2.2.2.2.2.2.2.2.2.2.1), .row 3 (x.2.2.2.2.2.2.2.2.2.2.2.2.2.2.2.2.2.2.2)]⟩
def ab84_3 : (n : NSt Ty) → Option {x : Int × Int × Int × Int × Int × Int × Int × Int × Int × Int × List Int × Int × Int × Int × List (List Int) × List (List Int) × List T126 × List T80 × List Int × List Int // of84_3 x = n}
  | ⟨[.ptr 100001 [], .ptr 100002 [], .ptr 100003 [], .ptr 100004 [], .row 100005, .int .i64 v0], [.var (.cons (.row 100006) (.cons (.row 100007) (.cons (.int .i64 v1) (.cons (.int .i64 v2) (.nil))))), .var (.cons (.ptr 100000 []) (.cons (.cons (.int .i64 v3) (.cons (.int .i64 v4) (.cons (.int .i64 v5) (.cons (.int .i64 v6) (.nil))))) (.nil))), .var (.cons (.int .i64 v7) (.cons (.int .i64 v8) (.cons (.int .u32 v9) (.cons (.slice 3 v10) (.nil))))), .var (.cons (.row 100008) (.cons (.row 100009) (.nil))), .var (.cons (.int .i64 v11) (.cons (.int .i64 v12) (.cons (.int .u32 v13) (.cons (.row 100010) (.nil))))), .row 84 v14, .row 84 v15, .row 127 v16, .row 81 v17, .row 3 v18, .row 3 v19]⟩ => some ⟨(v0, v1, v2, v3, v4, v5, v6, v7, v8, v9, v10, v11, v12, v13, v14, v15, v16, v17, v18, v19), rfl⟩
  | _ => none
def on84_3a : GErr × Int × Int × Int × Int × Int × Int × Int × Int × Int × List Int × Int × Int × Int × List Int × List (List Int) × List (List Int) × List T126 × List T80 × List Int → NSt Ty := fun x => ⟨[.ptr 100001 [], .ptr 100002 [], .ptr 100003 [], .ptr 100004 [], .err (x.1), .row 100005], [.var (.cons (.row 100006) (.cons (.row 100007) (.cons (.int .i64 (x.2.1)) (.cons (.int .i64 (x.2.2.1)) (.nil))))), .var (.cons (.ptr 100000 []) (.cons (.cons (.int .i64 (x.2.2.2.1)) (.cons (.int .i64 (x.2.2.2.2.1)) (.cons (.int .i64 (x.2.2.2.2.2.1)) (.cons (.int .i64 (x.2.2.2.2.2.2.1)) (.nil))))) (.nil))), .var (.cons (.int .i64 (x.2.2.2.2.2.2.2.1)) (.cons (.int .i64 (x.2.2.2.2.2.2.2.2.1)) (.cons (.int .u32 (x.2.2.2.2.2.2.2.2.2.1)) (.cons (.slice 3 (x.2.2.2.2.2.2.2.2.2.2.1)) (.nil))))), .var (.cons (.row 100008) (.cons (.row 100009) (.nil))), .var (.cons (.int .i64 (x.2.2.2.2.2.2.2.2.2.2.2.1)) (.cons (.int .i64 (x.2.2.2.2.2.2.2.2.2.2.2.2.1)) (.cons (.int .u32 (x.2.2.2.2.2.2.2.2.2.2.2.2.2.1)) (.cons (.slice 3 (x.2.2.2.2.2.2.2.2.2.2.2.2.2.2.1)) (.nil))))), .row 84 (x.2.2.2.2.2.2.2.2.2.2.2.2.2.2.2.1), .row 84 (x.2.2.2.2.2.2.2.2.2.2.2.2.2.2.2.2.1), .row 127 (x.2.2.2.2.2.2.2.2.2.2.2.2.2.2.2.2.2.1), .row 81 (x.2.2.2.2.2.2.2.2.2.2.2.2.2.2.2.2.2.2.1), .row 3 (x.2.2.2.2.2.2.2.2.2.2.2.2.2.2.2.2.2.2.2)]⟩
def on84_3b : Int × Int × Int × Int × Int × Int × Int × Int × Int × List Int × Int × Int × Int × List (List Int) × List (List Int) × List T126 × List T80 × List Int × List Int → NSt Ty := fun x => ⟨[.ptr 100001 [], .ptr 100002 [], .ptr 100003 [], .ptr 100004 [], .undef, .row 100005], [.var (.cons (.row 100006) (.cons (.row 100007) (.cons (.int .i64 (x.1)) (.cons (.int .i64 (x.2.1)) (.nil))))), .var (.cons (.ptr 100000 []) (.cons (.cons (.int .i64 (x.2.2.1)) (.cons (.int .i64 (x.2.2.2.1)) (.cons (.int .i64 (x.2.2.2.2.1)) (.cons (.int .i64 (x.2.2.2.2.2.1)) (.nil))))) (.nil))), .var (.cons (.int .i64 (x.2.2.2.2.2.2.1)) (.cons (.int .i64 (x.2.2.2.2.2.2.2.1)) (.cons (.int .u32 (x.2.2.2.2.2.2.2.2.1)) (.cons (.slice 3 (x.2.2.2.2.2.2.2.2.2.1)) (.nil))))), .var (.cons (.row 100008) (.cons (.row 100009) (.nil))), .var (.cons (.int .i64 (x.2.2.2.2.2.2.2.2.2.2.1)) (.cons (.int .i64 (x.2.2.2.2.2.2.2.2.2.2.2.1)) (.cons (.int .u32 (x.2.2.2.2.2.2.2.2.2.2.2.2.1)) (.cons (.row 100010) (.nil))))), .row 84 (x.2.2.2.2.2.2.2.2.2.2.2.2.2.1), .row 84 (x.2.2.2.2.2.2.2.2.2.2.2.2.2.2.1), .row 127 (x.2.2.2.2.2.2.2.2.2.2.2.2.2.2.2.1), .row 81 (x.2.2.2.2.2.2.2.2.2.2.2.2.2.2.2.2.1), .row 3 (x.2.2.2.2.2.2.2.2.2.2.2.2.2.2.2.2.2.1), .row 3 (x.2.2.2.2.2.2.2.2.2.2.2.2.2.2.2.2.2.2)]⟩
def oa84_3 : (e : Ex) → (n : NSt Ty) → Option {y : (GErr × Int × Int × Int × Int × Int × Int × Int × Int × Int × List Int × Int × Int × Int × List Int × List (List Int) × List (List Int) × List T126 × List T80 × List Int) ⊕ (Int × Int × Int × Int × Int × Int × Int × Int × Int × List Int × Int × Int × Int × List (List Int) × List (List Int) × List T126 × List T80 × List Int × List Int) // oe2 .ret (.exit 0) y = e ∧ on2 on84_3a on84_3b y = n}
  | .ret, ⟨[.ptr 100001 [], .ptr 100002 [], .ptr 100003 [], .ptr 100004 [], .err v0, .row 100005], [.var (.cons (.row 100006) (.cons (.row 100007) (.cons (.int .i64 v1) (.cons (.int .i64 v2) (.nil))))), .var (.cons (.ptr 100000 []) (.cons (.cons (.int .i64 v3) (.cons (.int .i64 v4) (.cons (.int .i64 v5) (.cons (.int .i64 v6) (.nil))))) (.nil))), .var (.cons (.int .i64 v7) (.cons (.int .i64 v8) (.cons (.int .u32 v9) (.cons (.slice 3 v10) (.nil))))), .var (.cons (.row 100008) (.cons (.row 100009) (.nil))), .var (.cons (.int .i64 v11) (.cons (.int .i64 v12) (.cons (.int .u32 v13) (.cons (.slice 3 v14) (.nil))))), .row 84 v15, .row 84 v16, .row 127 v17, .row 81 v18, .row 3 v19]⟩ => some ⟨.inl (v0, v1, v2, v3, v4, v5, v6, v7, v8, v9, v10, v11, v12, v13, v14, v15, v16, v17, v18, v19), rfl, rfl⟩
  | .exit 0, ⟨[.ptr 100001 [], .ptr 100002 [], .ptr 100003 [], .ptr 100004 [], .undef, .row 100005], [.var (.cons (.row 100006) (.cons (.row 100007) (.cons (.int .i64 v0) (.cons (.int .i64 v1) (.nil))))), .var (.cons (.ptr 100000 []) (.cons (.cons (.int .i64 v2) (.cons (.int .i64 v3) (.cons (.int .i64 v4) (.cons (.int .i64 v5) (.nil))))) (.nil))), .var (.cons (.int .i64 v6) (.cons (.int .i64 v7) (.cons (.int .u32 v8) (.cons (.slice 3 v9) (.nil))))), .var (.cons (.row 100008) (.cons (.row 100009) (.nil))), .var (.cons (.int .i64 v10) (.cons (.int .i64 v11) (.cons (.int .u32 v12) (.cons (.row 100010) (.nil))))), .row 84 v13, .row 84 v14, .row 127 v15, .row 81 v16, .row 3 v17, .row 3 v18]⟩ => some ⟨.inr (v0, v1, v2, v3, v4, v5, v6, v7, v8, v9, v10, v11, v12, v13, v14, v15, v16, v17, v18), rfl, rfl⟩
  | _, _ => none
/-- a round of the loop 3 of function 84 -/
def R84_3 (k : Nat) (again : Int × Int × Int × Int × Int × Int × Int × Int × Int × Int × List Int × Int × Int × Int × List (List Int) × List (List Int) × List T126 × List T80 × List Int × List Int → Option ((GErr × Int × Int × Int × Int × Int × Int × Int × Int × Int × List Int × Int × Int × Int × List Int × List (List Int) × List (List Int) × List T126 × List T80 × List Int) ⊕ (Int × Int × Int × Int × Int × Int × Int × Int × Int × List Int × Int × Int × Int × List (List Int) × List (List Int) × List T126 × List T80 × List Int × List Int))) (x : Int × Int × Int × Int × Int × Int × Int × Int × Int × Int × List Int × Int × Int × Int × List (List Int) × List (List Int) × List T126 × List T80 × List Int × List Int) : Option ((GErr × Int × Int × Int × Int × Int × Int × Int × Int × Int × List Int × Int × Int × Int × List Int × List (List Int) × List (List Int) × List T126 × List T80 × List Int) ⊕ (Int × Int × Int × Int × Int × Int × Int × Int × Int × List Int × Int × Int × Int × List (List Int) × List (List Int) × List T126 × List T80 × List Int × List Int)) :=
  match x with
  | (v0, v1, v2, v3, v4, v5, v6, v7, v8, v9, v10, v11, v12, v13, v14, v15, v16, v17, v18, v19) => bif decide (v0 < v5) then (F75 k (T23.mk v3 v4 v5 v6, v7, ())).bind fun r => (F38 k (IntKind.i64.wrap (r + v0), v1, v2, v15, v16)).bind fun r => bif r.snd.fst != (0 : Int) then (F65 k (r.snd.fst, ByteArray.mk (Array.mk [(114 : UInt8), (101 : UInt8), (97 : UInt8), (100 : UInt8)]), ())).bind fun r_1 => some (Sum.inl (r_1, r.snd.snd.fst, r.snd.snd.snd.fst, v3, v4, v5, v6, v7, v8, v9, v10, v7, v8, v9, v10, v14, r.snd.snd.snd.snd.fst, r.snd.snd.snd.snd.snd, [], [])) else bif decide (v14.length + ((List.replicate (1 : Nat) (List.replicate (64 : Nat) (0 : Int))).set (0 : Nat) r.fst).length ≤ roomMost) then again (IntKind.i64.wrap (v0 + (1 : Int)), r.snd.snd.fst, r.snd.snd.snd.fst, v3, v4, v5, v6, v7, v8, v9, v10, v11, v12, v13, v14 ++ (List.replicate (1 : Nat) (List.replicate (64 : Nat) (0 : Int))).set (0 : Nat) r.fst, r.snd.snd.snd.snd.fst, r.snd.snd.snd.snd.snd, v17, v18, v19) else none else some (Sum.inr (v1, v2, v3, v4, v5, v6, v7, v8, v9, v10, v11, v12, v13, v14, v15, v16, v17, v18, v19))
def L84_3 (k n : Nat) (x : Int × Int × Int × Int × Int × Int × Int × Int × Int × Int × List Int × Int × Int × Int × List (List Int) × List (List Int) × List T126 × List T80 × List Int × List Int) : Option ((GErr × Int × Int × Int × Int × Int × Int × Int × Int × Int × List Int × Int × Int × Int × List Int × List (List Int) × List (List Int) × List T126 × List T80 × List Int) ⊕ (Int × Int × Int × Int × Int × Int × Int × Int × Int × List Int × Int × Int × Int × List (List Int) × List (List Int) × List T126 × List T80 × List Int × List Int)) := iterR (R84_3 k) n x
noncomputable def ls84_3 : Nat → Option (LSum Ty) := addL 3 (lsum2 of84_3 ab84_3 L84_3 .ret on84_3a (.exit 0) on84_3b) noL
def of84_14 : List Int × Int × Int × Int × Int × Int × Int × Int × Int × Int × Int × Int × List Int × Int × Int × Int × List T80 × List Int × Int × Int × List T80 × List (List Int) × List T126 × List T80 × List Int × List Int × List Int → NSt Ty := fun x => ⟨[.ptr 100001 [], .ptr 100002 [], .ptr 100003 [], .ptr 100004 [], .ptr 100005 [], .ptr 100006 [], .slice 3 (x.1), .int .i64 (x.2.1), .int .i64 (x.2.2.1)], [.var (.cons (.row 100007) (.cons (.row 100008) (.cons (.int .i64 (x.2.2.2.1)) (.cons (.int .i64 (x.2.2.2.2.1)) (.nil))))), .var (.cons (.ptr 100000 []) (.cons (.cons (.int .i64 (x.2.2.2.2.2.1)) (.cons (.int .i64 (x.2.2.2.2.2.2.1)) (.cons (.int .i64 (x.2.2.2.2.2.2.2.1)) (.cons (.int .i64 (x.2.2.2.2.2.2.2.2.1)) (.nil))))) (.nil))), .var (.cons (.int .i64 (x.2.2.2.2.2.2.2.2.2.1)) (.cons (.int .i64 (x.2.2.2.2.2.2.2.2.2.2.1)) (.cons (.int .u32 (x.2.2.2.2.2.2.2.2.2.2.2.1)) (.cons (.slice 3 (x.2.2.2.2.2.2.2.2.2.2.2.2.1)) (.nil))))), .var (.cons (.row 100009) (.cons (.row 100010) (.nil))), .var (.cons (.int .i64 (x.2.2.2.2.2.2.2.2.2.2.2.2.2.1)) (.cons (.int .i64 (x.2.2.2.2.2.2.2.2.2.2.2.2.2.2.1)) (.cons (.int .u32 (x.2.2.2.2.2.2.2.2.2.2.2.2.2.2.2.1)) (.cons (.row 100011) (.nil))))), .var (.cons (.slice 81 (x.2.2.2.2.2.2.2.2.2.2.2.2.2.2.2.2.1)) (.cons (.slice 3 (x.2.2.2.2.2.2.2.2.2.2.2.2.2.2.2.2.2.1)) (.cons (.int .i64 (x.2.2.2.2.2.2.2.2.2.2.2.2.2.2.2.2.2.2.1)) (.cons (.int .i64 (x.2.2.2.2.2.2.2.2.2.2.2.2.2.2.2.2.2.2.2.1)) (.nil))))), .var (.cons (.slice 81 (x.2.2.2.2.2.2.2.2.2.2.2.2.2.2.2.2.2.2.2.2.1)) (.cons (.row 100012) (.nil))), .row 84 (x.2.2.2.2.2.2.2.2.2.2.2.2.2.2.2.2.2.2.2.2.2.1), .row 127 (x.2.2.2.2.2.2.2.2.2.2.2.2.2.2.2.2.2.2.2.2.2.2.1), .row 81 (x.2.2.2.2.2.2.2.2.2.2.2.2.2.2.2.2.2.2.2.2.2.2.2.1), .row 3 (x.2.2.2.2.2.2.2.2.2.2.2.2.2.2.2.2.2.2.2.2.2.2.2.2.1), .row 3 (x.2.2.2.2.2.2.2.2.2.2.2.2.2.2.2.2.2.2.2.2.2.2.2.2.2.1), .row 3 (x.2.2.2.2.2.2.2.2.2.2.2.2.2.2.2.2.2.2.2.2.2.2.2.2.2.2)]⟩
def ab84_14 : (n : NSt Ty) → Option {x : List Int × Int × Int × Int × Int × Int × Int × Int × Int × Int × Int × Int × List Int × Int × Int × Int × List T80 × List Int × Int × Int × List T80 × List (List Int) × List T126 × List T80 × List Int × List Int × List Int // of84_14 x = n}
  | ⟨[.ptr 100001 [], .ptr 100002 [], .ptr 100003 [], .ptr 100004 [], .ptr 100005 [], .ptr 100006 [], .slice 3 v0, .int .i64 v1, .int .i64 v2], [.var (.cons (.row 100007) (.cons (.row 100008) (.cons (.int .i64 v3) (.cons (.int .i64 v4) (.nil))))), .var (.cons (.ptr 100000 []) (.cons (.cons (.int .i64 v5) (.cons (.int .i64 v6) (.cons (.int .i64 v7) (.cons (.int .i64 v8) (.nil))))) (.nil))), .var (.cons (.int .i64 v9) (.cons (.int .i64 v10) (.cons (.int .u32 v11) (.cons (.slice 3 v12) (.nil))))), .var (.cons (.row 100009) (.cons (.row 100010) (.nil))), .var (.cons (.int .i64 v13) (.cons (.int .i64 v14) (.cons (.int .u32 v15) (.cons (.row 100011) (.nil))))), .var (.cons (.slice 81 v16) (.cons (.slice 3 v17) (.cons (.int .i64 v18) (.cons (.int .i64 v19) (.nil))))), .var (.cons (.slice 81 v20) (.cons (.row 100012) (.nil))), .row 84 v21, .row 127 v22, .row 81 v23, .row 3 v24, .row 3 v25, .row 3 v26]⟩ => some ⟨(v0, v1, v2, v3, v4, v5, v6, v7, v8, v9, v10, v11, v12, v13, v14, v15, v16, v17, v18, v19, v20, v21, v22, v23, v24, v25, v26), rfl⟩
  | _ => none
def oe84_14 : Int × Int × Int × Int × Int × List Int × Int × Int × Int × List T80 × List Int × Int × Int × List T80 × List (List Int) × List T126 × List T80 × List Int × List Int × List Int → Ex := fun _ => .exit 2
def on84_14 : Int × Int × Int × Int × Int × List Int × Int × Int × Int × List T80 × List Int × Int × Int × List T80 × List (List Int) × List T126 × List T80 × List Int × List Int × List Int → NSt Ty := fun x => ⟨[.ptr 100001 [], .ptr 100002 [], .ptr 100003 [], .ptr 100004 [], .ptr 100005 []], [.var (.cons (.row 100006) (.cons (.row 100007) (.cons (.int .i64 (x.1)) (.cons (.int .i64 (x.2.1)) (.nil))))), .var (.cons (.int .i64 (x.2.2.1)) (.cons (.int .i64 (x.2.2.2.1)) (.cons (.int .u32 (x.2.2.2.2.1)) (.cons (.slice 3 (x.2.2.2.2.2.1)) (.nil))))), .var (.cons (.row 100008) (.cons (.row 100009) (.nil))), .var (.cons (.int .i64 (x.2.2.2.2.2.2.1)) (.cons (.int .i64 (x.2.2.2.2.2.2.2.1)) (.cons (.int .u32 (x.2.2.2.2.2.2.2.2.1)) (.cons (.row 100010) (.nil))))), .var (.cons (.slice 81 (x.2.2.2.2.2.2.2.2.2.1)) (.cons (.slice 3 (x.2.2.2.2.2.2.2.2.2.2.1)) (.cons (.int .i64 (x.2.2.2.2.2.2.2.2.2.2.2.1)) (.cons (.int .i64 (x.2.2.2.2.2.2.2.2.2.2.2.2.1)) (.nil))))), .var (.cons (.slice 81 (x.2.2.2.2.2.2.2.2.2.2.2.2.2.1)) (.cons (.row 100011) (.nil))), .row 84 (x.2.2.2.2.2.2.2.2.2.2.2.2.2.2.1), .row 127 (x.2.2.2.2.2.2.2.2.2.2.2.2.2.2.2.1), .row 81 (x.2.2.2.2.2.2.2.2.2.2.2.2.2.2.2.2.1), .row 3 (x.2.2.2.2.2.2.2.2.2.2.2.2.2.2.2.2.2.1), .row 3 (x.2.2.2.2.2.2.2.2.2.2.2.2.2.2.2.2.2.2.1), .row 3 (x.2.2.2.2.2.2.2.2.2.2.2.2.2.2.2.2.2.2.2)]⟩
def oa84_14 : (e : Ex) → (n : NSt Ty) → Option {y : Int × Int × Int × Int × Int × List Int × Int × Int × Int × List T80 × List Int × Int × Int × List T80 × List (List Int) × List T126 × List T80 × List Int × List Int × List Int // oe84_14 y = e ∧ on84_14 y = n}
  | .exit 2, ⟨[.ptr 100001 [], .ptr 100002 [], .ptr 100003 [], .ptr 100004 [], .ptr 100005 []], [.var (.cons (.row 100006) (.cons (.row 100007) (.cons (.int .i64 v0) (.cons (.int .i64 v1) (.nil))))), .var (.cons (.int .i64 v2) (.cons (.int .i64 v3) (.cons (.int .u32 v4) (.cons (.slice 3 v5) (.nil))))), .var (.cons (.row 100008) (.cons (.row 100009) (.nil))), .var (.cons (.int .i64 v6) (.cons (.int .i64 v7) (.cons (.int .u32 v8) (.cons (.row 100010) (.nil))))), .var (.cons (.slice 81 v9) (.cons (.slice 3 v10) (.cons (.int .i64 v11) (.cons (.int .i64 v12) (.nil))))), .var (.cons (.slice 81 v13) (.cons (.row 100011) (.nil))), .row 84 v14, .row 127 v15, .row 81 v16, .row 3 v17, .row 3 v18, .row 3 v19]⟩ => some ⟨(v0, v1, v2, v3, v4, v5, v6, v7, v8, v9, v10, v11, v12, v13, v14, v15, v16, v17, v18, v19), rfl, rfl⟩
  | _, _ => none
/-- a round of the loop 14 of function 84 -/
def R84_14 (k : Nat) (again : List Int × Int × Int × Int × Int × Int × Int × Int × Int × Int × Int × Int × List Int × Int × Int × Int × List T80 × List Int × Int × Int × List T80 × List (List Int) × List T126 × List T80 × List Int × List Int × List Int → Option (Int × Int × Int × Int × Int × List Int × Int × Int × Int × List T80 × List Int × Int × Int × List T80 × List (List Int) × List T126 × List T80 × List Int × List Int × List Int)) (x : List Int × Int × Int × Int × Int × Int × Int × Int × Int × Int × Int × Int × List Int × Int × Int × Int × List T80 × List Int × Int × Int × List T80 × List (List Int) × List T126 × List T80 × List Int × List Int × List Int) : Option (Int × Int × Int × Int × Int × List Int × Int × Int × Int × List T80 × List Int × Int × Int × List T80 × List (List Int) × List T126 × List T80 × List Int × List Int × List Int) :=
  match x with
  | (v0, v1, v2, v3, v4, v5, v6, v7, v8, v9, v10, v11, v12, v13, v14, v15, v16, v17, v18, v19, v20, v21, v22, v23, v24, v25, v26) => bif decide (v2 < v1) then bif inRange v2 v0.length then bif decide (v0.getD v2.toNat (0 : Int) ≥ (0 : Int)) then (F75 k (T23.mk v5 v6 v7 v8, v9, ())).bind fun r => bif decide (v26.length + ((List.replicate (1 : Nat) (0 : Int)).set (0 : Nat) (IntKind.i64.wrap (IntKind.i64.wrap (r + v10) + v0.getD v2.toNat (0 : Int)))).length ≤ roomMost) then again (v0, v1, IntKind.i64.wrap (v2 + (1 : Int)), v3, v4, v5, v6, v7, v8, v9, v10, v11, v12, v13, v14, v15, v16, v17, v18, v19, v20, v21, v22, v23, v24, v25, v26 ++ (List.replicate (1 : Nat) (0 : Int)).set (0 : Nat) (IntKind.i64.wrap (IntKind.i64.wrap (r + v10) + v0.getD v2.toNat (0 : Int)))) else none else bif decide (v26.length + ((List.replicate (1 : Nat) (0 : Int)).set (0 : Nat) (0 : Int)).length ≤ roomMost) then again (v0, v1, IntKind.i64.wrap (v2 + (1 : Int)), v3, v4, v5, v6, v7, v8, v9, v10, v11, v12, v13, v14, v15, v16, v17, v18, v19, v20, v21, v22, v23, v24, v25, v26 ++ (List.replicate (1 : Nat) (0 : Int)).set (0 : Nat) (0 : Int)) else none else none else some (v3, v4, v9, v10, v11, v12, v13, v14, v15, v16, v17, v18, v19, v20, v21, v22, v23, v24, v25, v26)
def L84_14 (k n : Nat) (x : List Int × Int × Int × Int × Int × Int × Int × Int × Int × Int × Int × Int × List Int × Int × Int × Int × List T80 × List Int × Int × Int × List T80 × List (List Int) × List T126 × List T80 × List Int × List Int × List Int) : Option (Int × Int × Int × Int × Int × List Int × Int × Int × Int × List T80 × List Int × Int × Int × List T80 × List (List Int) × List T126 × List T80 × List Int × List Int × List Int) := iterR (R84_14 k) n x
noncomputable def ls84_14 : Nat → Option (LSum Ty) := addL 14 (LSum.of of84_14 ab84_14 L84_14 oe84_14 on84_14) ls84_3
def kp84 : Nat → Keep := pinned 1 fun i => cond (i == 3) ⟨[2, 3, 4, 5, 7, 8], [2, 3, 4, 5, 6, 7], 0⟩ (cond (i == 14) ⟨[2, 3, 4, 5, 11, 13, 65, 66, 67], [3, 4, 5, 11, 13], 0⟩ (⟨[], [], 0⟩))
def on84a : Int × Int × Int × List Int × GErr × Int × Int × List T80 × List Int × List (List Int) × List T126 → NSt Ty := fun x => ⟨[.tup (.cons (.cons (.row 100001) (.cons (.row 100002) (.nil))) (.cons (.cons (.int .i64 (x.1)) (.cons (.int .i64 (x.2.1)) (.cons (.int .u32 (x.2.2.1)) (.cons (.slice 3 (x.2.2.2.1)) (.nil))))) (.cons (.err (x.2.2.2.2.1)) (.nil))))], [.var (.cons (.row 100003) (.cons (.row 100004) (.cons (.int .i64 (x.2.2.2.2.2.1)) (.cons (.int .i64 (x.2.2.2.2.2.2.1)) (.nil))))), .row 81 (x.2.2.2.2.2.2.2.1), .row 3 (x.2.2.2.2.2.2.2.2.1), .row 84 (x.2.2.2.2.2.2.2.2.2.1), .row 127 (x.2.2.2.2.2.2.2.2.2.2)]⟩
def on84b : List T80 × Int × Int × Int × List Int × GErr × Int × Int × List Int × List (List Int) × List T126 → NSt Ty := fun x => ⟨[.tup (.cons (.cons (.slice 81 (x.1)) (.cons (.row 100001) (.nil))) (.cons (.cons (.int .i64 (x.2.1)) (.cons (.int .i64 (x.2.2.1)) (.cons (.int .u32 (x.2.2.2.1)) (.cons (.slice 3 (x.2.2.2.2.1)) (.nil))))) (.cons (.err (x.2.2.2.2.2.1)) (.nil))))], [.var (.cons (.row 100002) (.cons (.row 100003) (.cons (.int .i64 (x.2.2.2.2.2.2.1)) (.cons (.int .i64 (x.2.2.2.2.2.2.2.1)) (.nil))))), .row 3 (x.2.2.2.2.2.2.2.2.1), .row 84 (x.2.2.2.2.2.2.2.2.2.1), .row 127 (x.2.2.2.2.2.2.2.2.2.2)]⟩
def oa84 : (n : NSt Ty) → Option {y : (Int × Int × Int × List Int × GErr × Int × Int × List T80 × List Int × List (List Int) × List T126) ⊕ (List T80 × Int × Int × Int × List Int × GErr × Int × Int × List Int × List (List Int) × List T126) // on2 on84a on84b y = n}
  | ⟨[.tup (.cons (.cons (.row 100001) (.cons (.row 100002) (.nil))) (.cons (.cons (.int .i64 v0) (.cons (.int .i64 v1) (.cons (.int .u32 v2) (.cons (.slice 3 v3) (.nil))))) (.cons (.err v4) (.nil))))], [.var (.cons (.row 100003) (.cons (.row 100004) (.cons (.int .i64 v5) (.cons (.int .i64 v6) (.nil))))), .row 81 v7, .row 3 v8, .row 84 v9, .row 127 v10]⟩ => some ⟨.inl (v0, v1, v2, v3, v4, v5, v6, v7, v8, v9, v10), rfl⟩
  | ⟨[.tup (.cons (.cons (.slice 81 v0) (.cons (.row 100001) (.nil))) (.cons (.cons (.int .i64 v1) (.cons (.int .i64 v2) (.cons (.int .u32 v3) (.cons (.slice 3 v4) (.nil))))) (.cons (.err v5) (.nil))))], [.var (.cons (.row 100002) (.cons (.row 100003) (.cons (.int .i64 v6) (.cons (.int .i64 v7) (.nil))))), .row 3 v8, .row 84 v9, .row 127 v10]⟩ => some ⟨.inr (v0, v1, v2, v3, v4, v5, v6, v7, v8, v9, v10), rfl⟩
  | _ => none
/-- "(silt/scan.log).at"  -/
def F84 (k : Nat) (x : Int × Int × Int × Int × Int × Int × Int × List Int × Int × Int × List (List Int) × List T126) : Option ((Int × Int × Int × List Int × GErr × Int × Int × List T80 × List Int × List (List Int) × List T126) ⊕ (List T80 × Int × Int × Int × List Int × GErr × Int × Int × List Int × List (List Int) × List T126)) :=
  match x with
  | (v0, v1, v2, v3, v4, v5, v6, v7, v8, v9, v10, v11) => (L84_3 k k (v5, v8, v9, v0, v1, v2, v3, v4, v5, v6, v7, (0 : Int), (0 : Int), (0 : Int), [], v10, v11, [], [], [])).bind fun r => sumK r (fun a => some (Sum.inl (a.snd.snd.snd.snd.snd.snd.snd.snd.snd.snd.snd.fst, a.snd.snd.snd.snd.snd.snd.snd.snd.snd.snd.snd.snd.fst, a.snd.snd.snd.snd.snd.snd.snd.snd.snd.snd.snd.snd.snd.fst, a.snd.snd.snd.snd.snd.snd.snd.snd.snd.snd.snd.snd.snd.snd.fst, a.fst, a.snd.fst, a.snd.snd.fst, a.snd.snd.snd.snd.snd.snd.snd.snd.snd.snd.snd.snd.snd.snd.snd.snd.snd.snd.fst, a.snd.snd.snd.snd.snd.snd.snd.snd.snd.snd.snd.snd.snd.snd.snd.snd.snd.snd.snd, a.snd.snd.snd.snd.snd.snd.snd.snd.snd.snd.snd.snd.snd.snd.snd.snd.fst, a.snd.snd.snd.snd.snd.snd.snd.snd.snd.snd.snd.snd.snd.snd.snd.snd.snd.fst))) fun b => (F93 k (b.snd.snd.snd.snd.snd.snd.snd.snd.fst, b.snd.snd.snd.snd.snd.snd.snd.snd.snd.snd.snd.snd.snd.fst, ())).bind fun r => bif !r.snd.fst then (F65 k ((17 : Int), ByteArray.mk (Array.mk [(103 : UInt8), (114 : UInt8), (111 : UInt8), (117 : UInt8), (112 : UInt8)]), ())).bind fun r => some (Sum.inl (b.snd.snd.snd.snd.snd.snd.fst, b.snd.snd.snd.snd.snd.snd.snd.fst, b.snd.snd.snd.snd.snd.snd.snd.snd.fst, b.snd.snd.snd.snd.snd.snd.snd.snd.snd.fst, r, b.fst, b.snd.fst, [], [], b.snd.snd.snd.snd.snd.snd.snd.snd.snd.snd.snd.snd.snd.snd.fst, b.snd.snd.snd.snd.snd.snd.snd.snd.snd.snd.snd.snd.snd.snd.snd.fst)) else (L84_14 k k (r.fst.2, (↑r.fst.2.length : Int), (0 : Int), b.fst, b.snd.fst, b.snd.snd.fst, b.snd.snd.snd.fst, b.snd.snd.snd.snd.fst, b.snd.snd.snd.snd.snd.fst, b.snd.snd.snd.snd.snd.snd.fst, b.snd.snd.snd.snd.snd.snd.snd.fst, b.snd.snd.snd.snd.snd.snd.snd.snd.fst, b.snd.snd.snd.snd.snd.snd.snd.snd.snd.fst, b.snd.snd.snd.snd.snd.snd.snd.snd.snd.snd.fst, b.snd.snd.snd.snd.snd.snd.snd.snd.snd.snd.snd.fst, b.snd.snd.snd.snd.snd.snd.snd.snd.snd.snd.snd.snd.fst, r.fst.1, r.fst.2, r.fst.3, r.fst.4, r.fst.1, b.snd.snd.snd.snd.snd.snd.snd.snd.snd.snd.snd.snd.snd.snd.fst, b.snd.snd.snd.snd.snd.snd.snd.snd.snd.snd.snd.snd.snd.snd.snd.fst, b.snd.snd.snd.snd.snd.snd.snd.snd.snd.snd.snd.snd.snd.snd.snd.snd.fst, b.snd.snd.snd.snd.snd.snd.snd.snd.snd.snd.snd.snd.snd.snd.snd.snd.snd.fst, b.snd.snd.snd.snd.snd.snd.snd.snd.snd.snd.snd.snd.snd.snd.snd.snd.snd.snd, [])).bind fun r => some (Sum.inr (r.snd.snd.snd.snd.snd.snd.snd.snd.snd.snd.snd.snd.snd.fst, r.snd.snd.fst, IntKind.i64.wrap (r.snd.snd.snd.fst + r.snd.snd.snd.snd.snd.snd.snd.snd.snd.snd.snd.fst), IntKind.u32.wrap (r.snd.snd.snd.snd.fst + IntKind.u32.wrap r.snd.snd.snd.snd.snd.snd.snd.snd.snd.snd.snd.snd.fst), r.snd.snd.snd.snd.snd.fst, GErr.nil, r.fst, r.snd.fst, r.snd.snd.snd.snd.snd.snd.snd.snd.snd.snd.snd.snd.snd.snd.snd.snd.snd.snd.snd, r.snd.snd.snd.snd.snd.snd.snd.snd.snd.snd.snd.snd.snd.snd.fst, r.snd.snd.snd.snd.snd.snd.snd.snd.snd.snd.snd.snd.snd.snd.snd.fst))
noncomputable def sp84 : FSpec Ty := addH2 1 ab84 F84 on84a on84b noH
theorem lo84_3 : LSOK fs93 kp84 tab Tryd.f84 ls84_3 := lsum2_ok bo84 nd84 (LSOK.none) oa84_3 (R := R84_3) fun k again x => by kernel_rfl
theorem lo84_14 : LSOK fs93 kp84 tab Tryd.f84 ls84_14 := lsum_ok bo84 nd84 (lo84_3) oa84_14 (R := R84_14) fun k again x => by kernel_rfl
theorem ok84 : FOK Tryd.prog tab 84 sp84 := addH2_ok (keeps := kp84) tabOK fs93OK Tryd.func84 bo84 (by kernel_rfl) nd84 (lo84_14) oa84 (F := F84) (fun k x => by kernel_rfl) (pinned_le (Nat.le_refl _) _) FOK.none rfl
noncomputable def fs84 : Nat → Option (FSpec Ty) := addF 84 sp84 fs93
theorem fs84OK : SpecsOK Tryd.prog tab fs84 := fs93OK.add ok84 Tryd.call84
def ag45 : Args Ty (GErr × GErr × Unit) := V.arg (tab.den 106) (V.arg (tab.den 106) noArgs)
def rs45 : Res Ty tab Bool false := V.oneRes (tab.den 4) (ent 4).ids (ent 4).plain (fun x _ => (ent 4).flat x rfl)
/-- errors.Is -/
def F45 : Nat → (GErr × GErr × Unit) → Option Bool := errIsF
noncomputable def sp45 : FSpec Ty := spec ag45 rs45 F45
theorem ok45 : FOK Tryd.prog tab 45 sp45 := errIs_ok (A := ag45) (B := rs45) (fun _ _ => rfl) (fun _ => rfl) (fun _ _ n e x h => is_calls n e x h)
noncomputable def fs45 : Nat → Option (FSpec Ty) := addF 45 sp45 fs84
theorem fs45OK : SpecsOK Tryd.prog tab fs45 := fs84OK.add ok45 Tryd.call45
end Go.Proofs.YtbhnkjnjeifdhaaDoor.W
