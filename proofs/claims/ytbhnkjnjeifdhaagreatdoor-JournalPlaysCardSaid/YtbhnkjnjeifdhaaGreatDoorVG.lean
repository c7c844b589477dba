/-
  The functions that the statement reaches, as typed functions, and that the program computes them. No conditions. Printed by program.
-/
import Derived.Test.YtbhnkjnjeifdhaaGreatDoorVI
set_option linter.unusedVariables false
namespace Go.Proofs.YtbhnkjnjeifdhaaGreatDoor.W
open Go Go.Proofs V
theorem noFOK : SpecsOK Tryz.prog tab noF := SpecsOK.none cmpOK asOK
def ag25 : Args Ty ((List T88) × Unit) := V.arg (tab.den 51) (noArgs)
def rs25 : Res Ty tab (Bool) false := V.oneRes (tab.den 4) (ent 4).ids (ent 4).plain (fun x _ => (ent 4).flat x rfl)
def of25_2 : List T88 × Int → NSt Ty := fun x => ⟨[.slice 89 (x.1), .int .i64 (x.2)], []⟩
def ab25_2 : (n : NSt Ty) → Option {x : List T88 × Int // of25_2 x = n}
  | ⟨[.slice 89 v0, .int .i64 v1], []⟩ => some ⟨(v0, v1), rfl⟩
  | _ => none
def on25_2a : List T88 × Bool → NSt Ty := fun x => ⟨[.slice 89 (x.1), .bool (x.2)], []⟩
def on25_2b : List T88 → NSt Ty := fun x => ⟨[.slice 89 (x), .undef], []⟩
def oa25_2 : (e : Ex) → (n : NSt Ty) → Option {y : (List T88 × Bool) ⊕ (List T88) // oe2 .ret (.exit 0) y = e ∧ on2 on25_2a on25_2b y = n}
  | .ret, ⟨[.slice 89 v0, .bool v1], []⟩ => some ⟨.inl (v0, v1), rfl, rfl⟩
  | .exit 0, ⟨[.slice 89 v0, .undef], []⟩ => some ⟨.inr v0, rfl, rfl⟩
  | _, _ => none
/-- a round of the loop 2 of function 25 -/
def R25_2 (k : Nat) (again : List T88 × Int → Option ((List T88 × Bool) ⊕ (List T88))) (x : List T88 × Int) : Option ((List T88 × Bool) ⊕ (List T88)) :=
  match x with
  | (v0, v1) => bif decide (v1 < (↑v0.length : Int)) then bif inRange v1 v0.length then bif decide ((↑(v0.getD v1.toNat (T88.mk (T80.mk (0 : Int) (0 : Int)) (T86.mk (0 : Int) (0 : Int) (List.replicate (32 : Nat) (0 : Int)) (0 : Int) [] (0 : Int) (List.replicate (8 : Nat) (0 : Int))))).2.5.length : Int) > (300 : Int)) then some (Sum.inl (v0, false)) else again (v0, IntKind.i64.wrap (v1 + (1 : Int))) else none else some (Sum.inr v0)
def L25_2 (k n : Nat) (x : List T88 × Int) : Option ((List T88 × Bool) ⊕ (List T88)) := iterR (R25_2 k) n x
noncomputable def ls25_2 : Nat → Option (LSum Ty) := addL 2 (lsum2 of25_2 ab25_2 L25_2 .ret on25_2a (.exit 0) on25_2b) noL
def kp25 : Nat → Keep := fun i => cond (i == 2) ⟨[0, 3], [0, 2], 0⟩ (⟨[], [], 0⟩)
/-- "silt/siltlaw13.Fair" -/
def F25 (k : Nat) (x : (List T88) × Unit) : Option (Bool) :=
  match x with
  | (a0, ()) => (L25_2 k k (a0, (0 : Int))).bind fun r => sumK r (fun a => some a.snd) fun b => some (decide ((↑b.length : Int) ≤ (100 : Int)))
noncomputable def sp25 : FSpec Ty := spec ag25 rs25 F25
theorem bo25 : Tryz.f25.body = some (bodyOf Tryz.f25) := by kernel_rfl
theorem nd25 : nodupB ((loopsIn (bodyOf Tryz.f25)).map firstRegion) = true := by kernel_rfl
theorem lo25_2 : LSOK noF kp25 tab Tryz.f25 ls25_2 := lsum2_ok bo25 nd25 (LSOK.none) oa25_2 (R := R25_2) fun k again x => by kernel_rfl
theorem ok25 : FOK Tryz.prog tab 25 sp25 := spec_ok (keeps := kp25) tabOK noFOK Tryz.func25 bo25 (by kernel_rfl) nd25 (lo25_2) (F := F25) fun k x => by kernel_rfl
noncomputable def fs25 : Nat → Option (FSpec Ty) := addF 25 sp25 noF
theorem fs25OK : SpecsOK Tryz.prog tab fs25 := noFOK.add ok25 Tryz.call25
def ag4 : Args Ty ((List T52) × Unit) := V.arg (tab.den 28) (noArgs)
def rs4 : Res Ty tab (Bool) false := V.oneRes (tab.den 4) (ent 4).ids (ent 4).plain (fun x _ => (ent 4).flat x rfl)
def of4_2 : List T52 × Int → NSt Ty := fun x => ⟨[.slice 53 (x.1), .int .i64 (x.2)], []⟩
def ab4_2 : (n : NSt Ty) → Option {x : List T52 × Int // of4_2 x = n}
  | ⟨[.slice 53 v0, .int .i64 v1], []⟩ => some ⟨(v0, v1), rfl⟩
  | _ => none
def on4_2a : List T52 × Bool → NSt Ty := fun x => ⟨[.slice 53 (x.1), .bool (x.2)], []⟩
def on4_2b : List T52 → NSt Ty := fun x => ⟨[.slice 53 (x), .undef], []⟩
def oa4_2 : (e : Ex) → (n : NSt Ty) → Option {y : (List T52 × Bool) ⊕ (List T52) // oe2 .ret (.exit 0) y = e ∧ on2 on4_2a on4_2b y = n}
  | .ret, ⟨[.slice 53 v0, .bool v1], []⟩ => some ⟨.inl (v0, v1), rfl, rfl⟩
  | .exit 0, ⟨[.slice 53 v0, .undef], []⟩ => some ⟨.inr v0, rfl, rfl⟩
  | _, _ => none
/-- a round of the loop 2 of function 4 -/
def R4_2 (k : Nat) (again : List T52 × Int → Option ((List T52 × Bool) ⊕ (List T52))) (x : List T52 × Int) : Option ((List T52 × Bool) ⊕ (List T52)) :=
  match x with
  | (v0, v1) => bif decide (v1 < (↑v0.length : Int)) then bif inRange v1 v0.length then (F25 k ((v0.getD v1.toNat (T52.mk (0 : Int) (0 : Int) [] [])).L, ())).bind fun r => bif !r then some (Sum.inl (v0, false)) else bif inRange v1 v0.length then bif decide ((↑(v0.getD v1.toNat (T52.mk (0 : Int) (0 : Int) [] [])).4.length : Int) > (60 : Int)) then some (Sum.inl (v0, false)) else again (v0, IntKind.i64.wrap (v1 + (1 : Int))) else none else none else some (Sum.inr v0)
def L4_2 (k n : Nat) (x : List T52 × Int) : Option ((List T52 × Bool) ⊕ (List T52)) := iterR (R4_2 k) n x
noncomputable def ls4_2 : Nat → Option (LSum Ty) := addL 2 (lsum2 of4_2 ab4_2 L4_2 .ret on4_2a (.exit 0) on4_2b) noL
def kp4 : Nat → Keep := fun i => cond (i == 2) ⟨[0, 3], [0, 2], 0⟩ (⟨[], [], 0⟩)
/-- "silt/siltlaw14.Fair" -/
def F4 (k : Nat) (x : (List T52) × Unit) : Option (Bool) :=
  match x with
  | (a0, ()) => (L4_2 k k (a0, (0 : Int))).bind fun r => sumK r (fun a => some a.snd) fun b => some (decide ((↑b.length : Int) ≤ (40 : Int)))
noncomputable def sp4 : FSpec Ty := spec ag4 rs4 F4
theorem bo4 : Tryz.f4.body = some (bodyOf Tryz.f4) := by kernel_rfl
theorem nd4 : nodupB ((loopsIn (bodyOf Tryz.f4)).map firstRegion) = true := by kernel_rfl
theorem lo4_2 : LSOK fs25 kp4 tab Tryz.f4 ls4_2 := lsum2_ok bo4 nd4 (LSOK.none) oa4_2 (R := R4_2) fun k again x => by kernel_rfl
theorem ok4 : FOK Tryz.prog tab 4 sp4 := spec_ok (keeps := kp4) tabOK fs25OK Tryz.func4 bo4 (by kernel_rfl) nd4 (lo4_2) (F := F4) fun k x => by kernel_rfl
noncomputable def fs4 : Nat → Option (FSpec Ty) := addF 4 sp4 fs25
theorem fs4OK : SpecsOK Tryz.prog tab fs4 := fs25OK.add ok4 Tryz.call4
theorem bo7 : Tryz.f7.body = some (bodyOf Tryz.f7) := by kernel_rfl
theorem nd7 : nodupB ((loopsIn (bodyOf Tryz.f7)).map firstRegion) = true := by kernel_rfl
def of7 : Int → NSt Ty := fun x => ⟨[.int .i64 (x)], []⟩
def ab7 : (n : NSt Ty) → Option {x : Int // of7 x = n}
  | ⟨[.int .i64 v0], []⟩ => some ⟨v0, rfl⟩
  | _ => none
def kp7 : Nat → Keep := pinned 0 fun i => ⟨[], [], 0⟩
def on7a : Int → NSt Ty := fun x => ⟨[.tup (.cons (.nilp) (.cons (.int .i64 (x)) (.nil)))], []⟩
def on7b : Int × Int × Int × List (List Int) × List T117 → NSt Ty := fun x => ⟨[.tup (.cons (.ptr 100000 []) (.cons (.int .i64 (x.1)) (.nil)))], [.var (.cons (.row 100001) (.cons (.row 100002) (.cons (.int .i64 (x.2.1)) (.cons (.int .i64 (x.2.2.1)) (.nil))))), .row 72 (x.2.2.2.1), .row 118 (x.2.2.2.2)]⟩
def oa7 : (n : NSt Ty) → Option {y : (Int) ⊕ (Int × Int × Int × List (List Int) × List T117) // on2 on7a on7b y = n}
  | ⟨[.tup (.cons (.nilp) (.cons (.int .i64 v0) (.nil)))], []⟩ => some ⟨.inl v0, rfl⟩
  | ⟨[.tup (.cons (.ptr 100000 []) (.cons (.int .i64 v0) (.nil)))], [.var (.cons (.row 100001) (.cons (.row 100002) (.cons (.int .i64 v1) (.cons (.int .i64 v2) (.nil))))), .row 72 v3, .row 118 v4]⟩ => some ⟨.inr (v0, v1, v2, v3, v4), rfl⟩
  | _ => none
/-- "silt/dev.New"  -/
def F7 (k : Nat) (x : Int) : Option ((Int) ⊕ (Int × Int × Int × List (List Int) × List T117)) :=
  match x with
  | v0 => bif decide (v0 < (1 : Int)) then some (Sum.inl (1 : Int)) else bif decide (v0 > (1024 : Int)) then some (Sum.inl (1 : Int)) else bif decide (v0 = v0) && decide ((0 : Int) ≤ v0) && decide (v0 ≤ (↑roomMost : Int)) then some (Sum.inr ((0 : Int), (-1 : Int), (0 : Int), List.replicate v0.toNat (List.replicate (64 : Nat) (0 : Int)), [])) else none
noncomputable def sp7 : FSpec Ty := addH2 0 ab7 F7 on7a on7b noH
theorem ok7 : FOK Tryz.prog tab 7 sp7 := addH2_ok (keeps := kp7) tabOK fs4OK Tryz.func7 bo7 (by kernel_rfl) nd7 (LSOK.none) oa7 (F := F7) (fun k x => by kernel_rfl) (pinned_le (Nat.le_refl _) _) FOK.none rfl
noncomputable def fs7 : Nat → Option (FSpec Ty) := addF 7 sp7 fs4
theorem fs7OK : SpecsOK Tryz.prog tab fs7 := fs4OK.add ok7 Tryz.call7
def ag26 : Args Ty (Unit) := noArgs
def rs26 : Res Ty tab (T22) false := V.oneRes (tab.den 23) (ent 23).ids (ent 23).plain (fun x _ => (ent 23).flat x rfl)
def kp26 : Nat → Keep := fun i => ⟨[], [], 0⟩
/-- "silt/siltlaw03.Small" -/
def F26 (k : Nat) (x : Unit) : Option (T22) :=
  match x with
  | () => some (T22.mk (16 : Int) (8 : Int) (24 : Int) (4 : Int))
noncomputable def sp26 : FSpec Ty := spec ag26 rs26 F26
theorem bo26 : Tryz.f26.body = some (bodyOf Tryz.f26) := by kernel_rfl
theorem nd26 : nodupB ((loopsIn (bodyOf Tryz.f26)).map firstRegion) = true := by kernel_rfl
theorem ok26 : FOK Tryz.prog tab 26 sp26 := spec_ok (keeps := kp26) tabOK fs7OK Tryz.func26 bo26 (by kernel_rfl) nd26 (LSOK.none) (F := F26) fun k x => by kernel_rfl
noncomputable def fs26 : Nat → Option (FSpec Ty) := addF 26 sp26 fs7
theorem fs26OK : SpecsOK Tryz.prog tab fs26 := fs7OK.add ok26 Tryz.call26
def ag34 : Args Ty (T22 × Unit) := V.arg (tab.den 23) (noArgs)
def rs34 : Res Ty tab (Bool) false := V.oneRes (tab.den 4) (ent 4).ids (ent 4).plain (fun x _ => (ent 4).flat x rfl)
def kp34 : Nat → Keep := fun i => ⟨[], [], 0⟩
/-- "silt/plan.Good" -/
def F34 (k : Nat) (x : T22 × Unit) : Option (Bool) :=
  match x with
  | (a0, ()) => bif decide (a0.1 ≥ (1 : Int)) then bif decide (a0.1 ≤ (64 : Int)) then bif decide (a0.2 ≥ (6 : Int)) then bif decide (a0.2 ≤ (16 : Int)) then bif decide (a0.3 ≥ (24 : Int)) then bif decide (a0.3 ≤ (32 : Int)) then bif decide (a0.4 ≥ (2 : Int)) then some (decide (a0.4 ≤ (16 : Int))) else some false else some false else some false else some false else some false else some false else some false
noncomputable def sp34 : FSpec Ty := spec ag34 rs34 F34
theorem bo34 : Tryz.f34.body = some (bodyOf Tryz.f34) := by kernel_rfl
theorem nd34 : nodupB ((loopsIn (bodyOf Tryz.f34)).map firstRegion) = true := by kernel_rfl
theorem ok34 : FOK Tryz.prog tab 34 sp34 := spec_ok (keeps := kp34) tabOK fs26OK Tryz.func34 bo34 (by kernel_rfl) nd34 (LSOK.none) (F := F34) fun k x => by kernel_rfl
noncomputable def fs34 : Nat → Option (FSpec Ty) := addF 34 sp34 fs26
theorem fs34OK : SpecsOK Tryz.prog tab fs34 := fs26OK.add ok34 Tryz.call34
def ag12 : Args Ty (T22 × T26 × Unit) := V.arg (tab.den 23) (V.arg (tab.den 27) (noArgs))
def rs12 : Res Ty tab (Bool) false := V.oneRes (tab.den 4) (ent 4).ids (ent 4).plain (fun x _ => (ent 4).flat x rfl)
def of12_5 : Int × List Int × Int × Int × Int × Int × Int × Int × Int × Int × Int × List Int → NSt Ty := fun x => ⟨[.ptr 100000 [], .ptr 100001 [], .int .i64 (x.1), .slice 3 (x.2.1), .int .i64 (x.2.2.1), .int .i64 (x.2.2.2.1)], [.var (.cons (.int .i64 (x.2.2.2.2.1)) (.cons (.int .i64 (x.2.2.2.2.2.1)) (.cons (.int .i64 (x.2.2.2.2.2.2.1)) (.cons (.int .i64 (x.2.2.2.2.2.2.2.1)) (.nil))))), .var (.cons (.int .i64 (x.2.2.2.2.2.2.2.2.1)) (.cons (.int .i64 (x.2.2.2.2.2.2.2.2.2.1)) (.cons (.int .u32 (x.2.2.2.2.2.2.2.2.2.2.1)) (.cons (.slice 3 (x.2.2.2.2.2.2.2.2.2.2.2)) (.nil)))))]⟩
def ab12_5 : (n : NSt Ty) → Option {x : Int × List Int × Int × Int × Int × Int × Int × Int × Int × Int × Int × List Int // of12_5 x = n}
  | ⟨[.ptr 100000 [], .ptr 100001 [], .int .i64 v0, .slice 3 v1, .int .i64 v2, .int .i64 v3], [.var (.cons (.int .i64 v4) (.cons (.int .i64 v5) (.cons (.int .i64 v6) (.cons (.int .i64 v7) (.nil))))), .var (.cons (.int .i64 v8) (.cons (.int .i64 v9) (.cons (.int .u32 v10) (.cons (.slice 3 v11) (.nil)))))]⟩ => some ⟨(v0, v1, v2, v3, v4, v5, v6, v7, v8, v9, v10, v11), rfl⟩
  | _ => none
def on12_5a : Bool → NSt Ty := fun x => ⟨[.bool (x)], []⟩
def on12_5b : Unit → NSt Ty := fun x => ⟨[.undef], []⟩
def oa12_5 : (e : Ex) → (n : NSt Ty) → Option {y : (Bool) ⊕ (Unit) // oe2 .ret (.exit 0) y = e ∧ on2 on12_5a on12_5b y = n}
  | .ret, ⟨[.bool v0], []⟩ => some ⟨.inl v0, rfl, rfl⟩
  | .exit 0, ⟨[.undef], []⟩ => some ⟨.inr (), rfl, rfl⟩
  | _, _ => none
/-- a round of the loop 5 of function 12 -/
def R12_5 (k : Nat) (again : Int × List Int × Int × Int × Int × Int × Int × Int × Int × Int × Int × List Int → Option ((Bool) ⊕ (Unit))) (x : Int × List Int × Int × Int × Int × Int × Int × Int × Int × Int × Int × List Int) : Option ((Bool) ⊕ (Unit)) :=
  match x with
  | (v0, v1, v2, v3, v4, v5, v6, v7, v8, v9, v10, v11) => bif decide (v3 < v2) then bif inRange v3 v1.length then bif decide (v1.getD v3.toNat (0 : Int) ≤ v0) then some (Sum.inl false) else bif decide (v1.getD v3.toNat (0 : Int) ≥ v5) then some (Sum.inl false) else bif v1.getD v3.toNat (0 : Int) == v8 then some (Sum.inl false) else again (v1.getD v3.toNat (0 : Int), v1, v2, IntKind.i64.wrap (v3 + (1 : Int)), v4, v5, v6, v7, v8, v9, v10, v11) else none else some (Sum.inr ())
def L12_5 (k n : Nat) (x : Int × List Int × Int × Int × Int × Int × Int × Int × Int × Int × Int × List Int) : Option ((Bool) ⊕ (Unit)) := iterR (R12_5 k) n x
noncomputable def ls12_5 : Nat → Option (LSum Ty) := addL 5 (lsum2 of12_5 ab12_5 L12_5 .ret on12_5a (.exit 0) on12_5b) noL
def kp12 : Nat → Keep := fun i => cond (i == 5) ⟨[2, 3, 5, 36, 37, 38], [4], 0⟩ (⟨[], [], 0⟩)
/-- "silt/journal.Good" -/
def F12 (k : Nat) (x : T22 × T26 × Unit) : Option (Bool) :=
  match x with
  | (a0, a1, ()) => (F34 k (T22.mk a0.1 a0.2 a0.3 a0.4, ())).bind fun r => bif !r then some false else bif decide (a1.1 < (0 : Int)) then some false else bif decide (a1.1 ≥ a0.2) then some false else bif decide (a1.2 < (0 : Int)) then some false else bif decide (a1.2 > a0.3) then some false else (L12_5 k k ((-1 : Int), a1.4, (↑a1.4.length : Int), (0 : Int), a0.1, a0.2, a0.3, a0.4, a1.1, a1.2, a1.3, a1.4)).bind fun r => sumK r (fun a => some a) fun b => some true
noncomputable def sp12 : FSpec Ty := spec ag12 rs12 F12
theorem bo12 : Tryz.f12.body = some (bodyOf Tryz.f12) := by kernel_rfl
theorem nd12 : nodupB ((loopsIn (bodyOf Tryz.f12)).map firstRegion) = true := by kernel_rfl
theorem lo12_5 : LSOK fs34 kp12 tab Tryz.f12 ls12_5 := lsum2_ok bo12 nd12 (LSOK.none) oa12_5 (R := R12_5) fun k again x => by kernel_rfl
theorem ok12 : FOK Tryz.prog tab 12 sp12 := spec_ok (keeps := kp12) tabOK fs34OK Tryz.func12 bo12 (by kernel_rfl) nd12 (lo12_5) (F := F12) fun k x => by kernel_rfl
noncomputable def fs12 : Nat → Option (FSpec Ty) := addF 12 sp12 fs34
theorem fs12OK : SpecsOK Tryz.prog tab fs12 := fs34OK.add ok12 Tryz.call12
theorem bo48 : Tryz.f48.body = some (bodyOf Tryz.f48) := by kernel_rfl
theorem nd48 : nodupB ((loopsIn (bodyOf Tryz.f48)).map firstRegion) = true := by kernel_rfl
def of48hn : Int → NSt Ty := fun x => ⟨[.nilp, .int .i64 (x)], []⟩
def ab48hn : (n : NSt Ty) → Option {x : Int // of48hn x = n}
  | ⟨[.nilp, .int .i64 v0], []⟩ => some ⟨v0, rfl⟩
  | _ => none
def kp48hn : Nat → Keep := pinned 0 fun i => ⟨[], [], 0⟩
def on48hn : Int → NSt Ty := fun x => ⟨[.int .i64 (x)], []⟩
def oa48hn : (n : NSt Ty) → Option {y : Int // on48hn y = n}
  | ⟨[.int .i64 v0], []⟩ => some ⟨v0, rfl⟩
  | _ => none
/-- "(*silt/dev.Dev).tell" hn -/
def F48hn (k : Nat) (x : Int) : Option (Int) :=
  match x with
  | v0 => some (0 : Int)
noncomputable def sp48hn : FSpec Ty := addH 0 ab48hn F48hn on48hn noH
theorem ok48hn : FOK Tryz.prog tab 48 sp48hn := addH_ok (keeps := kp48hn) tabOK fs12OK Tryz.func48 bo48 (by kernel_rfl) nd48 (LSOK.none) oa48hn (F := F48hn) (fun k x => by kernel_rfl) (pinned_le (Nat.le_refl _) _) FOK.none rfl
def of48 : Int × Int × Int × List (List Int) × List T117 → NSt Ty := fun x => ⟨[.ptr 100000 [], .int .i64 (x.1)], [.var (.cons (.row 100001) (.cons (.row 100002) (.cons (.int .i64 (x.2.1)) (.cons (.int .i64 (x.2.2.1)) (.nil))))), .row 72 (x.2.2.2.1), .row 118 (x.2.2.2.2)]⟩
def ab48 : (n : NSt Ty) → Option {x : Int × Int × Int × List (List Int) × List T117 // of48 x = n}
  | ⟨[.ptr 100000 [], .int .i64 v0], [.var (.cons (.row 100001) (.cons (.row 100002) (.cons (.int .i64 v1) (.cons (.int .i64 v2) (.nil))))), .row 72 v3, .row 118 v4]⟩ => some ⟨(v0, v1, v2, v3, v4), rfl⟩
  | _ => none
def kp48 : Nat → Keep := pinned 1 fun i => ⟨[], [], 0⟩
def on48 : Int × Int × Int × List (List Int) × List T117 → NSt Ty := fun x => ⟨[.int .i64 (x.1)], [.var (.cons (.row 100001) (.cons (.row 100002) (.cons (.int .i64 (x.2.1)) (.cons (.int .i64 (x.2.2.1)) (.nil))))), .row 72 (x.2.2.2.1), .row 118 (x.2.2.2.2)]⟩
def oa48 : (n : NSt Ty) → Option {y : Int × Int × Int × List (List Int) × List T117 // on48 y = n}
  | ⟨[.int .i64 v0], [.var (.cons (.row 100001) (.cons (.row 100002) (.cons (.int .i64 v1) (.cons (.int .i64 v2) (.nil))))), .row 72 v3, .row 118 v4]⟩ => some ⟨(v0, v1, v2, v3, v4), rfl⟩
  | _ => none
/-- "(*silt/dev.Dev).tell"  -/
def F48 (k : Nat) (x : Int × Int × Int × List (List Int) × List T117) : Option (Int × Int × Int × List (List Int) × List T117) :=
  match x with
  | (v0, v1, v2, v3, v4) => bif v0 == (0 : Int) then some (IntKind.i64.wrap (IntKind.i64.wrap ((↑v3.length : Int) - (↑v4.length : Int)) + (↑v4.length : Int)), v1, v2, v3, v4) else bif v0 == (1 : Int) then some (IntKind.i64.wrap ((0 : Int) + (↑v4.length : Int)), v1, v2, v3, v4) else bif v0 == (2 : Int) then some (v2, v1, v2, v3, v4) else some ((0 : Int), v1, v2, v3, v4)
noncomputable def sp48 : FSpec Ty := addH 1 ab48 F48 on48 sp48hn
theorem ok48 : FOK Tryz.prog tab 48 sp48 := addH_ok (keeps := kp48) tabOK fs12OK Tryz.func48 bo48 (by kernel_rfl) nd48 (LSOK.none) oa48 (F := F48) (fun k x => by kernel_rfl) (pinned_le (Nat.le_refl _) _) ok48hn rfl
noncomputable def fs48 : Nat → Option (FSpec Ty) := addF 48 sp48 fs12
theorem fs48OK : SpecsOK Tryz.prog tab fs48 := fs12OK.add ok48 Tryz.call48
theorem bo30 : Tryz.f30.body = some (bodyOf Tryz.f30) := by kernel_rfl
theorem nd30 : nodupB ((loopsIn (bodyOf Tryz.f30)).map firstRegion) = true := by kernel_rfl
def of30hn : Unit → NSt Ty := fun x => ⟨[.nilp], []⟩
def ab30hn : (n : NSt Ty) → Option {x : Unit // of30hn x = n}
  | ⟨[.nilp], []⟩ => some ⟨(), rfl⟩
  | _ => none
def kp30hn : Nat → Keep := pinned 0 fun i => ⟨[], [], 0⟩
def on30hn : Int → NSt Ty := fun x => ⟨[.int .i64 (x)], []⟩
def oa30hn : (n : NSt Ty) → Option {y : Int // on30hn y = n}
  | ⟨[.int .i64 v0], []⟩ => some ⟨v0, rfl⟩
  | _ => none
/-- "(*silt/dev.Dev).Len" hn -/
def F30hn (k : Nat) (x : Unit) : Option (Int) :=
  match x with
  | () => (F48hn k (0 : Int)).bind fun r => some r
noncomputable def sp30hn : FSpec Ty := addH 0 ab30hn F30hn on30hn noH
theorem ok30hn : FOK Tryz.prog tab 30 sp30hn := addH_ok (keeps := kp30hn) tabOK fs48OK Tryz.func30 bo30 (by kernel_rfl) nd30 (LSOK.none) oa30hn (F := F30hn) (fun k x => by kernel_rfl) (pinned_le (Nat.le_refl _) _) FOK.none rfl
def of30 : Int × Int × List (List Int) × List T117 → NSt Ty := fun x => ⟨[.ptr 100000 []], [.var (.cons (.row 100001) (.cons (.row 100002) (.cons (.int .i64 (x.1)) (.cons (.int .i64 (x.2.1)) (.nil))))), .row 72 (x.2.2.1), .row 118 (x.2.2.2)]⟩
def ab30 : (n : NSt Ty) → Option {x : Int × Int × List (List Int) × List T117 // of30 x = n}
  | ⟨[.ptr 100000 []], [.var (.cons (.row 100001) (.cons (.row 100002) (.cons (.int .i64 v0) (.cons (.int .i64 v1) (.nil))))), .row 72 v2, .row 118 v3]⟩ => some ⟨(v0, v1, v2, v3), rfl⟩
  | _ => none
def kp30 : Nat → Keep := pinned 1 fun i => ⟨[], [], 0⟩
def on30 : Int × Int × Int × List (List Int) × List T117 → NSt Ty := fun x => ⟨[.int .i64 (x.1)], [.var (.cons (.row 100001) (.cons (.row 100002) (.cons (.int .i64 (x.2.1)) (.cons (.int .i64 (x.2.2.1)) (.nil))))), .row 72 (x.2.2.2.1), .row 118 (x.2.2.2.2)]⟩
def oa30 : (n : NSt Ty) → Option {y : Int × Int × Int × List (List Int) × List T117 // on30 y = n}
  | ⟨[.int .i64 v0], [.var (.cons (.row 100001) (.cons (.row 100002) (.cons (.int .i64 v1) (.cons (.int .i64 v2) (.nil))))), .row 72 v3, .row 118 v4]⟩ => some ⟨(v0, v1, v2, v3, v4), rfl⟩
  | _ => none
/-- "(*silt/dev.Dev).Len"  -/
def F30 (k : Nat) (x : Int × Int × List (List Int) × List T117) : Option (Int × Int × Int × List (List Int) × List T117) :=
  match x with
  | (v0, v1, v2, v3) => (F48 k ((0 : Int), v0, v1, v2, v3)).bind fun r => some (r.fst, r.snd.fst, r.snd.snd.fst, r.snd.snd.snd.fst, r.snd.snd.snd.snd)
noncomputable def sp30 : FSpec Ty := addH 1 ab30 F30 on30 sp30hn
theorem ok30 : FOK Tryz.prog tab 30 sp30 := addH_ok (keeps := kp30) tabOK fs48OK Tryz.func30 bo30 (by kernel_rfl) nd30 (LSOK.none) oa30 (F := F30) (fun k x => by kernel_rfl) (pinned_le (Nat.le_refl _) _) ok30hn rfl
noncomputable def fs30 : Nat → Option (FSpec Ty) := addF 30 sp30 fs48
theorem fs30OK : SpecsOK Tryz.prog tab fs30 := fs48OK.add ok30 Tryz.call30
def ag31 : Args Ty (T22 × Unit) := V.arg (tab.den 23) (noArgs)
def rs31 : Res Ty tab (Int) false := V.oneRes (tab.den 3) (ent 3).ids (ent 3).plain (fun x _ => (ent 3).flat x rfl)
def kp31 : Nat → Keep := fun i => ⟨[], [], 0⟩
/-- "silt/plan.Total" -/
def F31 (k : Nat) (x : T22 × Unit) : Option (Int) :=
  match x with
  | (a0, ()) => (F34 k (T22.mk a0.1 a0.2 a0.3 a0.4, ())).bind fun r => bif !r then some (0 : Int) else some (IntKind.i64.wrap ((4 : Int) + IntKind.i64.wrap (a0.2 * a0.3)))
noncomputable def sp31 : FSpec Ty := spec ag31 rs31 F31
theorem bo31 : Tryz.f31.body = some (bodyOf Tryz.f31) := by kernel_rfl
theorem nd31 : nodupB ((loopsIn (bodyOf Tryz.f31)).map firstRegion) = true := by kernel_rfl
theorem ok31 : FOK Tryz.prog tab 31 sp31 := spec_ok (keeps := kp31) tabOK fs30OK Tryz.func31 bo31 (by kernel_rfl) nd31 (LSOK.none) (F := F31) fun k x => by kernel_rfl
noncomputable def fs31 : Nat → Option (FSpec Ty) := addF 31 sp31 fs30
theorem fs31OK : SpecsOK Tryz.prog tab fs31 := fs30OK.add ok31 Tryz.call31
def ag44 : Args Ty ((List Int) × Unit) := V.arg (tab.den 25) noArgs
def rs44 : Res Ty tab ((List Int)) true := V.oneRes (tab.den 25) (ent 25).ids (ent 25).plain (fun _ h => by cases h)
/-- slices.Clone -/
def F44 : Nat → ((List Int) × Unit) → Option ((List Int)) := cloneF
noncomputable def sp44 : FSpec Ty := spec ag44 rs44 F44
theorem bo44 : Tryz.f44.body = some (bodyOf Tryz.f44) := by kernel_rfl
theorem nd44 : nodupB ((loopsIn (bodyOf Tryz.f44)).map firstRegion) = true := by kernel_rfl
theorem ok44 : FOK Tryz.prog tab 44 sp44 := clone_ok (e := 3) (A := ag44) (B := rs44) tabOK noFOK Tryz.func44 bo44 (by kernel_rfl) nd44 (fun _ => rfl) (fun _ => rfl) (by kernel_rfl) (fun xs => by kernel_rfl)
noncomputable def fs44 : Nat → Option (FSpec Ty) := addF 44 sp44 fs31
theorem fs44OK : SpecsOK Tryz.prog tab fs44 := fs31OK.add ok44 Tryz.call44
def ag32 : Args Ty (T26 × Unit) := V.arg (tab.den 27) (noArgs)
def rs32 : Res Ty tab (T26) true := V.oneRes (tab.den 27) (ent 27).ids (ent 27).plain (fun _ h => by cases h)
def kp32 : Nat → Keep := fun i => ⟨[], [], 0⟩
/-- "(silt/journal.At).own" -/
def F32 (k : Nat) (x : T26 × Unit) : Option (T26) :=
  match x with
  | (a0, ()) => (F44 k (a0.4, ())).bind fun r => some (T26.mk a0.1 a0.2 a0.3 r)
noncomputable def sp32 : FSpec Ty := spec ag32 rs32 F32
theorem bo32 : Tryz.f32.body = some (bodyOf Tryz.f32) := by kernel_rfl
theorem nd32 : nodupB ((loopsIn (bodyOf Tryz.f32)).map firstRegion) = true := by kernel_rfl
theorem ok32 : FOK Tryz.prog tab 32 sp32 := spec_ok (keeps := kp32) tabOK fs44OK Tryz.func32 bo32 (by kernel_rfl) nd32 (LSOK.none) (F := F32) fun k x => by kernel_rfl
noncomputable def fs32 : Nat → Option (FSpec Ty) := addF 32 sp32 fs44
theorem fs32OK : SpecsOK Tryz.prog tab fs32 := fs44OK.add ok32 Tryz.call32
theorem bo9 : Tryz.f9.body = some (bodyOf Tryz.f9) := by kernel_rfl
theorem nd9 : nodupB ((loopsIn (bodyOf Tryz.f9)).map firstRegion) = true := by kernel_rfl
def of9hn : Int × Int × Int × Int × Int × Int × Int × List Int → NSt Ty := fun x => ⟨[.nilp, .cons (.int .i64 (x.1)) (.cons (.int .i64 (x.2.1)) (.cons (.int .i64 (x.2.2.1)) (.cons (.int .i64 (x.2.2.2.1)) (.nil)))), .cons (.int .i64 (x.2.2.2.2.1)) (.cons (.int .i64 (x.2.2.2.2.2.1)) (.cons (.int .u32 (x.2.2.2.2.2.2.1)) (.cons (.slice 3 (x.2.2.2.2.2.2.2)) (.nil))))], []⟩
def ab9hn : (n : NSt Ty) → Option {x : Int × Int × Int × Int × Int × Int × Int × List Int // of9hn x = n}
  | ⟨[.nilp, .cons (.int .i64 v0) (.cons (.int .i64 v1) (.cons (.int .i64 v2) (.cons (.int .i64 v3) (.nil)))), .cons (.int .i64 v4) (.cons (.int .i64 v5) (.cons (.int .u32 v6) (.cons (.slice 3 v7) (.nil))))], []⟩ => some ⟨(v0, v1, v2, v3, v4, v5, v6, v7), rfl⟩
  | _ => none
def kp9hn : Nat → Keep := pinned 0 fun i => ⟨[], [], 0⟩
def on9hna : Int → NSt Ty := fun x => ⟨[.tup (.cons (.nilp) (.cons (.int .i64 (x)) (.nil)))], []⟩
def on9hnb : Int × Int × Int × Int × Int × Int × Int × Int × List Int → NSt Ty := fun x => ⟨[.tup (.cons (.ptr 100000 []) (.cons (.int .i64 (x.1)) (.nil)))], [.var (.cons (.nilp) (.cons (.cons (.int .i64 (x.2.1)) (.cons (.int .i64 (x.2.2.1)) (.cons (.int .i64 (x.2.2.2.1)) (.cons (.int .i64 (x.2.2.2.2.1)) (.nil))))) (.cons (.cons (.int .i64 (x.2.2.2.2.2.1)) (.cons (.int .i64 (x.2.2.2.2.2.2.1)) (.cons (.int .u32 (x.2.2.2.2.2.2.2.1)) (.cons (.slice 3 (x.2.2.2.2.2.2.2.2)) (.nil))))) (.nil))))]⟩
def oa9hn : (n : NSt Ty) → Option {y : (Int) ⊕ (Int × Int × Int × Int × Int × Int × Int × Int × List Int) // on2 on9hna on9hnb y = n}
  | ⟨[.tup (.cons (.nilp) (.cons (.int .i64 v0) (.nil)))], []⟩ => some ⟨.inl v0, rfl⟩
  | ⟨[.tup (.cons (.ptr 100000 []) (.cons (.int .i64 v0) (.nil)))], [.var (.cons (.nilp) (.cons (.cons (.int .i64 v1) (.cons (.int .i64 v2) (.cons (.int .i64 v3) (.cons (.int .i64 v4) (.nil))))) (.cons (.cons (.int .i64 v5) (.cons (.int .i64 v6) (.cons (.int .u32 v7) (.cons (.slice 3 v8) (.nil))))) (.nil))))]⟩ => some ⟨.inr (v0, v1, v2, v3, v4, v5, v6, v7, v8), rfl⟩
  | _ => none
/-- "silt/journal.New" hn -/
def F9hn (k : Nat) (x : Int × Int × Int × Int × Int × Int × Int × List Int) : Option ((Int) ⊕ (Int × Int × Int × Int × Int × Int × Int × Int × List Int)) :=
  match x with
  | (v0, v1, v2, v3, v4, v5, v6, v7) => (F12 k (T22.mk v0 v1 v2 v3, T26.mk v4 v5 v6 v7, ())).bind fun r => bif !r then some (Sum.inl (1 : Int)) else (F30hn k ()).bind fun r => (F31 k (T22.mk v0 v1 v2 v3, ())).bind fun r_1 => bif decide (r < r_1) then some (Sum.inl (1 : Int)) else (F32 k (T26.mk v4 v5 v6 v7, ())).bind fun r => some (Sum.inr ((0 : Int), v0, v1, v2, v3, r.1, r.2, r.3, r.4))
noncomputable def sp9hn : FSpec Ty := addH2 0 ab9hn F9hn on9hna on9hnb noH
theorem ok9hn : FOK Tryz.prog tab 9 sp9hn := addH2_ok (keeps := kp9hn) tabOK fs32OK Tryz.func9 bo9 (by kernel_rfl) nd9 (LSOK.none) oa9hn (F := F9hn) (fun k x => by kernel_rfl) (pinned_le (Nat.le_refl _) _) FOK.none rfl
def of9 : Int × Int × Int × Int × Int × Int × Int × List Int × Int × Int × List (List Int) × List T117 → NSt Ty := fun x => ⟨[.ptr 100000 [], .cons (.int .i64 (x.1)) (.cons (.int .i64 (x.2.1)) (.cons (.int .i64 (x.2.2.1)) (.cons (.int .i64 (x.2.2.2.1)) (.nil)))), .cons (.int .i64 (x.2.2.2.2.1)) (.cons (.int .i64 (x.2.2.2.2.2.1)) (.cons (.int .u32 (x.2.2.2.2.2.2.1)) (.cons (.slice 3 (x.2.2.2.2.2.2.2.1)) (.nil))))], [.var (.cons (.row 100001) (.cons (.row 100002) (.cons (.int .i64 (x.2.2.2.2.2.2.2.2.1)) (.cons (.int .i64 (x.2.2.2.2.2.2.2.2.2.1)) (.nil))))), .row 72 (x.2.2.2.2.2.2.2.2.2.2.1), .row 118 (x.2.2.2.2.2.2.2.2.2.2.2)]⟩
def ab9 : (n : NSt Ty) → Option {x : Int × Int × Int × Int × Int × Int × Int × List Int × Int × Int × List (List Int) × List T117 // of9 x = n}
  | ⟨[.ptr 100000 [], .cons (.int .i64 v0) (.cons (.int .i64 v1) (.cons (.int .i64 v2) (.cons (.int .i64 v3) (.nil)))), .cons (.int .i64 v4) (.cons (.int .i64 v5) (.cons (.int .u32 v6) (.cons (.slice 3 v7) (.nil))))], [.var (.cons (.row 100001) (.cons (.row 100002) (.cons (.int .i64 v8) (.cons (.int .i64 v9) (.nil))))), .row 72 v10, .row 118 v11]⟩ => some ⟨(v0, v1, v2, v3, v4, v5, v6, v7, v8, v9, v10, v11), rfl⟩
  | _ => none
def kp9 : Nat → Keep := pinned 1 fun i => ⟨[], [], 0⟩
def on9a : Int × Int × Int × List (List Int) × List T117 → NSt Ty := fun x => ⟨[.tup (.cons (.nilp) (.cons (.int .i64 (x.1)) (.nil)))], [.var (.cons (.row 100001) (.cons (.row 100002) (.cons (.int .i64 (x.2.1)) (.cons (.int .i64 (x.2.2.1)) (.nil))))), .row 72 (x.2.2.2.1), .row 118 (x.2.2.2.2)]⟩
def on9b : Int × Int × Int × Int × Int × Int × Int × Int × Int × Int × List Int × List (List Int) × List T117 → NSt Ty := fun x => ⟨[.tup (.cons (.ptr 100001 []) (.cons (.int .i64 (x.1)) (.nil)))], [.var (.cons (.row 100002) (.cons (.row 100003) (.cons (.int .i64 (x.2.1)) (.cons (.int .i64 (x.2.2.1)) (.nil))))), .var (.cons (.ptr 100000 []) (.cons (.cons (.int .i64 (x.2.2.2.1)) (.cons (.int .i64 (x.2.2.2.2.1)) (.cons (.int .i64 (x.2.2.2.2.2.1)) (.cons (.int .i64 (x.2.2.2.2.2.2.1)) (.nil))))) (.cons (.cons (.int .i64 (x.2.2.2.2.2.2.2.1)) (.cons (.int .i64 (x.2.2.2.2.2.2.2.2.1)) (.cons (.int .u32 (x.2.2.2.2.2.2.2.2.2.1)) (.cons (.slice 3 (x.2.2.2.2.2.2.2.2.2.2.1)) (.nil))))) (.nil)))), .row 72 (x.2.2.2.2.2.2.2.2.2.2.2.1), .row 118 (x.2.2.2.2.2.2.2.2.2.2.2.2)]⟩
def oa9 : (n : NSt Ty) → Option {y : (Int × Int × Int × List (List Int) × List T117) ⊕ (Int × Int × Int × Int × Int × Int × Int × Int × Int × Int × List Int × List (List Int) × List T117) // on2 on9a on9b y = n}
  | ⟨[.tup (.cons (.nilp) (.cons (.int .i64 v0) (.nil)))], [.var (.cons (.row 100001) (.cons (.row 100002) (.cons (.int .i64 v1) (.cons (.int .i64 v2) (.nil))))), .row 72 v3, .row 118 v4]⟩ => some ⟨.inl (v0, v1, v2, v3, v4), rfl⟩
  | ⟨[.tup (.cons (.ptr 100001 []) (.cons (.int .i64 v0) (.nil)))], [.var (.cons (.row 100002) (.cons (.row 100003) (.cons (.int .i64 v1) (.cons (.int .i64 v2) (.nil))))), .var (.cons (.ptr 100000 []) (.cons (.cons (.int .i64 v3) (.cons (.int .i64 v4) (.cons (.int .i64 v5) (.cons (.int .i64 v6) (.nil))))) (.cons (.cons (.int .i64 v7) (.cons (.int .i64 v8) (.cons (.int .u32 v9) (.cons (.slice 3 v10) (.nil))))) (.nil)))), .row 72 v11, .row 118 v12]⟩ => some ⟨.inr (v0, v1, v2, v3, v4, v5, v6, v7, v8, v9, v10, v11, v12), rfl⟩
  | _ => none
/-- "silt/journal.New"  -/
def F9 (k : Nat) (x : Int × Int × Int × Int × Int × Int × Int × List Int × Int × Int × List (List Int) × List T117) : Option ((Int × Int × Int × List (List Int) × List T117) ⊕ (Int × Int × Int × Int × Int × Int × Int × Int × Int × Int × List Int × List (List Int) × List T117)) :=
  match x with
  | (v0, v1, v2, v3, v4, v5, v6, v7, v8, v9, v10, v11) => (F12 k (T22.mk v0 v1 v2 v3, T26.mk v4 v5 v6 v7, ())).bind fun r => bif !r then some (Sum.inl ((1 : Int), v8, v9, v10, v11)) else (F30 k (v8, v9, v10, v11)).bind fun r => (F31 k (T22.mk v0 v1 v2 v3, ())).bind fun r_1 => bif decide (r.fst < r_1) then some (Sum.inl ((1 : Int), r.snd.fst, r.snd.snd.fst, r.snd.snd.snd.fst, r.snd.snd.snd.snd)) else (F32 k (T26.mk v4 v5 v6 v7, ())).bind fun r_2 => some (Sum.inr ((0 : Int), r.snd.fst, r.snd.snd.fst, v0, v1, v2, v3, r_2.1, r_2.2, r_2.3, r_2.4, r.snd.snd.snd.fst, r.snd.snd.snd.snd))
noncomputable def sp9 : FSpec Ty := addH2 1 ab9 F9 on9a on9b sp9hn
theorem ok9 : FOK Tryz.prog tab 9 sp9 := addH2_ok (keeps := kp9) tabOK fs32OK Tryz.func9 bo9 (by kernel_rfl) nd9 (LSOK.none) oa9 (F := F9) (fun k x => by kernel_rfl) (pinned_le (Nat.le_refl _) _) ok9hn rfl
noncomputable def fs9 : Nat → Option (FSpec Ty) := addF 9 sp9 fs32
theorem fs9OK : SpecsOK Tryz.prog tab fs9 := fs32OK.add ok9 Tryz.call9
def ag47 : Args Ty (Int × Unit) := V.arg (tab.den 5) (noArgs)
def rs47 : Res Ty tab ((List Int)) false := V.oneRes (tab.den 83) (ent 83).ids (ent 83).plain (fun x _ => (ent 83).flat x rfl)
def of47_3 : Int × Int × List Int × List Int → NSt Ty := fun x => ⟨[.int .u8 (x.1), .ptr 100000 [], .ptr 100001 [], .int .i64 (x.2.1)], [.var (.arr 5 32 (x.2.2.1)), .var (.arr 5 32 (x.2.2.2))]⟩
def ab47_3 : (n : NSt Ty) → Option {x : Int × Int × List Int × List Int // of47_3 x = n}
  | ⟨[.int .u8 v0, .ptr 100000 [], .ptr 100001 [], .int .i64 v1], [.var (.arr 5 32 v2), .var (.arr 5 32 v3)]⟩ => some ⟨(v0, v1, v2, v3), rfl⟩
  | _ => none
def oe47_3 : List Int × List Int → Ex := fun _ => .exit 0
def on47_3 : List Int × List Int → NSt Ty := fun x => ⟨[.ptr 100000 [], .ptr 100001 []], [.var (.arr 5 32 (x.1)), .var (.arr 5 32 (x.2))]⟩
def oa47_3 : (e : Ex) → (n : NSt Ty) → Option {y : List Int × List Int // oe47_3 y = e ∧ on47_3 y = n}
  | .exit 0, ⟨[.ptr 100000 [], .ptr 100001 []], [.var (.arr 5 32 v0), .var (.arr 5 32 v1)]⟩ => some ⟨(v0, v1), rfl, rfl⟩
  | _, _ => none
/-- a round of the loop 3 of function 47 -/
def R47_3 (k : Nat) (again : Int × Int × List Int × List Int → Option (List Int × List Int)) (x : Int × Int × List Int × List Int) : Option (List Int × List Int) :=
  match x with
  | (v0, v1, v2, v3) => bif decide (v1 < (32 : Int)) then bif inRange v1 (32 : Nat) then again (v0, IntKind.i64.wrap (v1 + (1 : Int)), v2, v3.set v1.toNat v0) else none else some (v2, v3)
def L47_3 (k n : Nat) (x : Int × Int × List Int × List Int) : Option (List Int × List Int) := iterR (R47_3 k) n x
noncomputable def ls47_3 : Nat → Option (LSum Ty) := addL 3 (LSum.of of47_3 ab47_3 L47_3 oe47_3 on47_3) noL
def kp47 : Nat → Keep := fun i => cond (i == 3) ⟨[0, 2, 3, 4], [2, 3], 0⟩ (⟨[], [], 0⟩)
/-- "silt/siltkeep.Leaf" -/
def F47 (k : Nat) (x : Int × Unit) : Option ((List Int)) :=
  match x with
  | (a0, ()) => (L47_3 k k (a0, (0 : Int), List.replicate (32 : Nat) (0 : Int), List.replicate (32 : Nat) (0 : Int))).bind fun r => some r.snd
noncomputable def sp47 : FSpec Ty := spec ag47 rs47 F47
theorem bo47 : Tryz.f47.body = some (bodyOf Tryz.f47) := by kernel_rfl
theorem nd47 : nodupB ((loopsIn (bodyOf Tryz.f47)).map firstRegion) = true := by kernel_rfl
theorem lo47_3 : LSOK fs9 kp47 tab Tryz.f47 ls47_3 := lsum_ok bo47 nd47 (LSOK.none) oa47_3 (R := R47_3) fun k again x => by kernel_rfl
theorem ok47 : FOK Tryz.prog tab 47 sp47 := spec_ok (keeps := kp47) tabOK fs9OK Tryz.func47 bo47 (by kernel_rfl) nd47 (lo47_3) (F := F47) fun k x => by kernel_rfl
noncomputable def fs47 : Nat → Option (FSpec Ty) := addF 47 sp47 fs9
theorem fs47OK : SpecsOK Tryz.prog tab fs47 := fs9OK.add ok47 Tryz.call47
def ag27 : Args Ty (Int × Int × Unit) := V.arg (tab.den 3) (V.arg (tab.den 5) (noArgs))
def rs27 : Res Ty tab (T88) true := V.oneRes (tab.den 89) (ent 89).ids (ent 89).plain (fun _ h => by cases h)
def kp27 : Nat → Keep := fun i => ⟨[], [], 0⟩
/-- "silt/siltlaw13.Image" -/
def F27 (k : Nat) (x : Int × Int × Unit) : Option (T88) :=
  match x with
  | (a0, a1, ()) => (F47 k (a1, ())).bind fun r => some (T88.mk (T80.mk (1 : Int) a0) (T86.mk (1 : Int) a0 r (0 : Int) [] (0 : Int) (List.replicate (8 : Nat) (0 : Int))))
noncomputable def sp27 : FSpec Ty := spec ag27 rs27 F27
theorem bo27 : Tryz.f27.body = some (bodyOf Tryz.f27) := by kernel_rfl
theorem nd27 : nodupB ((loopsIn (bodyOf Tryz.f27)).map firstRegion) = true := by kernel_rfl
theorem ok27 : FOK Tryz.prog tab 27 sp27 := spec_ok (keeps := kp27) tabOK fs47OK Tryz.func27 bo27 (by kernel_rfl) nd27 (LSOK.none) (F := F27) fun k x => by kernel_rfl
noncomputable def fs27 : Nat → Option (FSpec Ty) := addF 27 sp27 fs47
theorem fs27OK : SpecsOK Tryz.prog tab fs27 := fs47OK.add ok27 Tryz.call27
def ag75 : Args Ty (T80 × Unit) := V.arg (tab.den 81) (noArgs)
def rs75 : Res Ty tab (Int) false := V.oneRes (tab.den 3) (ent 3).ids (ent 3).plain (fun x _ => (ent 3).flat x rfl)
def kp75 : Nat → Keep := fun i => ⟨[], [], 0⟩
/-- "silt/group.key" -/
def F75 (k : Nat) (x : T80 × Unit) : Option (Int) :=
  match x with
  | (a0, ()) => bif a0.1 == (3 : Int) then some (IntKind.i64.wrap ((64 : Int) + a0.2)) else some a0.2
noncomputable def sp75 : FSpec Ty := spec ag75 rs75 F75
theorem bo75 : Tryz.f75.body = some (bodyOf Tryz.f75) := by kernel_rfl
theorem nd75 : nodupB ((loopsIn (bodyOf Tryz.f75)).map firstRegion) = true := by kernel_rfl
theorem ok75 : FOK Tryz.prog tab 75 sp75 := spec_ok (keeps := kp75) tabOK fs27OK Tryz.func75 bo75 (by kernel_rfl) nd75 (LSOK.none) (F := F75) fun k x => by kernel_rfl
noncomputable def fs75 : Nat → Option (FSpec Ty) := addF 75 sp75 fs27
theorem fs75OK : SpecsOK Tryz.prog tab fs75 := fs27OK.add ok75 Tryz.call75
def ag79 : Args Ty (Int × Unit) := V.arg (tab.den 3) (noArgs)
def rs79 : Res Ty tab (Bool) false := V.oneRes (tab.den 4) (ent 4).ids (ent 4).plain (fun x _ => (ent 4).flat x rfl)
def kp79 : Nat → Keep := fun i => ⟨[], [], 0⟩
/-- "silt/group.blocked" -/
def F79 (k : Nat) (x : Int × Unit) : Option (Bool) :=
  match x with
  | (a0, ()) => bif a0 == (1 : Int) then some true else bif a0 == (2 : Int) then some true else bif a0 == (3 : Int) then some true else some false
noncomputable def sp79 : FSpec Ty := spec ag79 rs79 F79
theorem bo79 : Tryz.f79.body = some (bodyOf Tryz.f79) := by kernel_rfl
theorem nd79 : nodupB ((loopsIn (bodyOf Tryz.f79)).map firstRegion) = true := by kernel_rfl
theorem ok79 : FOK Tryz.prog tab 79 sp79 := spec_ok (keeps := kp79) tabOK fs75OK Tryz.func79 bo79 (by kernel_rfl) nd79 (LSOK.none) (F := F79) fun k x => by kernel_rfl
noncomputable def fs79 : Nat → Option (FSpec Ty) := addF 79 sp79 fs75
theorem fs79OK : SpecsOK Tryz.prog tab fs79 := fs75OK.add ok79 Tryz.call79
def ag83 : Args Ty (T86 × Unit) := V.arg (tab.den 87) (noArgs)
def rs83 : Res Ty tab (Bool) false := V.oneRes (tab.den 4) (ent 4).ids (ent 4).plain (fun x _ => (ent 4).flat x rfl)
def kp83 : Nat → Keep := fun i => ⟨[], [], 0⟩
/-- "silt/group.empty" -/
def F83 (k : Nat) (x : T86 × Unit) : Option (Bool) :=
  match x with
  | (a0, ()) => bif a0.1 == (0 : Int) then bif a0.2 == (0 : Int) then bif decide (a0.3 = List.replicate (32 : Nat) (0 : Int)) then bif a0.4 == (0 : Int) then bif (↑a0.5.length : Int) == (0 : Int) then bif a0.6 == (0 : Int) then some (decide (a0.7 = List.replicate (8 : Nat) (0 : Int))) else some false else some false else some false else some false else some false else some false
noncomputable def sp83 : FSpec Ty := spec ag83 rs83 F83
theorem bo83 : Tryz.f83.body = some (bodyOf Tryz.f83) := by kernel_rfl
theorem nd83 : nodupB ((loopsIn (bodyOf Tryz.f83)).map firstRegion) = true := by kernel_rfl
theorem ok83 : FOK Tryz.prog tab 83 sp83 := spec_ok (keeps := kp83) tabOK fs79OK Tryz.func83 bo83 (by kernel_rfl) nd83 (LSOK.none) (F := F83) fun k x => by kernel_rfl
noncomputable def fs83 : Nat → Option (FSpec Ty) := addF 83 sp83 fs79
theorem fs83OK : SpecsOK Tryz.prog tab fs83 := fs79OK.add ok83 Tryz.call83
def ag86 : Args Ty (T86 × Unit) := V.arg (tab.den 87) (noArgs)
def rs86 : Res Ty tab (Bool) false := V.oneRes (tab.den 4) (ent 4).ids (ent 4).plain (fun x _ => (ent 4).flat x rfl)
def kp86 : Nat → Keep := fun i => ⟨[], [], 0⟩
/-- "silt/block.plain" -/
def F86 (k : Nat) (x : T86 × Unit) : Option (Bool) :=
  match x with
  | (a0, ()) => bif a0.4 == (0 : Int) then bif (↑a0.5.length : Int) == (0 : Int) then bif a0.1 == (1 : Int) then bif decide (a0.7 = List.replicate (8 : Nat) (0 : Int)) then some (a0.6 == (0 : Int)) else some false else bif a0.1 == (2 : Int) then bif decide (a0.7 = List.replicate (8 : Nat) (0 : Int)) then some (decide (a0.3 = List.replicate (32 : Nat) (0 : Int))) else some false else bif decide (a0.3 = List.replicate (32 : Nat) (0 : Int)) then some (a0.6 == (0 : Int)) else some false else bif a0.1 == (1 : Int) then bif decide (a0.7 = List.replicate (8 : Nat) (0 : Int)) then some false else some false else bif a0.1 == (2 : Int) then bif decide (a0.7 = List.replicate (8 : Nat) (0 : Int)) then some (decide (a0.3 = List.replicate (32 : Nat) (0 : Int))) else some false else bif decide (a0.3 = List.replicate (32 : Nat) (0 : Int)) then some false else some false else bif a0.1 == (1 : Int) then bif decide (a0.7 = List.replicate (8 : Nat) (0 : Int)) then some false else some false else bif a0.1 == (2 : Int) then bif decide (a0.7 = List.replicate (8 : Nat) (0 : Int)) then some (decide (a0.3 = List.replicate (32 : Nat) (0 : Int))) else some false else bif decide (a0.3 = List.replicate (32 : Nat) (0 : Int)) then some false else some false
noncomputable def sp86 : FSpec Ty := spec ag86 rs86 F86
theorem bo86 : Tryz.f86.body = some (bodyOf Tryz.f86) := by kernel_rfl
theorem nd86 : nodupB ((loopsIn (bodyOf Tryz.f86)).map firstRegion) = true := by kernel_rfl
theorem ok86 : FOK Tryz.prog tab 86 sp86 := spec_ok (keeps := kp86) tabOK fs83OK Tryz.func86 bo86 (by kernel_rfl) nd86 (LSOK.none) (F := F86) fun k x => by kernel_rfl
noncomputable def fs86 : Nat → Option (FSpec Ty) := addF 86 sp86 fs83
theorem fs86OK : SpecsOK Tryz.prog tab fs86 := fs83OK.add ok86 Tryz.call86
def ag87 : Args Ty (Int × Unit) := V.arg (tab.den 3) (noArgs)
def rs87 : Res Ty tab (Bool) false := V.oneRes (tab.den 4) (ent 4).ids (ent 4).plain (fun x _ => (ent 4).flat x rfl)
def kp87 : Nat → Keep := fun i => ⟨[], [], 0⟩
/-- "silt/block.head" -/
def F87 (k : Nat) (x : Int × Unit) : Option (Bool) :=
  match x with
  | (a0, ()) => bif a0 == (0 : Int) then some true else bif a0 == (1 : Int) then some true else bif decide (a0 ≥ (4 : Int)) then some (decide (a0 ≤ (1023 : Int))) else some false
noncomputable def sp87 : FSpec Ty := spec ag87 rs87 F87
theorem bo87 : Tryz.f87.body = some (bodyOf Tryz.f87) := by kernel_rfl
theorem nd87 : nodupB ((loopsIn (bodyOf Tryz.f87)).map firstRegion) = true := by kernel_rfl
theorem ok87 : FOK Tryz.prog tab 87 sp87 := spec_ok (keeps := kp87) tabOK fs86OK Tryz.func87 bo87 (by kernel_rfl) nd87 (LSOK.none) (F := F87) fun k x => by kernel_rfl
noncomputable def fs87 : Nat → Option (FSpec Ty) := addF 87 sp87 fs86
theorem fs87OK : SpecsOK Tryz.prog tab fs87 := fs86OK.add ok87 Tryz.call87
def ag89 : Args Ty (Int × Unit) := V.arg (tab.den 3) (noArgs)
def rs89 : Res Ty tab (Bool) false := V.oneRes (tab.den 4) (ent 4).ids (ent 4).plain (fun x _ => (ent 4).flat x rfl)
def kp89 : Nat → Keep := fun i => ⟨[], [], 0⟩
/-- "silt/block.Good$1" -/
def F89 (k : Nat) (x : Int × Unit) : Option (Bool) :=
  match x with
  | (a0, ()) => (F87 k (a0, ())).bind fun r => some !r
noncomputable def sp89 : FSpec Ty := spec ag89 rs89 F89
theorem bo89 : Tryz.f89.body = some (bodyOf Tryz.f89) := by kernel_rfl
theorem nd89 : nodupB ((loopsIn (bodyOf Tryz.f89)).map firstRegion) = true := by kernel_rfl
theorem ok89 : FOK Tryz.prog tab 89 sp89 := spec_ok (keeps := kp89) tabOK fs87OK Tryz.func89 bo89 (by kernel_rfl) nd89 (LSOK.none) (F := F89) fun k x => by kernel_rfl
noncomputable def fs89 : Nat → Option (FSpec Ty) := addF 89 sp89 fs87
theorem fs89OK : SpecsOK Tryz.prog tab fs89 := fs87OK.add ok89 Tryz.call89
def ag90 : Args Ty ((List Int) × Unit × Unit) := V.arg (tab.den 25) (V.arg (tab.den 116) (noArgs))
def rs90 : Res Ty tab (Int) false := V.oneRes (tab.den 3) (ent 3).ids (ent 3).plain (fun x _ => (ent 3).flat x rfl)
def of90_2 : List Int × Int × Int → NSt Ty := fun x => ⟨[.slice 3 (x.1), .func 89, .int .i64 (x.2.1), .int .i64 (x.2.2)], []⟩
def ab90_2 : (n : NSt Ty) → Option {x : List Int × Int × Int // of90_2 x = n}
  | ⟨[.slice 3 v0, .func 89, .int .i64 v1, .int .i64 v2], []⟩ => some ⟨(v0, v1, v2), rfl⟩
  | _ => none
def on90_2a : Int → NSt Ty := fun x => ⟨[.int .i64 (x)], []⟩
def on90_2b : Unit → NSt Ty := fun x => ⟨[.undef], []⟩
def oa90_2 : (e : Ex) → (n : NSt Ty) → Option {y : (Int) ⊕ (Unit) // oe2 .ret (.exit 0) y = e ∧ on2 on90_2a on90_2b y = n}
  | .ret, ⟨[.int .i64 v0], []⟩ => some ⟨.inl v0, rfl, rfl⟩
  | .exit 0, ⟨[.undef], []⟩ => some ⟨.inr (), rfl, rfl⟩
  | _, _ => none
/-- a round of the loop 2 of function 90 -/
def R90_2 (k : Nat) (again : List Int × Int × Int → Option ((Int) ⊕ (Unit))) (x : List Int × Int × Int) : Option ((Int) ⊕ (Unit)) :=
  match x with
  | (v0, v1, v2) => bif decide (v2 < v1) then bif inRange v2 v0.length then (F89 k (v0.getD v2.toNat (0 : Int), ())).bind fun r => bif r then some (Sum.inl v2) else again (v0, v1, IntKind.i64.wrap (v2 + (1 : Int))) else none else some (Sum.inr ())
def L90_2 (k n : Nat) (x : List Int × Int × Int) : Option ((Int) ⊕ (Unit)) := iterR (R90_2 k) n x
noncomputable def ls90_2 : Nat → Option (LSum Ty) := addL 2 (lsum2 of90_2 ab90_2 L90_2 .ret on90_2a (.exit 0) on90_2b) noL
def kp90 : Nat → Keep := fun i => cond (i == 2) ⟨[0, 1, 7, 8], [4], 0⟩ (⟨[], [], 0⟩)
/-- "slices.IndexFunc[[]int,int]" -/
def F90 (k : Nat) (x : (List Int) × Unit × Unit) : Option (Int) :=
  match x with
  | (a0, a1, ()) => (L90_2 k k (a0, (↑a0.length : Int), (0 : Int))).bind fun r => sumK r (fun a => some a) fun b => some (-1 : Int)
noncomputable def sp90 : FSpec Ty := spec ag90 rs90 F90
theorem bo90 : Tryz.f90.body = some (bodyOf Tryz.f90) := by kernel_rfl
theorem nd90 : nodupB ((loopsIn (bodyOf Tryz.f90)).map firstRegion) = true := by kernel_rfl
theorem lo90_2 : LSOK fs89 kp90 tab Tryz.f90 ls90_2 := lsum2_ok bo90 nd90 (LSOK.none) oa90_2 (R := R90_2) fun k again x => by kernel_rfl
theorem ok90 : FOK Tryz.prog tab 90 sp90 := spec_ok (keeps := kp90) tabOK fs89OK Tryz.func90 bo90 (by kernel_rfl) nd90 (lo90_2) (F := F90) fun k x => by kernel_rfl
noncomputable def fs90 : Nat → Option (FSpec Ty) := addF 90 sp90 fs89
theorem fs90OK : SpecsOK Tryz.prog tab fs90 := fs89OK.add ok90 Tryz.call90
def ag88 : Args Ty ((List Int) × Unit × Unit) := V.arg (tab.den 25) (V.arg (tab.den 116) (noArgs))
def rs88 : Res Ty tab (Bool) false := V.oneRes (tab.den 4) (ent 4).ids (ent 4).plain (fun x _ => (ent 4).flat x rfl)
def kp88 : Nat → Keep := fun i => ⟨[], [], 0⟩
/-- "slices.ContainsFunc[[]int,int]" -/
def F88 (k : Nat) (x : (List Int) × Unit × Unit) : Option (Bool) :=
  match x with
  | (a0, a1, ()) => (F90 k (a0, (), ())).bind fun r => some (decide (r ≥ (0 : Int)))
noncomputable def sp88 : FSpec Ty := spec ag88 rs88 F88
theorem bo88 : Tryz.f88.body = some (bodyOf Tryz.f88) := by kernel_rfl
theorem nd88 : nodupB ((loopsIn (bodyOf Tryz.f88)).map firstRegion) = true := by kernel_rfl
theorem ok88 : FOK Tryz.prog tab 88 sp88 := spec_ok (keeps := kp88) tabOK fs90OK Tryz.func88 bo88 (by kernel_rfl) nd88 (LSOK.none) (F := F88) fun k x => by kernel_rfl
noncomputable def fs88 : Nat → Option (FSpec Ty) := addF 88 sp88 fs90
theorem fs88OK : SpecsOK Tryz.prog tab fs88 := fs90OK.add ok88 Tryz.call88
def ag84 : Args Ty (T86 × Unit) := V.arg (tab.den 87) (noArgs)
def rs84 : Res Ty tab (Bool) false := V.oneRes (tab.den 4) (ent 4).ids (ent 4).plain (fun x _ => (ent 4).flat x rfl)
def kp84 : Nat → Keep := fun i => ⟨[], [], 0⟩
/-- "silt/block.Good" -/
def F84 (k : Nat) (x : T86 × Unit) : Option (Bool) :=
  match x with
  | (a0, ()) => bif decide (a0.2 < (0 : Int)) then some false else (F86 k (T86.mk a0.1 a0.2 a0.3 a0.4 a0.5 a0.6 a0.7, ())).bind fun r => bif !r then some false else bif a0.1 == (2 : Int) then bif decide (a0.4 < (0 : Int)) then some false else bif decide ((↑a0.5.length : Int) < (1 : Int)) then some false else bif decide ((↑a0.5.length : Int) > (16 : Int)) then some false else bif decide (a0.4 > IntKind.i64.wrap ((32 : Int) - (↑a0.5.length : Int))) then some false else bif a0.6 == (0 : Int) then some false else (F87 k (a0.6, ())).bind fun r => bif !r then some false else some (decide (a0.2 < (64 : Int))) else bif a0.1 == (1 : Int) then some (decide (a0.2 < (64 : Int))) else bif a0.1 == (3 : Int) then bif decide (a0.2 < (8 : Int)) then (F88 k (List.take ((↑(8 : Nat) : Int) - (0 : Int)).toNat (List.drop (Int.toNat (0 : Int)) a0.7), (), ())).bind fun r => some !r else some false else some false
noncomputable def sp84 : FSpec Ty := spec ag84 rs84 F84
theorem bo84 : Tryz.f84.body = some (bodyOf Tryz.f84) := by kernel_rfl
theorem nd84 : nodupB ((loopsIn (bodyOf Tryz.f84)).map firstRegion) = true := by kernel_rfl
theorem ok84 : FOK Tryz.prog tab 84 sp84 := spec_ok (keeps := kp84) tabOK fs88OK Tryz.func84 bo84 (by kernel_rfl) nd84 (LSOK.none) (F := F84) fun k x => by kernel_rfl
noncomputable def fs84 : Nat → Option (FSpec Ty) := addF 84 sp84 fs88
theorem fs84OK : SpecsOK Tryz.prog tab fs84 := fs88OK.add ok84 Tryz.call84
def ag76 : Args Ty (T88 × Unit) := V.arg (tab.den 89) (noArgs)
def rs76 : Res Ty tab (Bool) false := V.oneRes (tab.den 4) (ent 4).ids (ent 4).plain (fun x _ => (ent 4).flat x rfl)
def kp76 : Nat → Keep := fun i => ⟨[], [], 0⟩
/-- "silt/group.fits" -/
def F76 (k : Nat) (x : T88 × Unit) : Option (Bool) :=
  match x with
  | (a0, ()) => (F79 k (a0.1.1, ())).bind fun r => bif !r then (F83 k (T86.mk a0.2.1 a0.2.2 a0.2.3 a0.2.4 a0.2.5 a0.2.6 a0.2.7, ())).bind fun r => some r else bif a0.2.1 == a0.1.1 then bif a0.2.2 == a0.1.2 then (F84 k (T86.mk a0.2.1 a0.2.2 a0.2.3 a0.2.4 a0.2.5 a0.2.6 a0.2.7, ())).bind fun r => some r else some false else some false
noncomputable def sp76 : FSpec Ty := spec ag76 rs76 F76
theorem bo76 : Tryz.f76.body = some (bodyOf Tryz.f76) := by kernel_rfl
theorem nd76 : nodupB ((loopsIn (bodyOf Tryz.f76)).map firstRegion) = true := by kernel_rfl
theorem ok76 : FOK Tryz.prog tab 76 sp76 := spec_ok (keeps := kp76) tabOK fs84OK Tryz.func76 bo76 (by kernel_rfl) nd76 (LSOK.none) (F := F76) fun k x => by kernel_rfl
noncomputable def fs76 : Nat → Option (FSpec Ty) := addF 76 sp76 fs84
theorem fs76OK : SpecsOK Tryz.prog tab fs76 := fs84OK.add ok76 Tryz.call76
def ag85 : Args Ty (T80 × Unit) := V.arg (tab.den 81) (noArgs)
def rs85 : Res Ty tab (Bool) false := V.oneRes (tab.den 4) (ent 4).ids (ent 4).plain (fun x _ => (ent 4).flat x rfl)
def kp85 : Nat → Keep := fun i => ⟨[], [], 0⟩
/-- "silt/summary.good" -/
def F85 (k : Nat) (x : T80 × Unit) : Option (Bool) :=
  match x with
  | (a0, ()) => bif a0.1 == (3 : Int) then bif decide (a0.2 ≥ (0 : Int)) then some (decide (a0.2 < (8 : Int))) else some false else bif a0.1 == (1 : Int) then bif decide (a0.2 ≥ (0 : Int)) then some (decide (a0.2 < (64 : Int))) else some false else bif a0.1 == (2 : Int) then bif decide (a0.2 ≥ (0 : Int)) then some (decide (a0.2 < (64 : Int))) else some false else bif a0.1 == (4 : Int) then bif decide (a0.2 ≥ (0 : Int)) then some (decide (a0.2 < (64 : Int))) else some false else bif a0.1 == (5 : Int) then bif decide (a0.2 ≥ (0 : Int)) then some (decide (a0.2 < (64 : Int))) else some false else some false
noncomputable def sp85 : FSpec Ty := spec ag85 rs85 F85
theorem bo85 : Tryz.f85.body = some (bodyOf Tryz.f85) := by kernel_rfl
theorem nd85 : nodupB ((loopsIn (bodyOf Tryz.f85)).map firstRegion) = true := by kernel_rfl
theorem ok85 : FOK Tryz.prog tab 85 sp85 := spec_ok (keeps := kp85) tabOK fs76OK Tryz.func85 bo85 (by kernel_rfl) nd85 (LSOK.none) (F := F85) fun k x => by kernel_rfl
noncomputable def fs85 : Nat → Option (FSpec Ty) := addF 85 sp85 fs76
theorem fs85OK : SpecsOK Tryz.prog tab fs85 := fs76OK.add ok85 Tryz.call85
def ag77 : Args Ty (T176 × Unit) := V.arg (tab.den 177) (noArgs)
def rs77 : Res Ty tab ((List Int) × Int × Unit) false := V.manyRes (V.part (tab.den 72) (ent 72).ids (ent 72).plain (fun x _ => (ent 72).flat x rfl) (V.part (tab.den 35) (ent 35).ids (ent 35).plain (fun x _ => (ent 35).flat x rfl) (noParts)))
def of77_7 : List T80 × Int × Int × List Int × List Int → NSt Ty := fun x => ⟨[.ptr 100000 [], .ptr 100001 [], .slice 81 (x.1), .int .i64 (x.2.1), .int .i64 (x.2.2.1)], [.var (.arr 5 64 (x.2.2.2.1)), .var (.arr 5 64 (x.2.2.2.2))]⟩
def ab77_7 : (n : NSt Ty) → Option {x : List T80 × Int × Int × List Int × List Int // of77_7 x = n}
  | ⟨[.ptr 100000 [], .ptr 100001 [], .slice 81 v0, .int .i64 v1, .int .i64 v2], [.var (.arr 5 64 v3), .var (.arr 5 64 v4)]⟩ => some ⟨(v0, v1, v2, v3, v4), rfl⟩
  | _ => none
def on77_7a : Int × List Int × List Int → NSt Ty := fun x => ⟨[.ptr 100000 [], .int .i64 (x.1), .ptr 100001 []], [.var (.arr 5 64 (x.2.1)), .var (.arr 5 64 (x.2.2))]⟩
def on77_7b : List Int × List Int → NSt Ty := fun x => ⟨[.ptr 100000 [], .undef, .ptr 100001 []], [.var (.arr 5 64 (x.1)), .var (.arr 5 64 (x.2))]⟩
def oa77_7 : (e : Ex) → (n : NSt Ty) → Option {y : (Int × List Int × List Int) ⊕ (List Int × List Int) // oe2 .ret (.exit 0) y = e ∧ on2 on77_7a on77_7b y = n}
  | .ret, ⟨[.ptr 100000 [], .int .i64 v0, .ptr 100001 []], [.var (.arr 5 64 v1), .var (.arr 5 64 v2)]⟩ => some ⟨.inl (v0, v1, v2), rfl, rfl⟩
  | .exit 0, ⟨[.ptr 100000 [], .undef, .ptr 100001 []], [.var (.arr 5 64 v0), .var (.arr 5 64 v1)]⟩ => some ⟨.inr (v0, v1), rfl, rfl⟩
  | _, _ => none
/-- a round of the loop 7 of function 77 -/
def R77_7 (k : Nat) (again : List T80 × Int × Int × List Int × List Int → Option ((Int × List Int × List Int) ⊕ (List Int × List Int))) (x : List T80 × Int × Int × List Int × List Int) : Option ((Int × List Int × List Int) ⊕ (List Int × List Int)) :=
  match x with
  | (v0, v1, v2, v3, v4) => bif decide (v2 < v1) then bif inRange v2 v0.length then (F85 k (T80.mk (v0.getD v2.toNat (T80.mk (0 : Int) (0 : Int))).1 (v0.getD v2.toNat (T80.mk (0 : Int) (0 : Int))).2, ())).bind fun r => bif !r then some (Sum.inl ((11 : Int), List.replicate (64 : Nat) (0 : Int), v4)) else bif inRange (IntKind.i64.wrap ((7 : Int) + IntKind.i64.wrap ((2 : Int) * v2))) (64 : Nat) then bif inRange (IntKind.i64.wrap (IntKind.i64.wrap ((7 : Int) + IntKind.i64.wrap ((2 : Int) * v2)) + (1 : Int))) (64 : Nat) then again (v0, v1, IntKind.i64.wrap (v2 + (1 : Int)), v3, (v4.set (IntKind.i64.wrap ((7 : Int) + IntKind.i64.wrap ((2 : Int) * v2))).toNat (IntKind.u8.wrap (v0.getD v2.toNat (T80.mk (0 : Int) (0 : Int))).1)).set (IntKind.i64.wrap (IntKind.i64.wrap ((7 : Int) + IntKind.i64.wrap ((2 : Int) * v2)) + (1 : Int))).toNat (IntKind.u8.wrap (v0.getD v2.toNat (T80.mk (0 : Int) (0 : Int))).2)) else none else none else none else some (Sum.inr (v3, v4))
def L77_7 (k n : Nat) (x : List T80 × Int × Int × List Int × List Int) : Option ((Int × List Int × List Int) ⊕ (List Int × List Int)) := iterR (R77_7 k) n x
noncomputable def ls77_7 : Nat → Option (LSum Ty) := addL 7 (lsum2 of77_7 ab77_7 L77_7 .ret on77_7a (.exit 0) on77_7b) noL
def kp77 : Nat → Keep := fun i => cond (i == 7) ⟨[2, 4, 42, 43, 44], [2, 3, 4], 0⟩ (⟨[], [], 0⟩)
/-- "silt/summary.Encode" -/
def F77 (k : Nat) (x : T176 × Unit) : Option ((List Int) × Int × Unit) :=
  match x with
  | (a0, ()) => bif decide ((↑a0.3.length : Int) < (1 : Int)) then some (List.replicate (64 : Nat) (0 : Int), (11 : Int), ()) else bif decide ((↑a0.3.length : Int) > (24 : Int)) then some (List.replicate (64 : Nat) (0 : Int), (11 : Int), ()) else bif a0.2 then (L77_7 k k (a0.3, (↑a0.3.length : Int), (0 : Int), List.replicate (64 : Nat) (0 : Int), ((((((((List.replicate (64 : Nat) (0 : Int)).set (0 : Nat) (83 : Int)).set (1 : Nat) (0 : Int)).set (2 : Nat) (IntKind.u8.wrap a0.1)).set (3 : Nat) (IntKind.u8.wrap (a0.1.fdiv ((2 : Int) ^ min (Int.toNat (8 : Int)) IntKind.u32.bits)))).set (4 : Nat) (IntKind.u8.wrap (a0.1.fdiv ((2 : Int) ^ min (Int.toNat (16 : Int)) IntKind.u32.bits)))).set (5 : Nat) (IntKind.u8.wrap (a0.1.fdiv ((2 : Int) ^ min (Int.toNat (24 : Int)) IntKind.u32.bits)))).set (6 : Nat) (IntKind.u8.wrap (↑a0.3.length : Int))).set (Int.toNat (1 : Int)) (1 : Int))).bind fun r => sumK r (fun a => some (a.snd.fst, a.fst, ())) fun b => some (b.snd, (0 : Int), ()) else (L77_7 k k (a0.3, (↑a0.3.length : Int), (0 : Int), List.replicate (64 : Nat) (0 : Int), (((((((List.replicate (64 : Nat) (0 : Int)).set (0 : Nat) (83 : Int)).set (1 : Nat) (0 : Int)).set (2 : Nat) (IntKind.u8.wrap a0.1)).set (3 : Nat) (IntKind.u8.wrap (a0.1.fdiv ((2 : Int) ^ min (Int.toNat (8 : Int)) IntKind.u32.bits)))).set (4 : Nat) (IntKind.u8.wrap (a0.1.fdiv ((2 : Int) ^ min (Int.toNat (16 : Int)) IntKind.u32.bits)))).set (5 : Nat) (IntKind.u8.wrap (a0.1.fdiv ((2 : Int) ^ min (Int.toNat (24 : Int)) IntKind.u32.bits)))).set (6 : Nat) (IntKind.u8.wrap (↑a0.3.length : Int)))).bind fun r => sumK r (fun a => some (a.snd.fst, a.fst, ())) fun b => some (b.snd, (0 : Int), ())
noncomputable def sp77 : FSpec Ty := spec ag77 rs77 F77
theorem bo77 : Tryz.f77.body = some (bodyOf Tryz.f77) := by kernel_rfl
theorem nd77 : nodupB ((loopsIn (bodyOf Tryz.f77)).map firstRegion) = true := by kernel_rfl
theorem lo77_7 : LSOK fs85 kp77 tab Tryz.f77 ls77_7 := lsum2_ok bo77 nd77 (LSOK.none) oa77_7 (R := R77_7) fun k again x => by kernel_rfl
theorem ok77 : FOK Tryz.prog tab 77 sp77 := spec_ok (keeps := kp77) tabOK fs85OK Tryz.func77 bo77 (by kernel_rfl) nd77 (lo77_7) (F := F77) fun k x => by kernel_rfl
noncomputable def fs77 : Nat → Option (FSpec Ty) := addF 77 sp77 fs85
theorem fs77OK : SpecsOK Tryz.prog tab fs77 := fs85OK.add ok77 Tryz.call77
def ag63 : Args Ty ((List T88) × Unit) := V.arg (tab.den 51) (noArgs)
def rs63 : Res Ty tab (Bool) false := V.oneRes (tab.den 4) (ent 4).ids (ent 4).plain (fun x _ => (ent 4).flat x rfl)
def of63_5 : List T88 × Int × Int × List Int → NSt Ty := fun x => ⟨[.mapp 100000, .slice 89 (x.1), .int .i64 (x.2.1), .int .i64 (x.2.2.1)], [.map (x.2.2.2)]⟩
def ab63_5 : (n : NSt Ty) → Option {x : List T88 × Int × Int × List Int // of63_5 x = n}
  | ⟨[.mapp 100000, .slice 89 v0, .int .i64 v1, .int .i64 v2], [.map v3]⟩ => some ⟨(v0, v1, v2, v3), rfl⟩
  | _ => none
def on63_5a : Bool → NSt Ty := fun x => ⟨[.bool (x)], []⟩
def on63_5b : Unit → NSt Ty := fun x => ⟨[.undef], []⟩
def oa63_5 : (e : Ex) → (n : NSt Ty) → Option {y : (Bool) ⊕ (Unit) // oe2 .ret (.exit 0) y = e ∧ on2 on63_5a on63_5b y = n}
  | .ret, ⟨[.bool v0], []⟩ => some ⟨.inl v0, rfl, rfl⟩
  | .exit 0, ⟨[.undef], []⟩ => some ⟨.inr (), rfl, rfl⟩
  | _, _ => none
/-- a round of the loop 5 of function 63 -/
def R63_5 (k : Nat) (again : List T88 × Int × Int × List Int → Option ((Bool) ⊕ (Unit))) (x : List T88 × Int × Int × List Int) : Option ((Bool) ⊕ (Unit)) :=
  match x with
  | (v0, v1, v2, v3) => bif decide (v2 < v1) then bif inRange v2 v0.length then (F75 k (T80.mk (v0.getD v2.toNat (T88.mk (T80.mk (0 : Int) (0 : Int)) (T86.mk (0 : Int) (0 : Int) (List.replicate (32 : Nat) (0 : Int)) (0 : Int) [] (0 : Int) (List.replicate (8 : Nat) (0 : Int))))).1.1 (v0.getD v2.toNat (T88.mk (T80.mk (0 : Int) (0 : Int)) (T86.mk (0 : Int) (0 : Int) (List.replicate (32 : Nat) (0 : Int)) (0 : Int) [] (0 : Int) (List.replicate (8 : Nat) (0 : Int))))).1.2, ())).bind fun r => bif v3.contains r then some (Sum.inl false) else (F76 k (T88.mk (T80.mk (v0.getD v2.toNat (T88.mk (T80.mk (0 : Int) (0 : Int)) (T86.mk (0 : Int) (0 : Int) (List.replicate (32 : Nat) (0 : Int)) (0 : Int) [] (0 : Int) (List.replicate (8 : Nat) (0 : Int))))).1.1 (v0.getD v2.toNat (T88.mk (T80.mk (0 : Int) (0 : Int)) (T86.mk (0 : Int) (0 : Int) (List.replicate (32 : Nat) (0 : Int)) (0 : Int) [] (0 : Int) (List.replicate (8 : Nat) (0 : Int))))).1.2) (T86.mk (v0.getD v2.toNat (T88.mk (T80.mk (0 : Int) (0 : Int)) (T86.mk (0 : Int) (0 : Int) (List.replicate (32 : Nat) (0 : Int)) (0 : Int) [] (0 : Int) (List.replicate (8 : Nat) (0 : Int))))).2.1 (v0.getD v2.toNat (T88.mk (T80.mk (0 : Int) (0 : Int)) (T86.mk (0 : Int) (0 : Int) (List.replicate (32 : Nat) (0 : Int)) (0 : Int) [] (0 : Int) (List.replicate (8 : Nat) (0 : Int))))).2.2 (v0.getD v2.toNat (T88.mk (T80.mk (0 : Int) (0 : Int)) (T86.mk (0 : Int) (0 : Int) (List.replicate (32 : Nat) (0 : Int)) (0 : Int) [] (0 : Int) (List.replicate (8 : Nat) (0 : Int))))).2.3 (v0.getD v2.toNat (T88.mk (T80.mk (0 : Int) (0 : Int)) (T86.mk (0 : Int) (0 : Int) (List.replicate (32 : Nat) (0 : Int)) (0 : Int) [] (0 : Int) (List.replicate (8 : Nat) (0 : Int))))).2.4 (v0.getD v2.toNat (T88.mk (T80.mk (0 : Int) (0 : Int)) (T86.mk (0 : Int) (0 : Int) (List.replicate (32 : Nat) (0 : Int)) (0 : Int) [] (0 : Int) (List.replicate (8 : Nat) (0 : Int))))).2.5 (v0.getD v2.toNat (T88.mk (T80.mk (0 : Int) (0 : Int)) (T86.mk (0 : Int) (0 : Int) (List.replicate (32 : Nat) (0 : Int)) (0 : Int) [] (0 : Int) (List.replicate (8 : Nat) (0 : Int))))).2.6 (v0.getD v2.toNat (T88.mk (T80.mk (0 : Int) (0 : Int)) (T86.mk (0 : Int) (0 : Int) (List.replicate (32 : Nat) (0 : Int)) (0 : Int) [] (0 : Int) (List.replicate (8 : Nat) (0 : Int))))).2.7), ())).bind fun r => bif !r then some (Sum.inl false) else (F75 k (T80.mk (v0.getD v2.toNat (T88.mk (T80.mk (0 : Int) (0 : Int)) (T86.mk (0 : Int) (0 : Int) (List.replicate (32 : Nat) (0 : Int)) (0 : Int) [] (0 : Int) (List.replicate (8 : Nat) (0 : Int))))).1.1 (v0.getD v2.toNat (T88.mk (T80.mk (0 : Int) (0 : Int)) (T86.mk (0 : Int) (0 : Int) (List.replicate (32 : Nat) (0 : Int)) (0 : Int) [] (0 : Int) (List.replicate (8 : Nat) (0 : Int))))).1.2, ())).bind fun r => (F77 k (T176.mk (0 : Int) false ((List.replicate (1 : Nat) (T80.mk (0 : Int) (0 : Int))).set (0 : Nat) (T80.mk (v0.getD v2.toNat (T88.mk (T80.mk (0 : Int) (0 : Int)) (T86.mk (0 : Int) (0 : Int) (List.replicate (32 : Nat) (0 : Int)) (0 : Int) [] (0 : Int) (List.replicate (8 : Nat) (0 : Int))))).1.1 (v0.getD v2.toNat (T88.mk (T80.mk (0 : Int) (0 : Int)) (T86.mk (0 : Int) (0 : Int) (List.replicate (32 : Nat) (0 : Int)) (0 : Int) [] (0 : Int) (List.replicate (8 : Nat) (0 : Int))))).1.2)), ())).bind fun r_1 => bif r_1.snd.fst != (0 : Int) then some (Sum.inl false) else again (v0, v1, IntKind.i64.wrap (v2 + (1 : Int)), bif v3.contains r then v3 else v3 ++ [r]) else none else some (Sum.inr ())
def L63_5 (k n : Nat) (x : List T88 × Int × Int × List Int) : Option ((Bool) ⊕ (Unit)) := iterR (R63_5 k) n x
noncomputable def ls63_5 : Nat → Option (LSum Ty) := addL 5 (lsum2 of63_5 ab63_5 L63_5 .ret on63_5a (.exit 0) on63_5b) noL
def kp63 : Nat → Keep := fun i => cond (i == 5) ⟨[3, 19, 20, 21], [2], 0⟩ (⟨[], [], 0⟩)
/-- "silt/group.good" -/
def F63 (k : Nat) (x : (List T88) × Unit) : Option (Bool) :=
  match x with
  | (a0, ()) => bif decide ((↑a0.length : Int) < (1 : Int)) then some false else bif decide ((↑a0.length : Int) > (64 : Int)) then some false else (L63_5 k k (a0, (↑a0.length : Int), (0 : Int), [])).bind fun r => sumK r (fun a => some a) fun b => some true
noncomputable def sp63 : FSpec Ty := spec ag63 rs63 F63
theorem bo63 : Tryz.f63.body = some (bodyOf Tryz.f63) := by kernel_rfl
theorem nd63 : nodupB ((loopsIn (bodyOf Tryz.f63)).map firstRegion) = true := by kernel_rfl
theorem lo63_5 : LSOK fs77 kp63 tab Tryz.f63 ls63_5 := lsum2_ok bo63 nd63 (LSOK.none) oa63_5 (R := R63_5) fun k again x => by kernel_rfl
theorem ok63 : FOK Tryz.prog tab 63 sp63 := spec_ok (keeps := kp63) tabOK fs77OK Tryz.func63 bo63 (by kernel_rfl) nd63 (lo63_5) (F := F63) fun k x => by kernel_rfl
noncomputable def fs63 : Nat → Option (FSpec Ty) := addF 63 sp63 fs77
theorem fs63OK : SpecsOK Tryz.prog tab fs63 := fs77OK.add ok63 Tryz.call63
def ag78 : Args Ty ((List T88) × Unit) := V.arg (tab.den 51) (noArgs)
def rs78 : Res Ty tab ((List T80)) true := V.oneRes (tab.den 141) (ent 141).ids (ent 141).plain (fun _ h => by cases h)
def of78_3 : List T88 × Int × Int × List T80 → NSt Ty := fun x => ⟨[.row 100000, .slice 89 (x.1), .int .i64 (x.2.1), .int .i64 (x.2.2.1)], [.row 81 (x.2.2.2)]⟩
def ab78_3 : (n : NSt Ty) → Option {x : List T88 × Int × Int × List T80 // of78_3 x = n}
  | ⟨[.row 100000, .slice 89 v0, .int .i64 v1, .int .i64 v2], [.row 81 v3]⟩ => some ⟨(v0, v1, v2, v3), rfl⟩
  | _ => none
def oe78_3 : List T80 → Ex := fun _ => .exit 0
def on78_3 : List T80 → NSt Ty := fun x => ⟨[.row 100000], [.row 81 (x)]⟩
def oa78_3 : (e : Ex) → (n : NSt Ty) → Option {y : List T80 // oe78_3 y = e ∧ on78_3 y = n}
  | .exit 0, ⟨[.row 100000], [.row 81 v0]⟩ => some ⟨v0, rfl, rfl⟩
  | _, _ => none
/-- a round of the loop 3 of function 78 -/
def R78_3 (k : Nat) (again : List T88 × Int × Int × List T80 → Option (List T80)) (x : List T88 × Int × Int × List T80) : Option (List T80) :=
  match x with
  | (v0, v1, v2, v3) => bif decide (v2 < v1) then bif inRange v2 v0.length then bif decide (v3.length + ((List.replicate (1 : Nat) (T80.mk (0 : Int) (0 : Int))).set (0 : Nat) (T80.mk (v0.getD v2.toNat (T88.mk (T80.mk (0 : Int) (0 : Int)) (T86.mk (0 : Int) (0 : Int) (List.replicate (32 : Nat) (0 : Int)) (0 : Int) [] (0 : Int) (List.replicate (8 : Nat) (0 : Int))))).1.1 (v0.getD v2.toNat (T88.mk (T80.mk (0 : Int) (0 : Int)) (T86.mk (0 : Int) (0 : Int) (List.replicate (32 : Nat) (0 : Int)) (0 : Int) [] (0 : Int) (List.replicate (8 : Nat) (0 : Int))))).1.2)).length ≤ roomMost) then again (v0, v1, IntKind.i64.wrap (v2 + (1 : Int)), v3 ++ (List.replicate (1 : Nat) (T80.mk (0 : Int) (0 : Int))).set (0 : Nat) (T80.mk (v0.getD v2.toNat (T88.mk (T80.mk (0 : Int) (0 : Int)) (T86.mk (0 : Int) (0 : Int) (List.replicate (32 : Nat) (0 : Int)) (0 : Int) [] (0 : Int) (List.replicate (8 : Nat) (0 : Int))))).1.1 (v0.getD v2.toNat (T88.mk (T80.mk (0 : Int) (0 : Int)) (T86.mk (0 : Int) (0 : Int) (List.replicate (32 : Nat) (0 : Int)) (0 : Int) [] (0 : Int) (List.replicate (8 : Nat) (0 : Int))))).1.2)) else none else none else some v3
def L78_3 (k n : Nat) (x : List T88 × Int × Int × List T80) : Option (List T80) := iterR (R78_3 k) n x
noncomputable def ls78_3 : Nat → Option (LSum Ty) := addL 3 (LSum.of of78_3 ab78_3 L78_3 oe78_3 on78_3) noL
def kp78 : Nat → Keep := fun i => cond (i == 3) ⟨[3, 6, 7, 8], [3], 0⟩ (⟨[], [], 0⟩)
/-- "silt/group.marks" -/
def F78 (k : Nat) (x : (List T88) × Unit) : Option ((List T80)) :=
  match x with
  | (a0, ()) => (L78_3 k k (a0, (↑a0.length : Int), (0 : Int), [])).bind fun r => some r
noncomputable def sp78 : FSpec Ty := spec ag78 rs78 F78
theorem bo78 : Tryz.f78.body = some (bodyOf Tryz.f78) := by kernel_rfl
theorem nd78 : nodupB ((loopsIn (bodyOf Tryz.f78)).map firstRegion) = true := by kernel_rfl
theorem lo78_3 : LSOK fs63 kp78 tab Tryz.f78 ls78_3 := lsum_ok bo78 nd78 (LSOK.none) oa78_3 (R := R78_3) fun k again x => by kernel_rfl
theorem ok78 : FOK Tryz.prog tab 78 sp78 := spec_ok (keeps := kp78) tabOK fs63OK Tryz.func78 bo78 (by kernel_rfl) nd78 (lo78_3) (F := F78) fun k x => by kernel_rfl
noncomputable def fs78 : Nat → Option (FSpec Ty) := addF 78 sp78 fs63
theorem fs78OK : SpecsOK Tryz.prog tab fs78 := fs63OK.add ok78 Tryz.call78
def ag80 : Args Ty (T86 × Int × Unit) := V.arg (tab.den 87) (V.arg (tab.den 24) (noArgs))
def rs80 : Res Ty tab ((List Int) × Int × Unit) false := V.manyRes (V.part (tab.den 72) (ent 72).ids (ent 72).plain (fun x _ => (ent 72).flat x rfl) (V.part (tab.den 35) (ent 35).ids (ent 35).plain (fun x _ => (ent 35).flat x rfl) (noParts)))
def of80_13 : List Int × Int × List Int × List Int → NSt Ty := fun x => ⟨[.ptr 100000 [], .ptr 100001 [], .arr 3 8 (x.1), .int .i64 (x.2.1)], [.var (.arr 5 64 (x.2.2.1)), .var (.arr 5 64 (x.2.2.2))]⟩
def ab80_13 : (n : NSt Ty) → Option {x : List Int × Int × List Int × List Int // of80_13 x = n}
  | ⟨[.ptr 100000 [], .ptr 100001 [], .arr 3 8 v0, .int .i64 v1], [.var (.arr 5 64 v2), .var (.arr 5 64 v3)]⟩ => some ⟨(v0, v1, v2, v3), rfl⟩
  | _ => none
def oe80_13 : List Int × List Int → Ex := fun _ => .exit 1
def on80_13 : List Int × List Int → NSt Ty := fun x => ⟨[.ptr 100000 [], .ptr 100001 []], [.var (.arr 5 64 (x.1)), .var (.arr 5 64 (x.2))]⟩
def oa80_13 : (e : Ex) → (n : NSt Ty) → Option {y : List Int × List Int // oe80_13 y = e ∧ on80_13 y = n}
  | .exit 1, ⟨[.ptr 100000 [], .ptr 100001 []], [.var (.arr 5 64 v0), .var (.arr 5 64 v1)]⟩ => some ⟨(v0, v1), rfl, rfl⟩
  | _, _ => none
/-- a round of the loop 13 of function 80 -/
def R80_13 (k : Nat) (again : List Int × Int × List Int × List Int → Option (List Int × List Int)) (x : List Int × Int × List Int × List Int) : Option (List Int × List Int) :=
  match x with
  | (v0, v1, v2, v3) => bif decide (v1 < (8 : Int)) then bif inRange v1 (8 : Nat) then bif inRange (IntKind.i64.wrap ((6 : Int) + IntKind.i64.wrap ((2 : Int) * v1))) (64 : Nat) then bif inRange (IntKind.i64.wrap (IntKind.i64.wrap ((6 : Int) + IntKind.i64.wrap ((2 : Int) * v1)) + (1 : Int))) (64 : Nat) then again (v0, IntKind.i64.wrap (v1 + (1 : Int)), v2, (v3.set (IntKind.i64.wrap ((6 : Int) + IntKind.i64.wrap ((2 : Int) * v1))).toNat (IntKind.u8.wrap (v0.getD v1.toNat (0 : Int)))).set (IntKind.i64.wrap (IntKind.i64.wrap ((6 : Int) + IntKind.i64.wrap ((2 : Int) * v1)) + (1 : Int))).toNat (IntKind.u8.wrap (Int.fdiv (v0.getD v1.toNat (0 : Int)) ((2 : Int) ^ min (Int.toNat (8 : Int)) IntKind.i64.bits)))) else none else none else none else some (v2, v3)
def L80_13 (k n : Nat) (x : List Int × Int × List Int × List Int) : Option (List Int × List Int) := iterR (R80_13 k) n x
noncomputable def ls80_13 : Nat → Option (LSum Ty) := addL 13 (LSum.of of80_13 ab80_13 L80_13 oe80_13 on80_13) noL
def kp80 : Nat → Keep := fun i => cond (i == 13) ⟨[4, 6, 66, 67], [4, 6], 0⟩ (⟨[], [], 0⟩)
/-- "silt/block.Encode" -/
def F80 (k : Nat) (x : T86 × Int × Unit) : Option ((List Int) × Int × Unit) :=
  match x with
  | (a0, a1, ()) => (F84 k (T86.mk a0.1 a0.2 a0.3 a0.4 a0.5 a0.6 a0.7, ())).bind fun r => bif !r then some (List.replicate (64 : Nat) (0 : Int), (11 : Int), ()) else bif a0.1 == (1 : Int) then some (splice (((((((List.replicate (64 : Nat) (0 : Int)).set (0 : Nat) (IntKind.u8.wrap a0.1)).set (1 : Nat) (IntKind.u8.wrap a0.2)).set (2 : Nat) (IntKind.u8.wrap a1)).set (3 : Nat) (IntKind.u8.wrap (a1.fdiv ((2 : Int) ^ min (Int.toNat (8 : Int)) IntKind.u32.bits)))).set (4 : Nat) (IntKind.u8.wrap (a1.fdiv ((2 : Int) ^ min (Int.toNat (16 : Int)) IntKind.u32.bits)))).set (5 : Nat) (IntKind.u8.wrap (a1.fdiv ((2 : Int) ^ min (Int.toNat (24 : Int)) IntKind.u32.bits)))) (List.take ((↑(32 : Nat) : Int) - (0 : Int)).toNat (List.drop (Int.toNat (0 : Int)) a0.3)) (Int.toNat (6 : Int)) (min (List.take ((↑(32 : Nat) : Int) - (0 : Int)).toNat (List.drop (Int.toNat (0 : Int)) a0.3)).length ((↑(64 : Nat) : Int) - (6 : Int)).toNat), (0 : Int), ()) else bif a0.1 == (2 : Int) then some (((splice (((((((((List.replicate (64 : Nat) (0 : Int)).set (0 : Nat) (IntKind.u8.wrap a0.1)).set (1 : Nat) (IntKind.u8.wrap a0.2)).set (2 : Nat) (IntKind.u8.wrap a1)).set (3 : Nat) (IntKind.u8.wrap (a1.fdiv ((2 : Int) ^ min (Int.toNat (8 : Int)) IntKind.u32.bits)))).set (4 : Nat) (IntKind.u8.wrap (a1.fdiv ((2 : Int) ^ min (Int.toNat (16 : Int)) IntKind.u32.bits)))).set (5 : Nat) (IntKind.u8.wrap (a1.fdiv ((2 : Int) ^ min (Int.toNat (24 : Int)) IntKind.u32.bits)))).set (Int.toNat (6 : Int)) (IntKind.u8.wrap a0.4)).set (Int.toNat (7 : Int)) (IntKind.u8.wrap (↑a0.5.length : Int))) a0.5 (Int.toNat (8 : Int)) (min a0.5.length ((↑(64 : Nat) : Int) - (8 : Int)).toNat)).set (Int.toNat (24 : Int)) (IntKind.u8.wrap a0.6)).set (Int.toNat (25 : Int)) (IntKind.u8.wrap (a0.6.fdiv ((2 : Int) ^ min (Int.toNat (8 : Int)) IntKind.i64.bits))), (0 : Int), ()) else bif a0.1 == (3 : Int) then (L80_13 k k (a0.7, (0 : Int), List.replicate (64 : Nat) (0 : Int), ((((((List.replicate (64 : Nat) (0 : Int)).set (0 : Nat) (IntKind.u8.wrap a0.1)).set (1 : Nat) (IntKind.u8.wrap a0.2)).set (2 : Nat) (IntKind.u8.wrap a1)).set (3 : Nat) (IntKind.u8.wrap (a1.fdiv ((2 : Int) ^ min (Int.toNat (8 : Int)) IntKind.u32.bits)))).set (4 : Nat) (IntKind.u8.wrap (a1.fdiv ((2 : Int) ^ min (Int.toNat (16 : Int)) IntKind.u32.bits)))).set (5 : Nat) (IntKind.u8.wrap (a1.fdiv ((2 : Int) ^ min (Int.toNat (24 : Int)) IntKind.u32.bits))))).bind fun r => some (r.snd, (0 : Int), ()) else some (((((((List.replicate (64 : Nat) (0 : Int)).set (0 : Nat) (IntKind.u8.wrap a0.1)).set (1 : Nat) (IntKind.u8.wrap a0.2)).set (2 : Nat) (IntKind.u8.wrap a1)).set (3 : Nat) (IntKind.u8.wrap (a1.fdiv ((2 : Int) ^ min (Int.toNat (8 : Int)) IntKind.u32.bits)))).set (4 : Nat) (IntKind.u8.wrap (a1.fdiv ((2 : Int) ^ min (Int.toNat (16 : Int)) IntKind.u32.bits)))).set (5 : Nat) (IntKind.u8.wrap (a1.fdiv ((2 : Int) ^ min (Int.toNat (24 : Int)) IntKind.u32.bits))), (0 : Int), ())
noncomputable def sp80 : FSpec Ty := spec ag80 rs80 F80
theorem bo80 : Tryz.f80.body = some (bodyOf Tryz.f80) := by kernel_rfl
theorem nd80 : nodupB ((loopsIn (bodyOf Tryz.f80)).map firstRegion) = true := by kernel_rfl
theorem lo80_13 : LSOK fs78 kp80 tab Tryz.f80 ls80_13 := lsum_ok bo80 nd80 (LSOK.none) oa80_13 (R := R80_13) fun k again x => by kernel_rfl
theorem ok80 : FOK Tryz.prog tab 80 sp80 := spec_ok (keeps := kp80) tabOK fs78OK Tryz.func80 bo80 (by kernel_rfl) nd80 (lo80_13) (F := F80) fun k x => by kernel_rfl
noncomputable def fs80 : Nat → Option (FSpec Ty) := addF 80 sp80 fs78
theorem fs80OK : SpecsOK Tryz.prog tab fs80 := fs78OK.add ok80 Tryz.call80
def ag64 : Args Ty (Int × Bool × (List T88) × Unit) := V.arg (tab.den 24) (V.arg (tab.den 4) (V.arg (tab.den 51) (noArgs)))
def rs64 : Res Ty tab ((List (List Int)) × (List Int) × Int × Unit) true := V.manyRes (V.part (tab.den 65) (ent 65).ids (ent 65).plain (fun _ h => by cases h) (V.part (tab.den 25) (ent 25).ids (ent 25).plain (fun _ h => by cases h) (V.part (tab.den 35) (ent 35).ids (ent 35).plain (fun _ h => by cases h) (noParts))))
def of64_7 : Int × List T88 × Int × Int × List (List Int) × List Int → NSt Ty := fun x => ⟨[.int .u32 (x.1), .row 100000, .row 100001, .slice 89 (x.2.1), .int .i64 (x.2.2.1), .int .i64 (x.2.2.2.1)], [.row 72 (x.2.2.2.2.1), .row 3 (x.2.2.2.2.2)]⟩
def ab64_7 : (n : NSt Ty) → Option {x : Int × List T88 × Int × Int × List (List Int) × List Int // of64_7 x = n}
  | ⟨[.int .u32 v0, .row 100000, .row 100001, .slice 89 v1, .int .i64 v2, .int .i64 v3], [.row 72 v4, .row 3 v5]⟩ => some ⟨(v0, v1, v2, v3, v4, v5), rfl⟩
  | _ => none
def on64_7a : Int × List (List Int) × List Int × List (List Int) × List Int → NSt Ty := fun x => ⟨[.row 100000, .row 100001, .int .i64 (x.1), .row 100002, .row 100003], [.row 72 (x.2.1), .row 3 (x.2.2.1), .row 72 (x.2.2.2.1), .row 3 (x.2.2.2.2)]⟩
def on64_7b : List (List Int) × List Int → NSt Ty := fun x => ⟨[.undef, .undef, .undef, .row 100000, .row 100001], [.row 72 (x.1), .row 3 (x.2)]⟩
def oa64_7 : (e : Ex) → (n : NSt Ty) → Option {y : (Int × List (List Int) × List Int × List (List Int) × List Int) ⊕ (List (List Int) × List Int) // oe2 .ret (.exit 0) y = e ∧ on2 on64_7a on64_7b y = n}
  | .ret, ⟨[.row 100000, .row 100001, .int .i64 v0, .row 100002, .row 100003], [.row 72 v1, .row 3 v2, .row 72 v3, .row 3 v4]⟩ => some ⟨.inl (v0, v1, v2, v3, v4), rfl, rfl⟩
  | .exit 0, ⟨[.undef, .undef, .undef, .row 100000, .row 100001], [.row 72 v0, .row 3 v1]⟩ => some ⟨.inr (v0, v1), rfl, rfl⟩
  | _, _ => none
/-- a round of the loop 7 of function 64 -/
def R64_7 (k : Nat) (again : Int × List T88 × Int × Int × List (List Int) × List Int → Option ((Int × List (List Int) × List Int × List (List Int) × List Int) ⊕ (List (List Int) × List Int))) (x : Int × List T88 × Int × Int × List (List Int) × List Int) : Option ((Int × List (List Int) × List Int × List (List Int) × List Int) ⊕ (List (List Int) × List Int)) :=
  match x with
  | (v0, v1, v2, v3, v4, v5) => bif decide (v3 < v2) then bif inRange v3 v1.length then (F79 k ((v1.getD v3.toNat (T88.mk (T80.mk (0 : Int) (0 : Int)) (T86.mk (0 : Int) (0 : Int) (List.replicate (32 : Nat) (0 : Int)) (0 : Int) [] (0 : Int) (List.replicate (8 : Nat) (0 : Int))))).1.1, ())).bind fun r => bif !r then bif decide (v5.length + ((List.replicate (1 : Nat) (0 : Int)).set (0 : Nat) (-1 : Int)).length ≤ roomMost) then again (v0, v1, v2, IntKind.i64.wrap (v3 + (1 : Int)), v4, v5 ++ (List.replicate (1 : Nat) (0 : Int)).set (0 : Nat) (-1 : Int)) else none else (F80 k (T86.mk (v1.getD v3.toNat (T88.mk (T80.mk (0 : Int) (0 : Int)) (T86.mk (0 : Int) (0 : Int) (List.replicate (32 : Nat) (0 : Int)) (0 : Int) [] (0 : Int) (List.replicate (8 : Nat) (0 : Int))))).2.1 (v1.getD v3.toNat (T88.mk (T80.mk (0 : Int) (0 : Int)) (T86.mk (0 : Int) (0 : Int) (List.replicate (32 : Nat) (0 : Int)) (0 : Int) [] (0 : Int) (List.replicate (8 : Nat) (0 : Int))))).2.2 (v1.getD v3.toNat (T88.mk (T80.mk (0 : Int) (0 : Int)) (T86.mk (0 : Int) (0 : Int) (List.replicate (32 : Nat) (0 : Int)) (0 : Int) [] (0 : Int) (List.replicate (8 : Nat) (0 : Int))))).2.3 (v1.getD v3.toNat (T88.mk (T80.mk (0 : Int) (0 : Int)) (T86.mk (0 : Int) (0 : Int) (List.replicate (32 : Nat) (0 : Int)) (0 : Int) [] (0 : Int) (List.replicate (8 : Nat) (0 : Int))))).2.4 (v1.getD v3.toNat (T88.mk (T80.mk (0 : Int) (0 : Int)) (T86.mk (0 : Int) (0 : Int) (List.replicate (32 : Nat) (0 : Int)) (0 : Int) [] (0 : Int) (List.replicate (8 : Nat) (0 : Int))))).2.5 (v1.getD v3.toNat (T88.mk (T80.mk (0 : Int) (0 : Int)) (T86.mk (0 : Int) (0 : Int) (List.replicate (32 : Nat) (0 : Int)) (0 : Int) [] (0 : Int) (List.replicate (8 : Nat) (0 : Int))))).2.6 (v1.getD v3.toNat (T88.mk (T80.mk (0 : Int) (0 : Int)) (T86.mk (0 : Int) (0 : Int) (List.replicate (32 : Nat) (0 : Int)) (0 : Int) [] (0 : Int) (List.replicate (8 : Nat) (0 : Int))))).2.7, v0, ())).bind fun r => bif r.snd.fst != (0 : Int) then some (Sum.inl (r.snd.fst, [], [], v4, v5)) else bif decide (v5.length + ((List.replicate (1 : Nat) (0 : Int)).set (0 : Nat) (↑v4.length : Int)).length ≤ roomMost) then bif decide (v4.length + ((List.replicate (1 : Nat) (List.replicate (64 : Nat) (0 : Int))).set (0 : Nat) r.fst).length ≤ roomMost) then again (v0, v1, v2, IntKind.i64.wrap (v3 + (1 : Int)), v4 ++ (List.replicate (1 : Nat) (List.replicate (64 : Nat) (0 : Int))).set (0 : Nat) r.fst, v5 ++ (List.replicate (1 : Nat) (0 : Int)).set (0 : Nat) (↑v4.length : Int)) else none else none else none else some (Sum.inr (v4, v5))
def L64_7 (k n : Nat) (x : Int × List T88 × Int × Int × List (List Int) × List Int) : Option ((Int × List (List Int) × List Int × List (List Int) × List Int) ⊕ (List (List Int) × List Int)) := iterR (R64_7 k) n x
noncomputable def ls64_7 : Nat → Option (LSum Ty) := addL 7 (lsum2 of64_7 ab64_7 L64_7 .ret on64_7a (.exit 0) on64_7b) noL
def kp64 : Nat → Keep := fun i => cond (i == 7) ⟨[0, 11, 12, 31, 32, 33], [6, 7, 8, 11, 12], 0⟩ (⟨[], [], 0⟩)
/-- "silt/group.part" -/
def F64 (k : Nat) (x : Int × Bool × (List T88) × Unit) : Option ((List (List Int)) × (List Int) × Int × Unit) :=
  match x with
  | (a0, a1, a2, ()) => (F78 k (a2, ())).bind fun r => (F77 k (T176.mk a0 a1 r, ())).bind fun r => bif r.snd.fst != (0 : Int) then some ([], [], r.snd.fst, ()) else (L64_7 k k (a0, a2, (↑a2.length : Int), (0 : Int), (List.replicate (1 : Nat) (List.replicate (64 : Nat) (0 : Int))).set (0 : Nat) r.fst, [])).bind fun r => sumK r (fun a => some (a.snd.fst, a.snd.snd.fst, a.fst, ())) fun b => some (b.fst, b.snd, (0 : Int), ())
noncomputable def sp64 : FSpec Ty := spec ag64 rs64 F64
theorem bo64 : Tryz.f64.body = some (bodyOf Tryz.f64) := by kernel_rfl
theorem nd64 : nodupB ((loopsIn (bodyOf Tryz.f64)).map firstRegion) = true := by kernel_rfl
theorem lo64_7 : LSOK fs80 kp64 tab Tryz.f64 ls64_7 := lsum2_ok bo64 nd64 (LSOK.none) oa64_7 (R := R64_7) fun k again x => by kernel_rfl
theorem ok64 : FOK Tryz.prog tab 64 sp64 := spec_ok (keeps := kp64) tabOK fs80OK Tryz.func64 bo64 (by kernel_rfl) nd64 (lo64_7) (F := F64) fun k x => by kernel_rfl
noncomputable def fs64 : Nat → Option (FSpec Ty) := addF 64 sp64 fs80
theorem fs64OK : SpecsOK Tryz.prog tab fs64 := fs80OK.add ok64 Tryz.call64
def ag49 : Args Ty (Int × (List T88) × Unit) := V.arg (tab.den 24) (V.arg (tab.den 51) (noArgs))
def rs49 : Res Ty tab ((List (List Int)) × (List Int) × Int × Unit) true := V.manyRes (V.part (tab.den 65) (ent 65).ids (ent 65).plain (fun _ h => by cases h) (V.part (tab.den 25) (ent 25).ids (ent 25).plain (fun _ h => by cases h) (V.part (tab.den 35) (ent 35).ids (ent 35).plain (fun _ h => by cases h) (noParts))))
def of49_11 : Int × List T88 × Int × List (List Int) × List Int × Int × Int × List (List Int) × List Int → NSt Ty := fun x => ⟨[.int .u32 (x.1), .slice 89 (x.2.1), .row 100000, .row 100001, .int .i64 (x.2.2.1), .slice 72 (x.2.2.2.1), .slice 3 (x.2.2.2.2.1), .int .i64 (x.2.2.2.2.2.1), .int .i64 (x.2.2.2.2.2.2.1)], [.row 72 (x.2.2.2.2.2.2.2.1), .row 3 (x.2.2.2.2.2.2.2.2)]⟩
def ab49_11 : (n : NSt Ty) → Option {x : Int × List T88 × Int × List (List Int) × List Int × Int × Int × List (List Int) × List Int // of49_11 x = n}
  | ⟨[.int .u32 v0, .slice 89 v1, .row 100000, .row 100001, .int .i64 v2, .slice 72 v3, .slice 3 v4, .int .i64 v5, .int .i64 v6], [.row 72 v7, .row 3 v8]⟩ => some ⟨(v0, v1, v2, v3, v4, v5, v6, v7, v8), rfl⟩
  | _ => none
def oe49_11 : Int × List T88 × Int × List (List Int) × List (List Int) × List Int → Ex := fun _ => .exit 2
def on49_11 : Int × List T88 × Int × List (List Int) × List (List Int) × List Int → NSt Ty := fun x => ⟨[.int .u32 (x.1), .slice 89 (x.2.1), .row 100000, .row 100001, .int .i64 (x.2.2.1), .slice 72 (x.2.2.2.1)], [.row 72 (x.2.2.2.2.1), .row 3 (x.2.2.2.2.2)]⟩
def oa49_11 : (e : Ex) → (n : NSt Ty) → Option {y : Int × List T88 × Int × List (List Int) × List (List Int) × List Int // oe49_11 y = e ∧ on49_11 y = n}
  | .exit 2, ⟨[.int .u32 v0, .slice 89 v1, .row 100000, .row 100001, .int .i64 v2, .slice 72 v3], [.row 72 v4, .row 3 v5]⟩ => some ⟨(v0, v1, v2, v3, v4, v5), rfl, rfl⟩
  | _, _ => none
/-- a round of the loop 11 of function 49 -/
def R49_11 (k : Nat) (again : Int × List T88 × Int × List (List Int) × List Int × Int × Int × List (List Int) × List Int → Option (Int × List T88 × Int × List (List Int) × List (List Int) × List Int)) (x : Int × List T88 × Int × List (List Int) × List Int × Int × Int × List (List Int) × List Int) : Option (Int × List T88 × Int × List (List Int) × List (List Int) × List Int) :=
  match x with
  | (v0, v1, v2, v3, v4, v5, v6, v7, v8) => bif decide (v6 < v5) then bif inRange v6 v4.length then bif decide (v4.getD v6.toNat (0 : Int) ≥ (0 : Int)) then bif decide (v8.length + ((List.replicate (1 : Nat) (0 : Int)).set (0 : Nat) (IntKind.i64.wrap (v4.getD v6.toNat (0 : Int) + (↑v7.length : Int)))).length ≤ roomMost) then again (v0, v1, v2, v3, v4, v5, IntKind.i64.wrap (v6 + (1 : Int)), v7, v8 ++ (List.replicate (1 : Nat) (0 : Int)).set (0 : Nat) (IntKind.i64.wrap (v4.getD v6.toNat (0 : Int) + (↑v7.length : Int)))) else none else bif decide (v8.length + ((List.replicate (1 : Nat) (0 : Int)).set (0 : Nat) (v4.getD v6.toNat (0 : Int))).length ≤ roomMost) then again (v0, v1, v2, v3, v4, v5, IntKind.i64.wrap (v6 + (1 : Int)), v7, v8 ++ (List.replicate (1 : Nat) (0 : Int)).set (0 : Nat) (v4.getD v6.toNat (0 : Int))) else none else none else some (v0, v1, v2, v3, v7, v8)
def L49_11 (k n : Nat) (x : Int × List T88 × Int × List (List Int) × List Int × Int × Int × List (List Int) × List Int) : Option (Int × List T88 × Int × List (List Int) × List (List Int) × List Int) := iterR (R49_11 k) n x
noncomputable def ls49_11 : Nat → Option (LSum Ty) := addL 11 (LSum.of of49_11 ab49_11 L49_11 oe49_11 on49_11) noL
def of49_5 : Int × List T88 × List (List Int) × List Int → NSt Ty := fun x => ⟨[.int .u32 (x.1), .slice 89 (x.2.1), .row 100000, .row 100001], [.row 72 (x.2.2.1), .row 3 (x.2.2.2)]⟩
def ab49_5 : (n : NSt Ty) → Option {x : Int × List T88 × List (List Int) × List Int // of49_5 x = n}
  | ⟨[.int .u32 v0, .slice 89 v1, .row 100000, .row 100001], [.row 72 v2, .row 3 v3]⟩ => some ⟨(v0, v1, v2, v3), rfl⟩
  | _ => none
def on49_5a : Int × List (List Int) × List Int × List (List Int) × List Int → NSt Ty := fun x => ⟨[.row 100000, .row 100001, .int .i64 (x.1), .row 100002, .row 100003], [.row 72 (x.2.1), .row 3 (x.2.2.1), .row 72 (x.2.2.2.1), .row 3 (x.2.2.2.2)]⟩
def on49_5b : List (List Int) × List Int → NSt Ty := fun x => ⟨[.undef, .undef, .undef, .row 100000, .row 100001], [.row 72 (x.1), .row 3 (x.2)]⟩
def oa49_5 : (e : Ex) → (n : NSt Ty) → Option {y : (Int × List (List Int) × List Int × List (List Int) × List Int) ⊕ (List (List Int) × List Int) // oe2 .ret (.exit 0) y = e ∧ on2 on49_5a on49_5b y = n}
  | .ret, ⟨[.row 100000, .row 100001, .int .i64 v0, .row 100002, .row 100003], [.row 72 v1, .row 3 v2, .row 72 v3, .row 3 v4]⟩ => some ⟨.inl (v0, v1, v2, v3, v4), rfl, rfl⟩
  | .exit 0, ⟨[.undef, .undef, .undef, .row 100000, .row 100001], [.row 72 v0, .row 3 v1]⟩ => some ⟨.inr (v0, v1), rfl, rfl⟩
  | _, _ => none
/-- a round of the loop 5 of function 49 -/
def R49_5 (k : Nat) (again : Int × List T88 × List (List Int) × List Int → Option ((Int × List (List Int) × List Int × List (List Int) × List Int) ⊕ (List (List Int) × List Int))) (x : Int × List T88 × List (List Int) × List Int) : Option ((Int × List (List Int) × List Int × List (List Int) × List Int) ⊕ (List (List Int) × List Int)) :=
  match x with
  | (v0, v1, v2, v3) => bif decide ((↑v1.length : Int) > (0 : Int)) then bif decide ((0 : Int) ≤ (0 : Int)) && decide ((0 : Int) ≤ if (24 : Int) < (↑v1.length : Int) then (24 : Int) else (↑v1.length : Int)) && decide ((if (24 : Int) < (↑v1.length : Int) then (24 : Int) else (↑v1.length : Int)) ≤ (↑v1.length : Int)) then (F64 k (v0, decide ((if (24 : Int) < (↑v1.length : Int) then (24 : Int) else (↑v1.length : Int)) < (↑v1.length : Int)), List.drop (Int.toNat (0 : Int)) (List.take (if (24 : Int) < (↑v1.length : Int) then (24 : Int) else (↑v1.length : Int)).toNat v1), ())).bind fun r => bif r.snd.snd.fst != (0 : Int) then some (Sum.inl ((1 : Int), [], [], v2, v3)) else (L49_11 k k (v0, v1, if (24 : Int) < (↑v1.length : Int) then (24 : Int) else (↑v1.length : Int), r.fst, r.snd.fst, (↑r.snd.fst.length : Int), (0 : Int), v2, v3)).bind fun r => bif decide (r.snd.snd.snd.snd.fst.length + r.snd.snd.snd.fst.length ≤ roomMost) then bif decide ((0 : Int) ≤ r.snd.snd.fst) && decide (r.snd.snd.fst ≤ (↑r.snd.fst.length : Int)) && decide ((↑r.snd.fst.length : Int) ≤ (↑r.snd.fst.length : Int)) then again (IntKind.u32.wrap (r.fst + (1 : Int)), List.drop r.snd.snd.fst.toNat (List.take (↑r.snd.fst.length : Int).toNat r.snd.fst), r.snd.snd.snd.snd.fst ++ r.snd.snd.snd.fst, r.snd.snd.snd.snd.snd) else none else none else none else some (Sum.inr (v2, v3))
def L49_5 (k n : Nat) (x : Int × List T88 × List (List Int) × List Int) : Option ((Int × List (List Int) × List Int × List (List Int) × List Int) ⊕ (List (List Int) × List Int)) := iterR (R49_5 k) n x
noncomputable def ls49_5 : Nat → Option (LSum Ty) := addL 5 (lsum2 of49_5 ab49_5 L49_5 .ret on49_5a (.exit 0) on49_5b) ls49_11
def kp49 : Nat → Keep := fun i => cond (i == 5) ⟨[0, 1, 7, 8], [4, 5, 6, 7, 8], 0⟩ (cond (i == 11) ⟨[0, 1, 7, 8, 9, 10, 39, 40, 41], [0, 1, 7, 8, 9, 10], 0⟩ (⟨[], [], 0⟩))
/-- "silt/group.Lay" -/
def F49 (k : Nat) (x : Int × (List T88) × Unit) : Option ((List (List Int)) × (List Int) × Int × Unit) :=
  match x with
  | (a0, a1, ()) => (F63 k (a1, ())).bind fun r => bif !r then some ([], [], (1 : Int), ()) else (L49_5 k k (a0, a1, [], [])).bind fun r => sumK r (fun a => some (a.snd.fst, a.snd.snd.fst, a.fst, ())) fun b => some (b.fst, b.snd, (0 : Int), ())
noncomputable def sp49 : FSpec Ty := spec ag49 rs49 F49
theorem bo49 : Tryz.f49.body = some (bodyOf Tryz.f49) := by kernel_rfl
theorem nd49 : nodupB ((loopsIn (bodyOf Tryz.f49)).map firstRegion) = true := by kernel_rfl
theorem lo49_11 : LSOK fs64 kp49 tab Tryz.f49 ls49_11 := lsum_ok bo49 nd49 (LSOK.none) oa49_11 (R := R49_11) fun k again x => by kernel_rfl
theorem lo49_5 : LSOK fs64 kp49 tab Tryz.f49 ls49_5 := lsum2_ok bo49 nd49 (lo49_11) oa49_5 (R := R49_5) fun k again x => by kernel_rfl
theorem ok49 : FOK Tryz.prog tab 49 sp49 := spec_ok (keeps := kp49) tabOK fs64OK Tryz.func49 bo49 (by kernel_rfl) nd49 (lo49_5) (F := F49) fun k x => by kernel_rfl
noncomputable def fs49 : Nat → Option (FSpec Ty) := addF 49 sp49 fs64
theorem fs49OK : SpecsOK Tryz.prog tab fs49 := fs64OK.add ok49 Tryz.call49
def ag50 : Args Ty (Int × ByteArray × Unit) := V.arg (tab.den 35) (V.arg (tab.den 9) (noArgs))
def rs50 : Res Ty tab (GErr) true := V.oneRes (tab.den 101) (ent 101).ids (ent 101).plain (fun _ h => by cases h)
def kp50 : Nat → Keep := fun i => ⟨[], [], 0⟩
/-- "silt/fault.New" -/
def F50 (k : Nat) (x : Int × ByteArray × Unit) : Option (GErr) :=
  match x with
  | (a0, a1, ()) => bif a0 == (0 : Int) then some GErr.nil else some (GErr.flt a1 (GErr.num a0) false)
noncomputable def sp50 : FSpec Ty := spec ag50 rs50 F50
theorem bo50 : Tryz.f50.body = some (bodyOf Tryz.f50) := by kernel_rfl
theorem nd50 : nodupB ((loopsIn (bodyOf Tryz.f50)).map firstRegion) = true := by kernel_rfl
theorem ok50 : FOK Tryz.prog tab 50 sp50 := spec_ok (keeps := kp50) tabOK fs49OK Tryz.func50 bo50 (by kernel_rfl) nd50 (LSOK.none) (F := F50) fun k x => by kernel_rfl
noncomputable def fs50 : Nat → Option (FSpec Ty) := addF 50 sp50 fs49
theorem fs50OK : SpecsOK Tryz.prog tab fs50 := fs49OK.add ok50 Tryz.call50
def ag65 : Args Ty (GErr × ByteArray × Unit) := V.arg (tab.den 101) (V.arg (tab.den 9) (noArgs))
def rs65 : Res Ty tab (GErr) true := V.oneRes (tab.den 101) (ent 101).ids (ent 101).plain (fun _ h => by cases h)
def kp65 : Nat → Keep := fun i => ⟨[], [], 0⟩
/-- "silt/fault.Wrap" -/
def F65 (k : Nat) (x : GErr × ByteArray × Unit) : Option (GErr) :=
  match x with
  | (a0, a1, ()) => bif a0.isNil then some GErr.nil else some (GErr.flt a1 a0 true)
noncomputable def sp65 : FSpec Ty := spec ag65 rs65 F65
theorem bo65 : Tryz.f65.body = some (bodyOf Tryz.f65) := by kernel_rfl
theorem nd65 : nodupB ((loopsIn (bodyOf Tryz.f65)).map firstRegion) = true := by kernel_rfl
theorem ok65 : FOK Tryz.prog tab 65 sp65 := spec_ok (keeps := kp65) tabOK fs50OK Tryz.func65 bo65 (by kernel_rfl) nd65 (LSOK.none) (F := F65) fun k x => by kernel_rfl
noncomputable def fs65 : Nat → Option (FSpec Ty) := addF 65 sp65 fs50
theorem fs65OK : SpecsOK Tryz.prog tab fs65 := fs50OK.add ok65 Tryz.call65
theorem bo51 : Tryz.f51.body = some (bodyOf Tryz.f51) := by kernel_rfl
theorem nd51 : nodupB ((loopsIn (bodyOf Tryz.f51)).map firstRegion) = true := by kernel_rfl
def of51 : Int × Int × Int × Int × Int × Int × Int × Int × List Int × Int × Int × List (List Int) × List T117 → NSt Ty := fun x => ⟨[.ptr 100000 [], .int .i64 (x.1)], [.var (.cons (.ptr 100001 []) (.cons (.cons (.int .i64 (x.2.1)) (.cons (.int .i64 (x.2.2.1)) (.cons (.int .i64 (x.2.2.2.1)) (.cons (.int .i64 (x.2.2.2.2.1)) (.nil))))) (.cons (.cons (.int .i64 (x.2.2.2.2.2.1)) (.cons (.int .i64 (x.2.2.2.2.2.2.1)) (.cons (.int .u32 (x.2.2.2.2.2.2.2.1)) (.cons (.slice 3 (x.2.2.2.2.2.2.2.2.1)) (.nil))))) (.nil)))), .var (.cons (.row 100002) (.cons (.row 100003) (.cons (.int .i64 (x.2.2.2.2.2.2.2.2.2.1)) (.cons (.int .i64 (x.2.2.2.2.2.2.2.2.2.2.1)) (.nil))))), .row 72 (x.2.2.2.2.2.2.2.2.2.2.2.1), .row 118 (x.2.2.2.2.2.2.2.2.2.2.2.2)]⟩
def ab51 : (n : NSt Ty) → Option {x : Int × Int × Int × Int × Int × Int × Int × Int × List Int × Int × Int × List (List Int) × List T117 // of51 x = n}
  | ⟨[.ptr 100000 [], .int .i64 v0], [.var (.cons (.ptr 100001 []) (.cons (.cons (.int .i64 v1) (.cons (.int .i64 v2) (.cons (.int .i64 v3) (.cons (.int .i64 v4) (.nil))))) (.cons (.cons (.int .i64 v5) (.cons (.int .i64 v6) (.cons (.int .u32 v7) (.cons (.slice 3 v8) (.nil))))) (.nil)))), .var (.cons (.row 100002) (.cons (.row 100003) (.cons (.int .i64 v9) (.cons (.int .i64 v10) (.nil))))), .row 72 v11, .row 118 v12]⟩ => some ⟨(v0, v1, v2, v3, v4, v5, v6, v7, v8, v9, v10, v11, v12), rfl⟩
  | _ => none
def kp51 : Nat → Keep := pinned 2 fun i => ⟨[], [], 0⟩
def on51a : Int × Int × Int × List Int × GErr × Int × Int × Int × Int × Int × Int × Int × List Int × Int × Int × List (List Int) × List T117 → NSt Ty := fun x => ⟨[.tup (.cons (.cons (.int .i64 (x.1)) (.cons (.int .i64 (x.2.1)) (.cons (.int .u32 (x.2.2.1)) (.cons (.slice 3 (x.2.2.2.1)) (.nil))))) (.cons (.err (x.2.2.2.2.1)) (.nil)))], [.var (.cons (.ptr 100001 []) (.cons (.cons (.int .i64 (x.2.2.2.2.2.1)) (.cons (.int .i64 (x.2.2.2.2.2.2.1)) (.cons (.int .i64 (x.2.2.2.2.2.2.2.1)) (.cons (.int .i64 (x.2.2.2.2.2.2.2.2.1)) (.nil))))) (.cons (.cons (.int .i64 (x.2.2.2.2.2.2.2.2.2.1)) (.cons (.int .i64 (x.2.2.2.2.2.2.2.2.2.2.1)) (.cons (.int .u32 (x.2.2.2.2.2.2.2.2.2.2.2.1)) (.cons (.slice 3 (x.2.2.2.2.2.2.2.2.2.2.2.2.1)) (.nil))))) (.nil)))), .var (.cons (.row 100002) (.cons (.row 100003) (.cons (.int .i64 (x.2.2.2.2.2.2.2.2.2.2.2.2.2.1)) (.cons (.int .i64 (x.2.2.2.2.2.2.2.2.2.2.2.2.2.2.1)) (.nil))))), .row 72 (x.2.2.2.2.2.2.2.2.2.2.2.2.2.2.2.1), .row 118 (x.2.2.2.2.2.2.2.2.2.2.2.2.2.2.2.2)]⟩
def on51b : Int × Int × Int × GErr × Int × Int × Int × Int × Int × Int × Int × List Int × Int × Int × List Int × List (List Int) × List T117 → NSt Ty := fun x => ⟨[.tup (.cons (.cons (.int .i64 (x.1)) (.cons (.int .i64 (x.2.1)) (.cons (.int .u32 (x.2.2.1)) (.cons (.row 100002) (.nil))))) (.cons (.err (x.2.2.2.1)) (.nil)))], [.var (.cons (.ptr 100001 []) (.cons (.cons (.int .i64 (x.2.2.2.2.1)) (.cons (.int .i64 (x.2.2.2.2.2.1)) (.cons (.int .i64 (x.2.2.2.2.2.2.1)) (.cons (.int .i64 (x.2.2.2.2.2.2.2.1)) (.nil))))) (.cons (.cons (.int .i64 (x.2.2.2.2.2.2.2.2.1)) (.cons (.int .i64 (x.2.2.2.2.2.2.2.2.2.1)) (.cons (.int .u32 (x.2.2.2.2.2.2.2.2.2.2.1)) (.cons (.slice 3 (x.2.2.2.2.2.2.2.2.2.2.2.1)) (.nil))))) (.nil)))), .var (.cons (.row 100003) (.cons (.row 100004) (.cons (.int .i64 (x.2.2.2.2.2.2.2.2.2.2.2.2.1)) (.cons (.int .i64 (x.2.2.2.2.2.2.2.2.2.2.2.2.2.1)) (.nil))))), .row 3 (x.2.2.2.2.2.2.2.2.2.2.2.2.2.2.1), .row 72 (x.2.2.2.2.2.2.2.2.2.2.2.2.2.2.2.1), .row 118 (x.2.2.2.2.2.2.2.2.2.2.2.2.2.2.2.2)]⟩
def oa51 : (n : NSt Ty) → Option {y : (Int × Int × Int × List Int × GErr × Int × Int × Int × Int × Int × Int × Int × List Int × Int × Int × List (List Int) × List T117) ⊕ (Int × Int × Int × GErr × Int × Int × Int × Int × Int × Int × Int × List Int × Int × Int × List Int × List (List Int) × List T117) // on2 on51a on51b y = n}
  | ⟨[.tup (.cons (.cons (.int .i64 v0) (.cons (.int .i64 v1) (.cons (.int .u32 v2) (.cons (.slice 3 v3) (.nil))))) (.cons (.err v4) (.nil)))], [.var (.cons (.ptr 100001 []) (.cons (.cons (.int .i64 v5) (.cons (.int .i64 v6) (.cons (.int .i64 v7) (.cons (.int .i64 v8) (.nil))))) (.cons (.cons (.int .i64 v9) (.cons (.int .i64 v10) (.cons (.int .u32 v11) (.cons (.slice 3 v12) (.nil))))) (.nil)))), .var (.cons (.row 100002) (.cons (.row 100003) (.cons (.int .i64 v13) (.cons (.int .i64 v14) (.nil))))), .row 72 v15, .row 118 v16]⟩ => some ⟨.inl (v0, v1, v2, v3, v4, v5, v6, v7, v8, v9, v10, v11, v12, v13, v14, v15, v16), rfl⟩
  | ⟨[.tup (.cons (.cons (.int .i64 v0) (.cons (.int .i64 v1) (.cons (.int .u32 v2) (.cons (.row 100002) (.nil))))) (.cons (.err v3) (.nil)))], [.var (.cons (.ptr 100001 []) (.cons (.cons (.int .i64 v4) (.cons (.int .i64 v5) (.cons (.int .i64 v6) (.cons (.int .i64 v7) (.nil))))) (.cons (.cons (.int .i64 v8) (.cons (.int .i64 v9) (.cons (.int .u32 v10) (.cons (.slice 3 v11) (.nil))))) (.nil)))), .var (.cons (.row 100003) (.cons (.row 100004) (.cons (.int .i64 v12) (.cons (.int .i64 v13) (.nil))))), .row 3 v14, .row 72 v15, .row 118 v16]⟩ => some ⟨.inr (v0, v1, v2, v3, v4, v5, v6, v7, v8, v9, v10, v11, v12, v13, v14, v15, v16), rfl⟩
  | _ => none
/-- "(*silt/journal.Journal).room"  -/
def F51 (k : Nat) (x : Int × Int × Int × Int × Int × Int × Int × Int × List Int × Int × Int × List (List Int) × List T117) : Option ((Int × Int × Int × List Int × GErr × Int × Int × Int × Int × Int × Int × Int × List Int × Int × Int × List (List Int) × List T117) ⊕ (Int × Int × Int × GErr × Int × Int × Int × Int × Int × Int × Int × List Int × Int × Int × List Int × List (List Int) × List T117)) :=
  match x with
  | (v0, v1, v2, v3, v4, v5, v6, v7, v8, v9, v10, v11, v12) => (F32 k (T26.mk v5 v6 v7 v8, ())).bind fun r => bif decide (v0 ≤ IntKind.i64.wrap (v3 - r.2)) then some (Sum.inl (r.1, r.2, r.3, r.4, GErr.nil, v1, v2, v3, v4, v5, v6, v7, v8, v9, v10, v11, v12)) else bif (↑r.4.length : Int) == (0 : Int) then (F50 k ((14 : Int), ByteArray.mk (Array.mk [(115 : UInt8), (101 : UInt8), (103 : UInt8), (109 : UInt8), (101 : UInt8), (110 : UInt8), (116 : UInt8), (115 : UInt8)]), ())).bind fun r => (F65 k (r, ByteArray.mk (Array.mk [(114 : UInt8), (111 : UInt8), (111 : UInt8), (109 : UInt8)]), ())).bind fun r => some (Sum.inr ((0 : Int), (0 : Int), (0 : Int), r, v1, v2, v3, v4, v5, v6, v7, v8, v9, v10, [], v11, v12)) else bif inRange (0 : Int) r.4.length then bif decide ((0 : Int) ≤ (1 : Int)) && decide ((1 : Int) ≤ (↑r.4.length : Int)) && decide ((↑r.4.length : Int) ≤ (↑r.4.length : Int)) then some (Sum.inl (r.4.getD (Int.toNat (0 : Int)) (0 : Int), (0 : Int), r.3, List.drop (Int.toNat (1 : Int)) (List.take (↑r.4.length : Int).toNat r.4), GErr.nil, v1, v2, v3, v4, v5, v6, v7, v8, v9, v10, v11, v12)) else none else none
noncomputable def sp51 : FSpec Ty := addH2 2 ab51 F51 on51a on51b noH
theorem ok51 : FOK Tryz.prog tab 51 sp51 := addH2_ok (keeps := kp51) tabOK fs65OK Tryz.func51 bo51 (by kernel_rfl) nd51 (LSOK.none) oa51 (F := F51) (fun k x => by kernel_rfl) (pinned_le (Nat.le_refl _) _) FOK.none rfl
noncomputable def fs51 : Nat → Option (FSpec Ty) := addF 51 sp51 fs65
theorem fs51OK : SpecsOK Tryz.prog tab fs51 := fs65OK.add ok51 Tryz.call51
def ag52 : Args Ty (T22 × Int × Unit) := V.arg (tab.den 23) (V.arg (tab.den 3) (noArgs))
def rs52 : Res Ty tab (Int) false := V.oneRes (tab.den 3) (ent 3).ids (ent 3).plain (fun x _ => (ent 3).flat x rfl)
def kp52 : Nat → Keep := fun i => ⟨[], [], 0⟩
/-- "silt/plan.Seg" -/
def F52 (k : Nat) (x : T22 × Int × Unit) : Option (Int) :=
  match x with
  | (a0, a1, ()) => (F34 k (T22.mk a0.1 a0.2 a0.3 a0.4, ())).bind fun r => bif !r then some (0 : Int) else bif decide (a1 < (0 : Int)) then some (0 : Int) else bif decide (a1 ≥ a0.2) then some (0 : Int) else some (IntKind.i64.wrap ((4 : Int) + IntKind.i64.wrap (a1 * a0.3)))
noncomputable def sp52 : FSpec Ty := spec ag52 rs52 F52
theorem bo52 : Tryz.f52.body = some (bodyOf Tryz.f52) := by kernel_rfl
theorem nd52 : nodupB ((loopsIn (bodyOf Tryz.f52)).map firstRegion) = true := by kernel_rfl
theorem ok52 : FOK Tryz.prog tab 52 sp52 := spec_ok (keeps := kp52) tabOK fs51OK Tryz.func52 bo52 (by kernel_rfl) nd52 (LSOK.none) (F := F52) fun k x => by kernel_rfl
noncomputable def fs52 : Nat → Option (FSpec Ty) := addF 52 sp52 fs51
theorem fs52OK : SpecsOK Tryz.prog tab fs52 := fs51OK.add ok52 Tryz.call52
theorem bo45 : Tryz.f45.body = some (bodyOf Tryz.f45) := by kernel_rfl
theorem nd45 : nodupB ((loopsIn (bodyOf Tryz.f45)).map firstRegion) = true := by kernel_rfl
def of45hn : Int → NSt Ty := fun x => ⟨[.nilp, .int .i64 (x)], []⟩
def ab45hn : (n : NSt Ty) → Option {x : Int // of45hn x = n}
  | ⟨[.nilp, .int .i64 v0], []⟩ => some ⟨v0, rfl⟩
  | _ => none
def kp45hn : Nat → Keep := pinned 0 fun i => ⟨[], [], 0⟩
def on45hn : Bool → NSt Ty := fun x => ⟨[.bool (x)], []⟩
def oa45hn : (n : NSt Ty) → Option {y : Bool // on45hn y = n}
  | ⟨[.bool v0], []⟩ => some ⟨v0, rfl⟩
  | _ => none
/-- "(*silt/dev.Dev).has" hn -/
def F45hn (k : Nat) (x : Int) : Option (Bool) :=
  match x with
  | v0 => bif decide (v0 ≥ (0 : Int)) then (F30hn k ()).bind fun r => some (decide (v0 < r)) else some false
noncomputable def sp45hn : FSpec Ty := addH 0 ab45hn F45hn on45hn noH
theorem ok45hn : FOK Tryz.prog tab 45 sp45hn := addH_ok (keeps := kp45hn) tabOK fs52OK Tryz.func45 bo45 (by kernel_rfl) nd45 (LSOK.none) oa45hn (F := F45hn) (fun k x => by kernel_rfl) (pinned_le (Nat.le_refl _) _) FOK.none rfl
def of45 : Int × Int × Int × List (List Int) × List T117 → NSt Ty := fun x => ⟨[.ptr 100000 [], .int .i64 (x.1)], [.var (.cons (.row 100001) (.cons (.row 100002) (.cons (.int .i64 (x.2.1)) (.cons (.int .i64 (x.2.2.1)) (.nil))))), .row 72 (x.2.2.2.1), .row 118 (x.2.2.2.2)]⟩
def ab45 : (n : NSt Ty) → Option {x : Int × Int × Int × List (List Int) × List T117 // of45 x = n}
  | ⟨[.ptr 100000 [], .int .i64 v0], [.var (.cons (.row 100001) (.cons (.row 100002) (.cons (.int .i64 v1) (.cons (.int .i64 v2) (.nil))))), .row 72 v3, .row 118 v4]⟩ => some ⟨(v0, v1, v2, v3, v4), rfl⟩
  | _ => none
def kp45 : Nat → Keep := pinned 1 fun i => ⟨[], [], 0⟩
def on45 : Bool × Int × Int × List (List Int) × List T117 → NSt Ty := fun x => ⟨[.bool (x.1)], [.var (.cons (.row 100001) (.cons (.row 100002) (.cons (.int .i64 (x.2.1)) (.cons (.int .i64 (x.2.2.1)) (.nil))))), .row 72 (x.2.2.2.1), .row 118 (x.2.2.2.2)]⟩
def oa45 : (n : NSt Ty) → Option {y : Bool × Int × Int × List (List Int) × List T117 // on45 y = n}
  | ⟨[.bool v0], [.var (.cons (.row 100001) (.cons (.row 100002) (.cons (.int .i64 v1) (.cons (.int .i64 v2) (.nil))))), .row 72 v3, .row 118 v4]⟩ => some ⟨(v0, v1, v2, v3, v4), rfl⟩
  | _ => none
/-- "(*silt/dev.Dev).has"  -/
def F45 (k : Nat) (x : Int × Int × Int × List (List Int) × List T117) : Option (Bool × Int × Int × List (List Int) × List T117) :=
  match x with
  | (v0, v1, v2, v3, v4) => bif decide (v0 ≥ (0 : Int)) then (F30 k (v1, v2, v3, v4)).bind fun r => some (decide (v0 < r.fst), r.snd.fst, r.snd.snd.fst, r.snd.snd.snd.fst, r.snd.snd.snd.snd) else some (false, v1, v2, v3, v4)
noncomputable def sp45 : FSpec Ty := addH 1 ab45 F45 on45 sp45hn
theorem ok45 : FOK Tryz.prog tab 45 sp45 := addH_ok (keeps := kp45) tabOK fs52OK Tryz.func45 bo45 (by kernel_rfl) nd45 (LSOK.none) oa45 (F := F45) (fun k x => by kernel_rfl) (pinned_le (Nat.le_refl _) _) ok45hn rfl
noncomputable def fs45 : Nat → Option (FSpec Ty) := addF 45 sp45 fs52
theorem fs45OK : SpecsOK Tryz.prog tab fs45 := fs52OK.add ok45 Tryz.call45
theorem bo81 : Tryz.f81.body = some (bodyOf Tryz.f81) := by kernel_rfl
theorem nd81 : nodupB ((loopsIn (bodyOf Tryz.f81)).map firstRegion) = true := by kernel_rfl
def of81 : Int × Int × List (List Int) × List T117 → NSt Ty := fun x => ⟨[.ptr 100000 []], [.var (.cons (.row 100001) (.cons (.row 100002) (.cons (.int .i64 (x.1)) (.cons (.int .i64 (x.2.1)) (.nil))))), .row 72 (x.2.2.1), .row 118 (x.2.2.2)]⟩
def ab81 : (n : NSt Ty) → Option {x : Int × Int × List (List Int) × List T117 // of81 x = n}
  | ⟨[.ptr 100000 []], [.var (.cons (.row 100001) (.cons (.row 100002) (.cons (.int .i64 v0) (.cons (.int .i64 v1) (.nil))))), .row 72 v2, .row 118 v3]⟩ => some ⟨(v0, v1, v2, v3), rfl⟩
  | _ => none
def kp81 : Nat → Keep := pinned 1 fun i => ⟨[], [], 0⟩
def on81 : Int × Int × Int × List (List Int) × List T117 → NSt Ty := fun x => ⟨[.int .i64 (x.1)], [.var (.cons (.row 100001) (.cons (.row 100002) (.cons (.int .i64 (x.2.1)) (.cons (.int .i64 (x.2.2.1)) (.nil))))), .row 72 (x.2.2.2.1), .row 118 (x.2.2.2.2)]⟩
def oa81 : (n : NSt Ty) → Option {y : Int × Int × Int × List (List Int) × List T117 // on81 y = n}
  | ⟨[.int .i64 v0], [.var (.cons (.row 100001) (.cons (.row 100002) (.cons (.int .i64 v1) (.cons (.int .i64 v2) (.nil))))), .row 72 v3, .row 118 v4]⟩ => some ⟨(v0, v1, v2, v3, v4), rfl⟩
  | _ => none
/-- "(*silt/dev.Dev).pass"  -/
def F81 (k : Nat) (x : Int × Int × List (List Int) × List T117) : Option (Int × Int × Int × List (List Int) × List T117) :=
  match x with
  | (v0, v1, v2, v3) => bif v0 == (0 : Int) then some ((12 : Int), (-1 : Int), v1, v2, v3) else bif decide (v0 > (0 : Int)) then some ((0 : Int), IntKind.i64.wrap (v0 - (1 : Int)), IntKind.i64.wrap (v1 + (1 : Int)), v2, v3) else some ((0 : Int), v0, IntKind.i64.wrap (v1 + (1 : Int)), v2, v3)
noncomputable def sp81 : FSpec Ty := addH 1 ab81 F81 on81 noH
theorem ok81 : FOK Tryz.prog tab 81 sp81 := addH_ok (keeps := kp81) tabOK fs45OK Tryz.func81 bo81 (by kernel_rfl) nd81 (LSOK.none) oa81 (F := F81) (fun k x => by kernel_rfl) (pinned_le (Nat.le_refl _) _) FOK.none rfl
noncomputable def fs81 : Nat → Option (FSpec Ty) := addF 81 sp81 fs45
theorem fs81OK : SpecsOK Tryz.prog tab fs81 := fs45OK.add ok81 Tryz.call81
theorem bo66 : Tryz.f66.body = some (bodyOf Tryz.f66) := by kernel_rfl
theorem nd66 : nodupB ((loopsIn (bodyOf Tryz.f66)).map firstRegion) = true := by kernel_rfl
def of66hn : Int × List Int → NSt Ty := fun x => ⟨[.nilp, .int .i64 (x.1), .arr 5 64 (x.2)], []⟩
def ab66hn : (n : NSt Ty) → Option {x : Int × List Int // of66hn x = n}
  | ⟨[.nilp, .int .i64 v0, .arr 5 64 v1], []⟩ => some ⟨(v0, v1), rfl⟩
  | _ => none
def kp66hn : Nat → Keep := pinned 0 fun i => ⟨[], [], 0⟩
def on66hn : Int → NSt Ty := fun x => ⟨[.int .i64 (x)], []⟩
def oa66hn : (n : NSt Ty) → Option {y : Int // on66hn y = n}
  | ⟨[.int .i64 v0], []⟩ => some ⟨v0, rfl⟩
  | _ => none
/-- "(*silt/dev.Dev).Write" hn -/
def F66hn (k : Nat) (x : Int × List Int) : Option (Int) :=
  match x with
  | (v0, v1) => (F45hn k v0).bind fun r => bif !r then some (1 : Int) else none
noncomputable def sp66hn : FSpec Ty := addH 0 ab66hn F66hn on66hn noH
theorem ok66hn : FOK Tryz.prog tab 66 sp66hn := addH_ok (keeps := kp66hn) tabOK fs81OK Tryz.func66 bo66 (by kernel_rfl) nd66 (LSOK.none) oa66hn (F := F66hn) (fun k x => by kernel_rfl) (pinned_le (Nat.le_refl _) _) FOK.none rfl
def of66 : Int × List Int × Int × Int × List (List Int) × List T117 → NSt Ty := fun x => ⟨[.ptr 100000 [], .int .i64 (x.1), .arr 5 64 (x.2.1)], [.var (.cons (.row 100001) (.cons (.row 100002) (.cons (.int .i64 (x.2.2.1)) (.cons (.int .i64 (x.2.2.2.1)) (.nil))))), .row 72 (x.2.2.2.2.1), .row 118 (x.2.2.2.2.2)]⟩
def ab66 : (n : NSt Ty) → Option {x : Int × List Int × Int × Int × List (List Int) × List T117 // of66 x = n}
  | ⟨[.ptr 100000 [], .int .i64 v0, .arr 5 64 v1], [.var (.cons (.row 100001) (.cons (.row 100002) (.cons (.int .i64 v2) (.cons (.int .i64 v3) (.nil))))), .row 72 v4, .row 118 v5]⟩ => some ⟨(v0, v1, v2, v3, v4, v5), rfl⟩
  | _ => none
def kp66 : Nat → Keep := pinned 1 fun i => ⟨[], [], 0⟩
def on66 : Int × Int × Int × List (List Int) × List T117 → NSt Ty := fun x => ⟨[.int .i64 (x.1)], [.var (.cons (.row 100001) (.cons (.row 100002) (.cons (.int .i64 (x.2.1)) (.cons (.int .i64 (x.2.2.1)) (.nil))))), .row 72 (x.2.2.2.1), .row 118 (x.2.2.2.2)]⟩
def oa66 : (n : NSt Ty) → Option {y : Int × Int × Int × List (List Int) × List T117 // on66 y = n}
  | ⟨[.int .i64 v0], [.var (.cons (.row 100001) (.cons (.row 100002) (.cons (.int .i64 v1) (.cons (.int .i64 v2) (.nil))))), .row 72 v3, .row 118 v4]⟩ => some ⟨(v0, v1, v2, v3, v4), rfl⟩
  | _ => none
/-- "(*silt/dev.Dev).Write"  -/
def F66 (k : Nat) (x : Int × List Int × Int × Int × List (List Int) × List T117) : Option (Int × Int × Int × List (List Int) × List T117) :=
  match x with
  | (v0, v1, v2, v3, v4, v5) => (F45 k (v0, v2, v3, v4, v5)).bind fun r => bif !r.fst then some ((1 : Int), r.snd.fst, r.snd.snd.fst, r.snd.snd.snd.fst, r.snd.snd.snd.snd) else (F81 k (r.snd.fst, r.snd.snd.fst, r.snd.snd.snd.fst, r.snd.snd.snd.snd)).bind fun r => bif r.fst != (0 : Int) then some (r.fst, r.snd.fst, r.snd.snd.fst, r.snd.snd.snd.fst, r.snd.snd.snd.snd) else bif decide (r.snd.snd.snd.snd.length + ((List.replicate (1 : Nat) (T117.mk (0 : Int) (List.replicate (64 : Nat) (0 : Int)))).set (0 : Nat) (T117.mk v0 v1)).length ≤ roomMost) then some ((0 : Int), r.snd.fst, r.snd.snd.fst, r.snd.snd.snd.fst, r.snd.snd.snd.snd ++ (List.replicate (1 : Nat) (T117.mk (0 : Int) (List.replicate (64 : Nat) (0 : Int)))).set (0 : Nat) (T117.mk v0 v1)) else none
noncomputable def sp66 : FSpec Ty := addH 1 ab66 F66 on66 sp66hn
theorem ok66 : FOK Tryz.prog tab 66 sp66 := addH_ok (keeps := kp66) tabOK fs81OK Tryz.func66 bo66 (by kernel_rfl) nd66 (LSOK.none) oa66 (F := F66) (fun k x => by kernel_rfl) (pinned_le (Nat.le_refl _) _) ok66hn rfl
noncomputable def fs66 : Nat → Option (FSpec Ty) := addF 66 sp66 fs81
theorem fs66OK : SpecsOK Tryz.prog tab fs66 := fs81OK.add ok66 Tryz.call66
theorem bo67 : Tryz.f67.body = some (bodyOf Tryz.f67) := by kernel_rfl
theorem nd67 : nodupB ((loopsIn (bodyOf Tryz.f67)).map firstRegion) = true := by kernel_rfl
def of67hn : Unit → NSt Ty := fun x => ⟨[.nilp], []⟩
def ab67hn : (n : NSt Ty) → Option {x : Unit // of67hn x = n}
  | ⟨[.nilp], []⟩ => some ⟨(), rfl⟩
  | _ => none
def kp67hn : Nat → Keep := pinned 0 fun i => cond (i == 7) ⟨[0, 16, 17, 18], [0], 0⟩ (⟨[], [], 0⟩)
def on67hn : Int → NSt Ty := fun x => ⟨[.int .i64 (x)], []⟩
def oa67hn : (n : NSt Ty) → Option {y : Int // on67hn y = n}
  | ⟨[.int .i64 v0], []⟩ => some ⟨v0, rfl⟩
  | _ => none
/-- "(*silt/dev.Dev).Flush" hn -/
def F67hn (k : Nat) (x : Unit) : Option (Int) :=
  match x with
  | () => some (1 : Int)
noncomputable def sp67hn : FSpec Ty := addH 0 ab67hn F67hn on67hn noH
theorem ok67hn : FOK Tryz.prog tab 67 sp67hn := addH_ok (keeps := kp67hn) tabOK fs66OK Tryz.func67 bo67 (by kernel_rfl) nd67 (LSOK.none) oa67hn (F := F67hn) (fun k x => by kernel_rfl) (pinned_le (Nat.le_refl _) _) FOK.none rfl
def of67 : Int × Int × List (List Int) × List T117 → NSt Ty := fun x => ⟨[.ptr 100000 []], [.var (.cons (.row 100001) (.cons (.row 100002) (.cons (.int .i64 (x.1)) (.cons (.int .i64 (x.2.1)) (.nil))))), .row 72 (x.2.2.1), .row 118 (x.2.2.2)]⟩
def ab67 : (n : NSt Ty) → Option {x : Int × Int × List (List Int) × List T117 // of67 x = n}
  | ⟨[.ptr 100000 []], [.var (.cons (.row 100001) (.cons (.row 100002) (.cons (.int .i64 v0) (.cons (.int .i64 v1) (.nil))))), .row 72 v2, .row 118 v3]⟩ => some ⟨(v0, v1, v2, v3), rfl⟩
  | _ => none
def of67_7 : Int × Int × Int × Int × List T117 × List (List Int) → NSt Ty := fun x => ⟨[.ptr 100000 [], .row 100001, .int .i64 (x.1), .int .i64 (x.2.1)], [.var (.cons (.row 100002) (.cons (.row 100001) (.cons (.int .i64 (x.2.2.1)) (.cons (.int .i64 (x.2.2.2.1)) (.nil))))), .row 118 (x.2.2.2.2.1), .row 72 (x.2.2.2.2.2)]⟩
def ab67_7 : (n : NSt Ty) → Option {x : Int × Int × Int × Int × List T117 × List (List Int) // of67_7 x = n}
  | ⟨[.ptr 100000 [], .row 100001, .int .i64 v0, .int .i64 v1], [.var (.cons (.row 100002) (.cons (.row 100001) (.cons (.int .i64 v2) (.cons (.int .i64 v3) (.nil))))), .row 118 v4, .row 72 v5]⟩ => some ⟨(v0, v1, v2, v3, v4, v5), rfl⟩
  | _ => none
def oe67_7 : Int × Int × List (List Int) × List T117 → Ex := fun _ => .exit 0
def on67_7 : Int × Int × List (List Int) × List T117 → NSt Ty := fun x => ⟨[.ptr 100000 []], [.var (.cons (.row 100001) (.cons (.row 100002) (.cons (.int .i64 (x.1)) (.cons (.int .i64 (x.2.1)) (.nil))))), .row 72 (x.2.2.1), .row 118 (x.2.2.2)]⟩
def oa67_7 : (e : Ex) → (n : NSt Ty) → Option {y : Int × Int × List (List Int) × List T117 // oe67_7 y = e ∧ on67_7 y = n}
  | .exit 0, ⟨[.ptr 100000 []], [.var (.cons (.row 100001) (.cons (.row 100002) (.cons (.int .i64 v0) (.cons (.int .i64 v1) (.nil))))), .row 72 v2, .row 118 v3]⟩ => some ⟨(v0, v1, v2, v3), rfl, rfl⟩
  | _, _ => none
/-- a round of the loop 7 of function 67 -/
def R67_7 (k : Nat) (again : Int × Int × Int × Int × List T117 × List (List Int) → Option (Int × Int × List (List Int) × List T117)) (x : Int × Int × Int × Int × List T117 × List (List Int)) : Option (Int × Int × List (List Int) × List T117) :=
  match x with
  | (v0, v1, v2, v3, v4, v5) => bif decide (v1 < v0) then bif inRange v1 v4.length then bif inRange (v4.getD v1.toNat (T117.mk (0 : Int) (List.replicate (64 : Nat) (0 : Int)))).1 v5.length then again (v0, IntKind.i64.wrap (v1 + (1 : Int)), v2, v3, v4, v5.set (v4.getD v1.toNat (T117.mk (0 : Int) (List.replicate (64 : Nat) (0 : Int)))).1.toNat (v4.getD v1.toNat (T117.mk (0 : Int) (List.replicate (64 : Nat) (0 : Int)))).2) else none else none else some (v2, v3, v5, v4)
def L67_7 (k n : Nat) (x : Int × Int × Int × Int × List T117 × List (List Int)) : Option (Int × Int × List (List Int) × List T117) := iterR (R67_7 k) n x
noncomputable def ls67_7 : Nat → Option (LSum Ty) := addL 7 (LSum.of of67_7 ab67_7 L67_7 oe67_7 on67_7) noL
def kp67 : Nat → Keep := pinned 1 fun i => cond (i == 7) ⟨[0, 16, 17, 18], [0], 0⟩ (⟨[], [], 0⟩)
def on67 : Int × Int × Int × List (List Int) × List T117 → NSt Ty := fun x => ⟨[.int .i64 (x.1)], [.var (.cons (.row 100001) (.cons (.row 100002) (.cons (.int .i64 (x.2.1)) (.cons (.int .i64 (x.2.2.1)) (.nil))))), .row 72 (x.2.2.2.1), .row 118 (x.2.2.2.2)]⟩
def oa67 : (n : NSt Ty) → Option {y : Int × Int × Int × List (List Int) × List T117 // on67 y = n}
  | ⟨[.int .i64 v0], [.var (.cons (.row 100001) (.cons (.row 100002) (.cons (.int .i64 v1) (.cons (.int .i64 v2) (.nil))))), .row 72 v3, .row 118 v4]⟩ => some ⟨(v0, v1, v2, v3, v4), rfl⟩
  | _ => none
/-- "(*silt/dev.Dev).Flush"  -/
def F67 (k : Nat) (x : Int × Int × List (List Int) × List T117) : Option (Int × Int × Int × List (List Int) × List T117) :=
  match x with
  | (v0, v1, v2, v3) => (F81 k (v0, v1, v2, v3)).bind fun r => bif r.fst != (0 : Int) then some (r.fst, r.snd.fst, r.snd.snd.fst, r.snd.snd.snd.fst, r.snd.snd.snd.snd) else (L67_7 k k ((↑r.snd.snd.snd.snd.length : Int), (0 : Int), r.snd.fst, r.snd.snd.fst, r.snd.snd.snd.snd, r.snd.snd.snd.fst)).bind fun r => some ((0 : Int), r.fst, r.snd.fst, r.snd.snd.fst, [])
noncomputable def sp67 : FSpec Ty := addH 1 ab67 F67 on67 sp67hn
theorem lo67_7 : LSOK fs66 kp67 tab Tryz.f67 ls67_7 := lsum_ok bo67 nd67 (LSOK.none) oa67_7 (R := R67_7) fun k again x => by kernel_rfl
theorem ok67 : FOK Tryz.prog tab 67 sp67 := addH_ok (keeps := kp67) tabOK fs66OK Tryz.func67 bo67 (by kernel_rfl) nd67 (lo67_7) oa67 (F := F67) (fun k x => by kernel_rfl) (pinned_le (Nat.le_refl _) _) ok67hn rfl
noncomputable def fs67 : Nat → Option (FSpec Ty) := addF 67 sp67 fs66
theorem fs67OK : SpecsOK Tryz.prog tab fs67 := fs66OK.add ok67 Tryz.call67
theorem bo53 : Tryz.f53.body = some (bodyOf Tryz.f53) := by kernel_rfl
theorem nd53 : nodupB ((loopsIn (bodyOf Tryz.f53)).map firstRegion) = true := by kernel_rfl
def of53 : Int × List (List Int) × Int × Int × Int × Int × Int × Int × Int × List Int × Int × Int × List (List Int) × List T117 → NSt Ty := fun x => ⟨[.ptr 100000 [], .int .i64 (x.1), .slice 72 (x.2.1)], [.var (.cons (.ptr 100001 []) (.cons (.cons (.int .i64 (x.2.2.1)) (.cons (.int .i64 (x.2.2.2.1)) (.cons (.int .i64 (x.2.2.2.2.1)) (.cons (.int .i64 (x.2.2.2.2.2.1)) (.nil))))) (.cons (.cons (.int .i64 (x.2.2.2.2.2.2.1)) (.cons (.int .i64 (x.2.2.2.2.2.2.2.1)) (.cons (.int .u32 (x.2.2.2.2.2.2.2.2.1)) (.cons (.slice 3 (x.2.2.2.2.2.2.2.2.2.1)) (.nil))))) (.nil)))), .var (.cons (.row 100002) (.cons (.row 100003) (.cons (.int .i64 (x.2.2.2.2.2.2.2.2.2.2.1)) (.cons (.int .i64 (x.2.2.2.2.2.2.2.2.2.2.2.1)) (.nil))))), .row 72 (x.2.2.2.2.2.2.2.2.2.2.2.2.1), .row 118 (x.2.2.2.2.2.2.2.2.2.2.2.2.2)]⟩
def ab53 : (n : NSt Ty) → Option {x : Int × List (List Int) × Int × Int × Int × Int × Int × Int × Int × List Int × Int × Int × List (List Int) × List T117 // of53 x = n}
  | ⟨[.ptr 100000 [], .int .i64 v0, .slice 72 v1], [.var (.cons (.ptr 100001 []) (.cons (.cons (.int .i64 v2) (.cons (.int .i64 v3) (.cons (.int .i64 v4) (.cons (.int .i64 v5) (.nil))))) (.cons (.cons (.int .i64 v6) (.cons (.int .i64 v7) (.cons (.int .u32 v8) (.cons (.slice 3 v9) (.nil))))) (.nil)))), .var (.cons (.row 100002) (.cons (.row 100003) (.cons (.int .i64 v10) (.cons (.int .i64 v11) (.nil))))), .row 72 v12, .row 118 v13]⟩ => some ⟨(v0, v1, v2, v3, v4, v5, v6, v7, v8, v9, v10, v11, v12, v13), rfl⟩
  | _ => none
def of53_2 : Int × List (List Int) × Int × Int × Int × Int × Int × Int × Int × Int × Int × List Int × Int × Int × List (List Int) × List T117 → NSt Ty := fun x => ⟨[.ptr 100000 [], .int .i64 (x.1), .slice 72 (x.2.1), .int .i64 (x.2.2.1), .int .i64 (x.2.2.2.1)], [.var (.cons (.ptr 100001 []) (.cons (.cons (.int .i64 (x.2.2.2.2.1)) (.cons (.int .i64 (x.2.2.2.2.2.1)) (.cons (.int .i64 (x.2.2.2.2.2.2.1)) (.cons (.int .i64 (x.2.2.2.2.2.2.2.1)) (.nil))))) (.cons (.cons (.int .i64 (x.2.2.2.2.2.2.2.2.1)) (.cons (.int .i64 (x.2.2.2.2.2.2.2.2.2.1)) (.cons (.int .u32 (x.2.2.2.2.2.2.2.2.2.2.1)) (.cons (.slice 3 (x.2.2.2.2.2.2.2.2.2.2.2.1)) (.nil))))) (.nil)))), .var (.cons (.row 100002) (.cons (.row 100003) (.cons (.int .i64 (x.2.2.2.2.2.2.2.2.2.2.2.2.1)) (.cons (.int .i64 (x.2.2.2.2.2.2.2.2.2.2.2.2.2.1)) (.nil))))), .row 72 (x.2.2.2.2.2.2.2.2.2.2.2.2.2.2.1), .row 118 (x.2.2.2.2.2.2.2.2.2.2.2.2.2.2.2)]⟩
def ab53_2 : (n : NSt Ty) → Option {x : Int × List (List Int) × Int × Int × Int × Int × Int × Int × Int × Int × Int × List Int × Int × Int × List (List Int) × List T117 // of53_2 x = n}
  | ⟨[.ptr 100000 [], .int .i64 v0, .slice 72 v1, .int .i64 v2, .int .i64 v3], [.var (.cons (.ptr 100001 []) (.cons (.cons (.int .i64 v4) (.cons (.int .i64 v5) (.cons (.int .i64 v6) (.cons (.int .i64 v7) (.nil))))) (.cons (.cons (.int .i64 v8) (.cons (.int .i64 v9) (.cons (.int .u32 v10) (.cons (.slice 3 v11) (.nil))))) (.nil)))), .var (.cons (.row 100002) (.cons (.row 100003) (.cons (.int .i64 v12) (.cons (.int .i64 v13) (.nil))))), .row 72 v14, .row 118 v15]⟩ => some ⟨(v0, v1, v2, v3, v4, v5, v6, v7, v8, v9, v10, v11, v12, v13, v14, v15), rfl⟩
  | _ => none
def on53_2a : GErr × Int × Int × Int × Int × Int × Int × Int × List Int × Int × Int × List (List Int) × List T117 → NSt Ty := fun x => ⟨[.ptr 100000 [], .err (x.1)], [.var (.cons (.ptr 100001 []) (.cons (.cons (.int .i64 (x.2.1)) (.cons (.int .i64 (x.2.2.1)) (.cons (.int .i64 (x.2.2.2.1)) (.cons (.int .i64 (x.2.2.2.2.1)) (.nil))))) (.cons (.cons (.int .i64 (x.2.2.2.2.2.1)) (.cons (.int .i64 (x.2.2.2.2.2.2.1)) (.cons (.int .u32 (x.2.2.2.2.2.2.2.1)) (.cons (.slice 3 (x.2.2.2.2.2.2.2.2.1)) (.nil))))) (.nil)))), .var (.cons (.row 100002) (.cons (.row 100003) (.cons (.int .i64 (x.2.2.2.2.2.2.2.2.2.1)) (.cons (.int .i64 (x.2.2.2.2.2.2.2.2.2.2.1)) (.nil))))), .row 72 (x.2.2.2.2.2.2.2.2.2.2.2.1), .row 118 (x.2.2.2.2.2.2.2.2.2.2.2.2)]⟩
def on53_2b : Int × Int × Int × Int × Int × Int × Int × List Int × Int × Int × List (List Int) × List T117 → NSt Ty := fun x => ⟨[.ptr 100000 [], .undef], [.var (.cons (.ptr 100001 []) (.cons (.cons (.int .i64 (x.1)) (.cons (.int .i64 (x.2.1)) (.cons (.int .i64 (x.2.2.1)) (.cons (.int .i64 (x.2.2.2.1)) (.nil))))) (.cons (.cons (.int .i64 (x.2.2.2.2.1)) (.cons (.int .i64 (x.2.2.2.2.2.1)) (.cons (.int .u32 (x.2.2.2.2.2.2.1)) (.cons (.slice 3 (x.2.2.2.2.2.2.2.1)) (.nil))))) (.nil)))), .var (.cons (.row 100002) (.cons (.row 100003) (.cons (.int .i64 (x.2.2.2.2.2.2.2.2.1)) (.cons (.int .i64 (x.2.2.2.2.2.2.2.2.2.1)) (.nil))))), .row 72 (x.2.2.2.2.2.2.2.2.2.2.1), .row 118 (x.2.2.2.2.2.2.2.2.2.2.2)]⟩
def oa53_2 : (e : Ex) → (n : NSt Ty) → Option {y : (GErr × Int × Int × Int × Int × Int × Int × Int × List Int × Int × Int × List (List Int) × List T117) ⊕ (Int × Int × Int × Int × Int × Int × Int × List Int × Int × Int × List (List Int) × List T117) // oe2 .ret (.exit 0) y = e ∧ on2 on53_2a on53_2b y = n}
  | .ret, ⟨[.ptr 100000 [], .err v0], [.var (.cons (.ptr 100001 []) (.cons (.cons (.int .i64 v1) (.cons (.int .i64 v2) (.cons (.int .i64 v3) (.cons (.int .i64 v4) (.nil))))) (.cons (.cons (.int .i64 v5) (.cons (.int .i64 v6) (.cons (.int .u32 v7) (.cons (.slice 3 v8) (.nil))))) (.nil)))), .var (.cons (.row 100002) (.cons (.row 100003) (.cons (.int .i64 v9) (.cons (.int .i64 v10) (.nil))))), .row 72 v11, .row 118 v12]⟩ => some ⟨.inl (v0, v1, v2, v3, v4, v5, v6, v7, v8, v9, v10, v11, v12), rfl, rfl⟩
  | .exit 0, ⟨[.ptr 100000 [], .undef], [.var (.cons (.ptr 100001 []) (.cons (.cons (.int .i64 v0) (.cons (.int .i64 v1) (.cons (.int .i64 v2) (.cons (.int .i64 v3) (.nil))))) (.cons (.cons (.int .i64 v4) (.cons (.int .i64 v5) (.cons (.int .u32 v6) (.cons (.slice 3 v7) (.nil))))) (.nil)))), .var (.cons (.row 100002) (.cons (.row 100003) (.cons (.int .i64 v8) (.cons (.int .i64 v9) (.nil))))), .row 72 v10, .row 118 v11]⟩ => some ⟨.inr (v0, v1, v2, v3, v4, v5, v6, v7, v8, v9, v10, v11), rfl, rfl⟩
  | _, _ => none
/-- a round of the loop 2 of function 53 -/
def R53_2 (k : Nat) (again : Int × List (List Int) × Int × Int × Int × Int × Int × Int × Int × Int × Int × List Int × Int × Int × List (List Int) × List T117 → Option ((GErr × Int × Int × Int × Int × Int × Int × Int × List Int × Int × Int × List (List Int) × List T117) ⊕ (Int × Int × Int × Int × Int × Int × Int × List Int × Int × Int × List (List Int) × List T117))) (x : Int × List (List Int) × Int × Int × Int × Int × Int × Int × Int × Int × Int × List Int × Int × Int × List (List Int) × List T117) : Option ((GErr × Int × Int × Int × Int × Int × Int × Int × List Int × Int × Int × List (List Int) × List T117) ⊕ (Int × Int × Int × Int × Int × Int × Int × List Int × Int × Int × List (List Int) × List T117)) :=
  match x with
  | (v0, v1, v2, v3, v4, v5, v6, v7, v8, v9, v10, v11, v12, v13, v14, v15) => bif decide (v3 < v2) then bif inRange v3 v1.length then (F66 k (IntKind.i64.wrap (v0 + v3), v1.getD v3.toNat (List.replicate (64 : Nat) (0 : Int)), v12, v13, v14, v15)).bind fun r => bif r.fst != (0 : Int) then (F50 k (r.fst, ByteArray.mk (Array.mk [(119 : UInt8), (114 : UInt8), (105 : UInt8), (116 : UInt8), (101 : UInt8)]), ())).bind fun r_1 => (F65 k (r_1, ByteArray.mk (Array.mk [(103 : UInt8), (114 : UInt8), (111 : UInt8), (117 : UInt8), (112 : UInt8)]), ())).bind fun r_2 => some (Sum.inl (r_2, v4, v5, v6, v7, v8, v9, v10, v11, r.snd.fst, r.snd.snd.fst, r.snd.snd.snd.fst, r.snd.snd.snd.snd)) else again (v0, v1, v2, IntKind.i64.wrap (v3 + (1 : Int)), v4, v5, v6, v7, v8, v9, v10, v11, r.snd.fst, r.snd.snd.fst, r.snd.snd.snd.fst, r.snd.snd.snd.snd) else none else some (Sum.inr (v4, v5, v6, v7, v8, v9, v10, v11, v12, v13, v14, v15))
def L53_2 (k n : Nat) (x : Int × List (List Int) × Int × Int × Int × Int × Int × Int × Int × Int × Int × List Int × Int × Int × List (List Int) × List T117) : Option ((GErr × Int × Int × Int × Int × Int × Int × Int × List Int × Int × Int × List (List Int) × List T117) ⊕ (Int × Int × Int × Int × Int × Int × Int × List Int × Int × Int × List (List Int) × List T117)) := iterR (R53_2 k) n x
noncomputable def ls53_2 : Nat → Option (LSum Ty) := addL 2 (lsum2 of53_2 ab53_2 L53_2 .ret on53_2a (.exit 0) on53_2b) noL
def kp53 : Nat → Keep := pinned 2 fun i => cond (i == 2) ⟨[0, 1, 10, 11, 12], [0, 6], 0⟩ (⟨[], [], 0⟩)
def on53 : GErr × Int × Int × Int × Int × Int × Int × Int × List Int × Int × Int × List (List Int) × List T117 → NSt Ty := fun x => ⟨[.err (x.1)], [.var (.cons (.ptr 100001 []) (.cons (.cons (.int .i64 (x.2.1)) (.cons (.int .i64 (x.2.2.1)) (.cons (.int .i64 (x.2.2.2.1)) (.cons (.int .i64 (x.2.2.2.2.1)) (.nil))))) (.cons (.cons (.int .i64 (x.2.2.2.2.2.1)) (.cons (.int .i64 (x.2.2.2.2.2.2.1)) (.cons (.int .u32 (x.2.2.2.2.2.2.2.1)) (.cons (.slice 3 (x.2.2.2.2.2.2.2.2.1)) (.nil))))) (.nil)))), .var (.cons (.row 100002) (.cons (.row 100003) (.cons (.int .i64 (x.2.2.2.2.2.2.2.2.2.1)) (.cons (.int .i64 (x.2.2.2.2.2.2.2.2.2.2.1)) (.nil))))), .row 72 (x.2.2.2.2.2.2.2.2.2.2.2.1), .row 118 (x.2.2.2.2.2.2.2.2.2.2.2.2)]⟩
def oa53 : (n : NSt Ty) → Option {y : GErr × Int × Int × Int × Int × Int × Int × Int × List Int × Int × Int × List (List Int) × List T117 // on53 y = n}
  | ⟨[.err v0], [.var (.cons (.ptr 100001 []) (.cons (.cons (.int .i64 v1) (.cons (.int .i64 v2) (.cons (.int .i64 v3) (.cons (.int .i64 v4) (.nil))))) (.cons (.cons (.int .i64 v5) (.cons (.int .i64 v6) (.cons (.int .u32 v7) (.cons (.slice 3 v8) (.nil))))) (.nil)))), .var (.cons (.row 100002) (.cons (.row 100003) (.cons (.int .i64 v9) (.cons (.int .i64 v10) (.nil))))), .row 72 v11, .row 118 v12]⟩ => some ⟨(v0, v1, v2, v3, v4, v5, v6, v7, v8, v9, v10, v11, v12), rfl⟩
  | _ => none
/-- "(*silt/journal.Journal).write"  -/
def F53 (k : Nat) (x : Int × List (List Int) × Int × Int × Int × Int × Int × Int × Int × List Int × Int × Int × List (List Int) × List T117) : Option (GErr × Int × Int × Int × Int × Int × Int × Int × List Int × Int × Int × List (List Int) × List T117) :=
  match x with
  | (v0, v1, v2, v3, v4, v5, v6, v7, v8, v9, v10, v11, v12, v13) => (L53_2 k k (v0, v1, (↑v1.length : Int), (0 : Int), v2, v3, v4, v5, v6, v7, v8, v9, v10, v11, v12, v13)).bind fun r => sumK r (fun a => some (a.fst, a.snd.fst, a.snd.snd.fst, a.snd.snd.snd.fst, a.snd.snd.snd.snd.fst, a.snd.snd.snd.snd.snd.fst, a.snd.snd.snd.snd.snd.snd.fst, a.snd.snd.snd.snd.snd.snd.snd.fst, a.snd.snd.snd.snd.snd.snd.snd.snd.fst, a.snd.snd.snd.snd.snd.snd.snd.snd.snd.fst, a.snd.snd.snd.snd.snd.snd.snd.snd.snd.snd.fst, a.snd.snd.snd.snd.snd.snd.snd.snd.snd.snd.snd.fst, a.snd.snd.snd.snd.snd.snd.snd.snd.snd.snd.snd.snd)) fun b => (F67 k (b.snd.snd.snd.snd.snd.snd.snd.snd.fst, b.snd.snd.snd.snd.snd.snd.snd.snd.snd.fst, b.snd.snd.snd.snd.snd.snd.snd.snd.snd.snd.fst, b.snd.snd.snd.snd.snd.snd.snd.snd.snd.snd.snd)).bind fun r => (F50 k (r.fst, ByteArray.mk (Array.mk [(102 : UInt8), (108 : UInt8), (117 : UInt8), (115 : UInt8), (104 : UInt8)]), ())).bind fun r_1 => (F65 k (r_1, ByteArray.mk (Array.mk [(103 : UInt8), (114 : UInt8), (111 : UInt8), (117 : UInt8), (112 : UInt8)]), ())).bind fun r_2 => some (r_2, b.fst, b.snd.fst, b.snd.snd.fst, b.snd.snd.snd.fst, b.snd.snd.snd.snd.fst, b.snd.snd.snd.snd.snd.fst, b.snd.snd.snd.snd.snd.snd.fst, b.snd.snd.snd.snd.snd.snd.snd.fst, r.snd.fst, r.snd.snd.fst, r.snd.snd.snd.fst, r.snd.snd.snd.snd)
noncomputable def sp53 : FSpec Ty := addH 2 ab53 F53 on53 noH
theorem lo53_2 : LSOK fs67 kp53 tab Tryz.f53 ls53_2 := lsum2_ok bo53 nd53 (LSOK.none) oa53_2 (R := R53_2) fun k again x => by kernel_rfl
theorem ok53 : FOK Tryz.prog tab 53 sp53 := addH_ok (keeps := kp53) tabOK fs67OK Tryz.func53 bo53 (by kernel_rfl) nd53 (lo53_2) oa53 (F := F53) (fun k x => by kernel_rfl) (pinned_le (Nat.le_refl _) _) FOK.none rfl
noncomputable def fs53 : Nat → Option (FSpec Ty) := addF 53 sp53 fs67
theorem fs53OK : SpecsOK Tryz.prog tab fs53 := fs67OK.add ok53 Tryz.call53
def ag54 : Args Ty ((List T88) × Unit) := V.arg (tab.den 51) (noArgs)
def rs54 : Res Ty tab (Int) false := V.oneRes (tab.den 3) (ent 3).ids (ent 3).plain (fun x _ => (ent 3).flat x rfl)
def kp54 : Nat → Keep := fun i => ⟨[], [], 0⟩
/-- "silt/group.Parts" -/
def F54 (k : Nat) (x : (List T88) × Unit) : Option (Int) :=
  match x with
  | (a0, ()) => (F63 k (a0, ())).bind fun r => bif !r then some (0 : Int) else some (IntKind.i64.wrap (IntKind.i64.wrap ((IntKind.i64.wrap ((↑a0.length : Int) - (1 : Int))).tdiv (24 : Int)) + (1 : Int)))
noncomputable def sp54 : FSpec Ty := spec ag54 rs54 F54
theorem bo54 : Tryz.f54.body = some (bodyOf Tryz.f54) := by kernel_rfl
theorem nd54 : nodupB ((loopsIn (bodyOf Tryz.f54)).map firstRegion) = true := by kernel_rfl
theorem ok54 : FOK Tryz.prog tab 54 sp54 := spec_ok (keeps := kp54) tabOK fs53OK Tryz.func54 bo54 (by kernel_rfl) nd54 (LSOK.none) (F := F54) fun k x => by kernel_rfl
noncomputable def fs54 : Nat → Option (FSpec Ty) := addF 54 sp54 fs53
theorem fs54OK : SpecsOK Tryz.prog tab fs54 := fs53OK.add ok54 Tryz.call54
theorem bo35 : Tryz.f35.body = some (bodyOf Tryz.f35) := by kernel_rfl
theorem nd35 : nodupB ((loopsIn (bodyOf Tryz.f35)).map firstRegion) = true := by kernel_rfl
def of35 : List T88 × Int × Int × Int × Int × Int × Int × Int × List Int × Int × Int × List (List Int) × List T117 → NSt Ty := fun x => ⟨[.ptr 100000 [], .slice 89 (x.1)], [.var (.cons (.ptr 100001 []) (.cons (.cons (.int .i64 (x.2.1)) (.cons (.int .i64 (x.2.2.1)) (.cons (.int .i64 (x.2.2.2.1)) (.cons (.int .i64 (x.2.2.2.2.1)) (.nil))))) (.cons (.cons (.int .i64 (x.2.2.2.2.2.1)) (.cons (.int .i64 (x.2.2.2.2.2.2.1)) (.cons (.int .u32 (x.2.2.2.2.2.2.2.1)) (.cons (.slice 3 (x.2.2.2.2.2.2.2.2.1)) (.nil))))) (.nil)))), .var (.cons (.row 100002) (.cons (.row 100003) (.cons (.int .i64 (x.2.2.2.2.2.2.2.2.2.1)) (.cons (.int .i64 (x.2.2.2.2.2.2.2.2.2.2.1)) (.nil))))), .row 72 (x.2.2.2.2.2.2.2.2.2.2.2.1), .row 118 (x.2.2.2.2.2.2.2.2.2.2.2.2)]⟩
def ab35 : (n : NSt Ty) → Option {x : List T88 × Int × Int × Int × Int × Int × Int × Int × List Int × Int × Int × List (List Int) × List T117 // of35 x = n}
  | ⟨[.ptr 100000 [], .slice 89 v0], [.var (.cons (.ptr 100001 []) (.cons (.cons (.int .i64 v1) (.cons (.int .i64 v2) (.cons (.int .i64 v3) (.cons (.int .i64 v4) (.nil))))) (.cons (.cons (.int .i64 v5) (.cons (.int .i64 v6) (.cons (.int .u32 v7) (.cons (.slice 3 v8) (.nil))))) (.nil)))), .var (.cons (.row 100002) (.cons (.row 100003) (.cons (.int .i64 v9) (.cons (.int .i64 v10) (.nil))))), .row 72 v11, .row 118 v12]⟩ => some ⟨(v0, v1, v2, v3, v4, v5, v6, v7, v8, v9, v10, v11, v12), rfl⟩
  | _ => none
def of35_13 : List T88 × List (List Int) × Int × List Int × Int × Int × Int × Int × Int × Int × Int × Int × Int × List Int × Int × Int × Int × Int × Int × List Int × List Int × List (List Int) × List T117 → NSt Ty := fun x => ⟨[.ptr 100000 [], .slice 89 (x.1), .slice 72 (x.2.1), .ptr 100002 [], .int .i64 (x.2.2.1), .row 100003, .slice 3 (x.2.2.2.1), .int .i64 (x.2.2.2.2.1), .int .i64 (x.2.2.2.2.2.1)], [.var (.cons (.ptr 100001 []) (.cons (.cons (.int .i64 (x.2.2.2.2.2.2.1)) (.cons (.int .i64 (x.2.2.2.2.2.2.2.1)) (.cons (.int .i64 (x.2.2.2.2.2.2.2.2.1)) (.cons (.int .i64 (x.2.2.2.2.2.2.2.2.2.1)) (.nil))))) (.cons (.cons (.int .i64 (x.2.2.2.2.2.2.2.2.2.2.1)) (.cons (.int .i64 (x.2.2.2.2.2.2.2.2.2.2.2.1)) (.cons (.int .u32 (x.2.2.2.2.2.2.2.2.2.2.2.2.1)) (.cons (.slice 3 (x.2.2.2.2.2.2.2.2.2.2.2.2.2.1)) (.nil))))) (.nil)))), .var (.cons (.row 100004) (.cons (.row 100005) (.cons (.int .i64 (x.2.2.2.2.2.2.2.2.2.2.2.2.2.2.1)) (.cons (.int .i64 (x.2.2.2.2.2.2.2.2.2.2.2.2.2.2.2.1)) (.nil))))), .var (.cons (.int .i64 (x.2.2.2.2.2.2.2.2.2.2.2.2.2.2.2.2.1)) (.cons (.int .i64 (x.2.2.2.2.2.2.2.2.2.2.2.2.2.2.2.2.2.1)) (.cons (.int .u32 (x.2.2.2.2.2.2.2.2.2.2.2.2.2.2.2.2.2.2.1)) (.cons (.slice 3 (x.2.2.2.2.2.2.2.2.2.2.2.2.2.2.2.2.2.2.2.1)) (.nil))))), .row 3 (x.2.2.2.2.2.2.2.2.2.2.2.2.2.2.2.2.2.2.2.2.1), .row 72 (x.2.2.2.2.2.2.2.2.2.2.2.2.2.2.2.2.2.2.2.2.2.1), .row 118 (x.2.2.2.2.2.2.2.2.2.2.2.2.2.2.2.2.2.2.2.2.2.2)]⟩
def ab35_13 : (n : NSt Ty) → Option {x : List T88 × List (List Int) × Int × List Int × Int × Int × Int × Int × Int × Int × Int × Int × Int × List Int × Int × Int × Int × Int × Int × List Int × List Int × List (List Int) × List T117 // of35_13 x = n}
  | ⟨[.ptr 100000 [], .slice 89 v0, .slice 72 v1, .ptr 100002 [], .int .i64 v2, .row 100003, .slice 3 v3, .int .i64 v4, .int .i64 v5], [.var (.cons (.ptr 100001 []) (.cons (.cons (.int .i64 v6) (.cons (.int .i64 v7) (.cons (.int .i64 v8) (.cons (.int .i64 v9) (.nil))))) (.cons (.cons (.int .i64 v10) (.cons (.int .i64 v11) (.cons (.int .u32 v12) (.cons (.slice 3 v13) (.nil))))) (.nil)))), .var (.cons (.row 100004) (.cons (.row 100005) (.cons (.int .i64 v14) (.cons (.int .i64 v15) (.nil))))), .var (.cons (.int .i64 v16) (.cons (.int .i64 v17) (.cons (.int .u32 v18) (.cons (.slice 3 v19) (.nil))))), .row 3 v20, .row 72 v21, .row 118 v22]⟩ => some ⟨(v0, v1, v2, v3, v4, v5, v6, v7, v8, v9, v10, v11, v12, v13, v14, v15, v16, v17, v18, v19, v20, v21, v22), rfl⟩
  | _ => none
def oe35_13 : List T88 × List (List Int) × Int × Int × Int × Int × Int × Int × Int × List Int × Int × Int × Int × Int × Int × List Int × List Int × List (List Int) × List T117 → Ex := fun _ => .exit 0
def on35_13 : List T88 × List (List Int) × Int × Int × Int × Int × Int × Int × Int × List Int × Int × Int × Int × Int × Int × List Int × List Int × List (List Int) × List T117 → NSt Ty := fun x => ⟨[.ptr 100000 [], .slice 89 (x.1), .slice 72 (x.2.1), .ptr 100002 [], .row 100003], [.var (.cons (.ptr 100001 []) (.cons (.cons (.int .i64 (x.2.2.1)) (.cons (.int .i64 (x.2.2.2.1)) (.cons (.int .i64 (x.2.2.2.2.1)) (.cons (.int .i64 (x.2.2.2.2.2.1)) (.nil))))) (.cons (.cons (.int .i64 (x.2.2.2.2.2.2.1)) (.cons (.int .i64 (x.2.2.2.2.2.2.2.1)) (.cons (.int .u32 (x.2.2.2.2.2.2.2.2.1)) (.cons (.slice 3 (x.2.2.2.2.2.2.2.2.2.1)) (.nil))))) (.nil)))), .var (.cons (.row 100004) (.cons (.row 100005) (.cons (.int .i64 (x.2.2.2.2.2.2.2.2.2.2.1)) (.cons (.int .i64 (x.2.2.2.2.2.2.2.2.2.2.2.1)) (.nil))))), .var (.cons (.int .i64 (x.2.2.2.2.2.2.2.2.2.2.2.2.1)) (.cons (.int .i64 (x.2.2.2.2.2.2.2.2.2.2.2.2.2.1)) (.cons (.int .u32 (x.2.2.2.2.2.2.2.2.2.2.2.2.2.2.1)) (.cons (.slice 3 (x.2.2.2.2.2.2.2.2.2.2.2.2.2.2.2.1)) (.nil))))), .row 3 (x.2.2.2.2.2.2.2.2.2.2.2.2.2.2.2.2.1), .row 72 (x.2.2.2.2.2.2.2.2.2.2.2.2.2.2.2.2.2.1), .row 118 (x.2.2.2.2.2.2.2.2.2.2.2.2.2.2.2.2.2.2)]⟩
def oa35_13 : (e : Ex) → (n : NSt Ty) → Option {y : List T88 × List (List Int) × Int × Int × Int × Int × Int × Int × Int × List Int × Int × Int × Int × Int × Int × List Int × List Int × List (List Int) × List T117 // oe35_13 y = e ∧ on35_13 y = n}
  | .exit 0, ⟨[.ptr 100000 [], .slice 89 v0, .slice 72 v1, .ptr 100002 [], .row 100003], [.var (.cons (.ptr 100001 []) (.cons (.cons (.int .i64 v2) (.cons (.int .i64 v3) (.cons (.int .i64 v4) (.cons (.int .i64 v5) (.nil))))) (.cons (.cons (.int .i64 v6) (.cons (.int .i64 v7) (.cons (.int .u32 v8) (.cons (.slice 3 v9) (.nil))))) (.nil)))), .var (.cons (.row 100004) (.cons (.row 100005) (.cons (.int .i64 v10) (.cons (.int .i64 v11) (.nil))))), .var (.cons (.int .i64 v12) (.cons (.int .i64 v13) (.cons (.int .u32 v14) (.cons (.slice 3 v15) (.nil))))), .row 3 v16, .row 72 v17, .row 118 v18]⟩ => some ⟨(v0, v1, v2, v3, v4, v5, v6, v7, v8, v9, v10, v11, v12, v13, v14, v15, v16, v17, v18), rfl, rfl⟩
  | _, _ => none
/-- a round of the loop 13 of function 35 -/
def R35_13 (k : Nat) (again : List T88 × List (List Int) × Int × List Int × Int × Int × Int × Int × Int × Int × Int × Int × Int × List Int × Int × Int × Int × Int × Int × List Int × List Int × List (List Int) × List T117 → Option (List T88 × List (List Int) × Int × Int × Int × Int × Int × Int × Int × List Int × Int × Int × Int × Int × Int × List Int × List Int × List (List Int) × List T117)) (x : List T88 × List (List Int) × Int × List Int × Int × Int × Int × Int × Int × Int × Int × Int × Int × List Int × Int × Int × Int × Int × Int × List Int × List Int × List (List Int) × List T117) : Option (List T88 × List (List Int) × Int × Int × Int × Int × Int × Int × Int × List Int × Int × Int × Int × Int × Int × List Int × List Int × List (List Int) × List T117) :=
  match x with
  | (v0, v1, v2, v3, v4, v5, v6, v7, v8, v9, v10, v11, v12, v13, v14, v15, v16, v17, v18, v19, v20, v21, v22) => bif decide (v5 < v4) then bif inRange v5 v3.length then bif decide (v3.getD v5.toNat (0 : Int) ≥ (0 : Int)) then bif decide (v20.length + ((List.replicate (1 : Nat) (0 : Int)).set (0 : Nat) (IntKind.i64.wrap (v2 + v3.getD v5.toNat (0 : Int)))).length ≤ roomMost) then again (v0, v1, v2, v3, v4, IntKind.i64.wrap (v5 + (1 : Int)), v6, v7, v8, v9, v10, v11, v12, v13, v14, v15, v16, v17, v18, v19, v20 ++ (List.replicate (1 : Nat) (0 : Int)).set (0 : Nat) (IntKind.i64.wrap (v2 + v3.getD v5.toNat (0 : Int))), v21, v22) else none else bif decide (v20.length + ((List.replicate (1 : Nat) (0 : Int)).set (0 : Nat) (0 : Int)).length ≤ roomMost) then again (v0, v1, v2, v3, v4, IntKind.i64.wrap (v5 + (1 : Int)), v6, v7, v8, v9, v10, v11, v12, v13, v14, v15, v16, v17, v18, v19, v20 ++ (List.replicate (1 : Nat) (0 : Int)).set (0 : Nat) (0 : Int), v21, v22) else none else none else some (v0, v1, v6, v7, v8, v9, v10, v11, v12, v13, v14, v15, v16, v17, v18, v19, v20, v21, v22)
def L35_13 (k n : Nat) (x : List T88 × List (List Int) × Int × List Int × Int × Int × Int × Int × Int × Int × Int × Int × Int × List Int × Int × Int × Int × Int × Int × List Int × List Int × List (List Int) × List T117) : Option (List T88 × List (List Int) × Int × Int × Int × Int × Int × Int × Int × List Int × Int × Int × Int × Int × Int × List Int × List Int × List (List Int) × List T117) := iterR (R35_13 k) n x
noncomputable def ls35_13 : Nat → Option (LSum Ty) := addL 13 (LSum.of of35_13 ab35_13 L35_13 oe35_13 on35_13) noL
def kp35 : Nat → Keep := pinned 2 fun i => cond (i == 13) ⟨[0, 1, 6, 9, 11, 13, 68, 69, 70], [0, 1, 6, 9, 13], 0⟩ (⟨[], [], 0⟩)
def on35 : GErr × Int × Int × Int × Int × Int × Int × Int × List Int × Int × Int × List Int × List (List Int) × List T117 → NSt Ty := fun x => ⟨[.tup (.cons (.row 100002) (.cons (.err (x.1)) (.nil)))], [.var (.cons (.ptr 100001 []) (.cons (.cons (.int .i64 (x.2.1)) (.cons (.int .i64 (x.2.2.1)) (.cons (.int .i64 (x.2.2.2.1)) (.cons (.int .i64 (x.2.2.2.2.1)) (.nil))))) (.cons (.cons (.int .i64 (x.2.2.2.2.2.1)) (.cons (.int .i64 (x.2.2.2.2.2.2.1)) (.cons (.int .u32 (x.2.2.2.2.2.2.2.1)) (.cons (.slice 3 (x.2.2.2.2.2.2.2.2.1)) (.nil))))) (.nil)))), .var (.cons (.row 100003) (.cons (.row 100004) (.cons (.int .i64 (x.2.2.2.2.2.2.2.2.2.1)) (.cons (.int .i64 (x.2.2.2.2.2.2.2.2.2.2.1)) (.nil))))), .row 3 (x.2.2.2.2.2.2.2.2.2.2.2.1), .row 72 (x.2.2.2.2.2.2.2.2.2.2.2.2.1), .row 118 (x.2.2.2.2.2.2.2.2.2.2.2.2.2)]⟩
def oa35 : (n : NSt Ty) → Option {y : GErr × Int × Int × Int × Int × Int × Int × Int × List Int × Int × Int × List Int × List (List Int) × List T117 // on35 y = n}
  | ⟨[.tup (.cons (.row 100002) (.cons (.err v0) (.nil)))], [.var (.cons (.ptr 100001 []) (.cons (.cons (.int .i64 v1) (.cons (.int .i64 v2) (.cons (.int .i64 v3) (.cons (.int .i64 v4) (.nil))))) (.cons (.cons (.int .i64 v5) (.cons (.int .i64 v6) (.cons (.int .u32 v7) (.cons (.slice 3 v8) (.nil))))) (.nil)))), .var (.cons (.row 100003) (.cons (.row 100004) (.cons (.int .i64 v9) (.cons (.int .i64 v10) (.nil))))), .row 3 v11, .row 72 v12, .row 118 v13]⟩ => some ⟨(v0, v1, v2, v3, v4, v5, v6, v7, v8, v9, v10, v11, v12, v13), rfl⟩
  | _ => none
/-- "(*silt/journal.Journal).put"  -/
def F35 (k : Nat) (x : List T88 × Int × Int × Int × Int × Int × Int × Int × List Int × Int × Int × List (List Int) × List T117) : Option (GErr × Int × Int × Int × Int × Int × Int × Int × List Int × Int × Int × List Int × List (List Int) × List T117) :=
  match x with
  | (v0, v1, v2, v3, v4, v5, v6, v7, v8, v9, v10, v11, v12) => (F49 k (v7, v0, ())).bind fun r => bif r.snd.snd.fst != (0 : Int) then (F50 k ((1 : Int), ByteArray.mk (Array.mk [(105 : UInt8), (116 : UInt8), (101 : UInt8), (109 : UInt8), (115 : UInt8)]), ())).bind fun r => some (r, v1, v2, v3, v4, v5, v6, v7, v8, v9, v10, [], v11, v12) else bif decide ((↑r.fst.length : Int) > v3) then (F50 k ((1 : Int), ByteArray.mk (Array.mk [(105 : UInt8), (116 : UInt8), (101 : UInt8), (109 : UInt8), (115 : UInt8)]), ())).bind fun r => some (r, v1, v2, v3, v4, v5, v6, v7, v8, v9, v10, [], v11, v12) else (F51 k ((↑r.fst.length : Int), v1, v2, v3, v4, v5, v6, v7, v8, v9, v10, v11, v12)).bind fun r_1 => sumK r_1 (fun a => bif !a.snd.snd.snd.snd.fst.isNil then some (a.snd.snd.snd.snd.fst, a.snd.snd.snd.snd.snd.fst, a.snd.snd.snd.snd.snd.snd.fst, a.snd.snd.snd.snd.snd.snd.snd.fst, a.snd.snd.snd.snd.snd.snd.snd.snd.fst, a.snd.snd.snd.snd.snd.snd.snd.snd.snd.fst, a.snd.snd.snd.snd.snd.snd.snd.snd.snd.snd.fst, a.snd.snd.snd.snd.snd.snd.snd.snd.snd.snd.snd.fst, a.snd.snd.snd.snd.snd.snd.snd.snd.snd.snd.snd.snd.fst, a.snd.snd.snd.snd.snd.snd.snd.snd.snd.snd.snd.snd.snd.fst, a.snd.snd.snd.snd.snd.snd.snd.snd.snd.snd.snd.snd.snd.snd.fst, [], a.snd.snd.snd.snd.snd.snd.snd.snd.snd.snd.snd.snd.snd.snd.snd.fst, a.snd.snd.snd.snd.snd.snd.snd.snd.snd.snd.snd.snd.snd.snd.snd.snd) else (F52 k (T22.mk a.snd.snd.snd.snd.snd.fst a.snd.snd.snd.snd.snd.snd.fst a.snd.snd.snd.snd.snd.snd.snd.fst a.snd.snd.snd.snd.snd.snd.snd.snd.fst, a.fst, ())).bind fun r_2 => (F53 k (IntKind.i64.wrap (r_2 + a.snd.fst), r.fst, a.snd.snd.snd.snd.snd.fst, a.snd.snd.snd.snd.snd.snd.fst, a.snd.snd.snd.snd.snd.snd.snd.fst, a.snd.snd.snd.snd.snd.snd.snd.snd.fst, a.snd.snd.snd.snd.snd.snd.snd.snd.snd.fst, a.snd.snd.snd.snd.snd.snd.snd.snd.snd.snd.fst, a.snd.snd.snd.snd.snd.snd.snd.snd.snd.snd.snd.fst, a.snd.snd.snd.snd.snd.snd.snd.snd.snd.snd.snd.snd.fst, a.snd.snd.snd.snd.snd.snd.snd.snd.snd.snd.snd.snd.snd.fst, a.snd.snd.snd.snd.snd.snd.snd.snd.snd.snd.snd.snd.snd.snd.fst, a.snd.snd.snd.snd.snd.snd.snd.snd.snd.snd.snd.snd.snd.snd.snd.fst, a.snd.snd.snd.snd.snd.snd.snd.snd.snd.snd.snd.snd.snd.snd.snd.snd)).bind fun r_3 => bif !r_3.fst.isNil then some (r_3.fst, r_3.snd.fst, r_3.snd.snd.fst, r_3.snd.snd.snd.fst, r_3.snd.snd.snd.snd.fst, r_3.snd.snd.snd.snd.snd.fst, r_3.snd.snd.snd.snd.snd.snd.fst, r_3.snd.snd.snd.snd.snd.snd.snd.fst, r_3.snd.snd.snd.snd.snd.snd.snd.snd.fst, r_3.snd.snd.snd.snd.snd.snd.snd.snd.snd.fst, r_3.snd.snd.snd.snd.snd.snd.snd.snd.snd.snd.fst, [], r_3.snd.snd.snd.snd.snd.snd.snd.snd.snd.snd.snd.fst, r_3.snd.snd.snd.snd.snd.snd.snd.snd.snd.snd.snd.snd) else (L35_13 k k (v0, r.fst, IntKind.i64.wrap (r_2 + a.snd.fst), r.snd.fst, (↑r.snd.fst.length : Int), (0 : Int), r_3.snd.fst, r_3.snd.snd.fst, r_3.snd.snd.snd.fst, r_3.snd.snd.snd.snd.fst, r_3.snd.snd.snd.snd.snd.fst, r_3.snd.snd.snd.snd.snd.snd.fst, r_3.snd.snd.snd.snd.snd.snd.snd.fst, r_3.snd.snd.snd.snd.snd.snd.snd.snd.fst, r_3.snd.snd.snd.snd.snd.snd.snd.snd.snd.fst, r_3.snd.snd.snd.snd.snd.snd.snd.snd.snd.snd.fst, a.fst, a.snd.fst, a.snd.snd.fst, a.snd.snd.snd.fst, [], r_3.snd.snd.snd.snd.snd.snd.snd.snd.snd.snd.snd.fst, r_3.snd.snd.snd.snd.snd.snd.snd.snd.snd.snd.snd.snd)).bind fun r => (F54 k (r.fst, ())).bind fun r_4 => some (GErr.nil, r.snd.snd.fst, r.snd.snd.snd.fst, r.snd.snd.snd.snd.fst, r.snd.snd.snd.snd.snd.fst, r.snd.snd.snd.snd.snd.snd.snd.snd.snd.snd.snd.snd.fst, IntKind.i64.wrap (r.snd.snd.snd.snd.snd.snd.snd.snd.snd.snd.snd.snd.snd.fst + (↑r.snd.fst.length : Int)), IntKind.u32.wrap (r.snd.snd.snd.snd.snd.snd.snd.snd.snd.snd.snd.snd.snd.snd.fst + IntKind.u32.wrap r_4), r.snd.snd.snd.snd.snd.snd.snd.snd.snd.snd.snd.snd.snd.snd.snd.fst, r.snd.snd.snd.snd.snd.snd.snd.snd.snd.snd.fst, r.snd.snd.snd.snd.snd.snd.snd.snd.snd.snd.snd.fst, r.snd.snd.snd.snd.snd.snd.snd.snd.snd.snd.snd.snd.snd.snd.snd.snd.fst, r.snd.snd.snd.snd.snd.snd.snd.snd.snd.snd.snd.snd.snd.snd.snd.snd.snd.fst, r.snd.snd.snd.snd.snd.snd.snd.snd.snd.snd.snd.snd.snd.snd.snd.snd.snd.snd)) fun b => bif !b.snd.snd.snd.fst.isNil then some (b.snd.snd.snd.fst, b.snd.snd.snd.snd.fst, b.snd.snd.snd.snd.snd.fst, b.snd.snd.snd.snd.snd.snd.fst, b.snd.snd.snd.snd.snd.snd.snd.fst, b.snd.snd.snd.snd.snd.snd.snd.snd.fst, b.snd.snd.snd.snd.snd.snd.snd.snd.snd.fst, b.snd.snd.snd.snd.snd.snd.snd.snd.snd.snd.fst, b.snd.snd.snd.snd.snd.snd.snd.snd.snd.snd.snd.fst, b.snd.snd.snd.snd.snd.snd.snd.snd.snd.snd.snd.snd.fst, b.snd.snd.snd.snd.snd.snd.snd.snd.snd.snd.snd.snd.snd.fst, [], b.snd.snd.snd.snd.snd.snd.snd.snd.snd.snd.snd.snd.snd.snd.snd.fst, b.snd.snd.snd.snd.snd.snd.snd.snd.snd.snd.snd.snd.snd.snd.snd.snd) else (F52 k (T22.mk b.snd.snd.snd.snd.fst b.snd.snd.snd.snd.snd.fst b.snd.snd.snd.snd.snd.snd.fst b.snd.snd.snd.snd.snd.snd.snd.fst, b.fst, ())).bind fun r_2 => (F53 k (IntKind.i64.wrap (r_2 + b.snd.fst), r.fst, b.snd.snd.snd.snd.fst, b.snd.snd.snd.snd.snd.fst, b.snd.snd.snd.snd.snd.snd.fst, b.snd.snd.snd.snd.snd.snd.snd.fst, b.snd.snd.snd.snd.snd.snd.snd.snd.fst, b.snd.snd.snd.snd.snd.snd.snd.snd.snd.fst, b.snd.snd.snd.snd.snd.snd.snd.snd.snd.snd.fst, b.snd.snd.snd.snd.snd.snd.snd.snd.snd.snd.snd.fst, b.snd.snd.snd.snd.snd.snd.snd.snd.snd.snd.snd.snd.fst, b.snd.snd.snd.snd.snd.snd.snd.snd.snd.snd.snd.snd.snd.fst, b.snd.snd.snd.snd.snd.snd.snd.snd.snd.snd.snd.snd.snd.snd.snd.fst, b.snd.snd.snd.snd.snd.snd.snd.snd.snd.snd.snd.snd.snd.snd.snd.snd)).bind fun r => bif !r.fst.isNil then some (r.fst, r.snd.fst, r.snd.snd.fst, r.snd.snd.snd.fst, r.snd.snd.snd.snd.fst, r.snd.snd.snd.snd.snd.fst, r.snd.snd.snd.snd.snd.snd.fst, r.snd.snd.snd.snd.snd.snd.snd.fst, r.snd.snd.snd.snd.snd.snd.snd.snd.fst, r.snd.snd.snd.snd.snd.snd.snd.snd.snd.fst, r.snd.snd.snd.snd.snd.snd.snd.snd.snd.snd.fst, [], r.snd.snd.snd.snd.snd.snd.snd.snd.snd.snd.snd.fst, r.snd.snd.snd.snd.snd.snd.snd.snd.snd.snd.snd.snd) else none
noncomputable def sp35 : FSpec Ty := addH 2 ab35 F35 on35 noH
theorem lo35_13 : LSOK fs54 kp35 tab Tryz.f35 ls35_13 := lsum_ok bo35 nd35 (LSOK.none) oa35_13 (R := R35_13) fun k again x => by kernel_rfl
theorem ok35 : FOK Tryz.prog tab 35 sp35 := addH_ok (keeps := kp35) tabOK fs54OK Tryz.func35 bo35 (by kernel_rfl) nd35 (lo35_13) oa35 (F := F35) (fun k x => by kernel_rfl) (pinned_le (Nat.le_refl _) _) FOK.none rfl
noncomputable def fs35 : Nat → Option (FSpec Ty) := addF 35 sp35 fs54
theorem fs35OK : SpecsOK Tryz.prog tab fs35 := fs54OK.add ok35 Tryz.call35
theorem bo14 : Tryz.f14.body = some (bodyOf Tryz.f14) := by kernel_rfl
theorem nd14 : nodupB ((loopsIn (bodyOf Tryz.f14)).map firstRegion) = true := by kernel_rfl
def of14hn : List T88 → NSt Ty := fun x => ⟨[.nilp, .slice 89 (x)], []⟩
def ab14hn : (n : NSt Ty) → Option {x : List T88 // of14hn x = n}
  | ⟨[.nilp, .slice 89 v0], []⟩ => some ⟨v0, rfl⟩
  | _ => none
def kp14hn : Nat → Keep := pinned 0 fun i => ⟨[], [], 0⟩
def on14hn : Int × List Int → NSt Ty := fun x => ⟨[.tup (.cons (.row 100000) (.cons (.int .i64 (x.1)) (.nil)))], [.row 3 (x.2)]⟩
def oa14hn : (n : NSt Ty) → Option {y : Int × List Int // on14hn y = n}
  | ⟨[.tup (.cons (.row 100000) (.cons (.int .i64 v0) (.nil)))], [.row 3 v1]⟩ => some ⟨(v0, v1), rfl⟩
  | _ => none
/-- "(*silt/journal.Journal).Put" hn -/
def F14hn (k : Nat) (x : List T88) : Option (Int × List Int) :=
  match x with
  | v0 => some ((1 : Int), [])
noncomputable def sp14hn : FSpec Ty := addH 0 ab14hn F14hn on14hn noH
theorem ok14hn : FOK Tryz.prog tab 14 sp14hn := addH_ok (keeps := kp14hn) tabOK fs35OK Tryz.func14 bo14 (by kernel_rfl) nd14 (LSOK.none) oa14hn (F := F14hn) (fun k x => by kernel_rfl) (pinned_le (Nat.le_refl _) _) FOK.none rfl
def of14 : List T88 × Int × Int × Int × Int × Int × Int × Int × List Int × Int × Int × List (List Int) × List T117 → NSt Ty := fun x => ⟨[.ptr 100000 [], .slice 89 (x.1)], [.var (.cons (.ptr 100001 []) (.cons (.cons (.int .i64 (x.2.1)) (.cons (.int .i64 (x.2.2.1)) (.cons (.int .i64 (x.2.2.2.1)) (.cons (.int .i64 (x.2.2.2.2.1)) (.nil))))) (.cons (.cons (.int .i64 (x.2.2.2.2.2.1)) (.cons (.int .i64 (x.2.2.2.2.2.2.1)) (.cons (.int .u32 (x.2.2.2.2.2.2.2.1)) (.cons (.slice 3 (x.2.2.2.2.2.2.2.2.1)) (.nil))))) (.nil)))), .var (.cons (.row 100002) (.cons (.row 100003) (.cons (.int .i64 (x.2.2.2.2.2.2.2.2.2.1)) (.cons (.int .i64 (x.2.2.2.2.2.2.2.2.2.2.1)) (.nil))))), .row 72 (x.2.2.2.2.2.2.2.2.2.2.2.1), .row 118 (x.2.2.2.2.2.2.2.2.2.2.2.2)]⟩
def ab14 : (n : NSt Ty) → Option {x : List T88 × Int × Int × Int × Int × Int × Int × Int × List Int × Int × Int × List (List Int) × List T117 // of14 x = n}
  | ⟨[.ptr 100000 [], .slice 89 v0], [.var (.cons (.ptr 100001 []) (.cons (.cons (.int .i64 v1) (.cons (.int .i64 v2) (.cons (.int .i64 v3) (.cons (.int .i64 v4) (.nil))))) (.cons (.cons (.int .i64 v5) (.cons (.int .i64 v6) (.cons (.int .u32 v7) (.cons (.slice 3 v8) (.nil))))) (.nil)))), .var (.cons (.row 100002) (.cons (.row 100003) (.cons (.int .i64 v9) (.cons (.int .i64 v10) (.nil))))), .row 72 v11, .row 118 v12]⟩ => some ⟨(v0, v1, v2, v3, v4, v5, v6, v7, v8, v9, v10, v11, v12), rfl⟩
  | _ => none
def kp14 : Nat → Keep := pinned 2 fun i => ⟨[], [], 0⟩
def on14 : Int × Int × Int × Int × Int × Int × Int × Int × List Int × Int × Int × List Int × List (List Int) × List T117 → NSt Ty := fun x => ⟨[.tup (.cons (.row 100002) (.cons (.int .i64 (x.1)) (.nil)))], [.var (.cons (.ptr 100001 []) (.cons (.cons (.int .i64 (x.2.1)) (.cons (.int .i64 (x.2.2.1)) (.cons (.int .i64 (x.2.2.2.1)) (.cons (.int .i64 (x.2.2.2.2.1)) (.nil))))) (.cons (.cons (.int .i64 (x.2.2.2.2.2.1)) (.cons (.int .i64 (x.2.2.2.2.2.2.1)) (.cons (.int .u32 (x.2.2.2.2.2.2.2.1)) (.cons (.slice 3 (x.2.2.2.2.2.2.2.2.1)) (.nil))))) (.nil)))), .var (.cons (.row 100003) (.cons (.row 100004) (.cons (.int .i64 (x.2.2.2.2.2.2.2.2.2.1)) (.cons (.int .i64 (x.2.2.2.2.2.2.2.2.2.2.1)) (.nil))))), .row 3 (x.2.2.2.2.2.2.2.2.2.2.2.1), .row 72 (x.2.2.2.2.2.2.2.2.2.2.2.2.1), .row 118 (x.2.2.2.2.2.2.2.2.2.2.2.2.2)]⟩
def oa14 : (n : NSt Ty) → Option {y : Int × Int × Int × Int × Int × Int × Int × Int × List Int × Int × Int × List Int × List (List Int) × List T117 // on14 y = n}
  | ⟨[.tup (.cons (.row 100002) (.cons (.int .i64 v0) (.nil)))], [.var (.cons (.ptr 100001 []) (.cons (.cons (.int .i64 v1) (.cons (.int .i64 v2) (.cons (.int .i64 v3) (.cons (.int .i64 v4) (.nil))))) (.cons (.cons (.int .i64 v5) (.cons (.int .i64 v6) (.cons (.int .u32 v7) (.cons (.slice 3 v8) (.nil))))) (.nil)))), .var (.cons (.row 100003) (.cons (.row 100004) (.cons (.int .i64 v9) (.cons (.int .i64 v10) (.nil))))), .row 3 v11, .row 72 v12, .row 118 v13]⟩ => some ⟨(v0, v1, v2, v3, v4, v5, v6, v7, v8, v9, v10, v11, v12, v13), rfl⟩
  | _ => none
/-- "(*silt/journal.Journal).Put"  -/
def F14 (k : Nat) (x : List T88 × Int × Int × Int × Int × Int × Int × Int × List Int × Int × Int × List (List Int) × List T117) : Option (Int × Int × Int × Int × Int × Int × Int × Int × List Int × Int × Int × List Int × List (List Int) × List T117) :=
  match x with
  | (v0, v1, v2, v3, v4, v5, v6, v7, v8, v9, v10, v11, v12) => (F35 k (v0, v1, v2, v3, v4, v5, v6, v7, v8, v9, v10, v11, v12)).bind fun r => bif r.fst.first.isSome then some (r.fst.first.getD (0 : Int), r.snd.fst, r.snd.snd.fst, r.snd.snd.snd.fst, r.snd.snd.snd.snd.fst, r.snd.snd.snd.snd.snd.fst, r.snd.snd.snd.snd.snd.snd.fst, r.snd.snd.snd.snd.snd.snd.snd.fst, r.snd.snd.snd.snd.snd.snd.snd.snd.fst, r.snd.snd.snd.snd.snd.snd.snd.snd.snd.fst, r.snd.snd.snd.snd.snd.snd.snd.snd.snd.snd.fst, [], r.snd.snd.snd.snd.snd.snd.snd.snd.snd.snd.snd.snd.fst, r.snd.snd.snd.snd.snd.snd.snd.snd.snd.snd.snd.snd.snd) else some ((0 : Int), r.snd.fst, r.snd.snd.fst, r.snd.snd.snd.fst, r.snd.snd.snd.snd.fst, r.snd.snd.snd.snd.snd.fst, r.snd.snd.snd.snd.snd.snd.fst, r.snd.snd.snd.snd.snd.snd.snd.fst, r.snd.snd.snd.snd.snd.snd.snd.snd.fst, r.snd.snd.snd.snd.snd.snd.snd.snd.snd.fst, r.snd.snd.snd.snd.snd.snd.snd.snd.snd.snd.fst, r.snd.snd.snd.snd.snd.snd.snd.snd.snd.snd.snd.fst, r.snd.snd.snd.snd.snd.snd.snd.snd.snd.snd.snd.snd.fst, r.snd.snd.snd.snd.snd.snd.snd.snd.snd.snd.snd.snd.snd)
noncomputable def sp14 : FSpec Ty := addH 2 ab14 F14 on14 sp14hn
theorem ok14 : FOK Tryz.prog tab 14 sp14 := addH_ok (keeps := kp14) tabOK fs35OK Tryz.func14 bo14 (by kernel_rfl) nd14 (LSOK.none) oa14 (F := F14) (fun k x => by kernel_rfl) (pinned_le (Nat.le_refl _) _) ok14hn rfl
noncomputable def fs14 : Nat → Option (FSpec Ty) := addF 14 sp14 fs35
theorem fs14OK : SpecsOK Tryz.prog tab fs14 := fs35OK.add ok14 Tryz.call14
theorem bo22 : Tryz.f22.body = some (bodyOf Tryz.f22) := by kernel_rfl
theorem nd22 : nodupB ((loopsIn (bodyOf Tryz.f22)).map firstRegion) = true := by kernel_rfl
def of22hn : Unit → NSt Ty := fun x => ⟨[.nilp], []⟩
def ab22hn : (n : NSt Ty) → Option {x : Unit // of22hn x = n}
  | ⟨[.nilp], []⟩ => some ⟨(), rfl⟩
  | _ => none
def kp22hn : Nat → Keep := pinned 0 fun i => ⟨[], [], 0⟩
def on22hn : Int × Int × Int × List Int → NSt Ty := fun x => ⟨[.cons (.int .i64 (x.1)) (.cons (.int .i64 (x.2.1)) (.cons (.int .u32 (x.2.2.1)) (.cons (.row 100000) (.nil))))], [.row 3 (x.2.2.2)]⟩
def oa22hn : (n : NSt Ty) → Option {y : Int × Int × Int × List Int // on22hn y = n}
  | ⟨[.cons (.int .i64 v0) (.cons (.int .i64 v1) (.cons (.int .u32 v2) (.cons (.row 100000) (.nil))))], [.row 3 v3]⟩ => some ⟨(v0, v1, v2, v3), rfl⟩
  | _ => none
/-- "(*silt/journal.Journal).At" hn -/
def F22hn (k : Nat) (x : Unit) : Option (Int × Int × Int × List Int) :=
  match x with
  | () => some ((0 : Int), (0 : Int), (0 : Int), [])
noncomputable def sp22hn : FSpec Ty := addH 0 ab22hn F22hn on22hn noH
theorem ok22hn : FOK Tryz.prog tab 22 sp22hn := addH_ok (keeps := kp22hn) tabOK fs14OK Tryz.func22 bo22 (by kernel_rfl) nd22 (LSOK.none) oa22hn (F := F22hn) (fun k x => by kernel_rfl) (pinned_le (Nat.le_refl _) _) FOK.none rfl
def of22 : Int × Int × Int × Int × Int × Int × Int × List Int × Int × Int × List (List Int) × List T117 → NSt Ty := fun x => ⟨[.ptr 100000 []], [.var (.cons (.ptr 100001 []) (.cons (.cons (.int .i64 (x.1)) (.cons (.int .i64 (x.2.1)) (.cons (.int .i64 (x.2.2.1)) (.cons (.int .i64 (x.2.2.2.1)) (.nil))))) (.cons (.cons (.int .i64 (x.2.2.2.2.1)) (.cons (.int .i64 (x.2.2.2.2.2.1)) (.cons (.int .u32 (x.2.2.2.2.2.2.1)) (.cons (.slice 3 (x.2.2.2.2.2.2.2.1)) (.nil))))) (.nil)))), .var (.cons (.row 100002) (.cons (.row 100003) (.cons (.int .i64 (x.2.2.2.2.2.2.2.2.1)) (.cons (.int .i64 (x.2.2.2.2.2.2.2.2.2.1)) (.nil))))), .row 72 (x.2.2.2.2.2.2.2.2.2.2.1), .row 118 (x.2.2.2.2.2.2.2.2.2.2.2)]⟩
def ab22 : (n : NSt Ty) → Option {x : Int × Int × Int × Int × Int × Int × Int × List Int × Int × Int × List (List Int) × List T117 // of22 x = n}
  | ⟨[.ptr 100000 []], [.var (.cons (.ptr 100001 []) (.cons (.cons (.int .i64 v0) (.cons (.int .i64 v1) (.cons (.int .i64 v2) (.cons (.int .i64 v3) (.nil))))) (.cons (.cons (.int .i64 v4) (.cons (.int .i64 v5) (.cons (.int .u32 v6) (.cons (.slice 3 v7) (.nil))))) (.nil)))), .var (.cons (.row 100002) (.cons (.row 100003) (.cons (.int .i64 v8) (.cons (.int .i64 v9) (.nil))))), .row 72 v10, .row 118 v11]⟩ => some ⟨(v0, v1, v2, v3, v4, v5, v6, v7, v8, v9, v10, v11), rfl⟩
  | _ => none
def kp22 : Nat → Keep := pinned 2 fun i => ⟨[], [], 0⟩
def on22 : Int × Int × Int × List Int × Int × Int × Int × Int × Int × Int × Int × List Int × Int × Int × List (List Int) × List T117 → NSt Ty := fun x => ⟨[.cons (.int .i64 (x.1)) (.cons (.int .i64 (x.2.1)) (.cons (.int .u32 (x.2.2.1)) (.cons (.slice 3 (x.2.2.2.1)) (.nil))))], [.var (.cons (.ptr 100001 []) (.cons (.cons (.int .i64 (x.2.2.2.2.1)) (.cons (.int .i64 (x.2.2.2.2.2.1)) (.cons (.int .i64 (x.2.2.2.2.2.2.1)) (.cons (.int .i64 (x.2.2.2.2.2.2.2.1)) (.nil))))) (.cons (.cons (.int .i64 (x.2.2.2.2.2.2.2.2.1)) (.cons (.int .i64 (x.2.2.2.2.2.2.2.2.2.1)) (.cons (.int .u32 (x.2.2.2.2.2.2.2.2.2.2.1)) (.cons (.slice 3 (x.2.2.2.2.2.2.2.2.2.2.2.1)) (.nil))))) (.nil)))), .var (.cons (.row 100002) (.cons (.row 100003) (.cons (.int .i64 (x.2.2.2.2.2.2.2.2.2.2.2.2.1)) (.cons (.int .i64 (x.2.2.2.2.2.2.2.2.2.2.2.2.2.1)) (.nil))))), .row 72 (x.2.2.2.2.2.2.2.2.2.2.2.2.2.2.1), .row 118 (x.2.2.2.2.2.2.2.2.2.2.2.2.2.2.2)]⟩
def oa22 : (n : NSt Ty) → Option {y : Int × Int × Int × List Int × Int × Int × Int × Int × Int × Int × Int × List Int × Int × Int × List (List Int) × List T117 // on22 y = n}
  | ⟨[.cons (.int .i64 v0) (.cons (.int .i64 v1) (.cons (.int .u32 v2) (.cons (.slice 3 v3) (.nil))))], [.var (.cons (.ptr 100001 []) (.cons (.cons (.int .i64 v4) (.cons (.int .i64 v5) (.cons (.int .i64 v6) (.cons (.int .i64 v7) (.nil))))) (.cons (.cons (.int .i64 v8) (.cons (.int .i64 v9) (.cons (.int .u32 v10) (.cons (.slice 3 v11) (.nil))))) (.nil)))), .var (.cons (.row 100002) (.cons (.row 100003) (.cons (.int .i64 v12) (.cons (.int .i64 v13) (.nil))))), .row 72 v14, .row 118 v15]⟩ => some ⟨(v0, v1, v2, v3, v4, v5, v6, v7, v8, v9, v10, v11, v12, v13, v14, v15), rfl⟩
  | _ => none
/-- "(*silt/journal.Journal).At"  -/
def F22 (k : Nat) (x : Int × Int × Int × Int × Int × Int × Int × List Int × Int × Int × List (List Int) × List T117) : Option (Int × Int × Int × List Int × Int × Int × Int × Int × Int × Int × Int × List Int × Int × Int × List (List Int) × List T117) :=
  match x with
  | (v0, v1, v2, v3, v4, v5, v6, v7, v8, v9, v10, v11) => (F32 k (T26.mk v4 v5 v6 v7, ())).bind fun r => some (r.1, r.2, r.3, r.4, v0, v1, v2, v3, v4, v5, v6, v7, v8, v9, v10, v11)
noncomputable def sp22 : FSpec Ty := addH 2 ab22 F22 on22 sp22hn
theorem ok22 : FOK Tryz.prog tab 22 sp22 := addH_ok (keeps := kp22) tabOK fs14OK Tryz.func22 bo22 (by kernel_rfl) nd22 (LSOK.none) oa22 (F := F22) (fun k x => by kernel_rfl) (pinned_le (Nat.le_refl _) _) ok22hn rfl
noncomputable def fs22 : Nat → Option (FSpec Ty) := addF 22 sp22 fs14
theorem fs22OK : SpecsOK Tryz.prog tab fs22 := fs14OK.add ok22 Tryz.call22
def ag17 : Args Ty ((List Int) × (List Int) × Unit) := V.arg (tab.den 25) (V.arg (tab.den 25) (noArgs))
def rs17 : Res Ty tab (Bool) false := V.oneRes (tab.den 4) (ent 4).ids (ent 4).plain (fun x _ => (ent 4).flat x rfl)
def of17_4 : List Int × List Int × Int → NSt Ty := fun x => ⟨[.slice 3 (x.1), .slice 3 (x.2.1), .int .i64 (x.2.2)], []⟩
def ab17_4 : (n : NSt Ty) → Option {x : List Int × List Int × Int // of17_4 x = n}
  | ⟨[.slice 3 v0, .slice 3 v1, .int .i64 v2], []⟩ => some ⟨(v0, v1, v2), rfl⟩
  | _ => none
def on17_4a : Bool → NSt Ty := fun x => ⟨[.bool (x)], []⟩
def on17_4b : Unit → NSt Ty := fun x => ⟨[.undef], []⟩
def oa17_4 : (e : Ex) → (n : NSt Ty) → Option {y : (Bool) ⊕ (Unit) // oe2 .ret (.exit 0) y = e ∧ on2 on17_4a on17_4b y = n}
  | .ret, ⟨[.bool v0], []⟩ => some ⟨.inl v0, rfl, rfl⟩
  | .exit 0, ⟨[.undef], []⟩ => some ⟨.inr (), rfl, rfl⟩
  | _, _ => none
/-- a round of the loop 4 of function 17 -/
def R17_4 (k : Nat) (again : List Int × List Int × Int → Option ((Bool) ⊕ (Unit))) (x : List Int × List Int × Int) : Option ((Bool) ⊕ (Unit)) :=
  match x with
  | (v0, v1, v2) => bif decide (v2 < (↑v0.length : Int)) then bif inRange v2 v0.length then bif inRange v2 v1.length then bif v0.getD v2.toNat (0 : Int) != v1.getD v2.toNat (0 : Int) then some (Sum.inl false) else again (v0, v1, IntKind.i64.wrap (v2 + (1 : Int))) else none else none else some (Sum.inr ())
def L17_4 (k n : Nat) (x : List Int × List Int × Int) : Option ((Bool) ⊕ (Unit)) := iterR (R17_4 k) n x
noncomputable def ls17_4 : Nat → Option (LSum Ty) := addL 4 (lsum2 of17_4 ab17_4 L17_4 .ret on17_4a (.exit 0) on17_4b) noL
def kp17 : Nat → Keep := fun i => cond (i == 4) ⟨[0, 1, 5], [4], 0⟩ (⟨[], [], 0⟩)
/-- "silt/siltkeep.Ints" -/
def F17 (k : Nat) (x : (List Int) × (List Int) × Unit) : Option (Bool) :=
  match x with
  | (a0, a1, ()) => bif (↑a0.length : Int) != (↑a1.length : Int) then some false else (L17_4 k k (a0, a1, (0 : Int))).bind fun r => sumK r (fun a => some a) fun b => some true
noncomputable def sp17 : FSpec Ty := spec ag17 rs17 F17
theorem bo17 : Tryz.f17.body = some (bodyOf Tryz.f17) := by kernel_rfl
theorem nd17 : nodupB ((loopsIn (bodyOf Tryz.f17)).map firstRegion) = true := by kernel_rfl
theorem lo17_4 : LSOK fs22 kp17 tab Tryz.f17 ls17_4 := lsum2_ok bo17 nd17 (LSOK.none) oa17_4 (R := R17_4) fun k again x => by kernel_rfl
theorem ok17 : FOK Tryz.prog tab 17 sp17 := spec_ok (keeps := kp17) tabOK fs22OK Tryz.func17 bo17 (by kernel_rfl) nd17 (lo17_4) (F := F17) fun k x => by kernel_rfl
noncomputable def fs17 : Nat → Option (FSpec Ty) := addF 17 sp17 fs22
theorem fs17OK : SpecsOK Tryz.prog tab fs17 := fs22OK.add ok17 Tryz.call17
theorem bo28 : Tryz.f28.body = some (bodyOf Tryz.f28) := by kernel_rfl
theorem nd28 : nodupB ((loopsIn (bodyOf Tryz.f28)).map firstRegion) = true := by kernel_rfl
def of28hn : Unit → NSt Ty := fun x => ⟨[.nilp], []⟩
def ab28hn : (n : NSt Ty) → Option {x : Unit // of28hn x = n}
  | ⟨[.nilp], []⟩ => some ⟨(), rfl⟩
  | _ => none
def kp28hn : Nat → Keep := pinned 0 fun i => ⟨[], [], 0⟩
def on28hn : Int → NSt Ty := fun x => ⟨[.int .i64 (x)], []⟩
def oa28hn : (n : NSt Ty) → Option {y : Int // on28hn y = n}
  | ⟨[.int .i64 v0], []⟩ => some ⟨v0, rfl⟩
  | _ => none
/-- "(*silt/dev.Dev).Loose" hn -/
def F28hn (k : Nat) (x : Unit) : Option (Int) :=
  match x with
  | () => (F48hn k (1 : Int)).bind fun r => some r
noncomputable def sp28hn : FSpec Ty := addH 0 ab28hn F28hn on28hn noH
theorem ok28hn : FOK Tryz.prog tab 28 sp28hn := addH_ok (keeps := kp28hn) tabOK fs17OK Tryz.func28 bo28 (by kernel_rfl) nd28 (LSOK.none) oa28hn (F := F28hn) (fun k x => by kernel_rfl) (pinned_le (Nat.le_refl _) _) FOK.none rfl
def of28 : Int × Int × List (List Int) × List T117 → NSt Ty := fun x => ⟨[.ptr 100000 []], [.var (.cons (.row 100001) (.cons (.row 100002) (.cons (.int .i64 (x.1)) (.cons (.int .i64 (x.2.1)) (.nil))))), .row 72 (x.2.2.1), .row 118 (x.2.2.2)]⟩
def ab28 : (n : NSt Ty) → Option {x : Int × Int × List (List Int) × List T117 // of28 x = n}
  | ⟨[.ptr 100000 []], [.var (.cons (.row 100001) (.cons (.row 100002) (.cons (.int .i64 v0) (.cons (.int .i64 v1) (.nil))))), .row 72 v2, .row 118 v3]⟩ => some ⟨(v0, v1, v2, v3), rfl⟩
  | _ => none
def kp28 : Nat → Keep := pinned 1 fun i => ⟨[], [], 0⟩
def on28 : Int × Int × Int × List (List Int) × List T117 → NSt Ty := fun x => ⟨[.int .i64 (x.1)], [.var (.cons (.row 100001) (.cons (.row 100002) (.cons (.int .i64 (x.2.1)) (.cons (.int .i64 (x.2.2.1)) (.nil))))), .row 72 (x.2.2.2.1), .row 118 (x.2.2.2.2)]⟩
def oa28 : (n : NSt Ty) → Option {y : Int × Int × Int × List (List Int) × List T117 // on28 y = n}
  | ⟨[.int .i64 v0], [.var (.cons (.row 100001) (.cons (.row 100002) (.cons (.int .i64 v1) (.cons (.int .i64 v2) (.nil))))), .row 72 v3, .row 118 v4]⟩ => some ⟨(v0, v1, v2, v3, v4), rfl⟩
  | _ => none
/-- "(*silt/dev.Dev).Loose"  -/
def F28 (k : Nat) (x : Int × Int × List (List Int) × List T117) : Option (Int × Int × Int × List (List Int) × List T117) :=
  match x with
  | (v0, v1, v2, v3) => (F48 k ((1 : Int), v0, v1, v2, v3)).bind fun r => some (r.fst, r.snd.fst, r.snd.snd.fst, r.snd.snd.snd.fst, r.snd.snd.snd.snd)
noncomputable def sp28 : FSpec Ty := addH 1 ab28 F28 on28 sp28hn
theorem ok28 : FOK Tryz.prog tab 28 sp28 := addH_ok (keeps := kp28) tabOK fs17OK Tryz.func28 bo28 (by kernel_rfl) nd28 (LSOK.none) oa28 (F := F28) (fun k x => by kernel_rfl) (pinned_le (Nat.le_refl _) _) ok28hn rfl
noncomputable def fs28 : Nat → Option (FSpec Ty) := addF 28 sp28 fs17
theorem fs28OK : SpecsOK Tryz.prog tab fs28 := fs17OK.add ok28 Tryz.call28
def ag5 : Args Ty (Unit) := noArgs
def rs5 : Res Ty tab (Bool) false := V.oneRes (tab.den 4) (ent 4).ids (ent 4).plain (fun x _ => (ent 4).flat x rfl)
def kp5 : Nat → Keep := fun i => ⟨[], [], 0⟩
/-- "silt/siltlaw14.wakes" -/
def F5 (k : Nat) (x : Unit) : Option (Bool) :=
  match x with
  | () => (F7 k (200 : Int)).bind fun r => sumK r (fun a => (F26 k ()).bind fun r => (F9hn k (r.1, r.2, r.3, r.4, (1 : Int), (22 : Int), (5 : Int), ((List.replicate (2 : Nat) (0 : Int)).set (0 : Nat) (3 : Int)).set (1 : Nat) (4 : Int))).bind fun r => sumK r (fun a_1 => bif a != (0 : Int) then some false else bif a_1 != (0 : Int) then some false else some false) fun b => bif a != (0 : Int) then some false else bif b.fst != (0 : Int) then some false else (F27 k ((3 : Int), (7 : Int), ())).bind fun r => none) fun b => (F26 k ()).bind fun r => (F9 k (r.1, r.2, r.3, r.4, (1 : Int), (22 : Int), (5 : Int), ((List.replicate (2 : Nat) (0 : Int)).set (0 : Nat) (3 : Int)).set (1 : Nat) (4 : Int), b.snd.fst, b.snd.snd.fst, b.snd.snd.snd.fst, b.snd.snd.snd.snd)).bind fun r => sumK r (fun a => bif b.fst != (0 : Int) then some false else bif a.fst != (0 : Int) then some false else some false) fun b_1 => bif b.fst != (0 : Int) then some false else bif b_1.fst != (0 : Int) then some false else (F27 k ((3 : Int), (7 : Int), ())).bind fun r => (F14 k ((List.replicate (1 : Nat) (T88.mk (T80.mk (0 : Int) (0 : Int)) (T86.mk (0 : Int) (0 : Int) (List.replicate (32 : Nat) (0 : Int)) (0 : Int) [] (0 : Int) (List.replicate (8 : Nat) (0 : Int))))).set (0 : Nat) (T88.mk (T80.mk r.1.1 r.1.2) (T86.mk r.2.1 r.2.2 r.2.3 r.2.4 r.2.5 r.2.6 r.2.7)), b_1.snd.snd.snd.fst, b_1.snd.snd.snd.snd.fst, b_1.snd.snd.snd.snd.snd.fst, b_1.snd.snd.snd.snd.snd.snd.fst, b_1.snd.snd.snd.snd.snd.snd.snd.fst, b_1.snd.snd.snd.snd.snd.snd.snd.snd.fst, b_1.snd.snd.snd.snd.snd.snd.snd.snd.snd.fst, b_1.snd.snd.snd.snd.snd.snd.snd.snd.snd.snd.fst, b_1.snd.fst, b_1.snd.snd.fst, b_1.snd.snd.snd.snd.snd.snd.snd.snd.snd.snd.snd.fst, b_1.snd.snd.snd.snd.snd.snd.snd.snd.snd.snd.snd.snd)).bind fun r => (F27 k ((4 : Int), (8 : Int), ())).bind fun r_1 => (F14 k (((List.replicate (2 : Nat) (T88.mk (T80.mk (0 : Int) (0 : Int)) (T86.mk (0 : Int) (0 : Int) (List.replicate (32 : Nat) (0 : Int)) (0 : Int) [] (0 : Int) (List.replicate (8 : Nat) (0 : Int))))).set (0 : Nat) (T88.mk (T80.mk r_1.1.1 r_1.1.2) (T86.mk r_1.2.1 r_1.2.2 r_1.2.3 r_1.2.4 r_1.2.5 r_1.2.6 r_1.2.7))).set (1 : Nat) (T88.mk (T80.mk (5 : Int) (5 : Int)) (T86.mk (0 : Int) (0 : Int) (List.replicate (32 : Nat) (0 : Int)) (0 : Int) [] (0 : Int) (List.replicate (8 : Nat) (0 : Int)))), r.snd.fst, r.snd.snd.fst, r.snd.snd.snd.fst, r.snd.snd.snd.snd.fst, r.snd.snd.snd.snd.snd.fst, r.snd.snd.snd.snd.snd.snd.fst, r.snd.snd.snd.snd.snd.snd.snd.fst, r.snd.snd.snd.snd.snd.snd.snd.snd.fst, r.snd.snd.snd.snd.snd.snd.snd.snd.snd.fst, r.snd.snd.snd.snd.snd.snd.snd.snd.snd.snd.fst, r.snd.snd.snd.snd.snd.snd.snd.snd.snd.snd.snd.snd.fst, r.snd.snd.snd.snd.snd.snd.snd.snd.snd.snd.snd.snd.snd)).bind fun r_2 => (F22 k (r_2.snd.fst, r_2.snd.snd.fst, r_2.snd.snd.snd.fst, r_2.snd.snd.snd.snd.fst, r_2.snd.snd.snd.snd.snd.fst, r_2.snd.snd.snd.snd.snd.snd.fst, r_2.snd.snd.snd.snd.snd.snd.snd.fst, r_2.snd.snd.snd.snd.snd.snd.snd.snd.fst, r_2.snd.snd.snd.snd.snd.snd.snd.snd.snd.fst, r_2.snd.snd.snd.snd.snd.snd.snd.snd.snd.snd.fst, r_2.snd.snd.snd.snd.snd.snd.snd.snd.snd.snd.snd.snd.fst, r_2.snd.snd.snd.snd.snd.snd.snd.snd.snd.snd.snd.snd.snd)).bind fun r_3 => bif r.fst == (0 : Int) then (F17 k (r.snd.snd.snd.snd.snd.snd.snd.snd.snd.snd.snd.fst, (List.replicate (1 : Nat) (0 : Int)).set (0 : Nat) (51 : Int), ())).bind fun r => bif r then bif r_2.fst == (0 : Int) then (F17 k (r_2.snd.snd.snd.snd.snd.snd.snd.snd.snd.snd.snd.fst, ((List.replicate (2 : Nat) (0 : Int)).set (0 : Nat) (77 : Int)).set (1 : Nat) (0 : Int), ())).bind fun r => bif r then bif r_3.fst == (3 : Int) then bif r_3.snd.fst == (2 : Int) then bif r_3.snd.snd.fst == (7 : Int) then (F17 k (r_3.snd.snd.snd.fst, (List.replicate (1 : Nat) (0 : Int)).set (0 : Nat) (4 : Int), ())).bind fun r => bif r then (F28 k (r_3.snd.snd.snd.snd.snd.snd.snd.snd.snd.snd.snd.snd.fst, r_3.snd.snd.snd.snd.snd.snd.snd.snd.snd.snd.snd.snd.snd.fst, r_3.snd.snd.snd.snd.snd.snd.snd.snd.snd.snd.snd.snd.snd.snd.fst, r_3.snd.snd.snd.snd.snd.snd.snd.snd.snd.snd.snd.snd.snd.snd.snd)).bind fun r => bif r.fst == (0 : Int) then (F26 k ()).bind fun r => (F12 k (T22.mk r.1 r.2 r.3 r.4, T26.mk r_3.fst r_3.snd.fst r_3.snd.snd.fst r_3.snd.snd.snd.fst, ())).bind fun r => some r else some false else some false else some false else some false else some false else some false else some false else some false else some false
noncomputable def sp5 : FSpec Ty := spec ag5 rs5 F5
theorem bo5 : Tryz.f5.body = some (bodyOf Tryz.f5) := by kernel_rfl
theorem nd5 : nodupB ((loopsIn (bodyOf Tryz.f5)).map firstRegion) = true := by kernel_rfl
theorem ok5 : FOK Tryz.prog tab 5 sp5 := spec_ok (keeps := kp5) tabOK fs28OK Tryz.func5 bo5 (by kernel_rfl) nd5 (LSOK.none) (F := F5) fun k x => by kernel_rfl
noncomputable def fs5 : Nat → Option (FSpec Ty) := addF 5 sp5 fs28
theorem fs5OK : SpecsOK Tryz.prog tab fs5 := fs28OK.add ok5 Tryz.call5
def ag29 : Args Ty (T22 × Unit) := V.arg (tab.den 23) (noArgs)
def rs29 : Res Ty tab (Bool) false := V.oneRes (tab.den 4) (ent 4).ids (ent 4).plain (fun x _ => (ent 4).flat x rfl)
def kp29 : Nat → Keep := fun i => ⟨[], [], 0⟩
/-- "silt/siltref03.Good" -/
def F29 (k : Nat) (x : T22 × Unit) : Option (Bool) :=
  match x with
  | (a0, ()) => bif decide (a0.1 ≥ (1 : Int)) then bif decide (a0.1 ≤ (64 : Int)) then bif decide (a0.2 ≥ (6 : Int)) then bif decide (a0.2 ≤ (16 : Int)) then bif decide (a0.3 ≥ (24 : Int)) then bif decide (a0.3 ≤ (32 : Int)) then bif decide (a0.4 ≥ (2 : Int)) then some (decide (a0.4 ≤ (16 : Int))) else some false else some false else some false else some false else some false else some false else some false
noncomputable def sp29 : FSpec Ty := spec ag29 rs29 F29
theorem bo29 : Tryz.f29.body = some (bodyOf Tryz.f29) := by kernel_rfl
theorem nd29 : nodupB ((loopsIn (bodyOf Tryz.f29)).map firstRegion) = true := by kernel_rfl
theorem ok29 : FOK Tryz.prog tab 29 sp29 := spec_ok (keeps := kp29) tabOK fs5OK Tryz.func29 bo29 (by kernel_rfl) nd29 (LSOK.none) (F := F29) fun k x => by kernel_rfl
noncomputable def fs29 : Nat → Option (FSpec Ty) := addF 29 sp29 fs5
theorem fs29OK : SpecsOK Tryz.prog tab fs29 := fs5OK.add ok29 Tryz.call29
def ag6 : Args Ty (T22 × Unit) := V.arg (tab.den 23) (noArgs)
def rs6 : Res Ty tab (T31) false := V.oneRes (tab.den 32) (ent 32).ids (ent 32).plain (fun x _ => (ent 32).flat x rfl)
def kp6 : Nat → Keep := fun i => ⟨[], [], 0⟩
/-- "silt/siltref03.Of" -/
def F6 (k : Nat) (x : T22 × Unit) : Option (T31) :=
  match x with
  | (a0, ()) => (F29 k (T22.mk a0.1 a0.2 a0.3 a0.4, ())).bind fun r => bif !r then some (T31.mk (0 : Int) (0 : Int) (0 : Int)) else some (T31.mk (IntKind.i64.wrap ((IntKind.i64.wrap (a0.1 + (7 : Int))).tdiv (8 : Int))) (IntKind.i64.wrap ((4 : Int) + IntKind.i64.wrap (a0.2 * a0.3))) (if (if IntKind.i64.wrap ((IntKind.i64.wrap (IntKind.i64.wrap ((4 : Int) * IntKind.i64.wrap (a0.2 - (4 : Int))) - IntKind.i64.wrap ((IntKind.i64.wrap (a0.1 + (7 : Int))).tdiv (8 : Int)))).tdiv (3 : Int)) < a0.1 then IntKind.i64.wrap ((IntKind.i64.wrap (IntKind.i64.wrap ((4 : Int) * IntKind.i64.wrap (a0.2 - (4 : Int))) - IntKind.i64.wrap ((IntKind.i64.wrap (a0.1 + (7 : Int))).tdiv (8 : Int)))).tdiv (3 : Int)) else a0.1) > (0 : Int) then if IntKind.i64.wrap ((IntKind.i64.wrap (IntKind.i64.wrap ((4 : Int) * IntKind.i64.wrap (a0.2 - (4 : Int))) - IntKind.i64.wrap ((IntKind.i64.wrap (a0.1 + (7 : Int))).tdiv (8 : Int)))).tdiv (3 : Int)) < a0.1 then IntKind.i64.wrap ((IntKind.i64.wrap (IntKind.i64.wrap ((4 : Int) * IntKind.i64.wrap (a0.2 - (4 : Int))) - IntKind.i64.wrap ((IntKind.i64.wrap (a0.1 + (7 : Int))).tdiv (8 : Int)))).tdiv (3 : Int)) else a0.1 else (0 : Int)))
noncomputable def sp6 : FSpec Ty := spec ag6 rs6 F6
theorem bo6 : Tryz.f6.body = some (bodyOf Tryz.f6) := by kernel_rfl
theorem nd6 : nodupB ((loopsIn (bodyOf Tryz.f6)).map firstRegion) = true := by kernel_rfl
theorem ok6 : FOK Tryz.prog tab 6 sp6 := spec_ok (keeps := kp6) tabOK fs29OK Tryz.func6 bo6 (by kernel_rfl) nd6 (LSOK.none) (F := F6) fun k x => by kernel_rfl
noncomputable def fs6 : Nat → Option (FSpec Ty) := addF 6 sp6 fs29
theorem fs6OK : SpecsOK Tryz.prog tab fs6 := fs29OK.add ok6 Tryz.call6
theorem bo8 : Tryz.f8.body = some (bodyOf Tryz.f8) := by kernel_rfl
theorem nd8 : nodupB ((loopsIn (bodyOf Tryz.f8)).map firstRegion) = true := by kernel_rfl
def of8 : Int → NSt Ty := fun x => ⟨[.int .i64 (x)], []⟩
def ab8 : (n : NSt Ty) → Option {x : Int // of8 x = n}
  | ⟨[.int .i64 v0], []⟩ => some ⟨v0, rfl⟩
  | _ => none
def kp8 : Nat → Keep := pinned 0 fun i => ⟨[], [], 0⟩
def on8a : Int → NSt Ty := fun x => ⟨[.tup (.cons (.nilp) (.cons (.int .i64 (x)) (.nil)))], []⟩
def on8b : Int × Int × Int × List (List Int) × List T119 → NSt Ty := fun x => ⟨[.tup (.cons (.ptr 100000 []) (.cons (.int .i64 (x.1)) (.nil)))], [.var (.cons (.row 100001) (.cons (.row 100002) (.cons (.int .i64 (x.2.1)) (.cons (.int .i64 (x.2.2.1)) (.nil))))), .row 72 (x.2.2.2.1), .row 120 (x.2.2.2.2)]⟩
def oa8 : (n : NSt Ty) → Option {y : (Int) ⊕ (Int × Int × Int × List (List Int) × List T119) // on2 on8a on8b y = n}
  | ⟨[.tup (.cons (.nilp) (.cons (.int .i64 v0) (.nil)))], []⟩ => some ⟨.inl v0, rfl⟩
  | ⟨[.tup (.cons (.ptr 100000 []) (.cons (.int .i64 v0) (.nil)))], [.var (.cons (.row 100001) (.cons (.row 100002) (.cons (.int .i64 v1) (.cons (.int .i64 v2) (.nil))))), .row 72 v3, .row 120 v4]⟩ => some ⟨.inr (v0, v1, v2, v3, v4), rfl⟩
  | _ => none
/-- "silt/siltref02.New"  -/
def F8 (k : Nat) (x : Int) : Option ((Int) ⊕ (Int × Int × Int × List (List Int) × List T119)) :=
  match x with
  | v0 => bif decide (v0 < (1 : Int)) then some (Sum.inl (1 : Int)) else bif decide (v0 > (1024 : Int)) then some (Sum.inl (1 : Int)) else bif decide (v0 = v0) && decide ((0 : Int) ≤ v0) && decide (v0 ≤ (↑roomMost : Int)) then some (Sum.inr ((0 : Int), (-1 : Int), (0 : Int), List.replicate v0.toNat (List.replicate (64 : Nat) (0 : Int)), [])) else none
noncomputable def sp8 : FSpec Ty := addH2 0 ab8 F8 on8a on8b noH
theorem ok8 : FOK Tryz.prog tab 8 sp8 := addH2_ok (keeps := kp8) tabOK fs6OK Tryz.func8 bo8 (by kernel_rfl) nd8 (LSOK.none) oa8 (F := F8) (fun k x => by kernel_rfl) (pinned_le (Nat.le_refl _) _) FOK.none rfl
noncomputable def fs8 : Nat → Option (FSpec Ty) := addF 8 sp8 fs6
theorem fs8OK : SpecsOK Tryz.prog tab fs8 := fs6OK.add ok8 Tryz.call8
def ag11 : Args Ty (T26 × Unit) := V.arg (tab.den 27) (noArgs)
def rs11 : Res Ty tab (T26) true := V.oneRes (tab.den 47) (ent 47).ids (ent 47).plain (fun _ h => by cases h)
def kp11 : Nat → Keep := fun i => ⟨[], [], 0⟩
/-- "silt/siltlaw14.Own" -/
def F11 (k : Nat) (x : T26 × Unit) : Option (T26) :=
  match x with
  | (a0, ()) => bif decide ((List.replicate (0 : Nat) (0 : Int)).length + a0.4.length ≤ roomMost) then some (T26.mk a0.1 a0.2 a0.3 (List.replicate (0 : Nat) (0 : Int) ++ a0.4)) else none
noncomputable def sp11 : FSpec Ty := spec ag11 rs11 F11
theorem bo11 : Tryz.f11.body = some (bodyOf Tryz.f11) := by kernel_rfl
theorem nd11 : nodupB ((loopsIn (bodyOf Tryz.f11)).map firstRegion) = true := by kernel_rfl
theorem ok11 : FOK Tryz.prog tab 11 sp11 := spec_ok (keeps := kp11) tabOK fs8OK Tryz.func11 bo11 (by kernel_rfl) nd11 (LSOK.none) (F := F11) fun k x => by kernel_rfl
noncomputable def fs11 : Nat → Option (FSpec Ty) := addF 11 sp11 fs8
theorem fs11OK : SpecsOK Tryz.prog tab fs11 := fs8OK.add ok11 Tryz.call11
def ag13 : Args Ty (T22 × T26 × Unit) := V.arg (tab.den 23) (V.arg (tab.den 47) (noArgs))
def rs13 : Res Ty tab (Bool) false := V.oneRes (tab.den 4) (ent 4).ids (ent 4).plain (fun x _ => (ent 4).flat x rfl)
def of13_4 : Int × Int × Int × Int × Int × Int × Int × Int × List Int → NSt Ty := fun x => ⟨[.ptr 100000 [], .ptr 100001 [], .int .i64 (x.1)], [.var (.cons (.int .i64 (x.2.1)) (.cons (.int .i64 (x.2.2.1)) (.cons (.int .i64 (x.2.2.2.1)) (.cons (.int .i64 (x.2.2.2.2.1)) (.nil))))), .var (.cons (.int .i64 (x.2.2.2.2.2.1)) (.cons (.int .i64 (x.2.2.2.2.2.2.1)) (.cons (.int .u32 (x.2.2.2.2.2.2.2.1)) (.cons (.slice 3 (x.2.2.2.2.2.2.2.2)) (.nil)))))]⟩
def ab13_4 : (n : NSt Ty) → Option {x : Int × Int × Int × Int × Int × Int × Int × Int × List Int // of13_4 x = n}
  | ⟨[.ptr 100000 [], .ptr 100001 [], .int .i64 v0], [.var (.cons (.int .i64 v1) (.cons (.int .i64 v2) (.cons (.int .i64 v3) (.cons (.int .i64 v4) (.nil))))), .var (.cons (.int .i64 v5) (.cons (.int .i64 v6) (.cons (.int .u32 v7) (.cons (.slice 3 v8) (.nil)))))]⟩ => some ⟨(v0, v1, v2, v3, v4, v5, v6, v7, v8), rfl⟩
  | _ => none
def on13_4a : Bool → NSt Ty := fun x => ⟨[.bool (x)], []⟩
def on13_4b : Unit → NSt Ty := fun x => ⟨[.undef], []⟩
def oa13_4 : (e : Ex) → (n : NSt Ty) → Option {y : (Bool) ⊕ (Unit) // oe2 .ret (.exit 0) y = e ∧ on2 on13_4a on13_4b y = n}
  | .ret, ⟨[.bool v0], []⟩ => some ⟨.inl v0, rfl, rfl⟩
  | .exit 0, ⟨[.undef], []⟩ => some ⟨.inr (), rfl, rfl⟩
  | _, _ => none
/-- a round of the loop 4 of function 13 -/
def R13_4 (k : Nat) (again : Int × Int × Int × Int × Int × Int × Int × Int × List Int → Option ((Bool) ⊕ (Unit))) (x : Int × Int × Int × Int × Int × Int × Int × Int × List Int) : Option ((Bool) ⊕ (Unit)) :=
  match x with
  | (v0, v1, v2, v3, v4, v5, v6, v7, v8) => bif decide (v0 < (↑v8.length : Int)) then bif inRange v0 v8.length then bif decide (v8.getD v0.toNat (0 : Int) < (0 : Int)) then some (Sum.inl false) else bif inRange v0 v8.length then bif decide (v8.getD v0.toNat (0 : Int) ≥ v2) then some (Sum.inl false) else bif inRange v0 v8.length then bif v8.getD v0.toNat (0 : Int) == v5 then some (Sum.inl false) else bif decide (v0 > (0 : Int)) then bif inRange v0 v8.length then bif inRange (IntKind.i64.wrap (v0 - (1 : Int))) v8.length then bif decide (v8.getD v0.toNat (0 : Int) ≤ v8.getD (IntKind.i64.wrap (v0 - (1 : Int))).toNat (0 : Int)) then some (Sum.inl false) else again (IntKind.i64.wrap (v0 + (1 : Int)), v1, v2, v3, v4, v5, v6, v7, v8) else none else none else again (IntKind.i64.wrap (v0 + (1 : Int)), v1, v2, v3, v4, v5, v6, v7, v8) else none else none else none else some (Sum.inr ())
def L13_4 (k n : Nat) (x : Int × Int × Int × Int × Int × Int × Int × Int × List Int) : Option ((Bool) ⊕ (Unit)) := iterR (R13_4 k) n x
noncomputable def ls13_4 : Nat → Option (LSum Ty) := addL 4 (lsum2 of13_4 ab13_4 L13_4 .ret on13_4a (.exit 0) on13_4b) noL
def kp13 : Nat → Keep := fun i => cond (i == 4) ⟨[2, 3, 5], [4], 0⟩ (⟨[], [], 0⟩)
/-- "silt/siltref14.Good" -/
def F13 (k : Nat) (x : T22 × T26 × Unit) : Option (Bool) :=
  match x with
  | (a0, a1, ()) => (F29 k (T22.mk a0.1 a0.2 a0.3 a0.4, ())).bind fun r => bif !r then some false else bif decide (a1.1 < (0 : Int)) then some false else bif decide (a1.1 ≥ a0.2) then some false else bif decide (a1.2 < (0 : Int)) then some false else bif decide (a1.2 > a0.3) then some false else (L13_4 k k ((0 : Int), a0.1, a0.2, a0.3, a0.4, a1.1, a1.2, a1.3, a1.4)).bind fun r => sumK r (fun a => some a) fun b => some true
noncomputable def sp13 : FSpec Ty := spec ag13 rs13 F13
theorem bo13 : Tryz.f13.body = some (bodyOf Tryz.f13) := by kernel_rfl
theorem nd13 : nodupB ((loopsIn (bodyOf Tryz.f13)).map firstRegion) = true := by kernel_rfl
theorem lo13_4 : LSOK fs11 kp13 tab Tryz.f13 ls13_4 := lsum2_ok bo13 nd13 (LSOK.none) oa13_4 (R := R13_4) fun k again x => by kernel_rfl
theorem ok13 : FOK Tryz.prog tab 13 sp13 := spec_ok (keeps := kp13) tabOK fs11OK Tryz.func13 bo13 (by kernel_rfl) nd13 (lo13_4) (F := F13) fun k x => by kernel_rfl
noncomputable def fs13 : Nat → Option (FSpec Ty) := addF 13 sp13 fs11
theorem fs13OK : SpecsOK Tryz.prog tab fs13 := fs11OK.add ok13 Tryz.call13
def ag33 : Args Ty (T26 × Unit) := V.arg (tab.den 47) (noArgs)
def rs33 : Res Ty tab (T26) true := V.oneRes (tab.den 47) (ent 47).ids (ent 47).plain (fun _ h => by cases h)
def kp33 : Nat → Keep := fun i => ⟨[], [], 0⟩
/-- "silt/siltref14.Copy" -/
def F33 (k : Nat) (x : T26 × Unit) : Option (T26) :=
  match x with
  | (a0, ()) => bif decide ((List.replicate (0 : Nat) (0 : Int)).length + a0.4.length ≤ roomMost) then some (T26.mk a0.1 a0.2 a0.3 (List.replicate (0 : Nat) (0 : Int) ++ a0.4)) else none
noncomputable def sp33 : FSpec Ty := spec ag33 rs33 F33
theorem bo33 : Tryz.f33.body = some (bodyOf Tryz.f33) := by kernel_rfl
theorem nd33 : nodupB ((loopsIn (bodyOf Tryz.f33)).map firstRegion) = true := by kernel_rfl
theorem ok33 : FOK Tryz.prog tab 33 sp33 := spec_ok (keeps := kp33) tabOK fs13OK Tryz.func33 bo33 (by kernel_rfl) nd33 (LSOK.none) (F := F33) fun k x => by kernel_rfl
noncomputable def fs33 : Nat → Option (FSpec Ty) := addF 33 sp33 fs13
theorem fs33OK : SpecsOK Tryz.prog tab fs33 := fs13OK.add ok33 Tryz.call33
theorem bo10 : Tryz.f10.body = some (bodyOf Tryz.f10) := by kernel_rfl
theorem nd10 : nodupB ((loopsIn (bodyOf Tryz.f10)).map firstRegion) = true := by kernel_rfl
def of10hn : Int × Int × Int × Int × Int × Int × Int × List Int → NSt Ty := fun x => ⟨[.nilp, .cons (.int .i64 (x.1)) (.cons (.int .i64 (x.2.1)) (.cons (.int .i64 (x.2.2.1)) (.cons (.int .i64 (x.2.2.2.1)) (.nil)))), .cons (.int .i64 (x.2.2.2.2.1)) (.cons (.int .i64 (x.2.2.2.2.2.1)) (.cons (.int .u32 (x.2.2.2.2.2.2.1)) (.cons (.slice 3 (x.2.2.2.2.2.2.2)) (.nil))))], []⟩
def ab10hn : (n : NSt Ty) → Option {x : Int × Int × Int × Int × Int × Int × Int × List Int // of10hn x = n}
  | ⟨[.nilp, .cons (.int .i64 v0) (.cons (.int .i64 v1) (.cons (.int .i64 v2) (.cons (.int .i64 v3) (.nil)))), .cons (.int .i64 v4) (.cons (.int .i64 v5) (.cons (.int .u32 v6) (.cons (.slice 3 v7) (.nil))))], []⟩ => some ⟨(v0, v1, v2, v3, v4, v5, v6, v7), rfl⟩
  | _ => none
def kp10hn : Nat → Keep := pinned 0 fun i => ⟨[], [], 0⟩
def on10hn : Int → NSt Ty := fun x => ⟨[.tup (.cons (.nilp) (.cons (.int .i64 (x)) (.nil)))], []⟩
def oa10hn : (n : NSt Ty) → Option {y : Int // on10hn y = n}
  | ⟨[.tup (.cons (.nilp) (.cons (.int .i64 v0) (.nil)))], []⟩ => some ⟨v0, rfl⟩
  | _ => none
/-- "silt/siltref14.New" hn -/
def F10hn (k : Nat) (x : Int × Int × Int × Int × Int × Int × Int × List Int) : Option (Int) :=
  match x with
  | (v0, v1, v2, v3, v4, v5, v6, v7) => some (1 : Int)
noncomputable def sp10hn : FSpec Ty := addH 0 ab10hn F10hn on10hn noH
theorem ok10hn : FOK Tryz.prog tab 10 sp10hn := addH_ok (keeps := kp10hn) tabOK fs33OK Tryz.func10 bo10 (by kernel_rfl) nd10 (LSOK.none) oa10hn (F := F10hn) (fun k x => by kernel_rfl) (pinned_le (Nat.le_refl _) _) FOK.none rfl
def of10 : Int × Int × Int × Int × Int × Int × Int × List Int × Int × Int × List (List Int) × List T119 → NSt Ty := fun x => ⟨[.ptr 100000 [], .cons (.int .i64 (x.1)) (.cons (.int .i64 (x.2.1)) (.cons (.int .i64 (x.2.2.1)) (.cons (.int .i64 (x.2.2.2.1)) (.nil)))), .cons (.int .i64 (x.2.2.2.2.1)) (.cons (.int .i64 (x.2.2.2.2.2.1)) (.cons (.int .u32 (x.2.2.2.2.2.2.1)) (.cons (.slice 3 (x.2.2.2.2.2.2.2.1)) (.nil))))], [.var (.cons (.row 100001) (.cons (.row 100002) (.cons (.int .i64 (x.2.2.2.2.2.2.2.2.1)) (.cons (.int .i64 (x.2.2.2.2.2.2.2.2.2.1)) (.nil))))), .row 72 (x.2.2.2.2.2.2.2.2.2.2.1), .row 120 (x.2.2.2.2.2.2.2.2.2.2.2)]⟩
def ab10 : (n : NSt Ty) → Option {x : Int × Int × Int × Int × Int × Int × Int × List Int × Int × Int × List (List Int) × List T119 // of10 x = n}
  | ⟨[.ptr 100000 [], .cons (.int .i64 v0) (.cons (.int .i64 v1) (.cons (.int .i64 v2) (.cons (.int .i64 v3) (.nil)))), .cons (.int .i64 v4) (.cons (.int .i64 v5) (.cons (.int .u32 v6) (.cons (.slice 3 v7) (.nil))))], [.var (.cons (.row 100001) (.cons (.row 100002) (.cons (.int .i64 v8) (.cons (.int .i64 v9) (.nil))))), .row 72 v10, .row 120 v11]⟩ => some ⟨(v0, v1, v2, v3, v4, v5, v6, v7, v8, v9, v10, v11), rfl⟩
  | _ => none
def kp10 : Nat → Keep := pinned 1 fun i => ⟨[], [], 0⟩
def on10a : Int × Int × Int × List (List Int) × List T119 → NSt Ty := fun x => ⟨[.tup (.cons (.nilp) (.cons (.int .i64 (x.1)) (.nil)))], [.var (.cons (.row 100001) (.cons (.row 100002) (.cons (.int .i64 (x.2.1)) (.cons (.int .i64 (x.2.2.1)) (.nil))))), .row 72 (x.2.2.2.1), .row 120 (x.2.2.2.2)]⟩
def on10b : Int × Int × Int × Int × Int × Int × Int × Int × Int × Int × List Int × List (List Int) × List T119 → NSt Ty := fun x => ⟨[.tup (.cons (.ptr 100001 []) (.cons (.int .i64 (x.1)) (.nil)))], [.var (.cons (.row 100002) (.cons (.row 100003) (.cons (.int .i64 (x.2.1)) (.cons (.int .i64 (x.2.2.1)) (.nil))))), .var (.cons (.ptr 100000 []) (.cons (.cons (.int .i64 (x.2.2.2.1)) (.cons (.int .i64 (x.2.2.2.2.1)) (.cons (.int .i64 (x.2.2.2.2.2.1)) (.cons (.int .i64 (x.2.2.2.2.2.2.1)) (.nil))))) (.cons (.cons (.int .i64 (x.2.2.2.2.2.2.2.1)) (.cons (.int .i64 (x.2.2.2.2.2.2.2.2.1)) (.cons (.int .u32 (x.2.2.2.2.2.2.2.2.2.1)) (.cons (.slice 3 (x.2.2.2.2.2.2.2.2.2.2.1)) (.nil))))) (.nil)))), .row 72 (x.2.2.2.2.2.2.2.2.2.2.2.1), .row 120 (x.2.2.2.2.2.2.2.2.2.2.2.2)]⟩
def oa10 : (n : NSt Ty) → Option {y : (Int × Int × Int × List (List Int) × List T119) ⊕ (Int × Int × Int × Int × Int × Int × Int × Int × Int × Int × List Int × List (List Int) × List T119) // on2 on10a on10b y = n}
  | ⟨[.tup (.cons (.nilp) (.cons (.int .i64 v0) (.nil)))], [.var (.cons (.row 100001) (.cons (.row 100002) (.cons (.int .i64 v1) (.cons (.int .i64 v2) (.nil))))), .row 72 v3, .row 120 v4]⟩ => some ⟨.inl (v0, v1, v2, v3, v4), rfl⟩
  | ⟨[.tup (.cons (.ptr 100001 []) (.cons (.int .i64 v0) (.nil)))], [.var (.cons (.row 100002) (.cons (.row 100003) (.cons (.int .i64 v1) (.cons (.int .i64 v2) (.nil))))), .var (.cons (.ptr 100000 []) (.cons (.cons (.int .i64 v3) (.cons (.int .i64 v4) (.cons (.int .i64 v5) (.cons (.int .i64 v6) (.nil))))) (.cons (.cons (.int .i64 v7) (.cons (.int .i64 v8) (.cons (.int .u32 v9) (.cons (.slice 3 v10) (.nil))))) (.nil)))), .row 72 v11, .row 120 v12]⟩ => some ⟨.inr (v0, v1, v2, v3, v4, v5, v6, v7, v8, v9, v10, v11, v12), rfl⟩
  | _ => none
/-- "silt/siltref14.New"  -/
def F10 (k : Nat) (x : Int × Int × Int × Int × Int × Int × Int × List Int × Int × Int × List (List Int) × List T119) : Option ((Int × Int × Int × List (List Int) × List T119) ⊕ (Int × Int × Int × Int × Int × Int × Int × Int × Int × Int × List Int × List (List Int) × List T119)) :=
  match x with
  | (v0, v1, v2, v3, v4, v5, v6, v7, v8, v9, v10, v11) => (F13 k (T22.mk v0 v1 v2 v3, T26.mk v4 v5 v6 v7, ())).bind fun r => bif !r then some (Sum.inl ((1 : Int), v8, v9, v10, v11)) else (F6 k (T22.mk v0 v1 v2 v3, ())).bind fun r => bif decide ((↑v10.length : Int) < r.2) then some (Sum.inl ((1 : Int), v8, v9, v10, v11)) else (F33 k (T26.mk v4 v5 v6 v7, ())).bind fun r => some (Sum.inr ((0 : Int), v8, v9, v0, v1, v2, v3, r.1, r.2, r.3, r.4, v10, v11))
noncomputable def sp10 : FSpec Ty := addH2 1 ab10 F10 on10a on10b sp10hn
theorem ok10 : FOK Tryz.prog tab 10 sp10 := addH2_ok (keeps := kp10) tabOK fs33OK Tryz.func10 bo10 (by kernel_rfl) nd10 (LSOK.none) oa10 (F := F10) (fun k x => by kernel_rfl) (pinned_le (Nat.le_refl _) _) ok10hn rfl
noncomputable def fs10 : Nat → Option (FSpec Ty) := addF 10 sp10 fs33
theorem fs10OK : SpecsOK Tryz.prog tab fs10 := fs33OK.add ok10 Tryz.call10
def ag37 : Args Ty (T88 × Unit) := V.arg (tab.den 89) (noArgs)
def rs37 : Res Ty tab (T88) true := V.oneRes (tab.den 89) (ent 89).ids (ent 89).plain (fun _ h => by cases h)
def kp37 : Nat → Keep := fun i => ⟨[], [], 0⟩
/-- "silt/siltkeep.Own" -/
def F37 (k : Nat) (x : T88 × Unit) : Option (T88) :=
  match x with
  | (a0, ()) => bif decide ((List.replicate (0 : Nat) (0 : Int)).length + a0.2.5.length ≤ roomMost) then some (T88.mk (T80.mk a0.1.1 a0.1.2) (T86.mk a0.2.1 a0.2.2 a0.2.3 a0.2.4 (List.replicate (0 : Nat) (0 : Int) ++ a0.2.5) a0.2.6 a0.2.7)) else none
noncomputable def sp37 : FSpec Ty := spec ag37 rs37 F37
end Go.Proofs.YtbhnkjnjeifdhaaGreatDoor.W
