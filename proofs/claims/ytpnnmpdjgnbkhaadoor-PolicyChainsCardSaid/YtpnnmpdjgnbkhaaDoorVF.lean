/-
  The functions that the statement reaches, as typed functions, and that the program computes them. No conditions. Printed by program.
-/
import Derived.Test.YtpnnmpdjgnbkhaaDoorVJ
set_option linter.unusedVariables false
namespace Go.Proofs.YtpnnmpdjgnbkhaaDoor.W
open Go Go.Proofs V
theorem noFOK : SpecsOK Tryd.prog tab noF := SpecsOK.none cmpOK asOK
def ag55 : Args Ty ((List T89) × Unit) := V.arg (tab.den 100) (noArgs)
def rs55 : Res Ty tab (Bool) false := V.oneRes (tab.den 4) (ent 4).ids (ent 4).plain (fun x _ => (ent 4).flat x rfl)
def of55_2 : List T89 × Int → NSt Ty := fun x => ⟨[.slice 90 (x.1), .int .i64 (x.2)], []⟩
def ab55_2 : (n : NSt Ty) → Option {x : List T89 × Int // of55_2 x = n}
  | ⟨[.slice 90 v0, .int .i64 v1], []⟩ => some ⟨(v0, v1), rfl⟩
  | _ => none
def on55_2a : List T89 × Bool → NSt Ty := fun x => ⟨[.slice 90 (x.1), .bool (x.2)], []⟩
def on55_2b : List T89 → NSt Ty := fun x => ⟨[.slice 90 (x), .undef], []⟩
def oa55_2 : (e : Ex) → (n : NSt Ty) → Option {y : (List T89 × Bool) ⊕ (List T89) // oe2 .ret (.exit 0) y = e ∧ on2 on55_2a on55_2b y = n}
  | .ret, ⟨[.slice 90 v0, .bool v1], []⟩ => some ⟨.inl (v0, v1), rfl, rfl⟩
  | .exit 0, ⟨[.slice 90 v0, .undef], []⟩ => some ⟨.inr v0, rfl, rfl⟩
  | _, _ => none
/-- a round of the loop 2 of function 55 -/
def R55_2 (k : Nat) (again : List T89 × Int → Option ((List T89 × Bool) ⊕ (List T89))) (x : List T89 × Int) : Option ((List T89 × Bool) ⊕ (List T89)) :=
  match x with
  | (v0, v1) => bif decide (v1 < (↑v0.length : Int)) then bif inRange v1 v0.length then bif decide ((↑(v0.getD v1.toNat (T89.mk (0 : Int) (0 : Int) (List.replicate (32 : Nat) (0 : Int)) (0 : Int) [] (0 : Int) (List.replicate (8 : Nat) (0 : Int)))).5.length : Int) > (300 : Int)) then some (Sum.inl (v0, false)) else again (v0, IntKind.i64.wrap (v1 + (1 : Int))) else none else some (Sum.inr v0)
def L55_2 (k n : Nat) (x : List T89 × Int) : Option ((List T89 × Bool) ⊕ (List T89)) := iterR (R55_2 k) n x
noncomputable def ls55_2 : Nat → Option (LSum Ty) := addL 2 (lsum2 of55_2 ab55_2 L55_2 .ret on55_2a (.exit 0) on55_2b) noL
def kp55 : Nat → Keep := fun i => cond (i == 2) ⟨[0, 3], [0, 2], 0⟩ (⟨[], [], 0⟩)
/-- "silt/siltlaw08.Fair" -/
def F55 (k : Nat) (x : (List T89) × Unit) : Option (Bool) :=
  match x with
  | (a0, ()) => (L55_2 k k (a0, (0 : Int))).bind fun r => sumK r (fun a => some a.snd) fun b => some (decide ((↑b.length : Int) ≤ (20 : Int)))
noncomputable def sp55 : FSpec Ty := spec ag55 rs55 F55
theorem bo55 : Tryd.f55.body = some (bodyOf Tryd.f55) := by kernel_rfl
theorem nd55 : nodupB ((loopsIn (bodyOf Tryd.f55)).map firstRegion) = true := by kernel_rfl
theorem lo55_2 : LSOK noF kp55 tab Tryd.f55 ls55_2 := lsum2_ok bo55 nd55 (LSOK.none) oa55_2 (R := R55_2) fun k again x => by kernel_rfl
theorem ok55 : FOK Tryd.prog tab 55 sp55 := spec_ok (keeps := kp55) tabOK noFOK Tryd.func55 bo55 (by kernel_rfl) nd55 (lo55_2) (F := F55) fun k x => by kernel_rfl
noncomputable def fs55 : Nat → Option (FSpec Ty) := addF 55 sp55 noF
theorem fs55OK : SpecsOK Tryd.prog tab fs55 := noFOK.add ok55 Tryd.call55
def ag74 : Args Ty (Int × Unit) := V.arg (tab.den 5) (noArgs)
def rs74 : Res Ty tab ((List Int)) false := V.oneRes (tab.den 23) (ent 23).ids (ent 23).plain (fun x _ => (ent 23).flat x rfl)
def of74_3 : Int × Int × List Int × List Int → NSt Ty := fun x => ⟨[.int .u8 (x.1), .ptr 100000 [], .ptr 100001 [], .int .i64 (x.2.1)], [.var (.arr 5 32 (x.2.2.1)), .var (.arr 5 32 (x.2.2.2))]⟩
def ab74_3 : (n : NSt Ty) → Option {x : Int × Int × List Int × List Int // of74_3 x = n}
  | ⟨[.int .u8 v0, .ptr 100000 [], .ptr 100001 [], .int .i64 v1], [.var (.arr 5 32 v2), .var (.arr 5 32 v3)]⟩ => some ⟨(v0, v1, v2, v3), rfl⟩
  | _ => none
def oe74_3 : List Int × List Int → Ex := fun _ => .exit 0
def on74_3 : List Int × List Int → NSt Ty := fun x => ⟨[.ptr 100000 [], .ptr 100001 []], [.var (.arr 5 32 (x.1)), .var (.arr 5 32 (x.2))]⟩
def oa74_3 : (e : Ex) → (n : NSt Ty) → Option {y : List Int × List Int // oe74_3 y = e ∧ on74_3 y = n}
  | .exit 0, ⟨[.ptr 100000 [], .ptr 100001 []], [.var (.arr 5 32 v0), .var (.arr 5 32 v1)]⟩ => some ⟨(v0, v1), rfl, rfl⟩
  | _, _ => none
/-- a round of the loop 3 of function 74 -/
def R74_3 (k : Nat) (again : Int × Int × List Int × List Int → Option (List Int × List Int)) (x : Int × Int × List Int × List Int) : Option (List Int × List Int) :=
  match x with
  | (v0, v1, v2, v3) => bif decide (v1 < (32 : Int)) then bif inRange v1 (32 : Nat) then again (v0, IntKind.i64.wrap (v1 + (1 : Int)), v2, v3.set v1.toNat v0) else none else some (v2, v3)
def L74_3 (k n : Nat) (x : Int × Int × List Int × List Int) : Option (List Int × List Int) := iterR (R74_3 k) n x
noncomputable def ls74_3 : Nat → Option (LSum Ty) := addL 3 (LSum.of of74_3 ab74_3 L74_3 oe74_3 on74_3) noL
def kp74 : Nat → Keep := fun i => cond (i == 3) ⟨[0, 2, 3, 4], [2, 3], 0⟩ (⟨[], [], 0⟩)
/-- "silt/siltkeep.Leaf" -/
def F74 (k : Nat) (x : Int × Unit) : Option ((List Int)) :=
  match x with
  | (a0, ()) => (L74_3 k k (a0, (0 : Int), List.replicate (32 : Nat) (0 : Int), List.replicate (32 : Nat) (0 : Int))).bind fun r => some r.snd
noncomputable def sp74 : FSpec Ty := spec ag74 rs74 F74
theorem bo74 : Tryd.f74.body = some (bodyOf Tryd.f74) := by kernel_rfl
theorem nd74 : nodupB ((loopsIn (bodyOf Tryd.f74)).map firstRegion) = true := by kernel_rfl
theorem lo74_3 : LSOK fs55 kp74 tab Tryd.f74 ls74_3 := lsum_ok bo74 nd74 (LSOK.none) oa74_3 (R := R74_3) fun k again x => by kernel_rfl
theorem ok74 : FOK Tryd.prog tab 74 sp74 := spec_ok (keeps := kp74) tabOK fs55OK Tryd.func74 bo74 (by kernel_rfl) nd74 (lo74_3) (F := F74) fun k x => by kernel_rfl
noncomputable def fs74 : Nat → Option (FSpec Ty) := addF 74 sp74 fs55
theorem fs74OK : SpecsOK Tryd.prog tab fs74 := fs55OK.add ok74 Tryd.call74
def ag57 : Args Ty ((List T89) × Unit) := V.arg (tab.den 100) (noArgs)
def rs57 : Res Ty tab ((List Int) × Int × Unit) false := V.manyRes (V.part (tab.den 23) (ent 23).ids (ent 23).plain (fun x _ => (ent 23).flat x rfl) (V.part (tab.den 33) (ent 33).ids (ent 33).plain (fun x _ => (ent 33).flat x rfl) (noParts)))
/-- by hand -/
def F57 : Nat → ((List T89) × Unit) → Option ((List Int) × Int × Unit) := pageF
noncomputable def sp57 : FSpec Ty := spec ag57 rs57 F57
theorem ok57 : FOK Tryd.prog tab 57 sp57 := pageOK
noncomputable def fs57 : Nat → Option (FSpec Ty) := addF 57 sp57 fs74
theorem fs57OK : SpecsOK Tryd.prog tab fs57 := fs74OK.add ok57 Tryd.call57
def ag56 : Args Ty (Unit) := noArgs
def rs56 : Res Ty tab (Bool) false := V.oneRes (tab.den 4) (ent 4).ids (ent 4).plain (fun x _ => (ent 4).flat x rfl)
def kp56 : Nat → Keep := fun i => ⟨[], [], 0⟩
/-- "silt/siltlaw08.wakes" -/
def F56 (k : Nat) (x : Unit) : Option (Bool) :=
  match x with
  | () => (F74 k ((7 : Int), ())).bind fun r => (F57 k (((List.replicate (2 : Nat) (T89.mk (0 : Int) (0 : Int) (List.replicate (32 : Nat) (0 : Int)) (0 : Int) [] (0 : Int) (List.replicate (8 : Nat) (0 : Int)))).set (0 : Nat) (T89.mk (2 : Int) (2 : Int) (List.replicate (32 : Nat) (0 : Int)) (1 : Int) ((List.replicate (1 : Nat) (0 : Int)).set (0 : Nat) (9 : Int)) (8 : Int) (List.replicate (8 : Nat) (0 : Int)))).set (1 : Nat) (T89.mk (1 : Int) (2 : Int) r (0 : Int) [] (0 : Int) (List.replicate (8 : Nat) (0 : Int))), ())).bind fun r_1 => (F57 k (((List.replicate (2 : Nat) (T89.mk (0 : Int) (0 : Int) (List.replicate (32 : Nat) (0 : Int)) (0 : Int) [] (0 : Int) (List.replicate (8 : Nat) (0 : Int)))).set (0 : Nat) (T89.mk (1 : Int) (2 : Int) r (0 : Int) [] (0 : Int) (List.replicate (8 : Nat) (0 : Int)))).set (1 : Nat) (T89.mk (2 : Int) (2 : Int) (List.replicate (32 : Nat) (0 : Int)) (1 : Int) ((List.replicate (1 : Nat) (0 : Int)).set (0 : Nat) (9 : Int)) (8 : Int) (List.replicate (8 : Nat) (0 : Int))), ())).bind fun r => (F57 k ([], ())).bind fun r_2 => bif r_1.snd.fst == (0 : Int) then bif r_1.fst.getD (Int.toNat (0 : Int)) (0 : Int) == (7 : Int) then bif r_1.fst.getD (Int.toNat (1 : Int)) (0 : Int) == (9 : Int) then bif r.snd.fst == (11 : Int) then bif r_2.snd.fst == (0 : Int) then some (decide (r_2.fst = List.replicate (32 : Nat) (0 : Int))) else some false else some false else some false else some false else some false
noncomputable def sp56 : FSpec Ty := spec ag56 rs56 F56
theorem bo56 : Tryd.f56.body = some (bodyOf Tryd.f56) := by kernel_rfl
theorem nd56 : nodupB ((loopsIn (bodyOf Tryd.f56)).map firstRegion) = true := by kernel_rfl
theorem ok56 : FOK Tryd.prog tab 56 sp56 := spec_ok (keeps := kp56) tabOK fs57OK Tryd.func56 bo56 (by kernel_rfl) nd56 (LSOK.none) (F := F56) fun k x => by kernel_rfl
noncomputable def fs56 : Nat → Option (FSpec Ty) := addF 56 sp56 fs57
theorem fs56OK : SpecsOK Tryd.prog tab fs56 := fs57OK.add ok56 Tryd.call56
def ag98 : Args Ty (Int × Unit) := V.arg (tab.den 3) (noArgs)
def rs98 : Res Ty tab (Bool) false := V.oneRes (tab.den 4) (ent 4).ids (ent 4).plain (fun x _ => (ent 4).flat x rfl)
def kp98 : Nat → Keep := fun i => ⟨[], [], 0⟩
/-- "silt/siltref04.Head" -/
def F98 (k : Nat) (x : Int × Unit) : Option (Bool) :=
  match x with
  | (a0, ()) => bif a0 == (0 : Int) then some true else bif a0 == (1 : Int) then some true else bif decide (a0 ≥ (4 : Int)) then some (decide (a0 ≤ (1023 : Int))) else some false
noncomputable def sp98 : FSpec Ty := spec ag98 rs98 F98
theorem bo98 : Tryd.f98.body = some (bodyOf Tryd.f98) := by kernel_rfl
theorem nd98 : nodupB ((loopsIn (bodyOf Tryd.f98)).map firstRegion) = true := by kernel_rfl
theorem ok98 : FOK Tryd.prog tab 98 sp98 := spec_ok (keeps := kp98) tabOK fs56OK Tryd.func98 bo98 (by kernel_rfl) nd98 (LSOK.none) (F := F98) fun k x => by kernel_rfl
noncomputable def fs98 : Nat → Option (FSpec Ty) := addF 98 sp98 fs56
theorem fs98OK : SpecsOK Tryd.prog tab fs98 := fs56OK.add ok98 Tryd.call98
def ag87 : Args Ty (T89 × Unit) := V.arg (tab.den 90) (noArgs)
def rs87 : Res Ty tab (Bool) false := V.oneRes (tab.den 4) (ent 4).ids (ent 4).plain (fun x _ => (ent 4).flat x rfl)
def of87_10 : Bool × Int × Int × Int × List Int × Int × List Int × Int × List Int → NSt Ty := fun x => ⟨[.ptr 100000 [], .bool (x.1), .int .i64 (x.2.1)], [.var (.cons (.int .i64 (x.2.2.1)) (.cons (.int .i64 (x.2.2.2.1)) (.cons (.arr 5 32 (x.2.2.2.2.1)) (.cons (.int .i64 (x.2.2.2.2.2.1)) (.cons (.slice 5 (x.2.2.2.2.2.2.1)) (.cons (.int .i64 (x.2.2.2.2.2.2.2.1)) (.cons (.arr 3 8 (x.2.2.2.2.2.2.2.2)) (.nil))))))))]⟩
def ab87_10 : (n : NSt Ty) → Option {x : Bool × Int × Int × Int × List Int × Int × List Int × Int × List Int // of87_10 x = n}
  | ⟨[.ptr 100000 [], .bool v0, .int .i64 v1], [.var (.cons (.int .i64 v2) (.cons (.int .i64 v3) (.cons (.arr 5 32 v4) (.cons (.int .i64 v5) (.cons (.slice 5 v6) (.cons (.int .i64 v7) (.cons (.arr 3 8 v8) (.nil))))))))]⟩ => some ⟨(v0, v1, v2, v3, v4, v5, v6, v7, v8), rfl⟩
  | _ => none
def on87_10a : Bool × Bool × Int × Int × List Int × Int × List Int × Int × List Int → NSt Ty := fun x => ⟨[.ptr 100000 [], .bool (x.1), .bool (x.2.1)], [.var (.cons (.int .i64 (x.2.2.1)) (.cons (.int .i64 (x.2.2.2.1)) (.cons (.arr 5 32 (x.2.2.2.2.1)) (.cons (.int .i64 (x.2.2.2.2.2.1)) (.cons (.slice 5 (x.2.2.2.2.2.2.1)) (.cons (.int .i64 (x.2.2.2.2.2.2.2.1)) (.cons (.arr 3 8 (x.2.2.2.2.2.2.2.2)) (.nil))))))))]⟩
def on87_10b : Bool × Int × Int × List Int × Int × List Int × Int × List Int → NSt Ty := fun x => ⟨[.ptr 100000 [], .undef, .bool (x.1)], [.var (.cons (.int .i64 (x.2.1)) (.cons (.int .i64 (x.2.2.1)) (.cons (.arr 5 32 (x.2.2.2.1)) (.cons (.int .i64 (x.2.2.2.2.1)) (.cons (.slice 5 (x.2.2.2.2.2.1)) (.cons (.int .i64 (x.2.2.2.2.2.2.1)) (.cons (.arr 3 8 (x.2.2.2.2.2.2.2)) (.nil))))))))]⟩
def oa87_10 : (e : Ex) → (n : NSt Ty) → Option {y : (Bool × Bool × Int × Int × List Int × Int × List Int × Int × List Int) ⊕ (Bool × Int × Int × List Int × Int × List Int × Int × List Int) // oe2 .ret (.exit 1) y = e ∧ on2 on87_10a on87_10b y = n}
  | .ret, ⟨[.ptr 100000 [], .bool v0, .bool v1], [.var (.cons (.int .i64 v2) (.cons (.int .i64 v3) (.cons (.arr 5 32 v4) (.cons (.int .i64 v5) (.cons (.slice 5 v6) (.cons (.int .i64 v7) (.cons (.arr 3 8 v8) (.nil))))))))]⟩ => some ⟨.inl (v0, v1, v2, v3, v4, v5, v6, v7, v8), rfl, rfl⟩
  | .exit 1, ⟨[.ptr 100000 [], .undef, .bool v0], [.var (.cons (.int .i64 v1) (.cons (.int .i64 v2) (.cons (.arr 5 32 v3) (.cons (.int .i64 v4) (.cons (.slice 5 v5) (.cons (.int .i64 v6) (.cons (.arr 3 8 v7) (.nil))))))))]⟩ => some ⟨.inr (v0, v1, v2, v3, v4, v5, v6, v7), rfl, rfl⟩
  | _, _ => none
/-- a round of the loop 10 of function 87 -/
def R87_10 (k : Nat) (again : Bool × Int × Int × Int × List Int × Int × List Int × Int × List Int → Option ((Bool × Bool × Int × Int × List Int × Int × List Int × Int × List Int) ⊕ (Bool × Int × Int × List Int × Int × List Int × Int × List Int))) (x : Bool × Int × Int × Int × List Int × Int × List Int × Int × List Int) : Option ((Bool × Bool × Int × Int × List Int × Int × List Int × Int × List Int) ⊕ (Bool × Int × Int × List Int × Int × List Int × Int × List Int)) :=
  match x with
  | (v0, v1, v2, v3, v4, v5, v6, v7, v8) => bif decide (v1 < (8 : Int)) then bif inRange v1 (8 : Nat) then (F98 k (v8.getD v1.toNat (0 : Int), ())).bind fun r => bif !r then some (Sum.inl (false, v0, v2, v3, v4, v5, v6, v7, v8)) else again (v0, IntKind.i64.wrap (v1 + (1 : Int)), v2, v3, v4, v5, v6, v7, v8) else none else some (Sum.inr (v0, v2, v3, v4, v5, v6, v7, v8))
def L87_10 (k n : Nat) (x : Bool × Int × Int × Int × List Int × Int × List Int × Int × List Int) : Option ((Bool × Bool × Int × Int × List Int × Int × List Int × Int × List Int) ⊕ (Bool × Int × Int × List Int × Int × List Int × Int × List Int)) := iterR (R87_10 k) n x
noncomputable def ls87_10 : Nat → Option (LSum Ty) := addL 10 (lsum2 of87_10 ab87_10 L87_10 .ret on87_10a (.exit 1) on87_10b) noL
def kp87 : Nat → Keep := fun i => cond (i == 10) ⟨[1, 3, 5], [1, 2, 3], 0⟩ (⟨[], [], 0⟩)
/-- "silt/siltref04.Good" -/
def F87 (k : Nat) (x : T89 × Unit) : Option (Bool) :=
  match x with
  | (a0, ()) => bif a0.4 == (0 : Int) then bif (↑a0.5.length : Int) == (0 : Int) then bif a0.1 == (1 : Int) then bif decide (a0.2 ≥ (0 : Int)) then bif decide (a0.2 < (64 : Int)) then bif a0.6 == (0 : Int) then some (decide (a0.7 = List.replicate (8 : Nat) (0 : Int))) else some false else some false else some false else bif a0.1 == (2 : Int) then bif decide (a0.2 ≥ (0 : Int)) then bif decide (a0.2 < (64 : Int)) then bif decide (a0.3 = List.replicate (32 : Nat) (0 : Int)) then bif decide (a0.7 = List.replicate (8 : Nat) (0 : Int)) then bif decide (a0.4 ≥ (0 : Int)) then bif decide (a0.4 < (32 : Int)) then bif decide ((↑a0.5.length : Int) ≥ (1 : Int)) then bif decide ((↑a0.5.length : Int) ≤ (16 : Int)) then bif decide ((↑a0.5.length : Int) ≤ IntKind.i64.wrap ((32 : Int) - a0.4)) then bif a0.6 != (0 : Int) then (F98 k (a0.6, ())).bind fun r => some r else some false else some false else some false else some false else some false else some false else some false else some false else some false else some false else bif a0.1 == (3 : Int) then (L87_10 k k (a0.6 == (0 : Int), (0 : Int), a0.1, a0.2, a0.3, a0.4, a0.5, a0.6, a0.7)).bind fun r => sumK r (fun a => some a.fst) fun b => bif decide (b.snd.snd.fst ≥ (0 : Int)) then bif decide (b.snd.snd.fst < (8 : Int)) then bif b.fst then some (decide (b.snd.snd.snd.fst = List.replicate (32 : Nat) (0 : Int))) else some false else some false else some false else some false else bif a0.1 == (1 : Int) then bif decide (a0.2 ≥ (0 : Int)) then bif decide (a0.2 < (64 : Int)) then some false else some false else some false else bif a0.1 == (2 : Int) then bif decide (a0.2 ≥ (0 : Int)) then bif decide (a0.2 < (64 : Int)) then bif decide (a0.3 = List.replicate (32 : Nat) (0 : Int)) then bif decide (a0.7 = List.replicate (8 : Nat) (0 : Int)) then bif decide (a0.4 ≥ (0 : Int)) then bif decide (a0.4 < (32 : Int)) then bif decide ((↑a0.5.length : Int) ≥ (1 : Int)) then bif decide ((↑a0.5.length : Int) ≤ (16 : Int)) then bif decide ((↑a0.5.length : Int) ≤ IntKind.i64.wrap ((32 : Int) - a0.4)) then bif a0.6 != (0 : Int) then (F98 k (a0.6, ())).bind fun r => some r else some false else some false else some false else some false else some false else some false else some false else some false else some false else some false else bif a0.1 == (3 : Int) then (L87_10 k k (false, (0 : Int), a0.1, a0.2, a0.3, a0.4, a0.5, a0.6, a0.7)).bind fun r => sumK r (fun a => some a.fst) fun b => bif decide (b.snd.snd.fst ≥ (0 : Int)) then bif decide (b.snd.snd.fst < (8 : Int)) then bif b.fst then some (decide (b.snd.snd.snd.fst = List.replicate (32 : Nat) (0 : Int))) else some false else some false else some false else some false else bif a0.1 == (1 : Int) then bif decide (a0.2 ≥ (0 : Int)) then bif decide (a0.2 < (64 : Int)) then some false else some false else some false else bif a0.1 == (2 : Int) then bif decide (a0.2 ≥ (0 : Int)) then bif decide (a0.2 < (64 : Int)) then bif decide (a0.3 = List.replicate (32 : Nat) (0 : Int)) then bif decide (a0.7 = List.replicate (8 : Nat) (0 : Int)) then bif decide (a0.4 ≥ (0 : Int)) then bif decide (a0.4 < (32 : Int)) then bif decide ((↑a0.5.length : Int) ≥ (1 : Int)) then bif decide ((↑a0.5.length : Int) ≤ (16 : Int)) then bif decide ((↑a0.5.length : Int) ≤ IntKind.i64.wrap ((32 : Int) - a0.4)) then bif a0.6 != (0 : Int) then (F98 k (a0.6, ())).bind fun r => some r else some false else some false else some false else some false else some false else some false else some false else some false else some false else some false else bif a0.1 == (3 : Int) then (L87_10 k k (false, (0 : Int), a0.1, a0.2, a0.3, a0.4, a0.5, a0.6, a0.7)).bind fun r => sumK r (fun a => some a.fst) fun b => bif decide (b.snd.snd.fst ≥ (0 : Int)) then bif decide (b.snd.snd.fst < (8 : Int)) then bif b.fst then some (decide (b.snd.snd.snd.fst = List.replicate (32 : Nat) (0 : Int))) else some false else some false else some false else some false
noncomputable def sp87 : FSpec Ty := spec ag87 rs87 F87
theorem bo87 : Tryd.f87.body = some (bodyOf Tryd.f87) := by kernel_rfl
theorem nd87 : nodupB ((loopsIn (bodyOf Tryd.f87)).map firstRegion) = true := by kernel_rfl
theorem lo87_10 : LSOK fs98 kp87 tab Tryd.f87 ls87_10 := lsum2_ok bo87 nd87 (LSOK.none) oa87_10 (R := R87_10) fun k again x => by kernel_rfl
theorem ok87 : FOK Tryd.prog tab 87 sp87 := spec_ok (keeps := kp87) tabOK fs98OK Tryd.func87 bo87 (by kernel_rfl) nd87 (lo87_10) (F := F87) fun k x => by kernel_rfl
noncomputable def fs87 : Nat → Option (FSpec Ty) := addF 87 sp87 fs98
theorem fs87OK : SpecsOK Tryd.prog tab fs87 := fs98OK.add ok87 Tryd.call87
def ag26 : Args Ty ((List Int) × Int × (List Int) × Unit) := V.arg (tab.den 23) (V.arg (tab.den 3) (V.arg (tab.den 24) (noArgs)))
def rs26 : Res Ty tab (T36) false := V.oneRes (tab.den 37) (ent 37).ids (ent 37).plain (fun x _ => (ent 37).flat x rfl)
def kp26 : Nat → Keep := fun i => ⟨[], [], 0⟩
/-- "silt/siltref07.Apply" -/
def F26 (k : Nat) (x : (List Int) × Int × (List Int) × Unit) : Option (T36) :=
  match x with
  | (a0, a1, a2, ()) => bif decide (a1 < (0 : Int)) then some (T36.mk (List.replicate (32 : Nat) (0 : Int)) false) else bif decide (a1 > (32 : Int)) then some (T36.mk (List.replicate (32 : Nat) (0 : Int)) false) else bif decide ((↑a2.length : Int) < (1 : Int)) then some (T36.mk (List.replicate (32 : Nat) (0 : Int)) false) else bif decide ((↑a2.length : Int) > IntKind.i64.wrap ((32 : Int) - a1)) then some (T36.mk (List.replicate (32 : Nat) (0 : Int)) false) else bif decide ((0 : Int) ≤ a1) && decide (a1 ≤ (↑(32 : Nat) : Int)) && decide ((↑(32 : Nat) : Int) ≤ (↑(32 : Nat) : Int)) then some (T36.mk (splice a0 a2 a1.toNat (min a2.length ((↑(32 : Nat) : Int) - a1).toNat)) true) else none
noncomputable def sp26 : FSpec Ty := spec ag26 rs26 F26
theorem bo26 : Tryd.f26.body = some (bodyOf Tryd.f26) := by kernel_rfl
theorem nd26 : nodupB ((loopsIn (bodyOf Tryd.f26)).map firstRegion) = true := by kernel_rfl
theorem ok26 : FOK Tryd.prog tab 26 sp26 := spec_ok (keeps := kp26) tabOK fs87OK Tryd.func26 bo26 (by kernel_rfl) nd26 (LSOK.none) (F := F26) fun k x => by kernel_rfl
noncomputable def fs26 : Nat → Option (FSpec Ty) := addF 26 sp26 fs87
theorem fs26OK : SpecsOK Tryd.prog tab fs26 := fs87OK.add ok26 Tryd.call26
def ag58 : Args Ty ((List T89) × Unit) := V.arg (tab.den 100) (noArgs)
def rs58 : Res Ty tab (T36) false := V.oneRes (tab.den 114) (ent 114).ids (ent 114).plain (fun x _ => (ent 114).flat x rfl)
def of58_5 : List T89 × Int × List Int × Bool × List Int → NSt Ty := fun x => ⟨[.slice 90 (x.1), .ptr 100000 [], .ptr 100001 [], .int .i64 (x.2.1)], [.var (.cons (.arr 5 32 (x.2.2.1)) (.cons (.bool (x.2.2.2.1)) (.nil))), .var (.arr 5 32 (x.2.2.2.2))]⟩
def ab58_5 : (n : NSt Ty) → Option {x : List T89 × Int × List Int × Bool × List Int // of58_5 x = n}
  | ⟨[.slice 90 v0, .ptr 100000 [], .ptr 100001 [], .int .i64 v1], [.var (.cons (.arr 5 32 v2) (.cons (.bool v3) (.nil))), .var (.arr 5 32 v4)]⟩ => some ⟨(v0, v1, v2, v3, v4), rfl⟩
  | _ => none
def on58_5a : List Int × Bool × List Int → NSt Ty := fun x => ⟨[.ptr 100000 [], .ptr 100001 []], [.var (.cons (.arr 5 32 (x.1)) (.cons (.bool (x.2.1)) (.nil))), .var (.arr 5 32 (x.2.2))]⟩
def on58_5b : List Int × Bool × List Int → NSt Ty := fun x => ⟨[.ptr 100000 [], .ptr 100001 []], [.var (.cons (.arr 5 32 (x.1)) (.cons (.bool (x.2.1)) (.nil))), .var (.arr 5 32 (x.2.2))]⟩
def oa58_5 : (e : Ex) → (n : NSt Ty) → Option {y : (List Int × Bool × List Int) ⊕ (List Int × Bool × List Int) // oe2 .ret (.exit 0) y = e ∧ on2 on58_5a on58_5b y = n}
  | .ret, ⟨[.ptr 100000 [], .ptr 100001 []], [.var (.cons (.arr 5 32 v0) (.cons (.bool v1) (.nil))), .var (.arr 5 32 v2)]⟩ => some ⟨.inl (v0, v1, v2), rfl, rfl⟩
  | .exit 0, ⟨[.ptr 100000 [], .ptr 100001 []], [.var (.cons (.arr 5 32 v0) (.cons (.bool v1) (.nil))), .var (.arr 5 32 v2)]⟩ => some ⟨.inr (v0, v1, v2), rfl, rfl⟩
  | _, _ => none
/-- a round of the loop 5 of function 58 -/
def R58_5 (k : Nat) (again : List T89 × Int × List Int × Bool × List Int → Option ((List Int × Bool × List Int) ⊕ (List Int × Bool × List Int))) (x : List T89 × Int × List Int × Bool × List Int) : Option ((List Int × Bool × List Int) ⊕ (List Int × Bool × List Int)) :=
  match x with
  | (v0, v1, v2, v3, v4) => bif decide (v1 ≥ (0 : Int)) then bif inRange v1 v0.length then (F87 k (T89.mk (v0.getD v1.toNat (T89.mk (0 : Int) (0 : Int) (List.replicate (32 : Nat) (0 : Int)) (0 : Int) [] (0 : Int) (List.replicate (8 : Nat) (0 : Int)))).1 (v0.getD v1.toNat (T89.mk (0 : Int) (0 : Int) (List.replicate (32 : Nat) (0 : Int)) (0 : Int) [] (0 : Int) (List.replicate (8 : Nat) (0 : Int)))).2 (v0.getD v1.toNat (T89.mk (0 : Int) (0 : Int) (List.replicate (32 : Nat) (0 : Int)) (0 : Int) [] (0 : Int) (List.replicate (8 : Nat) (0 : Int)))).3 (v0.getD v1.toNat (T89.mk (0 : Int) (0 : Int) (List.replicate (32 : Nat) (0 : Int)) (0 : Int) [] (0 : Int) (List.replicate (8 : Nat) (0 : Int)))).4 (v0.getD v1.toNat (T89.mk (0 : Int) (0 : Int) (List.replicate (32 : Nat) (0 : Int)) (0 : Int) [] (0 : Int) (List.replicate (8 : Nat) (0 : Int)))).5 (v0.getD v1.toNat (T89.mk (0 : Int) (0 : Int) (List.replicate (32 : Nat) (0 : Int)) (0 : Int) [] (0 : Int) (List.replicate (8 : Nat) (0 : Int)))).6 (v0.getD v1.toNat (T89.mk (0 : Int) (0 : Int) (List.replicate (32 : Nat) (0 : Int)) (0 : Int) [] (0 : Int) (List.replicate (8 : Nat) (0 : Int)))).7, ())).bind fun r => bif !r then some (Sum.inl (List.replicate (32 : Nat) (0 : Int), false, v4)) else bif inRange (0 : Int) v0.length then bif (v0.getD v1.toNat (T89.mk (0 : Int) (0 : Int) (List.replicate (32 : Nat) (0 : Int)) (0 : Int) [] (0 : Int) (List.replicate (8 : Nat) (0 : Int)))).2 != (v0.getD (Int.toNat (0 : Int)) (T89.mk (0 : Int) (0 : Int) (List.replicate (32 : Nat) (0 : Int)) (0 : Int) [] (0 : Int) (List.replicate (8 : Nat) (0 : Int)))).2 then some (Sum.inl (List.replicate (32 : Nat) (0 : Int), false, v4)) else bif (v0.getD v1.toNat (T89.mk (0 : Int) (0 : Int) (List.replicate (32 : Nat) (0 : Int)) (0 : Int) [] (0 : Int) (List.replicate (8 : Nat) (0 : Int)))).1 == (3 : Int) then some (Sum.inl (List.replicate (32 : Nat) (0 : Int), false, v4)) else bif (v0.getD v1.toNat (T89.mk (0 : Int) (0 : Int) (List.replicate (32 : Nat) (0 : Int)) (0 : Int) [] (0 : Int) (List.replicate (8 : Nat) (0 : Int)))).1 == (1 : Int) then bif !v1 == IntKind.i64.wrap ((↑v0.length : Int) - (1 : Int)) then some (Sum.inl (List.replicate (32 : Nat) (0 : Int), false, v4)) else bif (v0.getD v1.toNat (T89.mk (0 : Int) (0 : Int) (List.replicate (32 : Nat) (0 : Int)) (0 : Int) [] (0 : Int) (List.replicate (8 : Nat) (0 : Int)))).1 == (2 : Int) then bif !((v0.getD v1.toNat (T89.mk (0 : Int) (0 : Int) (List.replicate (32 : Nat) (0 : Int)) (0 : Int) [] (0 : Int) (List.replicate (8 : Nat) (0 : Int)))).6 == (1 : Int)) == (v1 == IntKind.i64.wrap ((↑v0.length : Int) - (1 : Int))) then some (Sum.inl (List.replicate (32 : Nat) (0 : Int), false, v4)) else bif (v0.getD v1.toNat (T89.mk (0 : Int) (0 : Int) (List.replicate (32 : Nat) (0 : Int)) (0 : Int) [] (0 : Int) (List.replicate (8 : Nat) (0 : Int)))).1 == (1 : Int) then again (v0, IntKind.i64.wrap (v1 - (1 : Int)), v2, v3, (v0.getD v1.toNat (T89.mk (0 : Int) (0 : Int) (List.replicate (32 : Nat) (0 : Int)) (0 : Int) [] (0 : Int) (List.replicate (8 : Nat) (0 : Int)))).3) else (F26 k (v4, (v0.getD v1.toNat (T89.mk (0 : Int) (0 : Int) (List.replicate (32 : Nat) (0 : Int)) (0 : Int) [] (0 : Int) (List.replicate (8 : Nat) (0 : Int)))).4, (v0.getD v1.toNat (T89.mk (0 : Int) (0 : Int) (List.replicate (32 : Nat) (0 : Int)) (0 : Int) [] (0 : Int) (List.replicate (8 : Nat) (0 : Int)))).5, ())).bind fun r => again (v0, IntKind.i64.wrap (v1 - (1 : Int)), v2, v3, r.1) else bif (v0.getD v1.toNat (T89.mk (0 : Int) (0 : Int) (List.replicate (32 : Nat) (0 : Int)) (0 : Int) [] (0 : Int) (List.replicate (8 : Nat) (0 : Int)))).1 == (1 : Int) then again (v0, IntKind.i64.wrap (v1 - (1 : Int)), v2, v3, (v0.getD v1.toNat (T89.mk (0 : Int) (0 : Int) (List.replicate (32 : Nat) (0 : Int)) (0 : Int) [] (0 : Int) (List.replicate (8 : Nat) (0 : Int)))).3) else (F26 k (v4, (v0.getD v1.toNat (T89.mk (0 : Int) (0 : Int) (List.replicate (32 : Nat) (0 : Int)) (0 : Int) [] (0 : Int) (List.replicate (8 : Nat) (0 : Int)))).4, (v0.getD v1.toNat (T89.mk (0 : Int) (0 : Int) (List.replicate (32 : Nat) (0 : Int)) (0 : Int) [] (0 : Int) (List.replicate (8 : Nat) (0 : Int)))).5, ())).bind fun r => again (v0, IntKind.i64.wrap (v1 - (1 : Int)), v2, v3, r.1) else bif (v0.getD v1.toNat (T89.mk (0 : Int) (0 : Int) (List.replicate (32 : Nat) (0 : Int)) (0 : Int) [] (0 : Int) (List.replicate (8 : Nat) (0 : Int)))).1 == (2 : Int) then bif !((v0.getD v1.toNat (T89.mk (0 : Int) (0 : Int) (List.replicate (32 : Nat) (0 : Int)) (0 : Int) [] (0 : Int) (List.replicate (8 : Nat) (0 : Int)))).6 == (1 : Int)) == (v1 == IntKind.i64.wrap ((↑v0.length : Int) - (1 : Int))) then some (Sum.inl (List.replicate (32 : Nat) (0 : Int), false, v4)) else bif (v0.getD v1.toNat (T89.mk (0 : Int) (0 : Int) (List.replicate (32 : Nat) (0 : Int)) (0 : Int) [] (0 : Int) (List.replicate (8 : Nat) (0 : Int)))).1 == (1 : Int) then again (v0, IntKind.i64.wrap (v1 - (1 : Int)), v2, v3, (v0.getD v1.toNat (T89.mk (0 : Int) (0 : Int) (List.replicate (32 : Nat) (0 : Int)) (0 : Int) [] (0 : Int) (List.replicate (8 : Nat) (0 : Int)))).3) else (F26 k (v4, (v0.getD v1.toNat (T89.mk (0 : Int) (0 : Int) (List.replicate (32 : Nat) (0 : Int)) (0 : Int) [] (0 : Int) (List.replicate (8 : Nat) (0 : Int)))).4, (v0.getD v1.toNat (T89.mk (0 : Int) (0 : Int) (List.replicate (32 : Nat) (0 : Int)) (0 : Int) [] (0 : Int) (List.replicate (8 : Nat) (0 : Int)))).5, ())).bind fun r => again (v0, IntKind.i64.wrap (v1 - (1 : Int)), v2, v3, r.1) else bif (v0.getD v1.toNat (T89.mk (0 : Int) (0 : Int) (List.replicate (32 : Nat) (0 : Int)) (0 : Int) [] (0 : Int) (List.replicate (8 : Nat) (0 : Int)))).1 == (1 : Int) then again (v0, IntKind.i64.wrap (v1 - (1 : Int)), v2, v3, (v0.getD v1.toNat (T89.mk (0 : Int) (0 : Int) (List.replicate (32 : Nat) (0 : Int)) (0 : Int) [] (0 : Int) (List.replicate (8 : Nat) (0 : Int)))).3) else (F26 k (v4, (v0.getD v1.toNat (T89.mk (0 : Int) (0 : Int) (List.replicate (32 : Nat) (0 : Int)) (0 : Int) [] (0 : Int) (List.replicate (8 : Nat) (0 : Int)))).4, (v0.getD v1.toNat (T89.mk (0 : Int) (0 : Int) (List.replicate (32 : Nat) (0 : Int)) (0 : Int) [] (0 : Int) (List.replicate (8 : Nat) (0 : Int)))).5, ())).bind fun r => again (v0, IntKind.i64.wrap (v1 - (1 : Int)), v2, v3, r.1) else none else none else some (Sum.inr (v2, v3, v4))
def L58_5 (k n : Nat) (x : List T89 × Int × List Int × Bool × List Int) : Option ((List Int × Bool × List Int) ⊕ (List Int × Bool × List Int)) := iterR (R58_5 k) n x
noncomputable def ls58_5 : Nat → Option (LSum Ty) := addL 5 (lsum2 of58_5 ab58_5 L58_5 .ret on58_5a (.exit 0) on58_5b) noL
def kp58 : Nat → Keep := fun i => cond (i == 5) ⟨[0, 2, 3, 4], [2, 3], 0⟩ (⟨[], [], 0⟩)
/-- "silt/siltref08.Page" -/
def F58 (k : Nat) (x : (List T89) × Unit) : Option (T36) :=
  match x with
  | (a0, ()) => bif decide ((↑a0.length : Int) > (3 : Int)) then some (T36.mk (List.replicate (32 : Nat) (0 : Int)) false) else (L58_5 k k (a0, IntKind.i64.wrap ((↑a0.length : Int) - (1 : Int)), List.replicate (32 : Nat) (0 : Int), false, List.replicate (32 : Nat) (0 : Int))).bind fun r => sumK r (fun a => some (T36.mk a.fst a.snd.fst)) fun b => some (T36.mk b.snd.snd true)
noncomputable def sp58 : FSpec Ty := spec ag58 rs58 F58
theorem bo58 : Tryd.f58.body = some (bodyOf Tryd.f58) := by kernel_rfl
theorem nd58 : nodupB ((loopsIn (bodyOf Tryd.f58)).map firstRegion) = true := by kernel_rfl
theorem lo58_5 : LSOK fs26 kp58 tab Tryd.f58 ls58_5 := lsum2_ok bo58 nd58 (LSOK.none) oa58_5 (R := R58_5) fun k again x => by kernel_rfl
theorem ok58 : FOK Tryd.prog tab 58 sp58 := spec_ok (keeps := kp58) tabOK fs26OK Tryd.func58 bo58 (by kernel_rfl) nd58 (lo58_5) (F := F58) fun k x => by kernel_rfl
noncomputable def fs58 : Nat → Option (FSpec Ty) := addF 58 sp58 fs26
theorem fs58OK : SpecsOK Tryd.prog tab fs58 := fs26OK.add ok58 Tryd.call58
def ag27 : Args Ty ((List Int) × (List Int) × Unit) := V.arg (tab.den 24) (V.arg (tab.den 24) (noArgs))
def rs27 : Res Ty tab (Bool) false := V.oneRes (tab.den 4) (ent 4).ids (ent 4).plain (fun x _ => (ent 4).flat x rfl)
def kp27 : Nat → Keep := fun i => ⟨[], [], 0⟩
/-- "silt/siltkeep.Bytes" -/
def F27 (k : Nat) (x : (List Int) × (List Int) × Unit) : Option (Bool) :=
  match x with
  | (a0, a1, ()) => some ((bytesStr (List.map (fun x => x) a0)).toList == (bytesStr (List.map (fun x => x) a1)).toList)
noncomputable def sp27 : FSpec Ty := spec ag27 rs27 F27
theorem bo27 : Tryd.f27.body = some (bodyOf Tryd.f27) := by kernel_rfl
theorem nd27 : nodupB ((loopsIn (bodyOf Tryd.f27)).map firstRegion) = true := by kernel_rfl
theorem ok27 : FOK Tryd.prog tab 27 sp27 := spec_ok (keeps := kp27) tabOK fs58OK Tryd.func27 bo27 (by kernel_rfl) nd27 (LSOK.none) (F := F27) fun k x => by kernel_rfl
noncomputable def fs27 : Nat → Option (FSpec Ty) := addF 27 sp27 fs58
theorem fs27OK : SpecsOK Tryd.prog tab fs27 := fs58OK.add ok27 Tryd.call27
def ag54 : Args Ty (T89 × T89 × Unit) := V.arg (tab.den 90) (V.arg (tab.den 90) (noArgs))
def rs54 : Res Ty tab (Bool) false := V.oneRes (tab.den 4) (ent 4).ids (ent 4).plain (fun x _ => (ent 4).flat x rfl)
def kp54 : Nat → Keep := fun i => ⟨[], [], 0⟩
/-- "silt/siltkeep.Block" -/
def F54 (k : Nat) (x : T89 × T89 × Unit) : Option (Bool) :=
  match x with
  | (a0, a1, ()) => bif a0.1 == a1.1 then bif a0.2 == a1.2 then bif decide (a0.3 = a1.3) then bif a0.4 == a1.4 then (F27 k (a0.5, a1.5, ())).bind fun r => bif r then bif a0.6 == a1.6 then some (decide (a0.7 = a1.7)) else some false else some false else some false else some false else some false else some false
noncomputable def sp54 : FSpec Ty := spec ag54 rs54 F54
theorem bo54 : Tryd.f54.body = some (bodyOf Tryd.f54) := by kernel_rfl
theorem nd54 : nodupB ((loopsIn (bodyOf Tryd.f54)).map firstRegion) = true := by kernel_rfl
theorem ok54 : FOK Tryd.prog tab 54 sp54 := spec_ok (keeps := kp54) tabOK fs27OK Tryd.func54 bo54 (by kernel_rfl) nd54 (LSOK.none) (F := F54) fun k x => by kernel_rfl
noncomputable def fs54 : Nat → Option (FSpec Ty) := addF 54 sp54 fs27
theorem fs54OK : SpecsOK Tryd.prog tab fs54 := fs27OK.add ok54 Tryd.call54
def ag18 : Args Ty ((List T89) × Unit) := V.arg (tab.den 100) (noArgs)
def rs18 : Res Ty tab (Bool) false := V.oneRes (tab.den 4) (ent 4).ids (ent 4).plain (fun x _ => (ent 4).flat x rfl)
def of18_5 : List T89 × Int × List T89 → NSt Ty := fun x => ⟨[.slice 90 (x.1), .row 100000, .int .i64 (x.2.1)], [.row 90 (x.2.2)]⟩
def ab18_5 : (n : NSt Ty) → Option {x : List T89 × Int × List T89 // of18_5 x = n}
  | ⟨[.slice 90 v0, .row 100000, .int .i64 v1], [.row 90 v2]⟩ => some ⟨(v0, v1, v2), rfl⟩
  | _ => none
def oe18_5 : List T89 × List T89 → Ex := fun _ => .exit 0
def on18_5 : List T89 × List T89 → NSt Ty := fun x => ⟨[.slice 90 (x.1), .row 100000], [.row 90 (x.2)]⟩
def oa18_5 : (e : Ex) → (n : NSt Ty) → Option {y : List T89 × List T89 // oe18_5 y = e ∧ on18_5 y = n}
  | .exit 0, ⟨[.slice 90 v0, .row 100000], [.row 90 v1]⟩ => some ⟨(v0, v1), rfl, rfl⟩
  | _, _ => none
/-- a round of the loop 5 of function 18 -/
def R18_5 (k : Nat) (again : List T89 × Int × List T89 → Option (List T89 × List T89)) (x : List T89 × Int × List T89) : Option (List T89 × List T89) :=
  match x with
  | (v0, v1, v2) => bif decide (v1 < (↑v0.length : Int)) then bif inRange v1 v0.length then bif decide ((List.replicate (0 : Nat) (0 : Int)).length + (v0.getD v1.toNat (T89.mk (0 : Int) (0 : Int) (List.replicate (32 : Nat) (0 : Int)) (0 : Int) [] (0 : Int) (List.replicate (8 : Nat) (0 : Int)))).5.length ≤ roomMost) then bif decide (v2.length + ((List.replicate (1 : Nat) (T89.mk (0 : Int) (0 : Int) (List.replicate (32 : Nat) (0 : Int)) (0 : Int) [] (0 : Int) (List.replicate (8 : Nat) (0 : Int)))).set (0 : Nat) (T89.mk (v0.getD v1.toNat (T89.mk (0 : Int) (0 : Int) (List.replicate (32 : Nat) (0 : Int)) (0 : Int) [] (0 : Int) (List.replicate (8 : Nat) (0 : Int)))).1 (v0.getD v1.toNat (T89.mk (0 : Int) (0 : Int) (List.replicate (32 : Nat) (0 : Int)) (0 : Int) [] (0 : Int) (List.replicate (8 : Nat) (0 : Int)))).2 (v0.getD v1.toNat (T89.mk (0 : Int) (0 : Int) (List.replicate (32 : Nat) (0 : Int)) (0 : Int) [] (0 : Int) (List.replicate (8 : Nat) (0 : Int)))).3 (v0.getD v1.toNat (T89.mk (0 : Int) (0 : Int) (List.replicate (32 : Nat) (0 : Int)) (0 : Int) [] (0 : Int) (List.replicate (8 : Nat) (0 : Int)))).4 (List.replicate (0 : Nat) (0 : Int) ++ (v0.getD v1.toNat (T89.mk (0 : Int) (0 : Int) (List.replicate (32 : Nat) (0 : Int)) (0 : Int) [] (0 : Int) (List.replicate (8 : Nat) (0 : Int)))).5) (v0.getD v1.toNat (T89.mk (0 : Int) (0 : Int) (List.replicate (32 : Nat) (0 : Int)) (0 : Int) [] (0 : Int) (List.replicate (8 : Nat) (0 : Int)))).6 (v0.getD v1.toNat (T89.mk (0 : Int) (0 : Int) (List.replicate (32 : Nat) (0 : Int)) (0 : Int) [] (0 : Int) (List.replicate (8 : Nat) (0 : Int)))).7)).length ≤ roomMost) then again (v0, IntKind.i64.wrap (v1 + (1 : Int)), v2 ++ (List.replicate (1 : Nat) (T89.mk (0 : Int) (0 : Int) (List.replicate (32 : Nat) (0 : Int)) (0 : Int) [] (0 : Int) (List.replicate (8 : Nat) (0 : Int)))).set (0 : Nat) (T89.mk (v0.getD v1.toNat (T89.mk (0 : Int) (0 : Int) (List.replicate (32 : Nat) (0 : Int)) (0 : Int) [] (0 : Int) (List.replicate (8 : Nat) (0 : Int)))).1 (v0.getD v1.toNat (T89.mk (0 : Int) (0 : Int) (List.replicate (32 : Nat) (0 : Int)) (0 : Int) [] (0 : Int) (List.replicate (8 : Nat) (0 : Int)))).2 (v0.getD v1.toNat (T89.mk (0 : Int) (0 : Int) (List.replicate (32 : Nat) (0 : Int)) (0 : Int) [] (0 : Int) (List.replicate (8 : Nat) (0 : Int)))).3 (v0.getD v1.toNat (T89.mk (0 : Int) (0 : Int) (List.replicate (32 : Nat) (0 : Int)) (0 : Int) [] (0 : Int) (List.replicate (8 : Nat) (0 : Int)))).4 (List.replicate (0 : Nat) (0 : Int) ++ (v0.getD v1.toNat (T89.mk (0 : Int) (0 : Int) (List.replicate (32 : Nat) (0 : Int)) (0 : Int) [] (0 : Int) (List.replicate (8 : Nat) (0 : Int)))).5) (v0.getD v1.toNat (T89.mk (0 : Int) (0 : Int) (List.replicate (32 : Nat) (0 : Int)) (0 : Int) [] (0 : Int) (List.replicate (8 : Nat) (0 : Int)))).6 (v0.getD v1.toNat (T89.mk (0 : Int) (0 : Int) (List.replicate (32 : Nat) (0 : Int)) (0 : Int) [] (0 : Int) (List.replicate (8 : Nat) (0 : Int)))).7)) else none else none else none else some (v0, v2)
def L18_5 (k n : Nat) (x : List T89 × Int × List T89) : Option (List T89 × List T89) := iterR (R18_5 k) n x
noncomputable def ls18_5 : Nat → Option (LSum Ty) := addL 5 (LSum.of of18_5 ab18_5 L18_5 oe18_5 on18_5) noL
def of18_13 : List T89 × Int × Int × List T89 × List Int × List Int × Bool → NSt Ty := fun x => ⟨[.slice 90 (x.1), .row 100000, .ptr 100001 [], .int .i64 (x.2.1), .ptr 100002 [], .int .i64 (x.2.2.1)], [.row 90 (x.2.2.2.1), .var (.arr 5 32 (x.2.2.2.2.1)), .var (.cons (.arr 5 32 (x.2.2.2.2.2.1)) (.cons (.bool (x.2.2.2.2.2.2)) (.nil)))]⟩
def ab18_13 : (n : NSt Ty) → Option {x : List T89 × Int × Int × List T89 × List Int × List Int × Bool // of18_13 x = n}
  | ⟨[.slice 90 v0, .row 100000, .ptr 100001 [], .int .i64 v1, .ptr 100002 [], .int .i64 v2], [.row 90 v3, .var (.arr 5 32 v4), .var (.cons (.arr 5 32 v5) (.cons (.bool v6) (.nil)))]⟩ => some ⟨(v0, v1, v2, v3, v4, v5, v6), rfl⟩
  | _ => none
def on18_13a : Bool × Int × List Int × List Int × Bool → NSt Ty := fun x => ⟨[.bool (x.1), .ptr 100000 [], .int .i64 (x.2.1), .ptr 100001 []], [.var (.arr 5 32 (x.2.2.1)), .var (.cons (.arr 5 32 (x.2.2.2.1)) (.cons (.bool (x.2.2.2.2)) (.nil)))]⟩
def on18_13b : Int × List Int × List Int × Bool → NSt Ty := fun x => ⟨[.undef, .ptr 100000 [], .int .i64 (x.1), .ptr 100001 []], [.var (.arr 5 32 (x.2.1)), .var (.cons (.arr 5 32 (x.2.2.1)) (.cons (.bool (x.2.2.2)) (.nil)))]⟩
def oa18_13 : (e : Ex) → (n : NSt Ty) → Option {y : (Bool × Int × List Int × List Int × Bool) ⊕ (Int × List Int × List Int × Bool) // oe2 .ret (.exit 2) y = e ∧ on2 on18_13a on18_13b y = n}
  | .ret, ⟨[.bool v0, .ptr 100000 [], .int .i64 v1, .ptr 100001 []], [.var (.arr 5 32 v2), .var (.cons (.arr 5 32 v3) (.cons (.bool v4) (.nil)))]⟩ => some ⟨.inl (v0, v1, v2, v3, v4), rfl, rfl⟩
  | .exit 2, ⟨[.undef, .ptr 100000 [], .int .i64 v0, .ptr 100001 []], [.var (.arr 5 32 v1), .var (.cons (.arr 5 32 v2) (.cons (.bool v3) (.nil)))]⟩ => some ⟨.inr (v0, v1, v2, v3), rfl, rfl⟩
  | _, _ => none
/-- a round of the loop 13 of function 18 -/
def R18_13 (k : Nat) (again : List T89 × Int × Int × List T89 × List Int × List Int × Bool → Option ((Bool × Int × List Int × List Int × Bool) ⊕ (Int × List Int × List Int × Bool))) (x : List T89 × Int × Int × List T89 × List Int × List Int × Bool) : Option ((Bool × Int × List Int × List Int × Bool) ⊕ (Int × List Int × List Int × Bool)) :=
  match x with
  | (v0, v1, v2, v3, v4, v5, v6) => bif decide (v2 < (↑v0.length : Int)) then bif inRange v2 v3.length then bif inRange v2 v0.length then (F54 k (T89.mk (v3.getD v2.toNat (T89.mk (0 : Int) (0 : Int) (List.replicate (32 : Nat) (0 : Int)) (0 : Int) [] (0 : Int) (List.replicate (8 : Nat) (0 : Int)))).1 (v3.getD v2.toNat (T89.mk (0 : Int) (0 : Int) (List.replicate (32 : Nat) (0 : Int)) (0 : Int) [] (0 : Int) (List.replicate (8 : Nat) (0 : Int)))).2 (v3.getD v2.toNat (T89.mk (0 : Int) (0 : Int) (List.replicate (32 : Nat) (0 : Int)) (0 : Int) [] (0 : Int) (List.replicate (8 : Nat) (0 : Int)))).3 (v3.getD v2.toNat (T89.mk (0 : Int) (0 : Int) (List.replicate (32 : Nat) (0 : Int)) (0 : Int) [] (0 : Int) (List.replicate (8 : Nat) (0 : Int)))).4 (v3.getD v2.toNat (T89.mk (0 : Int) (0 : Int) (List.replicate (32 : Nat) (0 : Int)) (0 : Int) [] (0 : Int) (List.replicate (8 : Nat) (0 : Int)))).5 (v3.getD v2.toNat (T89.mk (0 : Int) (0 : Int) (List.replicate (32 : Nat) (0 : Int)) (0 : Int) [] (0 : Int) (List.replicate (8 : Nat) (0 : Int)))).6 (v3.getD v2.toNat (T89.mk (0 : Int) (0 : Int) (List.replicate (32 : Nat) (0 : Int)) (0 : Int) [] (0 : Int) (List.replicate (8 : Nat) (0 : Int)))).7, T89.mk (v0.getD v2.toNat (T89.mk (0 : Int) (0 : Int) (List.replicate (32 : Nat) (0 : Int)) (0 : Int) [] (0 : Int) (List.replicate (8 : Nat) (0 : Int)))).1 (v0.getD v2.toNat (T89.mk (0 : Int) (0 : Int) (List.replicate (32 : Nat) (0 : Int)) (0 : Int) [] (0 : Int) (List.replicate (8 : Nat) (0 : Int)))).2 (v0.getD v2.toNat (T89.mk (0 : Int) (0 : Int) (List.replicate (32 : Nat) (0 : Int)) (0 : Int) [] (0 : Int) (List.replicate (8 : Nat) (0 : Int)))).3 (v0.getD v2.toNat (T89.mk (0 : Int) (0 : Int) (List.replicate (32 : Nat) (0 : Int)) (0 : Int) [] (0 : Int) (List.replicate (8 : Nat) (0 : Int)))).4 (v0.getD v2.toNat (T89.mk (0 : Int) (0 : Int) (List.replicate (32 : Nat) (0 : Int)) (0 : Int) [] (0 : Int) (List.replicate (8 : Nat) (0 : Int)))).5 (v0.getD v2.toNat (T89.mk (0 : Int) (0 : Int) (List.replicate (32 : Nat) (0 : Int)) (0 : Int) [] (0 : Int) (List.replicate (8 : Nat) (0 : Int)))).6 (v0.getD v2.toNat (T89.mk (0 : Int) (0 : Int) (List.replicate (32 : Nat) (0 : Int)) (0 : Int) [] (0 : Int) (List.replicate (8 : Nat) (0 : Int)))).7, ())).bind fun r => bif !r then some (Sum.inl (false, v1, v4, v5, v6)) else again (v0, v1, IntKind.i64.wrap (v2 + (1 : Int)), v3, v4, v5, v6) else none else none else some (Sum.inr (v1, v4, v5, v6))
def L18_13 (k n : Nat) (x : List T89 × Int × Int × List T89 × List Int × List Int × Bool) : Option ((Bool × Int × List Int × List Int × Bool) ⊕ (Int × List Int × List Int × Bool)) := iterR (R18_13 k) n x
noncomputable def ls18_13 : Nat → Option (LSum Ty) := addL 13 (lsum2 of18_13 ab18_13 L18_13 .ret on18_13a (.exit 2) on18_13b) ls18_5
def kp18 : Nat → Keep := fun i => cond (i == 5) ⟨[0, 3, 4], [0, 3], 0⟩ (cond (i == 13) ⟨[0, 3, 6, 7, 8, 9], [2, 6, 7, 8], 0⟩ (⟨[], [], 0⟩))
/-- "silt/siltlaw08.FoldTells" -/
def F18 (k : Nat) (x : (List T89) × Unit) : Option (Bool) :=
  match x with
  | (a0, ()) => (F55 k (a0, ())).bind fun r => bif !r then (F56 k ()).bind fun r => some r else (L18_5 k k (a0, (0 : Int), [])).bind fun r => (F57 k (r.snd, ())).bind fun r_1 => (F58 k (r.fst, ())).bind fun r_2 => (L18_13 k k (r.fst, r_1.snd.fst, (0 : Int), r.snd, r_1.fst, r_2.1, r_2.2)).bind fun r => sumK r (fun a => some a.fst) fun b => bif decide (b.snd.fst = b.snd.snd.fst) then bif (b.fst == (0 : Int)) == b.snd.snd.snd then bif b.fst == (0 : Int) then (F56 k ()).bind fun r => some r else bif b.fst == (11 : Int) then (F56 k ()).bind fun r => some r else some false else some false else some false
noncomputable def sp18 : FSpec Ty := spec ag18 rs18 F18
theorem bo18 : Tryd.f18.body = some (bodyOf Tryd.f18) := by kernel_rfl
theorem nd18 : nodupB ((loopsIn (bodyOf Tryd.f18)).map firstRegion) = true := by kernel_rfl
theorem lo18_5 : LSOK fs54 kp18 tab Tryd.f18 ls18_5 := lsum_ok bo18 nd18 (LSOK.none) oa18_5 (R := R18_5) fun k again x => by kernel_rfl
theorem lo18_13 : LSOK fs54 kp18 tab Tryd.f18 ls18_13 := lsum2_ok bo18 nd18 (lo18_5) oa18_13 (R := R18_13) fun k again x => by kernel_rfl
theorem ok18 : FOK Tryd.prog tab 18 sp18 := spec_ok (keeps := kp18) tabOK fs54OK Tryd.func18 bo18 (by kernel_rfl) nd18 (lo18_13) (F := F18) fun k x => by kernel_rfl
noncomputable def fs18 : Nat → Option (FSpec Ty) := addF 18 sp18 fs54
theorem fs18OK : SpecsOK Tryd.prog tab fs18 := fs54OK.add ok18 Tryd.call18
def ag30 : Args Ty (Int × ByteArray × Unit) := V.arg (tab.den 33) (V.arg (tab.den 9) (noArgs))
def rs30 : Res Ty tab (GErr) true := V.oneRes (tab.den 48) (ent 48).ids (ent 48).plain (fun _ h => by cases h)
def kp30 : Nat → Keep := fun i => ⟨[], [], 0⟩
/-- "silt/fault.New" -/
def F30 (k : Nat) (x : Int × ByteArray × Unit) : Option (GErr) :=
  match x with
  | (a0, a1, ()) => bif a0 == (0 : Int) then some GErr.nil else some (GErr.flt a1 (GErr.num a0) false)
noncomputable def sp30 : FSpec Ty := spec ag30 rs30 F30
theorem bo30 : Tryd.f30.body = some (bodyOf Tryd.f30) := by kernel_rfl
theorem nd30 : nodupB ((loopsIn (bodyOf Tryd.f30)).map firstRegion) = true := by kernel_rfl
theorem ok30 : FOK Tryd.prog tab 30 sp30 := spec_ok (keeps := kp30) tabOK fs18OK Tryd.func30 bo30 (by kernel_rfl) nd30 (LSOK.none) (F := F30) fun k x => by kernel_rfl
noncomputable def fs30 : Nat → Option (FSpec Ty) := addF 30 sp30 fs18
theorem fs30OK : SpecsOK Tryd.prog tab fs30 := fs18OK.add ok30 Tryd.call30
def ag34 : Args Ty (GErr × ByteArray × Unit) := V.arg (tab.den 48) (V.arg (tab.den 9) (noArgs))
def rs34 : Res Ty tab (GErr) true := V.oneRes (tab.den 48) (ent 48).ids (ent 48).plain (fun _ h => by cases h)
def kp34 : Nat → Keep := fun i => ⟨[], [], 0⟩
/-- "silt/fault.Wrap" -/
def F34 (k : Nat) (x : GErr × ByteArray × Unit) : Option (GErr) :=
  match x with
  | (a0, a1, ()) => bif a0.isNil then some GErr.nil else some (GErr.flt a1 a0 true)
noncomputable def sp34 : FSpec Ty := spec ag34 rs34 F34
theorem bo34 : Tryd.f34.body = some (bodyOf Tryd.f34) := by kernel_rfl
theorem nd34 : nodupB ((loopsIn (bodyOf Tryd.f34)).map firstRegion) = true := by kernel_rfl
theorem ok34 : FOK Tryd.prog tab 34 sp34 := spec_ok (keeps := kp34) tabOK fs30OK Tryd.func34 bo34 (by kernel_rfl) nd34 (LSOK.none) (F := F34) fun k x => by kernel_rfl
noncomputable def fs34 : Nat → Option (FSpec Ty) := addF 34 sp34 fs30
theorem fs34OK : SpecsOK Tryd.prog tab fs34 := fs30OK.add ok34 Tryd.call34
def ag60 : Args Ty (Int × (List Int) × Unit) := V.arg (tab.den 3) (V.arg (tab.den 24) (noArgs))
def rs60 : Res Ty tab (GErr) true := V.oneRes (tab.den 48) (ent 48).ids (ent 48).plain (fun _ h => by cases h)
def kp60 : Nat → Keep := fun i => ⟨[], [], 0⟩
/-- "silt/delta.fits" -/
def F60 (k : Nat) (x : Int × (List Int) × Unit) : Option (GErr) :=
  match x with
  | (a0, a1, ()) => bif decide (a0 < (0 : Int)) then (F30 k ((1 : Int), ByteArray.mk (Array.mk [(98 : UInt8), (121 : UInt8), (116 : UInt8), (101 : UInt8), (115 : UInt8)]), ())).bind fun r => (F34 k (r, ByteArray.mk (Array.mk [(97 : UInt8), (112 : UInt8), (112 : UInt8), (108 : UInt8), (121 : UInt8)]), ())).bind fun r => some r else bif decide ((↑a1.length : Int) < (1 : Int)) then (F30 k ((1 : Int), ByteArray.mk (Array.mk [(98 : UInt8), (121 : UInt8), (116 : UInt8), (101 : UInt8), (115 : UInt8)]), ())).bind fun r => (F34 k (r, ByteArray.mk (Array.mk [(97 : UInt8), (112 : UInt8), (112 : UInt8), (108 : UInt8), (121 : UInt8)]), ())).bind fun r => some r else bif decide ((↑a1.length : Int) > (32 : Int)) then (F30 k ((1 : Int), ByteArray.mk (Array.mk [(98 : UInt8), (121 : UInt8), (116 : UInt8), (101 : UInt8), (115 : UInt8)]), ())).bind fun r => (F34 k (r, ByteArray.mk (Array.mk [(97 : UInt8), (112 : UInt8), (112 : UInt8), (108 : UInt8), (121 : UInt8)]), ())).bind fun r => some r else bif decide (a0 > IntKind.i64.wrap ((32 : Int) - (↑a1.length : Int))) then (F30 k ((1 : Int), ByteArray.mk (Array.mk [(98 : UInt8), (121 : UInt8), (116 : UInt8), (101 : UInt8), (115 : UInt8)]), ())).bind fun r => (F34 k (r, ByteArray.mk (Array.mk [(97 : UInt8), (112 : UInt8), (112 : UInt8), (108 : UInt8), (121 : UInt8)]), ())).bind fun r => some r else some GErr.nil
noncomputable def sp60 : FSpec Ty := spec ag60 rs60 F60
theorem bo60 : Tryd.f60.body = some (bodyOf Tryd.f60) := by kernel_rfl
theorem nd60 : nodupB ((loopsIn (bodyOf Tryd.f60)).map firstRegion) = true := by kernel_rfl
theorem ok60 : FOK Tryd.prog tab 60 sp60 := spec_ok (keeps := kp60) tabOK fs34OK Tryd.func60 bo60 (by kernel_rfl) nd60 (LSOK.none) (F := F60) fun k x => by kernel_rfl
noncomputable def fs60 : Nat → Option (FSpec Ty) := addF 60 sp60 fs34
theorem fs60OK : SpecsOK Tryd.prog tab fs60 := fs34OK.add ok60 Tryd.call60
def ag25 : Args Ty ((List Int) × Int × (List Int) × Unit) := V.arg (tab.den 23) (V.arg (tab.den 3) (V.arg (tab.den 24) (noArgs)))
def rs25 : Res Ty tab ((List Int) × Int × Unit) false := V.manyRes (V.part (tab.den 23) (ent 23).ids (ent 23).plain (fun x _ => (ent 23).flat x rfl) (V.part (tab.den 33) (ent 33).ids (ent 33).plain (fun x _ => (ent 33).flat x rfl) (noParts)))
def kp25 : Nat → Keep := fun i => ⟨[], [], 0⟩
/-- "silt/delta.Apply" -/
def F25 (k : Nat) (x : (List Int) × Int × (List Int) × Unit) : Option ((List Int) × Int × Unit) :=
  match x with
  | (a0, a1, a2, ()) => (F60 k (a1, a2, ())).bind fun r => bif r.first.isSome then some (List.replicate (32 : Nat) (0 : Int), r.first.getD (0 : Int), ()) else bif decide ((0 : Int) ≤ a1) && decide (a1 ≤ (↑(32 : Nat) : Int)) && decide ((↑(32 : Nat) : Int) ≤ (↑(32 : Nat) : Int)) then some (splice a0 a2 a1.toNat (min a2.length ((↑(32 : Nat) : Int) - a1).toNat), (0 : Int), ()) else none
noncomputable def sp25 : FSpec Ty := spec ag25 rs25 F25
theorem bo25 : Tryd.f25.body = some (bodyOf Tryd.f25) := by kernel_rfl
theorem nd25 : nodupB ((loopsIn (bodyOf Tryd.f25)).map firstRegion) = true := by kernel_rfl
theorem ok25 : FOK Tryd.prog tab 25 sp25 := spec_ok (keeps := kp25) tabOK fs60OK Tryd.func25 bo25 (by kernel_rfl) nd25 (LSOK.none) (F := F25) fun k x => by kernel_rfl
noncomputable def fs25 : Nat → Option (FSpec Ty) := addF 25 sp25 fs60
theorem fs25OK : SpecsOK Tryd.prog tab fs25 := fs60OK.add ok25 Tryd.call25
def ag19 : Args Ty ((List T89) × Int × (List Int) × Unit) := V.arg (tab.den 100) (V.arg (tab.den 3) (V.arg (tab.den 24) (noArgs)))
def rs19 : Res Ty tab (Bool) false := V.oneRes (tab.den 4) (ent 4).ids (ent 4).plain (fun x _ => (ent 4).flat x rfl)
def kp19 : Nat → Keep := fun i => ⟨[], [], 0⟩
/-- "silt/siltlaw08.FoldMore" -/
def F19 (k : Nat) (x : (List T89) × Int × (List Int) × Unit) : Option (Bool) :=
  match x with
  | (a0, a1, a2, ()) => (F55 k (a0, ())).bind fun r => bif !r then (F56 k ()).bind fun r => some r else bif decide ((↑a2.length : Int) > (300 : Int)) then (F56 k ()).bind fun r => some r else bif (↑a0.length : Int) == (0 : Int) then (F56 k ()).bind fun r => some r else (F57 k (a0, ())).bind fun r => bif r.snd.fst != (0 : Int) then bif decide (r.fst = List.replicate (32 : Nat) (0 : Int)) then (F56 k ()).bind fun r => some r else some false else bif inRange (0 : Int) a0.length then bif decide (((List.replicate (1 : Nat) (T89.mk (0 : Int) (0 : Int) (List.replicate (32 : Nat) (0 : Int)) (0 : Int) [] (0 : Int) (List.replicate (8 : Nat) (0 : Int)))).set (0 : Nat) (T89.mk (2 : Int) (a0.getD (Int.toNat (0 : Int)) (T89.mk (0 : Int) (0 : Int) (List.replicate (32 : Nat) (0 : Int)) (0 : Int) [] (0 : Int) (List.replicate (8 : Nat) (0 : Int)))).2 (List.replicate (32 : Nat) (0 : Int)) a1 a2 (99 : Int) (List.replicate (8 : Nat) (0 : Int)))).length + a0.length ≤ roomMost) then (F57 k ((List.replicate (1 : Nat) (T89.mk (0 : Int) (0 : Int) (List.replicate (32 : Nat) (0 : Int)) (0 : Int) [] (0 : Int) (List.replicate (8 : Nat) (0 : Int)))).set (0 : Nat) (T89.mk (2 : Int) (a0.getD (Int.toNat (0 : Int)) (T89.mk (0 : Int) (0 : Int) (List.replicate (32 : Nat) (0 : Int)) (0 : Int) [] (0 : Int) (List.replicate (8 : Nat) (0 : Int)))).2 (List.replicate (32 : Nat) (0 : Int)) a1 a2 (99 : Int) (List.replicate (8 : Nat) (0 : Int))) ++ a0, ())).bind fun r_1 => (F25 k (r.fst, a1, a2, ())).bind fun r => bif decide ((↑a0.length : Int) ≥ (3 : Int)) then bif r_1.snd.fst == (11 : Int) then bif decide (r_1.fst = List.replicate (32 : Nat) (0 : Int)) then (F56 k ()).bind fun r => some r else some false else some false else bif r.snd.fst != (0 : Int) then bif r_1.snd.fst == (11 : Int) then bif decide (r_1.fst = List.replicate (32 : Nat) (0 : Int)) then (F56 k ()).bind fun r => some r else some false else some false else bif decide ((↑a2.length : Int) > (16 : Int)) then bif r_1.snd.fst == (11 : Int) then bif decide (r_1.fst = List.replicate (32 : Nat) (0 : Int)) then (F56 k ()).bind fun r => some r else some false else some false else bif r_1.snd.fst == (0 : Int) then bif decide (r_1.fst = r.fst) then (F56 k ()).bind fun r => some r else some false else some false else none else none
noncomputable def sp19 : FSpec Ty := spec ag19 rs19 F19
theorem bo19 : Tryd.f19.body = some (bodyOf Tryd.f19) := by kernel_rfl
theorem nd19 : nodupB ((loopsIn (bodyOf Tryd.f19)).map firstRegion) = true := by kernel_rfl
theorem ok19 : FOK Tryd.prog tab 19 sp19 := spec_ok (keeps := kp19) tabOK fs25OK Tryd.func19 bo19 (by kernel_rfl) nd19 (LSOK.none) (F := F19) fun k x => by kernel_rfl
noncomputable def fs19 : Nat → Option (FSpec Ty) := addF 19 sp19 fs25
theorem fs19OK : SpecsOK Tryd.prog tab fs19 := fs25OK.add ok19 Tryd.call19
def ag20 : Args Ty ((List Int) × (List T89) × Int × Unit) := V.arg (tab.den 23) (V.arg (tab.den 117) (V.arg (tab.den 5) (noArgs)))
def rs20 : Res Ty tab (Bool) false := V.oneRes (tab.den 4) (ent 4).ids (ent 4).plain (fun x _ => (ent 4).flat x rfl)
def kp20 : Nat → Keep := fun i => ⟨[], [], 0⟩
/-- "silt/siltlaw08.FoldWhole" -/
def F20 (k : Nat) (x : (List Int) × (List T89) × Int × Unit) : Option (Bool) :=
  match x with
  | (a0, a1, a2, ()) => bif decide ((↑(a1.getD (Int.toNat (0 : Int)) (T89.mk (0 : Int) (0 : Int) (List.replicate (32 : Nat) (0 : Int)) (0 : Int) [] (0 : Int) (List.replicate (8 : Nat) (0 : Int)))).5.length : Int) > (300 : Int)) then (F56 k ()).bind fun r => some r else bif decide ((↑(a1.getD (Int.toNat (1 : Int)) (T89.mk (0 : Int) (0 : Int) (List.replicate (32 : Nat) (0 : Int)) (0 : Int) [] (0 : Int) (List.replicate (8 : Nat) (0 : Int)))).5.length : Int) > (300 : Int)) then (F56 k ()).bind fun r => some r else (F57 k ((List.replicate (1 : Nat) (T89.mk (0 : Int) (0 : Int) (List.replicate (32 : Nat) (0 : Int)) (0 : Int) [] (0 : Int) (List.replicate (8 : Nat) (0 : Int)))).set (0 : Nat) (T89.mk (1 : Int) ((IntKind.i64.wrap a2).tmod (64 : Int)) a0 (0 : Int) [] (0 : Int) (List.replicate (8 : Nat) (0 : Int))), ())).bind fun r => bif r.snd.fst != (0 : Int) then some false else bif !decide (r.fst = a0) then some false else (F57 k (((List.replicate (2 : Nat) (T89.mk (0 : Int) (0 : Int) (List.replicate (32 : Nat) (0 : Int)) (0 : Int) [] (0 : Int) (List.replicate (8 : Nat) (0 : Int)))).set (0 : Nat) (T89.mk (2 : Int) ((IntKind.i64.wrap a2).tmod (64 : Int)) (List.replicate (32 : Nat) (0 : Int)) (a1.getD (Int.toNat (0 : Int)) (T89.mk (0 : Int) (0 : Int) (List.replicate (32 : Nat) (0 : Int)) (0 : Int) [] (0 : Int) (List.replicate (8 : Nat) (0 : Int)))).4 (a1.getD (Int.toNat (0 : Int)) (T89.mk (0 : Int) (0 : Int) (List.replicate (32 : Nat) (0 : Int)) (0 : Int) [] (0 : Int) (List.replicate (8 : Nat) (0 : Int)))).5 (9 : Int) (List.replicate (8 : Nat) (0 : Int)))).set (1 : Nat) (T89.mk (1 : Int) ((IntKind.i64.wrap a2).tmod (64 : Int)) a0 (0 : Int) [] (0 : Int) (List.replicate (8 : Nat) (0 : Int))), ())).bind fun r => (F25 k (a0, (a1.getD (Int.toNat (0 : Int)) (T89.mk (0 : Int) (0 : Int) (List.replicate (32 : Nat) (0 : Int)) (0 : Int) [] (0 : Int) (List.replicate (8 : Nat) (0 : Int)))).4, (a1.getD (Int.toNat (0 : Int)) (T89.mk (0 : Int) (0 : Int) (List.replicate (32 : Nat) (0 : Int)) (0 : Int) [] (0 : Int) (List.replicate (8 : Nat) (0 : Int)))).5, ())).bind fun r_1 => bif decide ((↑(a1.getD (Int.toNat (0 : Int)) (T89.mk (0 : Int) (0 : Int) (List.replicate (32 : Nat) (0 : Int)) (0 : Int) [] (0 : Int) (List.replicate (8 : Nat) (0 : Int)))).5.length : Int) > (16 : Int)) then bif r.snd.fst == (11 : Int) then (F56 k ()).bind fun r => some r else some false else bif r_1.snd.fst != (0 : Int) then bif r.snd.fst == (11 : Int) then (F56 k ()).bind fun r => some r else some false else bif r.snd.fst != (0 : Int) then some false else bif !decide (r.fst = r_1.fst) then some false else (F25 k (List.replicate (32 : Nat) (0 : Int), (a1.getD (Int.toNat (1 : Int)) (T89.mk (0 : Int) (0 : Int) (List.replicate (32 : Nat) (0 : Int)) (0 : Int) [] (0 : Int) (List.replicate (8 : Nat) (0 : Int)))).4, (a1.getD (Int.toNat (1 : Int)) (T89.mk (0 : Int) (0 : Int) (List.replicate (32 : Nat) (0 : Int)) (0 : Int) [] (0 : Int) (List.replicate (8 : Nat) (0 : Int)))).5, ())).bind fun r => (F57 k (((List.replicate (2 : Nat) (T89.mk (0 : Int) (0 : Int) (List.replicate (32 : Nat) (0 : Int)) (0 : Int) [] (0 : Int) (List.replicate (8 : Nat) (0 : Int)))).set (0 : Nat) (T89.mk (2 : Int) ((IntKind.i64.wrap a2).tmod (64 : Int)) (List.replicate (32 : Nat) (0 : Int)) (a1.getD (Int.toNat (0 : Int)) (T89.mk (0 : Int) (0 : Int) (List.replicate (32 : Nat) (0 : Int)) (0 : Int) [] (0 : Int) (List.replicate (8 : Nat) (0 : Int)))).4 (a1.getD (Int.toNat (0 : Int)) (T89.mk (0 : Int) (0 : Int) (List.replicate (32 : Nat) (0 : Int)) (0 : Int) [] (0 : Int) (List.replicate (8 : Nat) (0 : Int)))).5 (9 : Int) (List.replicate (8 : Nat) (0 : Int)))).set (1 : Nat) (T89.mk (2 : Int) ((IntKind.i64.wrap a2).tmod (64 : Int)) (List.replicate (32 : Nat) (0 : Int)) (a1.getD (Int.toNat (1 : Int)) (T89.mk (0 : Int) (0 : Int) (List.replicate (32 : Nat) (0 : Int)) (0 : Int) [] (0 : Int) (List.replicate (8 : Nat) (0 : Int)))).4 (a1.getD (Int.toNat (1 : Int)) (T89.mk (0 : Int) (0 : Int) (List.replicate (32 : Nat) (0 : Int)) (0 : Int) [] (0 : Int) (List.replicate (8 : Nat) (0 : Int)))).5 (1 : Int) (List.replicate (8 : Nat) (0 : Int))), ())).bind fun r_2 => bif decide ((↑(a1.getD (Int.toNat (1 : Int)) (T89.mk (0 : Int) (0 : Int) (List.replicate (32 : Nat) (0 : Int)) (0 : Int) [] (0 : Int) (List.replicate (8 : Nat) (0 : Int)))).5.length : Int) > (16 : Int)) then bif r_2.snd.fst == (11 : Int) then (F56 k ()).bind fun r => some r else some false else bif r.snd.fst != (0 : Int) then bif r_2.snd.fst == (11 : Int) then (F56 k ()).bind fun r => some r else some false else (F25 k (r.fst, (a1.getD (Int.toNat (0 : Int)) (T89.mk (0 : Int) (0 : Int) (List.replicate (32 : Nat) (0 : Int)) (0 : Int) [] (0 : Int) (List.replicate (8 : Nat) (0 : Int)))).4, (a1.getD (Int.toNat (0 : Int)) (T89.mk (0 : Int) (0 : Int) (List.replicate (32 : Nat) (0 : Int)) (0 : Int) [] (0 : Int) (List.replicate (8 : Nat) (0 : Int)))).5, ())).bind fun r => (F57 k (((List.replicate (2 : Nat) (T89.mk (0 : Int) (0 : Int) (List.replicate (32 : Nat) (0 : Int)) (0 : Int) [] (0 : Int) (List.replicate (8 : Nat) (0 : Int)))).set (0 : Nat) (T89.mk (2 : Int) ((IntKind.i64.wrap ((IntKind.i64.wrap a2).tmod (64 : Int) + (1 : Int))).tmod (64 : Int)) (List.replicate (32 : Nat) (0 : Int)) (a1.getD (Int.toNat (0 : Int)) (T89.mk (0 : Int) (0 : Int) (List.replicate (32 : Nat) (0 : Int)) (0 : Int) [] (0 : Int) (List.replicate (8 : Nat) (0 : Int)))).4 (a1.getD (Int.toNat (0 : Int)) (T89.mk (0 : Int) (0 : Int) (List.replicate (32 : Nat) (0 : Int)) (0 : Int) [] (0 : Int) (List.replicate (8 : Nat) (0 : Int)))).5 (9 : Int) (List.replicate (8 : Nat) (0 : Int)))).set (1 : Nat) (T89.mk (1 : Int) ((IntKind.i64.wrap a2).tmod (64 : Int)) a0 (0 : Int) [] (0 : Int) (List.replicate (8 : Nat) (0 : Int))), ())).bind fun r_3 => (F57 k ((List.replicate (1 : Nat) (T89.mk (0 : Int) (0 : Int) (List.replicate (32 : Nat) (0 : Int)) (0 : Int) [] (0 : Int) (List.replicate (8 : Nat) (0 : Int)))).set (0 : Nat) (T89.mk (3 : Int) (0 : Int) (List.replicate (32 : Nat) (0 : Int)) (0 : Int) [] (0 : Int) (List.replicate (8 : Nat) (0 : Int))), ())).bind fun r_4 => bif r_2.snd.fst == (0 : Int) then bif r.snd.fst == (0 : Int) then bif decide (r_2.fst = r.fst) then bif r_3.snd.fst == (11 : Int) then bif r_4.snd.fst == (11 : Int) then (F56 k ()).bind fun r => some r else some false else some false else some false else some false else some false
noncomputable def sp20 : FSpec Ty := spec ag20 rs20 F20
theorem bo20 : Tryd.f20.body = some (bodyOf Tryd.f20) := by kernel_rfl
theorem nd20 : nodupB ((loopsIn (bodyOf Tryd.f20)).map firstRegion) = true := by kernel_rfl
theorem ok20 : FOK Tryd.prog tab 20 sp20 := spec_ok (keeps := kp20) tabOK fs19OK Tryd.func20 bo20 (by kernel_rfl) nd20 (LSOK.none) (F := F20) fun k x => by kernel_rfl
noncomputable def fs20 : Nat → Option (FSpec Ty) := addF 20 sp20 fs19
theorem fs20OK : SpecsOK Tryd.prog tab fs20 := fs19OK.add ok20 Tryd.call20
def ag75 : Args Ty (T89 × Unit) := V.arg (tab.den 90) (noArgs)
def rs75 : Res Ty tab (Bool) false := V.oneRes (tab.den 4) (ent 4).ids (ent 4).plain (fun x _ => (ent 4).flat x rfl)
def kp75 : Nat → Keep := fun i => ⟨[], [], 0⟩
/-- "silt/block.plain" -/
def F75 (k : Nat) (x : T89 × Unit) : Option (Bool) :=
  match x with
  | (a0, ()) => bif a0.4 == (0 : Int) then bif (↑a0.5.length : Int) == (0 : Int) then bif a0.1 == (1 : Int) then bif decide (a0.7 = List.replicate (8 : Nat) (0 : Int)) then some (a0.6 == (0 : Int)) else some false else bif a0.1 == (2 : Int) then bif decide (a0.7 = List.replicate (8 : Nat) (0 : Int)) then some (decide (a0.3 = List.replicate (32 : Nat) (0 : Int))) else some false else bif decide (a0.3 = List.replicate (32 : Nat) (0 : Int)) then some (a0.6 == (0 : Int)) else some false else bif a0.1 == (1 : Int) then bif decide (a0.7 = List.replicate (8 : Nat) (0 : Int)) then some false else some false else bif a0.1 == (2 : Int) then bif decide (a0.7 = List.replicate (8 : Nat) (0 : Int)) then some (decide (a0.3 = List.replicate (32 : Nat) (0 : Int))) else some false else bif decide (a0.3 = List.replicate (32 : Nat) (0 : Int)) then some false else some false else bif a0.1 == (1 : Int) then bif decide (a0.7 = List.replicate (8 : Nat) (0 : Int)) then some false else some false else bif a0.1 == (2 : Int) then bif decide (a0.7 = List.replicate (8 : Nat) (0 : Int)) then some (decide (a0.3 = List.replicate (32 : Nat) (0 : Int))) else some false else bif decide (a0.3 = List.replicate (32 : Nat) (0 : Int)) then some false else some false
noncomputable def sp75 : FSpec Ty := spec ag75 rs75 F75
theorem bo75 : Tryd.f75.body = some (bodyOf Tryd.f75) := by kernel_rfl
theorem nd75 : nodupB ((loopsIn (bodyOf Tryd.f75)).map firstRegion) = true := by kernel_rfl
theorem ok75 : FOK Tryd.prog tab 75 sp75 := spec_ok (keeps := kp75) tabOK fs20OK Tryd.func75 bo75 (by kernel_rfl) nd75 (LSOK.none) (F := F75) fun k x => by kernel_rfl
noncomputable def fs75 : Nat → Option (FSpec Ty) := addF 75 sp75 fs20
theorem fs75OK : SpecsOK Tryd.prog tab fs75 := fs20OK.add ok75 Tryd.call75
def ag76 : Args Ty (Int × Unit) := V.arg (tab.den 3) (noArgs)
def rs76 : Res Ty tab (Bool) false := V.oneRes (tab.den 4) (ent 4).ids (ent 4).plain (fun x _ => (ent 4).flat x rfl)
def kp76 : Nat → Keep := fun i => ⟨[], [], 0⟩
/-- "silt/block.head" -/
def F76 (k : Nat) (x : Int × Unit) : Option (Bool) :=
  match x with
  | (a0, ()) => bif a0 == (0 : Int) then some true else bif a0 == (1 : Int) then some true else bif decide (a0 ≥ (4 : Int)) then some (decide (a0 ≤ (1023 : Int))) else some false
noncomputable def sp76 : FSpec Ty := spec ag76 rs76 F76
theorem bo76 : Tryd.f76.body = some (bodyOf Tryd.f76) := by kernel_rfl
theorem nd76 : nodupB ((loopsIn (bodyOf Tryd.f76)).map firstRegion) = true := by kernel_rfl
theorem ok76 : FOK Tryd.prog tab 76 sp76 := spec_ok (keeps := kp76) tabOK fs75OK Tryd.func76 bo76 (by kernel_rfl) nd76 (LSOK.none) (F := F76) fun k x => by kernel_rfl
noncomputable def fs76 : Nat → Option (FSpec Ty) := addF 76 sp76 fs75
theorem fs76OK : SpecsOK Tryd.prog tab fs76 := fs75OK.add ok76 Tryd.call76
def ag78 : Args Ty (Int × Unit) := V.arg (tab.den 3) (noArgs)
def rs78 : Res Ty tab (Bool) false := V.oneRes (tab.den 4) (ent 4).ids (ent 4).plain (fun x _ => (ent 4).flat x rfl)
def kp78 : Nat → Keep := fun i => ⟨[], [], 0⟩
/-- "silt/block.Good$1" -/
def F78 (k : Nat) (x : Int × Unit) : Option (Bool) :=
  match x with
  | (a0, ()) => (F76 k (a0, ())).bind fun r => some !r
noncomputable def sp78 : FSpec Ty := spec ag78 rs78 F78
theorem bo78 : Tryd.f78.body = some (bodyOf Tryd.f78) := by kernel_rfl
theorem nd78 : nodupB ((loopsIn (bodyOf Tryd.f78)).map firstRegion) = true := by kernel_rfl
theorem ok78 : FOK Tryd.prog tab 78 sp78 := spec_ok (keeps := kp78) tabOK fs76OK Tryd.func78 bo78 (by kernel_rfl) nd78 (LSOK.none) (F := F78) fun k x => by kernel_rfl
noncomputable def fs78 : Nat → Option (FSpec Ty) := addF 78 sp78 fs76
theorem fs78OK : SpecsOK Tryd.prog tab fs78 := fs76OK.add ok78 Tryd.call78
def ag95 : Args Ty ((List Int) × Unit × Unit) := V.arg (tab.den 97) (V.arg (tab.den 143) (noArgs))
def rs95 : Res Ty tab (Int) false := V.oneRes (tab.den 3) (ent 3).ids (ent 3).plain (fun x _ => (ent 3).flat x rfl)
def of95_2 : List Int × Int × Int → NSt Ty := fun x => ⟨[.slice 3 (x.1), .func 78, .int .i64 (x.2.1), .int .i64 (x.2.2)], []⟩
def ab95_2 : (n : NSt Ty) → Option {x : List Int × Int × Int // of95_2 x = n}
  | ⟨[.slice 3 v0, .func 78, .int .i64 v1, .int .i64 v2], []⟩ => some ⟨(v0, v1, v2), rfl⟩
  | _ => none
def on95_2a : Int → NSt Ty := fun x => ⟨[.int .i64 (x)], []⟩
def on95_2b : Unit → NSt Ty := fun x => ⟨[.undef], []⟩
def oa95_2 : (e : Ex) → (n : NSt Ty) → Option {y : (Int) ⊕ (Unit) // oe2 .ret (.exit 0) y = e ∧ on2 on95_2a on95_2b y = n}
  | .ret, ⟨[.int .i64 v0], []⟩ => some ⟨.inl v0, rfl, rfl⟩
  | .exit 0, ⟨[.undef], []⟩ => some ⟨.inr (), rfl, rfl⟩
  | _, _ => none
/-- a round of the loop 2 of function 95 -/
def R95_2 (k : Nat) (again : List Int × Int × Int → Option ((Int) ⊕ (Unit))) (x : List Int × Int × Int) : Option ((Int) ⊕ (Unit)) :=
  match x with
  | (v0, v1, v2) => bif decide (v2 < v1) then bif inRange v2 v0.length then (F78 k (v0.getD v2.toNat (0 : Int), ())).bind fun r => bif r then some (Sum.inl v2) else again (v0, v1, IntKind.i64.wrap (v2 + (1 : Int))) else none else some (Sum.inr ())
def L95_2 (k n : Nat) (x : List Int × Int × Int) : Option ((Int) ⊕ (Unit)) := iterR (R95_2 k) n x
noncomputable def ls95_2 : Nat → Option (LSum Ty) := addL 2 (lsum2 of95_2 ab95_2 L95_2 .ret on95_2a (.exit 0) on95_2b) noL
def kp95 : Nat → Keep := fun i => cond (i == 2) ⟨[0, 1, 7, 8], [4], 0⟩ (⟨[], [], 0⟩)
/-- "slices.IndexFunc[[]int,int]" -/
def F95 (k : Nat) (x : (List Int) × Unit × Unit) : Option (Int) :=
  match x with
  | (a0, a1, ()) => (L95_2 k k (a0, (↑a0.length : Int), (0 : Int))).bind fun r => sumK r (fun a => some a) fun b => some (-1 : Int)
noncomputable def sp95 : FSpec Ty := spec ag95 rs95 F95
theorem bo95 : Tryd.f95.body = some (bodyOf Tryd.f95) := by kernel_rfl
theorem nd95 : nodupB ((loopsIn (bodyOf Tryd.f95)).map firstRegion) = true := by kernel_rfl
theorem lo95_2 : LSOK fs78 kp95 tab Tryd.f95 ls95_2 := lsum2_ok bo95 nd95 (LSOK.none) oa95_2 (R := R95_2) fun k again x => by kernel_rfl
theorem ok95 : FOK Tryd.prog tab 95 sp95 := spec_ok (keeps := kp95) tabOK fs78OK Tryd.func95 bo95 (by kernel_rfl) nd95 (lo95_2) (F := F95) fun k x => by kernel_rfl
noncomputable def fs95 : Nat → Option (FSpec Ty) := addF 95 sp95 fs78
theorem fs95OK : SpecsOK Tryd.prog tab fs95 := fs78OK.add ok95 Tryd.call95
def ag77 : Args Ty ((List Int) × Unit × Unit) := V.arg (tab.den 97) (V.arg (tab.den 143) (noArgs))
def rs77 : Res Ty tab (Bool) false := V.oneRes (tab.den 4) (ent 4).ids (ent 4).plain (fun x _ => (ent 4).flat x rfl)
def kp77 : Nat → Keep := fun i => ⟨[], [], 0⟩
/-- "slices.ContainsFunc[[]int,int]" -/
def F77 (k : Nat) (x : (List Int) × Unit × Unit) : Option (Bool) :=
  match x with
  | (a0, a1, ()) => (F95 k (a0, (), ())).bind fun r => some (decide (r ≥ (0 : Int)))
noncomputable def sp77 : FSpec Ty := spec ag77 rs77 F77
theorem bo77 : Tryd.f77.body = some (bodyOf Tryd.f77) := by kernel_rfl
theorem nd77 : nodupB ((loopsIn (bodyOf Tryd.f77)).map firstRegion) = true := by kernel_rfl
theorem ok77 : FOK Tryd.prog tab 77 sp77 := spec_ok (keeps := kp77) tabOK fs95OK Tryd.func77 bo77 (by kernel_rfl) nd77 (LSOK.none) (F := F77) fun k x => by kernel_rfl
noncomputable def fs77 : Nat → Option (FSpec Ty) := addF 77 sp77 fs95
theorem fs77OK : SpecsOK Tryd.prog tab fs77 := fs95OK.add ok77 Tryd.call77
def ag47 : Args Ty (T89 × Unit) := V.arg (tab.den 90) (noArgs)
def rs47 : Res Ty tab (Bool) false := V.oneRes (tab.den 4) (ent 4).ids (ent 4).plain (fun x _ => (ent 4).flat x rfl)
def kp47 : Nat → Keep := fun i => ⟨[], [], 0⟩
/-- "silt/block.Good" -/
def F47 (k : Nat) (x : T89 × Unit) : Option (Bool) :=
  match x with
  | (a0, ()) => bif decide (a0.2 < (0 : Int)) then some false else (F75 k (T89.mk a0.1 a0.2 a0.3 a0.4 a0.5 a0.6 a0.7, ())).bind fun r => bif !r then some false else bif a0.1 == (2 : Int) then bif decide (a0.4 < (0 : Int)) then some false else bif decide ((↑a0.5.length : Int) < (1 : Int)) then some false else bif decide ((↑a0.5.length : Int) > (16 : Int)) then some false else bif decide (a0.4 > IntKind.i64.wrap ((32 : Int) - (↑a0.5.length : Int))) then some false else bif a0.6 == (0 : Int) then some false else (F76 k (a0.6, ())).bind fun r => bif !r then some false else some (decide (a0.2 < (64 : Int))) else bif a0.1 == (1 : Int) then some (decide (a0.2 < (64 : Int))) else bif a0.1 == (3 : Int) then bif decide (a0.2 < (8 : Int)) then (F77 k (List.take ((↑(8 : Nat) : Int) - (0 : Int)).toNat (List.drop (Int.toNat (0 : Int)) a0.7), (), ())).bind fun r => some !r else some false else some false
noncomputable def sp47 : FSpec Ty := spec ag47 rs47 F47
theorem bo47 : Tryd.f47.body = some (bodyOf Tryd.f47) := by kernel_rfl
theorem nd47 : nodupB ((loopsIn (bodyOf Tryd.f47)).map firstRegion) = true := by kernel_rfl
theorem ok47 : FOK Tryd.prog tab 47 sp47 := spec_ok (keeps := kp47) tabOK fs77OK Tryd.func47 bo47 (by kernel_rfl) nd47 (LSOK.none) (F := F47) fun k x => by kernel_rfl
noncomputable def fs47 : Nat → Option (FSpec Ty) := addF 47 sp47 fs77
theorem fs47OK : SpecsOK Tryd.prog tab fs47 := fs77OK.add ok47 Tryd.call47
def ag72 : Args Ty (Int × T85 × Unit) := V.arg (tab.den 3) (V.arg (tab.den 86) (noArgs))
def rs72 : Res Ty tab (Bool) false := V.oneRes (tab.den 4) (ent 4).ids (ent 4).plain (fun x _ => (ent 4).flat x rfl)
def kp72 : Nat → Keep := fun i => ⟨[], [], 0⟩
/-- "silt/policy.may" -/
def F72 (k : Nat) (x : Int × T85 × Unit) : Option (Bool) :=
  match x with
  | (a0, a1, ()) => bif decide (a0 < (0 : Int)) then some false else bif decide (a0 ≥ (64 : Int)) then some false else bif decide (a1.2 < (0 : Int)) then some false else bif decide (a1.2 > (3 : Int)) then some false else bif a1.1 == (0 : Int) then some (a1.2 == (0 : Int)) else bif a1.1 == (1 : Int) then some (a1.2 == (0 : Int)) else bif decide (a1.2 > (0 : Int)) then (F47 k (T89.mk (2 : Int) a0 (List.replicate (32 : Nat) (0 : Int)) (0 : Int) ((List.replicate (1 : Nat) (0 : Int)).set (0 : Nat) (0 : Int)) a1.1 (List.replicate (8 : Nat) (0 : Int)), ())).bind fun r => some r else some false
noncomputable def sp72 : FSpec Ty := spec ag72 rs72 F72
theorem bo72 : Tryd.f72.body = some (bodyOf Tryd.f72) := by kernel_rfl
theorem nd72 : nodupB ((loopsIn (bodyOf Tryd.f72)).map firstRegion) = true := by kernel_rfl
theorem ok72 : FOK Tryd.prog tab 72 sp72 := spec_ok (keeps := kp72) tabOK fs47OK Tryd.func72 bo72 (by kernel_rfl) nd72 (LSOK.none) (F := F72) fun k x => by kernel_rfl
noncomputable def fs72 : Nat → Option (FSpec Ty) := addF 72 sp72 fs47
theorem fs72OK : SpecsOK Tryd.prog tab fs72 := fs47OK.add ok72 Tryd.call72
def ag73 : Args Ty (Int × (List Int) × Unit) := V.arg (tab.den 3) (V.arg (tab.den 23) (noArgs))
def rs73 : Res Ty tab (T91 × Int × Unit) true := V.manyRes (V.part (tab.den 92) (ent 92).ids (ent 92).plain (fun _ h => by cases h) (V.part (tab.den 33) (ent 33).ids (ent 33).plain (fun _ h => by cases h) (noParts)))
def kp73 : Nat → Keep := fun i => ⟨[], [], 0⟩
/-- "silt/policy.Whole" -/
def F73 (k : Nat) (x : Int × (List Int) × Unit) : Option (T91 × Int × Unit) :=
  match x with
  | (a0, a1, ()) => (F47 k (T89.mk (1 : Int) a0 a1 (0 : Int) [] (0 : Int) (List.replicate (8 : Nat) (0 : Int)), ())).bind fun r => bif !r then some (T91.mk (T87.mk (0 : Int) (0 : Int)) (T89.mk (0 : Int) (0 : Int) (List.replicate (32 : Nat) (0 : Int)) (0 : Int) [] (0 : Int) (List.replicate (8 : Nat) (0 : Int))), (1 : Int), ()) else some (T91.mk (T87.mk (1 : Int) a0) (T89.mk (1 : Int) a0 a1 (0 : Int) [] (0 : Int) (List.replicate (8 : Nat) (0 : Int))), (0 : Int), ())
noncomputable def sp73 : FSpec Ty := spec ag73 rs73 F73
theorem bo73 : Tryd.f73.body = some (bodyOf Tryd.f73) := by kernel_rfl
theorem nd73 : nodupB ((loopsIn (bodyOf Tryd.f73)).map firstRegion) = true := by kernel_rfl
theorem ok73 : FOK Tryd.prog tab 73 sp73 := spec_ok (keeps := kp73) tabOK fs72OK Tryd.func73 bo73 (by kernel_rfl) nd73 (LSOK.none) (F := F73) fun k x => by kernel_rfl
noncomputable def fs73 : Nat → Option (FSpec Ty) := addF 73 sp73 fs72
theorem fs73OK : SpecsOK Tryd.prog tab fs73 := fs72OK.add ok73 Tryd.call73
def ag23 : Args Ty ((List Int) × (List Int) × Unit) := V.arg (tab.den 23) (V.arg (tab.den 23) (noArgs))
def rs23 : Res Ty tab (Int × (List Int) × Bool × Unit) true := V.manyRes (V.part (tab.den 3) (ent 3).ids (ent 3).plain (fun _ h => by cases h) (V.part (tab.den 24) (ent 24).ids (ent 24).plain (fun _ h => by cases h) (V.part (tab.den 4) (ent 4).ids (ent 4).plain (fun _ h => by cases h) (noParts))))
def of23_3 : Int × Int × Int × List Int × List Int → NSt Ty := fun x => ⟨[.ptr 100000 [], .ptr 100001 [], .int .i64 (x.1), .int .i64 (x.2.1), .int .i64 (x.2.2.1)], [.var (.arr 5 32 (x.2.2.2.1)), .var (.arr 5 32 (x.2.2.2.2))]⟩
def ab23_3 : (n : NSt Ty) → Option {x : Int × Int × Int × List Int × List Int // of23_3 x = n}
  | ⟨[.ptr 100000 [], .ptr 100001 [], .int .i64 v0, .int .i64 v1, .int .i64 v2], [.var (.arr 5 32 v3), .var (.arr 5 32 v4)]⟩ => some ⟨(v0, v1, v2, v3, v4), rfl⟩
  | _ => none
def oe23_3 : Int × Int × List Int → Ex := fun _ => .exit 0
def on23_3 : Int × Int × List Int → NSt Ty := fun x => ⟨[.ptr 100000 [], .int .i64 (x.1), .int .i64 (x.2.1)], [.var (.arr 5 32 (x.2.2))]⟩
def oa23_3 : (e : Ex) → (n : NSt Ty) → Option {y : Int × Int × List Int // oe23_3 y = e ∧ on23_3 y = n}
  | .exit 0, ⟨[.ptr 100000 [], .int .i64 v0, .int .i64 v1], [.var (.arr 5 32 v2)]⟩ => some ⟨(v0, v1, v2), rfl, rfl⟩
  | _, _ => none
/-- a round of the loop 3 of function 23 -/
def R23_3 (k : Nat) (again : Int × Int × Int × List Int × List Int → Option (Int × Int × List Int)) (x : Int × Int × Int × List Int × List Int) : Option (Int × Int × List Int) :=
  match x with
  | (v0, v1, v2, v3, v4) => bif decide (v2 < (32 : Int)) then bif inRange v2 (32 : Nat) then bif inRange v2 (32 : Nat) then bif v3.getD v2.toNat (0 : Int) == v4.getD v2.toNat (0 : Int) then again (v0, v1, IntKind.i64.wrap (v2 + (1 : Int)), v3, v4) else bif decide (v0 < (0 : Int)) then again (v2, v2, IntKind.i64.wrap (v2 + (1 : Int)), v3, v4) else again (v0, v2, IntKind.i64.wrap (v2 + (1 : Int)), v3, v4) else none else none else some (v0, v1, v4)
def L23_3 (k n : Nat) (x : Int × Int × Int × List Int × List Int) : Option (Int × Int × List Int) := iterR (R23_3 k) n x
noncomputable def ls23_3 : Nat → Option (LSum Ty) := addL 3 (LSum.of of23_3 ab23_3 L23_3 oe23_3 on23_3) noL
def kp23 : Nat → Keep := fun i => cond (i == 3) ⟨[2, 3, 7, 8, 10], [3, 7, 8], 0⟩ (⟨[], [], 0⟩)
/-- "silt/delta.Diff" -/
def F23 (k : Nat) (x : (List Int) × (List Int) × Unit) : Option (Int × (List Int) × Bool × Unit) :=
  match x with
  | (a0, a1, ()) => (L23_3 k k ((-1 : Int), (0 : Int), (0 : Int), a0, a1)).bind fun r => bif decide (r.fst < (0 : Int)) then some ((0 : Int), [], false, ()) else bif decide (IntKind.i64.wrap (r.snd.fst - r.fst) ≥ (16 : Int)) then some ((0 : Int), [], false, ()) else bif decide ((0 : Int) ≤ r.fst) && decide (r.fst ≤ IntKind.i64.wrap (r.snd.fst + (1 : Int))) && decide (IntKind.i64.wrap (r.snd.fst + (1 : Int)) ≤ (↑(32 : Nat) : Int)) then bif decide ((0 : Nat) + (List.take (IntKind.i64.wrap (r.snd.fst + (1 : Int)) - r.fst).toNat (List.drop r.fst.toNat r.snd.snd)).length ≤ roomMost) then some (r.fst, [] ++ List.take (IntKind.i64.wrap (r.snd.fst + (1 : Int)) - r.fst).toNat (List.drop r.fst.toNat r.snd.snd), true, ()) else none else none
noncomputable def sp23 : FSpec Ty := spec ag23 rs23 F23
theorem bo23 : Tryd.f23.body = some (bodyOf Tryd.f23) := by kernel_rfl
theorem nd23 : nodupB ((loopsIn (bodyOf Tryd.f23)).map firstRegion) = true := by kernel_rfl
theorem lo23_3 : LSOK fs73 kp23 tab Tryd.f23 ls23_3 := lsum_ok bo23 nd23 (LSOK.none) oa23_3 (R := R23_3) fun k again x => by kernel_rfl
theorem ok23 : FOK Tryd.prog tab 23 sp23 := spec_ok (keeps := kp23) tabOK fs73OK Tryd.func23 bo23 (by kernel_rfl) nd23 (lo23_3) (F := F23) fun k x => by kernel_rfl
noncomputable def fs23 : Nat → Option (FSpec Ty) := addF 23 sp23 fs73
theorem fs23OK : SpecsOK Tryd.prog tab fs23 := fs73OK.add ok23 Tryd.call23
def ag45 : Args Ty (Int × T85 × (List Int) × Unit) := V.arg (tab.den 3) (V.arg (tab.den 86) (V.arg (tab.den 23) (noArgs)))
def rs45 : Res Ty tab (T91 × Int × Unit) true := V.manyRes (V.part (tab.den 92) (ent 92).ids (ent 92).plain (fun _ h => by cases h) (V.part (tab.den 33) (ent 33).ids (ent 33).plain (fun _ h => by cases h) (noParts)))
def kp45 : Nat → Keep := fun i => ⟨[], [], 0⟩
/-- "silt/policy.Item" -/
def F45 (k : Nat) (x : Int × T85 × (List Int) × Unit) : Option (T91 × Int × Unit) :=
  match x with
  | (a0, a1, a2, ()) => (F72 k (a0, T85.mk a1.1 a1.2 a1.3, ())).bind fun r => bif !r then some (T91.mk (T87.mk (0 : Int) (0 : Int)) (T89.mk (0 : Int) (0 : Int) (List.replicate (32 : Nat) (0 : Int)) (0 : Int) [] (0 : Int) (List.replicate (8 : Nat) (0 : Int))), (1 : Int), ()) else bif a1.1 == (0 : Int) then (F73 k (a0, a2, ())).bind fun r => some (T91.mk (T87.mk r.fst.1.1 r.fst.1.2) (T89.mk r.fst.2.1 r.fst.2.2 r.fst.2.3 r.fst.2.4 r.fst.2.5 r.fst.2.6 r.fst.2.7), r.snd.fst, ()) else bif decide (a1.3 = a2) then some (T91.mk (T87.mk (0 : Int) (0 : Int)) (T89.mk (0 : Int) (0 : Int) (List.replicate (32 : Nat) (0 : Int)) (0 : Int) [] (0 : Int) (List.replicate (8 : Nat) (0 : Int))), (17 : Int), ()) else (F23 k (a1.3, a2, ())).bind fun r => bif !r.snd.snd.fst then (F73 k (a0, a2, ())).bind fun r => some (T91.mk (T87.mk r.fst.1.1 r.fst.1.2) (T89.mk r.fst.2.1 r.fst.2.2 r.fst.2.3 r.fst.2.4 r.fst.2.5 r.fst.2.6 r.fst.2.7), r.snd.fst, ()) else bif decide (a1.2 ≥ (3 : Int)) then (F73 k (a0, a2, ())).bind fun r => some (T91.mk (T87.mk r.fst.1.1 r.fst.1.2) (T89.mk r.fst.2.1 r.fst.2.2 r.fst.2.3 r.fst.2.4 r.fst.2.5 r.fst.2.6 r.fst.2.7), r.snd.fst, ()) else some (T91.mk (T87.mk (2 : Int) a0) (T89.mk (2 : Int) a0 (List.replicate (32 : Nat) (0 : Int)) r.fst r.snd.fst a1.1 (List.replicate (8 : Nat) (0 : Int))), (0 : Int), ())
noncomputable def sp45 : FSpec Ty := spec ag45 rs45 F45
theorem bo45 : Tryd.f45.body = some (bodyOf Tryd.f45) := by kernel_rfl
theorem nd45 : nodupB ((loopsIn (bodyOf Tryd.f45)).map firstRegion) = true := by kernel_rfl
theorem ok45 : FOK Tryd.prog tab 45 sp45 := spec_ok (keeps := kp45) tabOK fs23OK Tryd.func45 bo45 (by kernel_rfl) nd45 (LSOK.none) (F := F45) fun k x => by kernel_rfl
noncomputable def fs45 : Nat → Option (FSpec Ty) := addF 45 sp45 fs23
theorem fs45OK : SpecsOK Tryd.prog tab fs45 := fs23OK.add ok45 Tryd.call45
def ag46 : Args Ty (Unit) := noArgs
def rs46 : Res Ty tab (Bool) false := V.oneRes (tab.den 4) (ent 4).ids (ent 4).plain (fun x _ => (ent 4).flat x rfl)
def kp46 : Nat → Keep := fun i => ⟨[], [], 0⟩
/-- "silt/siltlaw18.wakes" -/
def F46 (k : Nat) (x : Unit) : Option (Bool) :=
  match x with
  | () => (F74 k ((7 : Int), ())).bind fun r => (F74 k ((7 : Int), ())).bind fun r_1 => (F45 k ((5 : Int), T85.mk (30 : Int) (1 : Int) r_1, r.set (Int.toNat (3 : Int)) (9 : Int), ())).bind fun r_2 => (F74 k ((7 : Int), ())).bind fun r_3 => (F45 k ((5 : Int), T85.mk (30 : Int) (3 : Int) r_3, r.set (Int.toNat (3 : Int)) (9 : Int), ())).bind fun r_4 => (F45 k ((5 : Int), T85.mk (30 : Int) (1 : Int) (r.set (Int.toNat (3 : Int)) (9 : Int)), r.set (Int.toNat (3 : Int)) (9 : Int), ())).bind fun r_5 => (F73 k ((64 : Int), r.set (Int.toNat (3 : Int)) (9 : Int), ())).bind fun r_6 => bif r_2.snd.fst == (0 : Int) then bif r_2.fst.1.1 == (2 : Int) then bif r_2.fst.2.4 == (3 : Int) then bif r_2.fst.2.6 == (30 : Int) then bif r_4.snd.fst == (0 : Int) then bif r_4.fst.1.1 == (1 : Int) then bif decide (r_4.fst.2.3 = r.set (Int.toNat (3 : Int)) (9 : Int)) then bif r_5.snd.fst == (17 : Int) then some (r_6.snd.fst == (1 : Int)) else some false else some false else some false else some false else some false else some false else some false else some false
noncomputable def sp46 : FSpec Ty := spec ag46 rs46 F46
theorem bo46 : Tryd.f46.body = some (bodyOf Tryd.f46) := by kernel_rfl
theorem nd46 : nodupB ((loopsIn (bodyOf Tryd.f46)).map firstRegion) = true := by kernel_rfl
theorem ok46 : FOK Tryd.prog tab 46 sp46 := spec_ok (keeps := kp46) tabOK fs45OK Tryd.func46 bo46 (by kernel_rfl) nd46 (LSOK.none) (F := F46) fun k x => by kernel_rfl
noncomputable def fs46 : Nat → Option (FSpec Ty) := addF 46 sp46 fs45
theorem fs46OK : SpecsOK Tryd.prog tab fs46 := fs45OK.add ok46 Tryd.call46
def ag21 : Args Ty (Int × (List (List Int)) × Unit) := V.arg (tab.den 5) (V.arg (tab.den 119) (noArgs))
def rs21 : Res Ty tab (Bool) false := V.oneRes (tab.den 4) (ent 4).ids (ent 4).plain (fun x _ => (ent 4).flat x rfl)
def of21_8 : List (List Int) × Int × Int × Int × Int × Int × List Int × List T89 → NSt Ty := fun x => ⟨[.slice 58 (x.1), .int .i64 (x.2.1), .ptr 100000 [], .row 100001, .int .i64 (x.2.2.1), .int .i64 (x.2.2.2.1)], [.var (.cons (.int .i64 (x.2.2.2.2.1)) (.cons (.int .i64 (x.2.2.2.2.2.1)) (.cons (.arr 5 32 (x.2.2.2.2.2.2.1)) (.nil)))), .row 90 (x.2.2.2.2.2.2.2)]⟩
def ab21_8 : (n : NSt Ty) → Option {x : List (List Int) × Int × Int × Int × Int × Int × List Int × List T89 // of21_8 x = n}
  | ⟨[.slice 58 v0, .int .i64 v1, .ptr 100000 [], .row 100001, .int .i64 v2, .int .i64 v3], [.var (.cons (.int .i64 v4) (.cons (.int .i64 v5) (.cons (.arr 5 32 v6) (.nil)))), .row 90 v7]⟩ => some ⟨(v0, v1, v2, v3, v4, v5, v6, v7), rfl⟩
  | _ => none
def on21_8a : Bool → NSt Ty := fun x => ⟨[.bool (x)], []⟩
def on21_8b : Unit → NSt Ty := fun x => ⟨[.undef], []⟩
def oa21_8 : (e : Ex) → (n : NSt Ty) → Option {y : (Bool) ⊕ (Unit) // oe2 .ret (.exit 0) y = e ∧ on2 on21_8a on21_8b y = n}
  | .ret, ⟨[.bool v0], []⟩ => some ⟨.inl v0, rfl, rfl⟩
  | .exit 0, ⟨[.undef], []⟩ => some ⟨.inr (), rfl, rfl⟩
  | _, _ => none
/-- a round of the loop 8 of function 21 -/
def R21_8 (k : Nat) (again : List (List Int) × Int × Int × Int × Int × Int × List Int × List T89 → Option ((Bool) ⊕ (Unit))) (x : List (List Int) × Int × Int × Int × Int × Int × List Int × List T89) : Option ((Bool) ⊕ (Unit)) :=
  match x with
  | (v0, v1, v2, v3, v4, v5, v6, v7) => bif decide (v3 < (↑v0.length : Int)) then bif inRange v3 v0.length then bif inRange v3 v0.length then bif inRange (Int.tmod (List.getD (v0.getD v3.toNat (List.replicate (2 : Nat) (0 : Int))) (Int.toNat (0 : Int)) (0 : Int)) (32 : Int)) (32 : Nat) then (F45 k (v1, T85.mk v4 v5 v6, v6.set (Int.tmod (List.getD (v0.getD v3.toNat (List.replicate (2 : Nat) (0 : Int))) (Int.toNat (0 : Int)) (0 : Int)) (32 : Int)).toNat (List.getD (v0.getD v3.toNat (List.replicate (2 : Nat) (0 : Int))) (Int.toNat (1 : Int)) (0 : Int)), ())).bind fun r => bif decide (v6.set (Int.tmod (List.getD (v0.getD v3.toNat (List.replicate (2 : Nat) (0 : Int))) (Int.toNat (0 : Int)) (0 : Int)) (32 : Int)).toNat (List.getD (v0.getD v3.toNat (List.replicate (2 : Nat) (0 : Int))) (Int.toNat (1 : Int)) (0 : Int)) = v6) then bif r.snd.fst != (17 : Int) then some (Sum.inl false) else again (v0, v1, v2, IntKind.i64.wrap (v3 + (1 : Int)), v4, v5, v6, v7) else bif r.snd.fst != (0 : Int) then some (Sum.inl false) else bif !(r.fst.1.1 == (2 : Int)) == decide ((↑v7.length : Int) < (3 : Int)) then some (Sum.inl false) else bif r.fst.1.1 == (1 : Int) then (F57 k ((List.replicate (1 : Nat) (T89.mk (0 : Int) (0 : Int) (List.replicate (32 : Nat) (0 : Int)) (0 : Int) [] (0 : Int) (List.replicate (8 : Nat) (0 : Int)))).set (0 : Nat) (T89.mk r.fst.2.1 r.fst.2.2 r.fst.2.3 r.fst.2.4 r.fst.2.5 r.fst.2.6 r.fst.2.7) ++ [], ())).bind fun r_1 => bif r_1.snd.fst != (0 : Int) then some (Sum.inl false) else bif !decide (r_1.fst = v6.set (Int.tmod (List.getD (v0.getD v3.toNat (List.replicate (2 : Nat) (0 : Int))) (Int.toNat (0 : Int)) (0 : Int)) (32 : Int)).toNat (List.getD (v0.getD v3.toNat (List.replicate (2 : Nat) (0 : Int))) (Int.toNat (1 : Int)) (0 : Int))) then some (Sum.inl false) else again (v0, v1, IntKind.i64.wrap (v2 + (1 : Int)), IntKind.i64.wrap (v3 + (1 : Int)), v2, (↑((List.replicate (1 : Nat) (T89.mk (0 : Int) (0 : Int) (List.replicate (32 : Nat) (0 : Int)) (0 : Int) [] (0 : Int) (List.replicate (8 : Nat) (0 : Int)))).set (0 : Nat) (T89.mk r.fst.2.1 r.fst.2.2 r.fst.2.3 r.fst.2.4 r.fst.2.5 r.fst.2.6 r.fst.2.7) ++ []).length : Int), v6.set (Int.tmod (List.getD (v0.getD v3.toNat (List.replicate (2 : Nat) (0 : Int))) (Int.toNat (0 : Int)) (0 : Int)) (32 : Int)).toNat (List.getD (v0.getD v3.toNat (List.replicate (2 : Nat) (0 : Int))) (Int.toNat (1 : Int)) (0 : Int)), (List.replicate (1 : Nat) (T89.mk (0 : Int) (0 : Int) (List.replicate (32 : Nat) (0 : Int)) (0 : Int) [] (0 : Int) (List.replicate (8 : Nat) (0 : Int)))).set (0 : Nat) (T89.mk r.fst.2.1 r.fst.2.2 r.fst.2.3 r.fst.2.4 r.fst.2.5 r.fst.2.6 r.fst.2.7) ++ []) else bif decide (((List.replicate (1 : Nat) (T89.mk (0 : Int) (0 : Int) (List.replicate (32 : Nat) (0 : Int)) (0 : Int) [] (0 : Int) (List.replicate (8 : Nat) (0 : Int)))).set (0 : Nat) (T89.mk r.fst.2.1 r.fst.2.2 r.fst.2.3 r.fst.2.4 r.fst.2.5 r.fst.2.6 r.fst.2.7)).length + v7.length ≤ roomMost) then (F57 k ((List.replicate (1 : Nat) (T89.mk (0 : Int) (0 : Int) (List.replicate (32 : Nat) (0 : Int)) (0 : Int) [] (0 : Int) (List.replicate (8 : Nat) (0 : Int)))).set (0 : Nat) (T89.mk r.fst.2.1 r.fst.2.2 r.fst.2.3 r.fst.2.4 r.fst.2.5 r.fst.2.6 r.fst.2.7) ++ v7, ())).bind fun r_1 => bif r_1.snd.fst != (0 : Int) then some (Sum.inl false) else bif !decide (r_1.fst = v6.set (Int.tmod (List.getD (v0.getD v3.toNat (List.replicate (2 : Nat) (0 : Int))) (Int.toNat (0 : Int)) (0 : Int)) (32 : Int)).toNat (List.getD (v0.getD v3.toNat (List.replicate (2 : Nat) (0 : Int))) (Int.toNat (1 : Int)) (0 : Int))) then some (Sum.inl false) else again (v0, v1, IntKind.i64.wrap (v2 + (1 : Int)), IntKind.i64.wrap (v3 + (1 : Int)), v2, (↑((List.replicate (1 : Nat) (T89.mk (0 : Int) (0 : Int) (List.replicate (32 : Nat) (0 : Int)) (0 : Int) [] (0 : Int) (List.replicate (8 : Nat) (0 : Int)))).set (0 : Nat) (T89.mk r.fst.2.1 r.fst.2.2 r.fst.2.3 r.fst.2.4 r.fst.2.5 r.fst.2.6 r.fst.2.7) ++ v7).length : Int), v6.set (Int.tmod (List.getD (v0.getD v3.toNat (List.replicate (2 : Nat) (0 : Int))) (Int.toNat (0 : Int)) (0 : Int)) (32 : Int)).toNat (List.getD (v0.getD v3.toNat (List.replicate (2 : Nat) (0 : Int))) (Int.toNat (1 : Int)) (0 : Int)), (List.replicate (1 : Nat) (T89.mk (0 : Int) (0 : Int) (List.replicate (32 : Nat) (0 : Int)) (0 : Int) [] (0 : Int) (List.replicate (8 : Nat) (0 : Int)))).set (0 : Nat) (T89.mk r.fst.2.1 r.fst.2.2 r.fst.2.3 r.fst.2.4 r.fst.2.5 r.fst.2.6 r.fst.2.7) ++ v7) else none else none else none else none else some (Sum.inr ())
def L21_8 (k n : Nat) (x : List (List Int) × Int × Int × Int × Int × Int × List Int × List T89) : Option ((Bool) ⊕ (Unit)) := iterR (R21_8 k) n x
noncomputable def ls21_8 : Nat → Option (LSum Ty) := addL 8 (lsum2 of21_8 ab21_8 L21_8 .ret on21_8a (.exit 0) on21_8b) noL
def kp21 : Nat → Keep := fun i => cond (i == 8) ⟨[1, 5, 6, 7, 8, 9], [4], 0⟩ (⟨[], [], 0⟩)
/-- "silt/siltlaw18.PolicyChains" -/
def F21 (k : Nat) (x : Int × (List (List Int)) × Unit) : Option (Bool) :=
  match x with
  | (a0, a1, ()) => bif decide ((↑a1.length : Int) > (40 : Int)) then (F46 k ()).bind fun r => some r else (L21_8 k k (a1, (IntKind.i64.wrap a0).tmod (64 : Int), (4 : Int), (0 : Int), (1 : Int), (0 : Int), List.replicate (32 : Nat) (0 : Int), [])).bind fun r => sumK r (fun a => some a) fun b => (F46 k ()).bind fun r => some r
noncomputable def sp21 : FSpec Ty := spec ag21 rs21 F21
theorem bo21 : Tryd.f21.body = some (bodyOf Tryd.f21) := by kernel_rfl
theorem nd21 : nodupB ((loopsIn (bodyOf Tryd.f21)).map firstRegion) = true := by kernel_rfl
theorem lo21_8 : LSOK fs46 kp21 tab Tryd.f21 ls21_8 := lsum2_ok bo21 nd21 (LSOK.none) oa21_8 (R := R21_8) fun k again x => by kernel_rfl
theorem ok21 : FOK Tryd.prog tab 21 sp21 := spec_ok (keeps := kp21) tabOK fs46OK Tryd.func21 bo21 (by kernel_rfl) nd21 (lo21_8) (F := F21) fun k x => by kernel_rfl
noncomputable def fs21 : Nat → Option (FSpec Ty) := addF 21 sp21 fs46
theorem fs21OK : SpecsOK Tryd.prog tab fs21 := fs46OK.add ok21 Tryd.call21
end Go.Proofs.YtpnnmpdjgnbkhaaDoor.W
