/-
  The functions of the seat as typed Lean functions, and that the program's functions return what they compute. Printed by program (Gen.lean). No conditions.
-/
import Derived.Test.YtobienpnlaloeaaVT
set_option linter.unusedVariables false
namespace Go.Proofs.Ytobienpnlaloeaa.W
open Go Go.Proofs V
theorem noFOK : SpecsOK Try.prog tab noF := SpecsOK.none cmpOK
def ag17 : Args Ty (T46 × Unit) := V.arg (tab.den 47) (noArgs)
def rs17 : Res Ty tab (Bool) false := V.oneRes (tab.den 4) (ent 4).ids (ent 4).plain (fun x _ => (ent 4).flat x rfl)
def kp17 : Nat → Keep := fun i => ⟨[], []⟩
/-- "silt/summary.good" -/
def F17 (k : Nat) (x : T46 × Unit) : Option (Bool) :=
  match x with
  | (a0, ()) => bif a0.1 == (3 : Int) then bif decide (a0.2 ≥ (0 : Int)) then some (decide (a0.2 < (8 : Int))) else some false else bif a0.1 == (1 : Int) then bif decide (a0.2 ≥ (0 : Int)) then some (decide (a0.2 < (64 : Int))) else some false else bif a0.1 == (2 : Int) then bif decide (a0.2 ≥ (0 : Int)) then some (decide (a0.2 < (64 : Int))) else some false else bif a0.1 == (4 : Int) then bif decide (a0.2 ≥ (0 : Int)) then some (decide (a0.2 < (64 : Int))) else some false else bif a0.1 == (5 : Int) then bif decide (a0.2 ≥ (0 : Int)) then some (decide (a0.2 < (64 : Int))) else some false else some false
noncomputable def sp17 : FSpec Ty := spec ag17 rs17 F17
theorem bo17 : Try.f17.body = some (bodyOf Try.f17) := by kernel_rfl
theorem nd17 : nodupB ((loopsIn (bodyOf Try.f17)).map firstRegion) = true := by kernel_rfl
theorem ok17 : FOK Try.prog tab 17 sp17 := spec_ok (keeps := kp17) tabOK noFOK Try.func17 bo17 (by kernel_rfl) nd17 (LSOK.none) (F := F17) fun k x => by kernel_rfl
noncomputable def fs17 : Nat → Option (FSpec Ty) := addF 17 sp17 noF
theorem fs17OK : SpecsOK Try.prog tab fs17 := noFOK.add ok17 Try.call17
def ag8 : Args Ty (T24 × Unit) := V.arg (tab.den 25) (noArgs)
def rs8 : Res Ty tab ((List Int) × Int × Unit) false := V.manyRes (V.part (tab.den 27) (ent 27).ids (ent 27).plain (fun x _ => (ent 27).flat x rfl) (V.part (tab.den 29) (ent 29).ids (ent 29).plain (fun x _ => (ent 29).flat x rfl) (noParts)))
def of8_7 : List T46 × Int × Int × List Int × List Int → NSt Ty := fun x => ⟨[.ptr 100000 [], .ptr 100001 [], .slice 47 (x.1), .int .i64 (x.2.1), .int .i64 (x.2.2.1)], [.var (.arr 5 64 (x.2.2.2.1)), .var (.arr 5 64 (x.2.2.2.2))]⟩
def ab8_7 : (n : NSt Ty) → Option {x : List T46 × Int × Int × List Int × List Int // of8_7 x = n}
  | ⟨[.ptr 100000 [], .ptr 100001 [], .slice 47 v0, .int .i64 v1, .int .i64 v2], [.var (.arr 5 64 v3), .var (.arr 5 64 v4)]⟩ => some ⟨(v0, v1, v2, v3, v4), rfl⟩
  | _ => none
def on8_7a : Int × List Int × List Int → NSt Ty := fun x => ⟨[.ptr 100000 [], .int .i64 (x.1), .ptr 100001 []], [.var (.arr 5 64 (x.2.1)), .var (.arr 5 64 (x.2.2))]⟩
def on8_7b : List Int × List Int → NSt Ty := fun x => ⟨[.ptr 100000 [], .undef, .ptr 100001 []], [.var (.arr 5 64 (x.1)), .var (.arr 5 64 (x.2))]⟩
def oa8_7 : (e : Ex) → (n : NSt Ty) → Option {y : (Int × List Int × List Int) ⊕ (List Int × List Int) // oe2 .ret (.exit 0) y = e ∧ on2 on8_7a on8_7b y = n}
  | .ret, ⟨[.ptr 100000 [], .int .i64 v0, .ptr 100001 []], [.var (.arr 5 64 v1), .var (.arr 5 64 v2)]⟩ => some ⟨.inl (v0, v1, v2), rfl, rfl⟩
  | .exit 0, ⟨[.ptr 100000 [], .undef, .ptr 100001 []], [.var (.arr 5 64 v0), .var (.arr 5 64 v1)]⟩ => some ⟨.inr (v0, v1), rfl, rfl⟩
  | _, _ => none
/-- a round of the loop 7 of function 8 -/
def R8_7 (k : Nat) (again : List T46 × Int × Int × List Int × List Int → Option ((Int × List Int × List Int) ⊕ (List Int × List Int))) (x : List T46 × Int × Int × List Int × List Int) : Option ((Int × List Int × List Int) ⊕ (List Int × List Int)) :=
  match x with
  | (v0, v1, v2, v3, v4) => bif decide (v2 < v1) then bif inRange v2 v0.length then (F17 k (T46.mk (v0.getD v2.toNat (T46.mk (0 : Int) (0 : Int))).1 (v0.getD v2.toNat (T46.mk (0 : Int) (0 : Int))).2, PUnit.unit)).bind fun r => bif !r then some (Sum.inl ((11 : Int), List.replicate (64 : Nat) (0 : Int), v4)) else bif inRange (IntKind.i64.wrap ((7 : Int) + IntKind.i64.wrap ((2 : Int) * v2))) (64 : Nat) then bif inRange (IntKind.i64.wrap (IntKind.i64.wrap ((7 : Int) + IntKind.i64.wrap ((2 : Int) * v2)) + (1 : Int))) (64 : Nat) then again (v0, v1, IntKind.i64.wrap (v2 + (1 : Int)), v3, (v4.set (IntKind.i64.wrap ((7 : Int) + IntKind.i64.wrap ((2 : Int) * v2))).toNat (IntKind.u8.wrap (v0.getD v2.toNat (T46.mk (0 : Int) (0 : Int))).1)).set (IntKind.i64.wrap (IntKind.i64.wrap ((7 : Int) + IntKind.i64.wrap ((2 : Int) * v2)) + (1 : Int))).toNat (IntKind.u8.wrap (v0.getD v2.toNat (T46.mk (0 : Int) (0 : Int))).2)) else none else none else none else some (Sum.inr (v3, v4))
def L8_7 (k n : Nat) (x : List T46 × Int × Int × List Int × List Int) : Option ((Int × List Int × List Int) ⊕ (List Int × List Int)) := iterR (R8_7 k) n x
noncomputable def ls8_7 : Nat → Option (LSum Ty) := addL 7 (lsum2 of8_7 ab8_7 L8_7 .ret on8_7a (.exit 0) on8_7b) noL
def kp8 : Nat → Keep := fun i => cond (i == 7) ⟨[2, 4, 42, 43, 44], [2, 3, 4]⟩ (⟨[], []⟩)
/-- "silt/summary.Encode" -/
def F8 (k : Nat) (x : T24 × Unit) : Option ((List Int) × Int × Unit) :=
  match x with
  | (a0, ()) => bif decide ((↑a0.3.length : Int) < (1 : Int)) then some (List.replicate (64 : Nat) (0 : Int), (11 : Int), PUnit.unit) else bif decide ((↑a0.3.length : Int) > (24 : Int)) then some (List.replicate (64 : Nat) (0 : Int), (11 : Int), PUnit.unit) else bif a0.2 then (L8_7 k k (a0.3, (↑a0.3.length : Int), (0 : Int), List.replicate (64 : Nat) (0 : Int), ((((((((List.replicate (64 : Nat) (0 : Int)).set (0 : Nat) (83 : Int)).set (1 : Nat) (0 : Int)).set (2 : Nat) (IntKind.u8.wrap a0.1)).set (3 : Nat) (IntKind.u8.wrap (a0.1.fdiv ((2 : Int) ^ min (Int.toNat (8 : Int)) IntKind.u32.bits)))).set (4 : Nat) (IntKind.u8.wrap (a0.1.fdiv ((2 : Int) ^ min (Int.toNat (16 : Int)) IntKind.u32.bits)))).set (5 : Nat) (IntKind.u8.wrap (a0.1.fdiv ((2 : Int) ^ min (Int.toNat (24 : Int)) IntKind.u32.bits)))).set (6 : Nat) (IntKind.u8.wrap (↑a0.3.length : Int))).set (Int.toNat (1 : Int)) (1 : Int))).bind fun r => sumK r (fun a => some (a.snd.fst, a.fst, PUnit.unit)) fun b => some (b.snd, (0 : Int), PUnit.unit) else (L8_7 k k (a0.3, (↑a0.3.length : Int), (0 : Int), List.replicate (64 : Nat) (0 : Int), (((((((List.replicate (64 : Nat) (0 : Int)).set (0 : Nat) (83 : Int)).set (1 : Nat) (0 : Int)).set (2 : Nat) (IntKind.u8.wrap a0.1)).set (3 : Nat) (IntKind.u8.wrap (a0.1.fdiv ((2 : Int) ^ min (Int.toNat (8 : Int)) IntKind.u32.bits)))).set (4 : Nat) (IntKind.u8.wrap (a0.1.fdiv ((2 : Int) ^ min (Int.toNat (16 : Int)) IntKind.u32.bits)))).set (5 : Nat) (IntKind.u8.wrap (a0.1.fdiv ((2 : Int) ^ min (Int.toNat (24 : Int)) IntKind.u32.bits)))).set (6 : Nat) (IntKind.u8.wrap (↑a0.3.length : Int)))).bind fun r => sumK r (fun a => some (a.snd.fst, a.fst, PUnit.unit)) fun b => some (b.snd, (0 : Int), PUnit.unit)
noncomputable def sp8 : FSpec Ty := spec ag8 rs8 F8
theorem bo8 : Try.f8.body = some (bodyOf Try.f8) := by kernel_rfl
theorem nd8 : nodupB ((loopsIn (bodyOf Try.f8)).map firstRegion) = true := by kernel_rfl
theorem lo8_7 : LSOK fs17 kp8 tab Try.f8 ls8_7 := lsum2_ok bo8 nd8 (LSOK.none) oa8_7 (R := R8_7) fun k again x => by kernel_rfl
theorem ok8 : FOK Try.prog tab 8 sp8 := spec_ok (keeps := kp8) tabOK fs17OK Try.func8 bo8 (by kernel_rfl) nd8 (lo8_7) (F := F8) fun k x => by kernel_rfl
noncomputable def fs8 : Nat → Option (FSpec Ty) := addF 8 sp8 fs17
theorem fs8OK : SpecsOK Try.prog tab fs8 := fs17OK.add ok8 Try.call8
def ag11 : Args Ty ((List Int) × Unit) := V.arg (tab.den 27) (noArgs)
def rs11 : Res Ty tab (T24 × Int × Unit) true := V.manyRes (V.part (tab.den 25) (ent 25).ids (ent 25).plain (fun _ h => by cases h) (V.part (tab.den 29) (ent 29).ids (ent 29).plain (fun _ h => by cases h) (noParts)))
def of11_3 : Int × List Int × Int × Bool × Int × Bool × List T46 × List T46 → NSt Ty := fun x => ⟨[.ptr 100000 [], .ptr 100001 [], .ptr 100002 [], .int .i64 (x.1)], [.var (.arr 5 64 (x.2.1)), .var (.cons (.int .u32 (x.2.2.1)) (.cons (.bool (x.2.2.2.1)) (.cons (.row 100003) (.nil)))), .var (.cons (.int .u32 (x.2.2.2.2.1)) (.cons (.bool (x.2.2.2.2.2.1)) (.cons (.row 100004) (.nil)))), .row 47 (x.2.2.2.2.2.2.1), .row 47 (x.2.2.2.2.2.2.2)]⟩
def ab11_3 : (n : NSt Ty) → Option {x : Int × List Int × Int × Bool × Int × Bool × List T46 × List T46 // of11_3 x = n}
  | ⟨[.ptr 100000 [], .ptr 100001 [], .ptr 100002 [], .int .i64 v0], [.var (.arr 5 64 v1), .var (.cons (.int .u32 v2) (.cons (.bool v3) (.cons (.row 100003) (.nil)))), .var (.cons (.int .u32 v4) (.cons (.bool v5) (.cons (.row 100004) (.nil)))), .row 47 v6, .row 47 v7]⟩ => some ⟨(v0, v1, v2, v3, v4, v5, v6, v7), rfl⟩
  | _ => none
def oe11_3 : List Int × Int × Bool × Int × Bool × List T46 × List T46 → Ex := fun _ => .exit 0
def on11_3 : List Int × Int × Bool × Int × Bool × List T46 × List T46 → NSt Ty := fun x => ⟨[.ptr 100000 [], .ptr 100001 [], .ptr 100002 []], [.var (.arr 5 64 (x.1)), .var (.cons (.int .u32 (x.2.1)) (.cons (.bool (x.2.2.1)) (.cons (.row 100003) (.nil)))), .var (.cons (.int .u32 (x.2.2.2.1)) (.cons (.bool (x.2.2.2.2.1)) (.cons (.row 100004) (.nil)))), .row 47 (x.2.2.2.2.2.1), .row 47 (x.2.2.2.2.2.2)]⟩
def oa11_3 : (e : Ex) → (n : NSt Ty) → Option {y : List Int × Int × Bool × Int × Bool × List T46 × List T46 // oe11_3 y = e ∧ on11_3 y = n}
  | .exit 0, ⟨[.ptr 100000 [], .ptr 100001 [], .ptr 100002 []], [.var (.arr 5 64 v0), .var (.cons (.int .u32 v1) (.cons (.bool v2) (.cons (.row 100003) (.nil)))), .var (.cons (.int .u32 v3) (.cons (.bool v4) (.cons (.row 100004) (.nil)))), .row 47 v5, .row 47 v6]⟩ => some ⟨(v0, v1, v2, v3, v4, v5, v6), rfl, rfl⟩
  | _, _ => none
/-- a round of the loop 3 of function 11 -/
def R11_3 (k : Nat) (again : Int × List Int × Int × Bool × Int × Bool × List T46 × List T46 → Option (List Int × Int × Bool × Int × Bool × List T46 × List T46)) (x : Int × List Int × Int × Bool × Int × Bool × List T46 × List T46) : Option (List Int × Int × Bool × Int × Bool × List T46 × List T46) :=
  match x with
  | (v0, v1, v2, v3, v4, v5, v6, v7) => bif decide (v0 < (4 : Int)) then bif inRange (IntKind.i64.wrap ((2 : Int) + v0)) (64 : Nat) then bif decide ((0 : Int) ≤ IntKind.i64.wrap ((8 : Int) * v0)) then again (IntKind.i64.wrap (v0 + (1 : Int)), v1, v2, v3, IntKind.u32.wrap (↑(BitVec.ofInt IntKind.u32.bits v4 ||| BitVec.ofInt IntKind.u32.bits (IntKind.u32.wrap (IntKind.u32.wrap (v1.getD (IntKind.i64.wrap ((2 : Int) + v0)).toNat (0 : Int)) * (2 : Int) ^ min (IntKind.i64.wrap ((8 : Int) * v0)).toNat IntKind.u32.bits))).toNat : Int), v5, v6, v7) else none else none else some (v1, v2, v3, v4, v5, v6, v7)
def L11_3 (k n : Nat) (x : Int × List Int × Int × Bool × Int × Bool × List T46 × List T46) : Option (List Int × Int × Bool × Int × Bool × List T46 × List T46) := iterR (R11_3 k) n x
noncomputable def ls11_3 : Nat → Option (LSum Ty) := addL 3 (LSum.of of11_3 ab11_3 L11_3 oe11_3 on11_3) noL
def of11_8 : Int × Int × List Int × Int × Bool × Int × Bool × List T46 × List T46 → NSt Ty := fun x => ⟨[.ptr 100000 [], .ptr 100001 [], .ptr 100002 [], .int .i64 (x.1), .int .i64 (x.2.1)], [.var (.arr 5 64 (x.2.2.1)), .var (.cons (.int .u32 (x.2.2.2.1)) (.cons (.bool (x.2.2.2.2.1)) (.cons (.row 100003) (.nil)))), .var (.cons (.int .u32 (x.2.2.2.2.2.1)) (.cons (.bool (x.2.2.2.2.2.2.1)) (.cons (.row 100004) (.nil)))), .row 47 (x.2.2.2.2.2.2.2.1), .row 47 (x.2.2.2.2.2.2.2.2)]⟩
def ab11_8 : (n : NSt Ty) → Option {x : Int × Int × List Int × Int × Bool × Int × Bool × List T46 × List T46 // of11_8 x = n}
  | ⟨[.ptr 100000 [], .ptr 100001 [], .ptr 100002 [], .int .i64 v0, .int .i64 v1], [.var (.arr 5 64 v2), .var (.cons (.int .u32 v3) (.cons (.bool v4) (.cons (.row 100003) (.nil)))), .var (.cons (.int .u32 v5) (.cons (.bool v6) (.cons (.row 100004) (.nil)))), .row 47 v7, .row 47 v8]⟩ => some ⟨(v0, v1, v2, v3, v4, v5, v6, v7, v8), rfl⟩
  | _ => none
def oe11_8 : List Int × Int × Bool × Int × Bool × List T46 × List T46 → Ex := fun _ => .exit 2
def on11_8 : List Int × Int × Bool × Int × Bool × List T46 × List T46 → NSt Ty := fun x => ⟨[.ptr 100000 [], .ptr 100001 [], .ptr 100002 []], [.var (.arr 5 64 (x.1)), .var (.cons (.int .u32 (x.2.1)) (.cons (.bool (x.2.2.1)) (.cons (.row 100003) (.nil)))), .var (.cons (.int .u32 (x.2.2.2.1)) (.cons (.bool (x.2.2.2.2.1)) (.cons (.row 100004) (.nil)))), .row 47 (x.2.2.2.2.2.1), .row 47 (x.2.2.2.2.2.2)]⟩
def oa11_8 : (e : Ex) → (n : NSt Ty) → Option {y : List Int × Int × Bool × Int × Bool × List T46 × List T46 // oe11_8 y = e ∧ on11_8 y = n}
  | .exit 2, ⟨[.ptr 100000 [], .ptr 100001 [], .ptr 100002 []], [.var (.arr 5 64 v0), .var (.cons (.int .u32 v1) (.cons (.bool v2) (.cons (.row 100003) (.nil)))), .var (.cons (.int .u32 v3) (.cons (.bool v4) (.cons (.row 100004) (.nil)))), .row 47 v5, .row 47 v6]⟩ => some ⟨(v0, v1, v2, v3, v4, v5, v6), rfl, rfl⟩
  | _, _ => none
/-- a round of the loop 8 of function 11 -/
def R11_8 (k : Nat) (again : Int × Int × List Int × Int × Bool × Int × Bool × List T46 × List T46 → Option (List Int × Int × Bool × Int × Bool × List T46 × List T46)) (x : Int × Int × List Int × Int × Bool × Int × Bool × List T46 × List T46) : Option (List Int × Int × Bool × Int × Bool × List T46 × List T46) :=
  match x with
  | (v0, v1, v2, v3, v4, v5, v6, v7, v8) => bif decide (v1 < v0) then bif inRange (IntKind.i64.wrap ((7 : Int) + IntKind.i64.wrap ((2 : Int) * v1))) (64 : Nat) then bif inRange (IntKind.i64.wrap (IntKind.i64.wrap ((7 : Int) + IntKind.i64.wrap ((2 : Int) * v1)) + (1 : Int))) (64 : Nat) then bif decide (v8.length + ((List.replicate (1 : Nat) (T46.mk (0 : Int) (0 : Int))).set (0 : Nat) (T46.mk (IntKind.i64.wrap (v2.getD (IntKind.i64.wrap ((7 : Int) + IntKind.i64.wrap ((2 : Int) * v1))).toNat (0 : Int))) (IntKind.i64.wrap (v2.getD (IntKind.i64.wrap (IntKind.i64.wrap ((7 : Int) + IntKind.i64.wrap ((2 : Int) * v1)) + (1 : Int))).toNat (0 : Int))))).length ≤ roomMost) then again (v0, IntKind.i64.wrap (v1 + (1 : Int)), v2, v3, v4, v5, v6, v7, v8 ++ (List.replicate (1 : Nat) (T46.mk (0 : Int) (0 : Int))).set (0 : Nat) (T46.mk (IntKind.i64.wrap (v2.getD (IntKind.i64.wrap ((7 : Int) + IntKind.i64.wrap ((2 : Int) * v1))).toNat (0 : Int))) (IntKind.i64.wrap (v2.getD (IntKind.i64.wrap (IntKind.i64.wrap ((7 : Int) + IntKind.i64.wrap ((2 : Int) * v1)) + (1 : Int))).toNat (0 : Int))))) else none else none else none else some (v2, v3, v4, v5, v6, v7, v8)
def L11_8 (k n : Nat) (x : Int × Int × List Int × Int × Bool × Int × Bool × List T46 × List T46) : Option (List Int × Int × Bool × Int × Bool × List T46 × List T46) := iterR (R11_8 k) n x
noncomputable def ls11_8 : Nat → Option (LSum Ty) := addL 8 (LSum.of of11_8 ab11_8 L11_8 oe11_8 on11_8) ls11_3
def kp11 : Nat → Keep := fun i => cond (i == 3) ⟨[1, 2, 4, 13], [1, 2, 4]⟩ (cond (i == 8) ⟨[1, 2, 4, 32, 33], [1, 2, 4]⟩ (⟨[], []⟩))
/-- "silt/summary.Decode" -/
def F11 (k : Nat) (x : (List Int) × Unit) : Option (T24 × Int × Unit) :=
  match x with
  | (a0, ()) => (L11_3 k k ((0 : Int), a0, (0 : Int), false, (0 : Int), a0.getD (Int.toNat (1 : Int)) (0 : Int) == (1 : Int), [], [])).bind fun r => (L11_8 k k (if (24 : Int) < IntKind.i64.wrap (r.fst.getD (Int.toNat (6 : Int)) (0 : Int)) then (24 : Int) else IntKind.i64.wrap (r.fst.getD (Int.toNat (6 : Int)) (0 : Int)), (0 : Int), r.fst, r.snd.fst, r.snd.snd.fst, r.snd.snd.snd.fst, r.snd.snd.snd.snd.fst, r.snd.snd.snd.snd.snd.fst, r.snd.snd.snd.snd.snd.snd)).bind fun r => (F8 k (T24.mk r.snd.snd.snd.fst r.snd.snd.snd.snd.fst r.snd.snd.snd.snd.snd.snd, PUnit.unit)).bind fun r_1 => bif r_1.snd.fst != (0 : Int) then some (T24.mk (0 : Int) false [], (11 : Int), PUnit.unit) else bif !decide (r_1.fst = r.fst) then some (T24.mk (0 : Int) false [], (11 : Int), PUnit.unit) else some (T24.mk r.snd.snd.snd.fst r.snd.snd.snd.snd.fst r.snd.snd.snd.snd.snd.snd, (0 : Int), PUnit.unit)
noncomputable def sp11 : FSpec Ty := spec ag11 rs11 F11
theorem bo11 : Try.f11.body = some (bodyOf Try.f11) := by kernel_rfl
theorem nd11 : nodupB ((loopsIn (bodyOf Try.f11)).map firstRegion) = true := by kernel_rfl
theorem lo11_3 : LSOK fs8 kp11 tab Try.f11 ls11_3 := lsum_ok bo11 nd11 (LSOK.none) oa11_3 (R := R11_3) fun k again x => by kernel_rfl
theorem lo11_8 : LSOK fs8 kp11 tab Try.f11 ls11_8 := lsum_ok bo11 nd11 (lo11_3) oa11_8 (R := R11_8) fun k again x => by kernel_rfl
theorem ok11 : FOK Try.prog tab 11 sp11 := spec_ok (keeps := kp11) tabOK fs8OK Try.func11 bo11 (by kernel_rfl) nd11 (lo11_8) (F := F11) fun k x => by kernel_rfl
noncomputable def fs11 : Nat → Option (FSpec Ty) := addF 11 sp11 fs8
theorem fs11OK : SpecsOK Try.prog tab fs11 := fs8OK.add ok11 Try.call11
def ag16 : Args Ty ((List T46) × (List T46) × Unit) := V.arg (tab.den 23) (V.arg (tab.den 23) (noArgs))
def rs16 : Res Ty tab (Bool) false := V.oneRes (tab.den 4) (ent 4).ids (ent 4).plain (fun x _ => (ent 4).flat x rfl)
def of16_4 : List T46 × List T46 × Int → NSt Ty := fun x => ⟨[.slice 47 (x.1), .slice 47 (x.2.1), .int .i64 (x.2.2)], []⟩
def ab16_4 : (n : NSt Ty) → Option {x : List T46 × List T46 × Int // of16_4 x = n}
  | ⟨[.slice 47 v0, .slice 47 v1, .int .i64 v2], []⟩ => some ⟨(v0, v1, v2), rfl⟩
  | _ => none
def on16_4a : Bool → NSt Ty := fun x => ⟨[.bool (x)], []⟩
def on16_4b : Unit → NSt Ty := fun x => ⟨[.undef], []⟩
def oa16_4 : (e : Ex) → (n : NSt Ty) → Option {y : (Bool) ⊕ (Unit) // oe2 .ret (.exit 0) y = e ∧ on2 on16_4a on16_4b y = n}
  | .ret, ⟨[.bool v0], []⟩ => some ⟨.inl v0, rfl, rfl⟩
  | .exit 0, ⟨[.undef], []⟩ => some ⟨.inr (), rfl, rfl⟩
  | _, _ => none
/-- a round of the loop 4 of function 16 -/
def R16_4 (k : Nat) (again : List T46 × List T46 × Int → Option ((Bool) ⊕ (Unit))) (x : List T46 × List T46 × Int) : Option ((Bool) ⊕ (Unit)) :=
  match x with
  | (v0, v1, v2) => bif decide (v2 < (↑v0.length : Int)) then bif inRange v2 v0.length then bif inRange v2 v1.length then bif !((v0.getD v2.toNat (T46.mk (0 : Int) (0 : Int))).1 == (v1.getD v2.toNat (T46.mk (0 : Int) (0 : Int))).1 && ((v0.getD v2.toNat (T46.mk (0 : Int) (0 : Int))).2 == (v1.getD v2.toNat (T46.mk (0 : Int) (0 : Int))).2 && true)) then some (Sum.inl false) else again (v0, v1, IntKind.i64.wrap (v2 + (1 : Int))) else none else none else some (Sum.inr PUnit.unit)
def L16_4 (k n : Nat) (x : List T46 × List T46 × Int) : Option ((Bool) ⊕ (Unit)) := iterR (R16_4 k) n x
noncomputable def ls16_4 : Nat → Option (LSum Ty) := addL 4 (lsum2 of16_4 ab16_4 L16_4 .ret on16_4a (.exit 0) on16_4b) noL
def kp16 : Nat → Keep := fun i => cond (i == 4) ⟨[0, 1, 5], [4]⟩ (⟨[], []⟩)
/-- "silt/siltkeep.Marks" -/
def F16 (k : Nat) (x : (List T46) × (List T46) × Unit) : Option (Bool) :=
  match x with
  | (a0, a1, ()) => bif (↑a0.length : Int) != (↑a1.length : Int) then some false else (L16_4 k k (a0, a1, (0 : Int))).bind fun r => sumK r (fun a => some a) fun b => some true
noncomputable def sp16 : FSpec Ty := spec ag16 rs16 F16
theorem bo16 : Try.f16.body = some (bodyOf Try.f16) := by kernel_rfl
theorem nd16 : nodupB ((loopsIn (bodyOf Try.f16)).map firstRegion) = true := by kernel_rfl
theorem lo16_4 : LSOK fs11 kp16 tab Try.f16 ls16_4 := lsum2_ok bo16 nd16 (LSOK.none) oa16_4 (R := R16_4) fun k again x => by kernel_rfl
theorem ok16 : FOK Try.prog tab 16 sp16 := spec_ok (keeps := kp16) tabOK fs11OK Try.func16 bo16 (by kernel_rfl) nd16 (lo16_4) (F := F16) fun k x => by kernel_rfl
noncomputable def fs16 : Nat → Option (FSpec Ty) := addF 16 sp16 fs11
theorem fs16OK : SpecsOK Try.prog tab fs16 := fs11OK.add ok16 Try.call16
def ag14 : Args Ty ((List T46) × Unit) := V.arg (tab.den 23) (noArgs)
def rs14 : Res Ty tab (Int) false := V.oneRes (tab.den 3) (ent 3).ids (ent 3).plain (fun x _ => (ent 3).flat x rfl)
def of14_3 : Int × List T46 × Int × Int → NSt Ty := fun x => ⟨[.int .i64 (x.1), .slice 47 (x.2.1), .int .i64 (x.2.2.1), .int .i64 (x.2.2.2)], []⟩
def ab14_3 : (n : NSt Ty) → Option {x : Int × List T46 × Int × Int // of14_3 x = n}
  | ⟨[.int .i64 v0, .slice 47 v1, .int .i64 v2, .int .i64 v3], []⟩ => some ⟨(v0, v1, v2, v3), rfl⟩
  | _ => none
def oe14_3 : Int → Ex := fun _ => .exit 0
def on14_3 : Int → NSt Ty := fun x => ⟨[.int .i64 (x)], []⟩
def oa14_3 : (e : Ex) → (n : NSt Ty) → Option {y : Int // oe14_3 y = e ∧ on14_3 y = n}
  | .exit 0, ⟨[.int .i64 v0], []⟩ => some ⟨v0, rfl, rfl⟩
  | _, _ => none
/-- a round of the loop 3 of function 14 -/
def R14_3 (k : Nat) (again : Int × List T46 × Int × Int → Option (Int)) (x : Int × List T46 × Int × Int) : Option (Int) :=
  match x with
  | (v0, v1, v2, v3) => bif decide (v3 < v2) then bif inRange v3 v1.length then bif (v1.getD v3.toNat (T46.mk (0 : Int) (0 : Int))).1 == (1 : Int) then again (IntKind.i64.wrap (v0 + (1 : Int)), v1, v2, IntKind.i64.wrap (v3 + (1 : Int))) else bif (v1.getD v3.toNat (T46.mk (0 : Int) (0 : Int))).1 == (2 : Int) then again (IntKind.i64.wrap (v0 + (1 : Int)), v1, v2, IntKind.i64.wrap (v3 + (1 : Int))) else bif (v1.getD v3.toNat (T46.mk (0 : Int) (0 : Int))).1 == (3 : Int) then again (IntKind.i64.wrap (v0 + (1 : Int)), v1, v2, IntKind.i64.wrap (v3 + (1 : Int))) else again (v0, v1, v2, IntKind.i64.wrap (v3 + (1 : Int))) else none else some v0
def L14_3 (k n : Nat) (x : Int × List T46 × Int × Int) : Option (Int) := iterR (R14_3 k) n x
noncomputable def ls14_3 : Nat → Option (LSum Ty) := addL 3 (LSum.of of14_3 ab14_3 L14_3 oe14_3 on14_3) noL
def kp14 : Nat → Keep := fun i => cond (i == 3) ⟨[3, 6, 7, 8], [3]⟩ (⟨[], []⟩)
/-- "silt/summary.Blocks" -/
def F14 (k : Nat) (x : (List T46) × Unit) : Option (Int) :=
  match x with
  | (a0, ()) => (L14_3 k k ((0 : Int), a0, (↑a0.length : Int), (0 : Int))).bind fun r => some r
noncomputable def sp14 : FSpec Ty := spec ag14 rs14 F14
theorem bo14 : Try.f14.body = some (bodyOf Try.f14) := by kernel_rfl
theorem nd14 : nodupB ((loopsIn (bodyOf Try.f14)).map firstRegion) = true := by kernel_rfl
theorem lo14_3 : LSOK fs16 kp14 tab Try.f14 ls14_3 := lsum_ok bo14 nd14 (LSOK.none) oa14_3 (R := R14_3) fun k again x => by kernel_rfl
theorem ok14 : FOK Try.prog tab 14 sp14 := spec_ok (keeps := kp14) tabOK fs16OK Try.func14 bo14 (by kernel_rfl) nd14 (lo14_3) (F := F14) fun k x => by kernel_rfl
noncomputable def fs14 : Nat → Option (FSpec Ty) := addF 14 sp14 fs16
theorem fs14OK : SpecsOK Try.prog tab fs14 := fs16OK.add ok14 Try.call14
def ag7 : Args Ty (Unit) := noArgs
def rs7 : Res Ty tab (Bool) false := V.oneRes (tab.den 4) (ent 4).ids (ent 4).plain (fun x _ => (ent 4).flat x rfl)
def kp7 : Nat → Keep := fun i => ⟨[], []⟩
/-- "silt/siltlaw05.wakes" -/
def F7 (k : Nat) (x : Unit) : Option (Bool) :=
  match x with
  | () => (F8 k (T24.mk (258 : Int) true (((List.replicate (2 : Nat) (T46.mk (0 : Int) (0 : Int))).set (0 : Nat) (T46.mk (1 : Int) (9 : Int))).set (1 : Nat) (T46.mk (5 : Int) (3 : Int))), PUnit.unit)).bind fun r => (F11 k (r.fst, PUnit.unit)).bind fun r_1 => (F8 k (T24.mk (1 : Int) false [], PUnit.unit)).bind fun r_2 => bif r.snd.fst == (0 : Int) then bif r.fst.getD (Int.toNat (0 : Int)) (0 : Int) == (83 : Int) then bif r.fst.getD (Int.toNat (1 : Int)) (0 : Int) == (1 : Int) then bif r.fst.getD (Int.toNat (2 : Int)) (0 : Int) == (2 : Int) then bif r.fst.getD (Int.toNat (3 : Int)) (0 : Int) == (1 : Int) then bif r.fst.getD (Int.toNat (6 : Int)) (0 : Int) == (2 : Int) then bif r.fst.getD (Int.toNat (7 : Int)) (0 : Int) == (1 : Int) then bif r.fst.getD (Int.toNat (8 : Int)) (0 : Int) == (9 : Int) then bif r.fst.getD (Int.toNat (9 : Int)) (0 : Int) == (5 : Int) then bif r_1.snd.fst == (0 : Int) then bif r_1.fst.1 == (258 : Int) then bif r_1.fst.2 then (F16 k (r_1.fst.3, ((List.replicate (2 : Nat) (T46.mk (0 : Int) (0 : Int))).set (0 : Nat) (T46.mk (1 : Int) (9 : Int))).set (1 : Nat) (T46.mk (5 : Int) (3 : Int)), PUnit.unit)).bind fun r => bif r then bif r_2.snd.fst == (11 : Int) then (F14 k (((List.replicate (2 : Nat) (T46.mk (0 : Int) (0 : Int))).set (0 : Nat) (T46.mk (1 : Int) (9 : Int))).set (1 : Nat) (T46.mk (5 : Int) (3 : Int)), PUnit.unit)).bind fun r => some (r == (1 : Int)) else some false else some false else some false else some false else some false else some false else some false else some false else some false else some false else some false else some false else some false else some false
noncomputable def sp7 : FSpec Ty := spec ag7 rs7 F7
theorem bo7 : Try.f7.body = some (bodyOf Try.f7) := by kernel_rfl
theorem nd7 : nodupB ((loopsIn (bodyOf Try.f7)).map firstRegion) = true := by kernel_rfl
theorem ok7 : FOK Try.prog tab 7 sp7 := spec_ok (keeps := kp7) tabOK fs14OK Try.func7 bo7 (by kernel_rfl) nd7 (LSOK.none) (F := F7) fun k x => by kernel_rfl
noncomputable def fs7 : Nat → Option (FSpec Ty) := addF 7 sp7 fs14
theorem fs7OK : SpecsOK Try.prog tab fs7 := fs14OK.add ok7 Try.call7
def ag10 : Args Ty (T24 × Unit) := V.arg (tab.den 25) (noArgs)
def rs10 : Res Ty tab (T34) true := V.oneRes (tab.den 35) (ent 35).ids (ent 35).plain (fun _ h => by cases h)
def kp10 : Nat → Keep := fun i => ⟨[], []⟩
/-- "silt/siltlaw05.own" -/
def F10 (k : Nat) (x : T24 × Unit) : Option (T34) :=
  match x with
  | (a0, ()) => bif decide ((List.replicate (0 : Nat) (T46.mk (0 : Int) (0 : Int))).length + a0.3.length ≤ roomMost) then some (T34.mk a0.1 a0.2 (List.replicate (0 : Nat) (T46.mk (0 : Int) (0 : Int)) ++ a0.3) (0 : Int)) else none
noncomputable def sp10 : FSpec Ty := spec ag10 rs10 F10
theorem bo10 : Try.f10.body = some (bodyOf Try.f10) := by kernel_rfl
theorem nd10 : nodupB ((loopsIn (bodyOf Try.f10)).map firstRegion) = true := by kernel_rfl
theorem ok10 : FOK Try.prog tab 10 sp10 := spec_ok (keeps := kp10) tabOK fs7OK Try.func10 bo10 (by kernel_rfl) nd10 (LSOK.none) (F := F10) fun k x => by kernel_rfl
noncomputable def fs10 : Nat → Option (FSpec Ty) := addF 10 sp10 fs7
theorem fs10OK : SpecsOK Try.prog tab fs10 := fs7OK.add ok10 Try.call10
def ag18 : Args Ty (Int × Int × Unit) := V.arg (tab.den 22) (V.arg (tab.den 3) (noArgs))
def rs18 : Res Ty tab ((List Int)) true := V.oneRes (tab.den 51) (ent 51).ids (ent 51).plain (fun _ h => by cases h)
def of18_3 : Int × Int × Int × List Int → NSt Ty := fun x => ⟨[.int .u32 (x.1), .int .i64 (x.2.1), .row 100000, .int .i64 (x.2.2.1)], [.row 5 (x.2.2.2)]⟩
def ab18_3 : (n : NSt Ty) → Option {x : Int × Int × Int × List Int // of18_3 x = n}
  | ⟨[.int .u32 v0, .int .i64 v1, .row 100000, .int .i64 v2], [.row 5 v3]⟩ => some ⟨(v0, v1, v2, v3), rfl⟩
  | _ => none
def oe18_3 : List Int → Ex := fun _ => .exit 0
def on18_3 : List Int → NSt Ty := fun x => ⟨[.row 100000], [.row 5 (x)]⟩
def oa18_3 : (e : Ex) → (n : NSt Ty) → Option {y : List Int // oe18_3 y = e ∧ on18_3 y = n}
  | .exit 0, ⟨[.row 100000], [.row 5 v0]⟩ => some ⟨v0, rfl, rfl⟩
  | _, _ => none
/-- a round of the loop 3 of function 18 -/
def R18_3 (k : Nat) (again : Int × Int × Int × List Int → Option (List Int)) (x : Int × Int × Int × List Int) : Option (List Int) :=
  match x with
  | (v0, v1, v2, v3) => bif decide (v2 < v1) then bif decide ((0 : Int) ≤ IntKind.u64.wrap (IntKind.i64.wrap ((8 : Int) * v2))) then bif decide (v3.length + ((List.replicate (1 : Nat) (0 : Int)).set (0 : Nat) (IntKind.u8.wrap (v0.fdiv ((2 : Int) ^ min (IntKind.u64.wrap (IntKind.i64.wrap ((8 : Int) * v2))).toNat IntKind.u32.bits)))).length ≤ roomMost) then again (v0, v1, IntKind.i64.wrap (v2 + (1 : Int)), v3 ++ (List.replicate (1 : Nat) (0 : Int)).set (0 : Nat) (IntKind.u8.wrap (v0.fdiv ((2 : Int) ^ min (IntKind.u64.wrap (IntKind.i64.wrap ((8 : Int) * v2))).toNat IntKind.u32.bits)))) else none else none else some v3
def L18_3 (k n : Nat) (x : Int × Int × Int × List Int) : Option (List Int) := iterR (R18_3 k) n x
noncomputable def ls18_3 : Nat → Option (LSum Ty) := addL 3 (LSum.of of18_3 ab18_3 L18_3 oe18_3 on18_3) noL
def kp18 : Nat → Keep := fun i => cond (i == 3) ⟨[0, 1, 5, 6], [5]⟩ (⟨[], []⟩)
/-- "silt/siltref04.Put" -/
def F18 (k : Nat) (x : Int × Int × Unit) : Option ((List Int)) :=
  match x with
  | (a0, a1, ()) => (L18_3 k k (a0, a1, (0 : Int), [])).bind fun r => some r
noncomputable def sp18 : FSpec Ty := spec ag18 rs18 F18
theorem bo18 : Try.f18.body = some (bodyOf Try.f18) := by kernel_rfl
theorem nd18 : nodupB ((loopsIn (bodyOf Try.f18)).map firstRegion) = true := by kernel_rfl
theorem lo18_3 : LSOK fs10 kp18 tab Try.f18 ls18_3 := lsum_ok bo18 nd18 (LSOK.none) oa18_3 (R := R18_3) fun k again x => by kernel_rfl
theorem ok18 : FOK Try.prog tab 18 sp18 := spec_ok (keeps := kp18) tabOK fs10OK Try.func18 bo18 (by kernel_rfl) nd18 (lo18_3) (F := F18) fun k x => by kernel_rfl
noncomputable def fs18 : Nat → Option (FSpec Ty) := addF 18 sp18 fs10
theorem fs18OK : SpecsOK Try.prog tab fs18 := fs10OK.add ok18 Try.call18
def ag19 : Args Ty (T46 × Unit) := V.arg (tab.den 47) (noArgs)
def rs19 : Res Ty tab (Bool) false := V.oneRes (tab.den 4) (ent 4).ids (ent 4).plain (fun x _ => (ent 4).flat x rfl)
def kp19 : Nat → Keep := fun i => ⟨[], []⟩
/-- "silt/siltref05.Mark" -/
def F19 (k : Nat) (x : T46 × Unit) : Option (Bool) :=
  match x with
  | (a0, ()) => bif decide (a0.1 < (1 : Int)) then some false else bif decide (a0.1 > (5 : Int)) then some false else bif decide (a0.2 < (0 : Int)) then some false else bif decide (a0.2 < (8 : Int)) then some true else bif a0.1 != (3 : Int) then some (decide (a0.2 < (64 : Int))) else some false
noncomputable def sp19 : FSpec Ty := spec ag19 rs19 F19
theorem bo19 : Try.f19.body = some (bodyOf Try.f19) := by kernel_rfl
theorem nd19 : nodupB ((loopsIn (bodyOf Try.f19)).map firstRegion) = true := by kernel_rfl
theorem ok19 : FOK Try.prog tab 19 sp19 := spec_ok (keeps := kp19) tabOK fs18OK Try.func19 bo19 (by kernel_rfl) nd19 (LSOK.none) (F := F19) fun k x => by kernel_rfl
noncomputable def fs19 : Nat → Option (FSpec Ty) := addF 19 sp19 fs18
theorem fs19OK : SpecsOK Try.prog tab fs19 := fs18OK.add ok19 Try.call19
def ag20 : Args Ty ((List Int) × Unit) := V.arg (tab.den 51) (noArgs)
def rs20 : Res Ty tab ((List Int)) false := V.oneRes (tab.den 27) (ent 27).ids (ent 27).plain (fun x _ => (ent 27).flat x rfl)
def kp20 : Nat → Keep := fun i => ⟨[], []⟩
/-- "silt/siltref04.Sector" -/
def F20 (k : Nat) (x : (List Int) × Unit) : Option ((List Int)) :=
  match x with
  | (a0, ()) => some (splice (List.replicate (64 : Nat) (0 : Int)) a0 (Int.toNat (0 : Int)) (min a0.length ((↑(64 : Nat) : Int) - (0 : Int)).toNat))
noncomputable def sp20 : FSpec Ty := spec ag20 rs20 F20
theorem bo20 : Try.f20.body = some (bodyOf Try.f20) := by kernel_rfl
theorem nd20 : nodupB ((loopsIn (bodyOf Try.f20)).map firstRegion) = true := by kernel_rfl
theorem ok20 : FOK Try.prog tab 20 sp20 := spec_ok (keeps := kp20) tabOK fs19OK Try.func20 bo20 (by kernel_rfl) nd20 (LSOK.none) (F := F20) fun k x => by kernel_rfl
noncomputable def fs20 : Nat → Option (FSpec Ty) := addF 20 sp20 fs19
theorem fs20OK : SpecsOK Try.prog tab fs20 := fs19OK.add ok20 Try.call20
def ag9 : Args Ty (T34 × Unit) := V.arg (tab.den 35) (noArgs)
def rs9 : Res Ty tab ((List Int) × Int × Unit) false := V.manyRes (V.part (tab.den 27) (ent 27).ids (ent 27).plain (fun x _ => (ent 27).flat x rfl) (V.part (tab.den 3) (ent 3).ids (ent 3).plain (fun x _ => (ent 3).flat x rfl) (noParts)))
def of9_8 : Int × Int × Bool × List T46 × Int × List Int × List Int → NSt Ty := fun x => ⟨[.ptr 100000 [], .ptr 100001 [], .row 100002, .int .i64 (x.1)], [.var (.cons (.int .u32 (x.2.1)) (.cons (.bool (x.2.2.1)) (.cons (.slice 47 (x.2.2.2.1)) (.cons (.int .i64 (x.2.2.2.2.1)) (.nil))))), .var (.arr 5 64 (x.2.2.2.2.2.1)), .row 5 (x.2.2.2.2.2.2)]⟩
def ab9_8 : (n : NSt Ty) → Option {x : Int × Int × Bool × List T46 × Int × List Int × List Int // of9_8 x = n}
  | ⟨[.ptr 100000 [], .ptr 100001 [], .row 100002, .int .i64 v0], [.var (.cons (.int .u32 v1) (.cons (.bool v2) (.cons (.slice 47 v3) (.cons (.int .i64 v4) (.nil))))), .var (.arr 5 64 v5), .row 5 v6]⟩ => some ⟨(v0, v1, v2, v3, v4, v5, v6), rfl⟩
  | _ => none
def on9_8a : Int × List Int × List Int → NSt Ty := fun x => ⟨[.ptr 100000 [], .int .i64 (x.1), .row 100001], [.var (.arr 5 64 (x.2.1)), .row 5 (x.2.2)]⟩
def on9_8b : List Int × List Int → NSt Ty := fun x => ⟨[.ptr 100000 [], .undef, .row 100001], [.var (.arr 5 64 (x.1)), .row 5 (x.2)]⟩
def oa9_8 : (e : Ex) → (n : NSt Ty) → Option {y : (Int × List Int × List Int) ⊕ (List Int × List Int) // oe2 .ret (.exit 0) y = e ∧ on2 on9_8a on9_8b y = n}
  | .ret, ⟨[.ptr 100000 [], .int .i64 v0, .row 100001], [.var (.arr 5 64 v1), .row 5 v2]⟩ => some ⟨.inl (v0, v1, v2), rfl, rfl⟩
  | .exit 0, ⟨[.ptr 100000 [], .undef, .row 100001], [.var (.arr 5 64 v0), .row 5 v1]⟩ => some ⟨.inr (v0, v1), rfl, rfl⟩
  | _, _ => none
/-- a round of the loop 8 of function 9 -/
def R9_8 (k : Nat) (again : Int × Int × Bool × List T46 × Int × List Int × List Int → Option ((Int × List Int × List Int) ⊕ (List Int × List Int))) (x : Int × Int × Bool × List T46 × Int × List Int × List Int) : Option ((Int × List Int × List Int) ⊕ (List Int × List Int)) :=
  match x with
  | (v0, v1, v2, v3, v4, v5, v6) => bif decide (v0 < (↑v3.length : Int)) then bif inRange v0 v3.length then (F19 k (T46.mk (v3.getD v0.toNat (T46.mk (0 : Int) (0 : Int))).1 (v3.getD v0.toNat (T46.mk (0 : Int) (0 : Int))).2, PUnit.unit)).bind fun r => bif !r then some (Sum.inl ((11 : Int), List.replicate (64 : Nat) (0 : Int), v6)) else bif inRange v0 v3.length then bif inRange v0 v3.length then bif decide (v6.length + (((List.replicate (2 : Nat) (0 : Int)).set (0 : Nat) (IntKind.u8.wrap (v3.getD v0.toNat (T46.mk (0 : Int) (0 : Int))).1)).set (1 : Nat) (IntKind.u8.wrap (v3.getD v0.toNat (T46.mk (0 : Int) (0 : Int))).2)).length ≤ roomMost) then again (IntKind.i64.wrap (v0 + (1 : Int)), v1, v2, v3, v4, v5, v6 ++ ((List.replicate (2 : Nat) (0 : Int)).set (0 : Nat) (IntKind.u8.wrap (v3.getD v0.toNat (T46.mk (0 : Int) (0 : Int))).1)).set (1 : Nat) (IntKind.u8.wrap (v3.getD v0.toNat (T46.mk (0 : Int) (0 : Int))).2)) else none else none else none else none else some (Sum.inr (v5, v6))
def L9_8 (k n : Nat) (x : Int × Int × Bool × List T46 × Int × List Int × List Int) : Option ((Int × List Int × List Int) ⊕ (List Int × List Int)) := iterR (R9_8 k) n x
noncomputable def ls9_8 : Nat → Option (LSum Ty) := addL 8 (lsum2 of9_8 ab9_8 L9_8 .ret on9_8a (.exit 0) on9_8b) noL
def kp9 : Nat → Keep := fun i => cond (i == 8) ⟨[1, 2, 4, 5], [2, 3, 4]⟩ (⟨[], []⟩)
/-- "silt/siltref05.Encode" -/
def F9 (k : Nat) (x : T34 × Unit) : Option ((List Int) × Int × Unit) :=
  match x with
  | (a0, ()) => bif decide ((↑a0.3.length : Int) < (1 : Int)) then some (List.replicate (64 : Nat) (0 : Int), (11 : Int), PUnit.unit) else bif decide ((↑a0.3.length : Int) > (24 : Int)) then some (List.replicate (64 : Nat) (0 : Int), (11 : Int), PUnit.unit) else bif a0.2 then (F18 k (a0.1, (4 : Int), PUnit.unit)).bind fun r => bif decide (((((List.replicate (2 : Nat) (0 : Int)).set (0 : Nat) (83 : Int)).set (1 : Nat) (0 : Int)).set (Int.toNat (1 : Int)) (1 : Int)).length + r.length ≤ roomMost) then bif decide (((((List.replicate (2 : Nat) (0 : Int)).set (0 : Nat) (83 : Int)).set (1 : Nat) (0 : Int)).set (Int.toNat (1 : Int)) (1 : Int) ++ r).length + ((List.replicate (1 : Nat) (0 : Int)).set (0 : Nat) (IntKind.u8.wrap (↑a0.3.length : Int))).length ≤ roomMost) then (L9_8 k k ((0 : Int), a0.1, a0.2, a0.3, a0.4, List.replicate (64 : Nat) (0 : Int), (((List.replicate (2 : Nat) (0 : Int)).set (0 : Nat) (83 : Int)).set (1 : Nat) (0 : Int)).set (Int.toNat (1 : Int)) (1 : Int) ++ r ++ (List.replicate (1 : Nat) (0 : Int)).set (0 : Nat) (IntKind.u8.wrap (↑a0.3.length : Int)))).bind fun r => sumK r (fun a => some (a.snd.fst, a.fst, PUnit.unit)) fun b => (F20 k (b.snd, PUnit.unit)).bind fun r => some (r, (0 : Int), PUnit.unit) else none else none else (F18 k (a0.1, (4 : Int), PUnit.unit)).bind fun r => bif decide ((((List.replicate (2 : Nat) (0 : Int)).set (0 : Nat) (83 : Int)).set (1 : Nat) (0 : Int)).length + r.length ≤ roomMost) then bif decide ((((List.replicate (2 : Nat) (0 : Int)).set (0 : Nat) (83 : Int)).set (1 : Nat) (0 : Int) ++ r).length + ((List.replicate (1 : Nat) (0 : Int)).set (0 : Nat) (IntKind.u8.wrap (↑a0.3.length : Int))).length ≤ roomMost) then (L9_8 k k ((0 : Int), a0.1, a0.2, a0.3, a0.4, List.replicate (64 : Nat) (0 : Int), ((List.replicate (2 : Nat) (0 : Int)).set (0 : Nat) (83 : Int)).set (1 : Nat) (0 : Int) ++ r ++ (List.replicate (1 : Nat) (0 : Int)).set (0 : Nat) (IntKind.u8.wrap (↑a0.3.length : Int)))).bind fun r => sumK r (fun a => some (a.snd.fst, a.fst, PUnit.unit)) fun b => (F20 k (b.snd, PUnit.unit)).bind fun r => some (r, (0 : Int), PUnit.unit) else none else none
noncomputable def sp9 : FSpec Ty := spec ag9 rs9 F9
theorem bo9 : Try.f9.body = some (bodyOf Try.f9) := by kernel_rfl
theorem nd9 : nodupB ((loopsIn (bodyOf Try.f9)).map firstRegion) = true := by kernel_rfl
theorem lo9_8 : LSOK fs20 kp9 tab Try.f9 ls9_8 := lsum2_ok bo9 nd9 (LSOK.none) oa9_8 (R := R9_8) fun k again x => by kernel_rfl
theorem ok9 : FOK Try.prog tab 9 sp9 := spec_ok (keeps := kp9) tabOK fs20OK Try.func9 bo9 (by kernel_rfl) nd9 (lo9_8) (F := F9) fun k x => by kernel_rfl
noncomputable def fs9 : Nat → Option (FSpec Ty) := addF 9 sp9 fs20
theorem fs9OK : SpecsOK Try.prog tab fs9 := fs20OK.add ok9 Try.call9
def ag21 : Args Ty ((List Int) × Unit) := V.arg (tab.den 51) (noArgs)
def rs21 : Res Ty tab (Int) false := V.oneRes (tab.den 22) (ent 22).ids (ent 22).plain (fun x _ => (ent 22).flat x rfl)
def of21_3 : List Int × Int × Int → NSt Ty := fun x => ⟨[.slice 5 (x.1), .int .u32 (x.2.1), .int .i64 (x.2.2)], []⟩
def ab21_3 : (n : NSt Ty) → Option {x : List Int × Int × Int // of21_3 x = n}
  | ⟨[.slice 5 v0, .int .u32 v1, .int .i64 v2], []⟩ => some ⟨(v0, v1, v2), rfl⟩
  | _ => none
def oe21_3 : Int → Ex := fun _ => .exit 0
def on21_3 : Int → NSt Ty := fun x => ⟨[.int .u32 (x)], []⟩
def oa21_3 : (e : Ex) → (n : NSt Ty) → Option {y : Int // oe21_3 y = e ∧ on21_3 y = n}
  | .exit 0, ⟨[.int .u32 v0], []⟩ => some ⟨v0, rfl, rfl⟩
  | _, _ => none
/-- a round of the loop 3 of function 21 -/
def R21_3 (k : Nat) (again : List Int × Int × Int → Option (Int)) (x : List Int × Int × Int) : Option (Int) :=
  match x with
  | (v0, v1, v2) => bif decide (v2 ≥ (0 : Int)) then bif inRange v2 v0.length then again (v0, IntKind.u32.wrap (IntKind.u32.wrap (v1 * (2 : Int) ^ min (Int.toNat (8 : Int)) IntKind.u32.bits) + IntKind.u32.wrap (v0.getD v2.toNat (0 : Int))), IntKind.i64.wrap (v2 - (1 : Int))) else none else some v1
def L21_3 (k n : Nat) (x : List Int × Int × Int) : Option (Int) := iterR (R21_3 k) n x
noncomputable def ls21_3 : Nat → Option (LSum Ty) := addL 3 (LSum.of of21_3 ab21_3 L21_3 oe21_3 on21_3) noL
def kp21 : Nat → Keep := fun i => cond (i == 3) ⟨[0, 3, 4], [3]⟩ (⟨[], []⟩)
/-- "silt/siltref04.Num" -/
def F21 (k : Nat) (x : (List Int) × Unit) : Option (Int) :=
  match x with
  | (a0, ()) => (L21_3 k k (a0, (0 : Int), IntKind.i64.wrap ((↑a0.length : Int) - (1 : Int)))).bind fun r => some r
noncomputable def sp21 : FSpec Ty := spec ag21 rs21 F21
theorem bo21 : Try.f21.body = some (bodyOf Try.f21) := by kernel_rfl
theorem nd21 : nodupB ((loopsIn (bodyOf Try.f21)).map firstRegion) = true := by kernel_rfl
theorem lo21_3 : LSOK fs9 kp21 tab Try.f21 ls21_3 := lsum_ok bo21 nd21 (LSOK.none) oa21_3 (R := R21_3) fun k again x => by kernel_rfl
theorem ok21 : FOK Try.prog tab 21 sp21 := spec_ok (keeps := kp21) tabOK fs9OK Try.func21 bo21 (by kernel_rfl) nd21 (lo21_3) (F := F21) fun k x => by kernel_rfl
noncomputable def fs21 : Nat → Option (FSpec Ty) := addF 21 sp21 fs9
theorem fs21OK : SpecsOK Try.prog tab fs21 := fs9OK.add ok21 Try.call21
def ag12 : Args Ty ((List Int) × Unit) := V.arg (tab.den 27) (noArgs)
def rs12 : Res Ty tab (T34) true := V.oneRes (tab.den 35) (ent 35).ids (ent 35).plain (fun _ h => by cases h)
def of12_3 : Int × List Int × Int × Bool × Int × Int × Bool × Int × List T46 × List T46 → NSt Ty := fun x => ⟨[.ptr 100000 [], .ptr 100001 [], .ptr 100002 [], .int .i64 (x.1)], [.var (.arr 5 64 (x.2.1)), .var (.cons (.int .u32 (x.2.2.1)) (.cons (.bool (x.2.2.2.1)) (.cons (.row 100003) (.cons (.int .i64 (x.2.2.2.2.1)) (.nil))))), .var (.cons (.int .u32 (x.2.2.2.2.2.1)) (.cons (.bool (x.2.2.2.2.2.2.1)) (.cons (.row 100004) (.cons (.int .i64 (x.2.2.2.2.2.2.2.1)) (.nil))))), .row 47 (x.2.2.2.2.2.2.2.2.1), .row 47 (x.2.2.2.2.2.2.2.2.2)]⟩
def ab12_3 : (n : NSt Ty) → Option {x : Int × List Int × Int × Bool × Int × Int × Bool × Int × List T46 × List T46 // of12_3 x = n}
  | ⟨[.ptr 100000 [], .ptr 100001 [], .ptr 100002 [], .int .i64 v0], [.var (.arr 5 64 v1), .var (.cons (.int .u32 v2) (.cons (.bool v3) (.cons (.row 100003) (.cons (.int .i64 v4) (.nil))))), .var (.cons (.int .u32 v5) (.cons (.bool v6) (.cons (.row 100004) (.cons (.int .i64 v7) (.nil))))), .row 47 v8, .row 47 v9]⟩ => some ⟨(v0, v1, v2, v3, v4, v5, v6, v7, v8, v9), rfl⟩
  | _ => none
def oe12_3 : List Int × Int × Bool × Int × Int × Bool × Int × List T46 × List T46 → Ex := fun _ => .exit 0
def on12_3 : List Int × Int × Bool × Int × Int × Bool × Int × List T46 × List T46 → NSt Ty := fun x => ⟨[.ptr 100000 [], .ptr 100001 [], .ptr 100002 []], [.var (.arr 5 64 (x.1)), .var (.cons (.int .u32 (x.2.1)) (.cons (.bool (x.2.2.1)) (.cons (.row 100003) (.cons (.int .i64 (x.2.2.2.1)) (.nil))))), .var (.cons (.int .u32 (x.2.2.2.2.1)) (.cons (.bool (x.2.2.2.2.2.1)) (.cons (.row 100004) (.cons (.int .i64 (x.2.2.2.2.2.2.1)) (.nil))))), .row 47 (x.2.2.2.2.2.2.2.1), .row 47 (x.2.2.2.2.2.2.2.2)]⟩
def oa12_3 : (e : Ex) → (n : NSt Ty) → Option {y : List Int × Int × Bool × Int × Int × Bool × Int × List T46 × List T46 // oe12_3 y = e ∧ on12_3 y = n}
  | .exit 0, ⟨[.ptr 100000 [], .ptr 100001 [], .ptr 100002 []], [.var (.arr 5 64 v0), .var (.cons (.int .u32 v1) (.cons (.bool v2) (.cons (.row 100003) (.cons (.int .i64 v3) (.nil))))), .var (.cons (.int .u32 v4) (.cons (.bool v5) (.cons (.row 100004) (.cons (.int .i64 v6) (.nil))))), .row 47 v7, .row 47 v8]⟩ => some ⟨(v0, v1, v2, v3, v4, v5, v6, v7, v8), rfl, rfl⟩
  | _, _ => none
/-- a round of the loop 3 of function 12 -/
def R12_3 (k : Nat) (again : Int × List Int × Int × Bool × Int × Int × Bool × Int × List T46 × List T46 → Option (List Int × Int × Bool × Int × Int × Bool × Int × List T46 × List T46)) (x : Int × List Int × Int × Bool × Int × Int × Bool × Int × List T46 × List T46) : Option (List Int × Int × Bool × Int × Int × Bool × Int × List T46 × List T46) :=
  match x with
  | (v0, v1, v2, v3, v4, v5, v6, v7, v8, v9) => bif decide (v0 < if IntKind.i64.wrap (v1.getD (Int.toNat (6 : Int)) (0 : Int)) < (24 : Int) then IntKind.i64.wrap (v1.getD (Int.toNat (6 : Int)) (0 : Int)) else (24 : Int)) then bif inRange (IntKind.i64.wrap ((7 : Int) + IntKind.i64.wrap ((2 : Int) * v0))) (64 : Nat) then bif inRange (IntKind.i64.wrap ((8 : Int) + IntKind.i64.wrap ((2 : Int) * v0))) (64 : Nat) then bif decide (v9.length + ((List.replicate (1 : Nat) (T46.mk (0 : Int) (0 : Int))).set (0 : Nat) (T46.mk (IntKind.i64.wrap (v1.getD (IntKind.i64.wrap ((7 : Int) + IntKind.i64.wrap ((2 : Int) * v0))).toNat (0 : Int))) (IntKind.i64.wrap (v1.getD (IntKind.i64.wrap ((8 : Int) + IntKind.i64.wrap ((2 : Int) * v0))).toNat (0 : Int))))).length ≤ roomMost) then again (IntKind.i64.wrap (v0 + (1 : Int)), v1, v2, v3, v4, v5, v6, v7, v8, v9 ++ (List.replicate (1 : Nat) (T46.mk (0 : Int) (0 : Int))).set (0 : Nat) (T46.mk (IntKind.i64.wrap (v1.getD (IntKind.i64.wrap ((7 : Int) + IntKind.i64.wrap ((2 : Int) * v0))).toNat (0 : Int))) (IntKind.i64.wrap (v1.getD (IntKind.i64.wrap ((8 : Int) + IntKind.i64.wrap ((2 : Int) * v0))).toNat (0 : Int))))) else none else none else none else some (v1, v2, v3, v4, v5, v6, v7, v8, v9)
def L12_3 (k n : Nat) (x : Int × List Int × Int × Bool × Int × Int × Bool × Int × List T46 × List T46) : Option (List Int × Int × Bool × Int × Int × Bool × Int × List T46 × List T46) := iterR (R12_3 k) n x
noncomputable def ls12_3 : Nat → Option (LSum Ty) := addL 3 (LSum.of of12_3 ab12_3 L12_3 oe12_3 on12_3) noL
def kp12 : Nat → Keep := fun i => cond (i == 3) ⟨[1, 2, 3, 4], [1, 2, 3]⟩ (⟨[], []⟩)
/-- "silt/siltref05.Decode" -/
def F12 (k : Nat) (x : (List Int) × Unit) : Option (T34) :=
  match x with
  | (a0, ()) => (F21 k (List.take ((6 : Int) - (2 : Int)).toNat (List.drop (Int.toNat (2 : Int)) a0), PUnit.unit)).bind fun r => (L12_3 k k ((0 : Int), a0, (0 : Int), false, (0 : Int), r, a0.getD (Int.toNat (1 : Int)) (0 : Int) == (1 : Int), (0 : Int), [], [])).bind fun r => (F9 k (T34.mk r.snd.snd.snd.snd.fst r.snd.snd.snd.snd.snd.fst r.snd.snd.snd.snd.snd.snd.snd.snd r.snd.snd.snd.snd.snd.snd.fst, PUnit.unit)).bind fun r_1 => bif r_1.snd.fst != (0 : Int) then some (T34.mk (0 : Int) false [] (11 : Int)) else bif !decide (r_1.fst = r.fst) then some (T34.mk (0 : Int) false [] (11 : Int)) else some (T34.mk r.snd.snd.snd.snd.fst r.snd.snd.snd.snd.snd.fst r.snd.snd.snd.snd.snd.snd.snd.snd r.snd.snd.snd.snd.snd.snd.fst)
noncomputable def sp12 : FSpec Ty := spec ag12 rs12 F12
theorem bo12 : Try.f12.body = some (bodyOf Try.f12) := by kernel_rfl
theorem nd12 : nodupB ((loopsIn (bodyOf Try.f12)).map firstRegion) = true := by kernel_rfl
theorem lo12_3 : LSOK fs21 kp12 tab Try.f12 ls12_3 := lsum_ok bo12 nd12 (LSOK.none) oa12_3 (R := R12_3) fun k again x => by kernel_rfl
theorem ok12 : FOK Try.prog tab 12 sp12 := spec_ok (keeps := kp12) tabOK fs21OK Try.func12 bo12 (by kernel_rfl) nd12 (lo12_3) (F := F12) fun k x => by kernel_rfl
noncomputable def fs12 : Nat → Option (FSpec Ty) := addF 12 sp12 fs21
theorem fs12OK : SpecsOK Try.prog tab fs12 := fs21OK.add ok12 Try.call12
def ag13 : Args Ty (T24 × T34 × Unit) := V.arg (tab.den 25) (V.arg (tab.den 35) (noArgs))
def rs13 : Res Ty tab (Bool) false := V.oneRes (tab.den 4) (ent 4).ids (ent 4).plain (fun x _ => (ent 4).flat x rfl)
def kp13 : Nat → Keep := fun i => ⟨[], []⟩
/-- "silt/siltlaw05.same" -/
def F13 (k : Nat) (x : T24 × T34 × Unit) : Option (Bool) :=
  match x with
  | (a0, a1, ()) => bif a0.1 == a1.1 then bif a0.2 == a1.2 then (F16 k (a0.3, a1.3, PUnit.unit)).bind fun r => some r else some false else some false
noncomputable def sp13 : FSpec Ty := spec ag13 rs13 F13
theorem bo13 : Try.f13.body = some (bodyOf Try.f13) := by kernel_rfl
theorem nd13 : nodupB ((loopsIn (bodyOf Try.f13)).map firstRegion) = true := by kernel_rfl
theorem ok13 : FOK Try.prog tab 13 sp13 := spec_ok (keeps := kp13) tabOK fs12OK Try.func13 bo13 (by kernel_rfl) nd13 (LSOK.none) (F := F13) fun k x => by kernel_rfl
noncomputable def fs13 : Nat → Option (FSpec Ty) := addF 13 sp13 fs12
theorem fs13OK : SpecsOK Try.prog tab fs13 := fs12OK.add ok13 Try.call13
def ag15 : Args Ty ((List T46) × Unit) := V.arg (tab.den 23) (noArgs)
def rs15 : Res Ty tab (Int) false := V.oneRes (tab.den 3) (ent 3).ids (ent 3).plain (fun x _ => (ent 3).flat x rfl)
def of15_3 : List T46 × Int × Int → NSt Ty := fun x => ⟨[.slice 47 (x.1), .int .i64 (x.2.1), .int .i64 (x.2.2)], []⟩
def ab15_3 : (n : NSt Ty) → Option {x : List T46 × Int × Int // of15_3 x = n}
  | ⟨[.slice 47 v0, .int .i64 v1, .int .i64 v2], []⟩ => some ⟨(v0, v1, v2), rfl⟩
  | _ => none
def oe15_3 : Int → Ex := fun _ => .exit 0
def on15_3 : Int → NSt Ty := fun x => ⟨[.int .i64 (x)], []⟩
def oa15_3 : (e : Ex) → (n : NSt Ty) → Option {y : Int // oe15_3 y = e ∧ on15_3 y = n}
  | .exit 0, ⟨[.int .i64 v0], []⟩ => some ⟨v0, rfl, rfl⟩
  | _, _ => none
/-- a round of the loop 3 of function 15 -/
def R15_3 (k : Nat) (again : List T46 × Int × Int → Option (Int)) (x : List T46 × Int × Int) : Option (Int) :=
  match x with
  | (v0, v1, v2) => bif decide (v2 < (↑v0.length : Int)) then bif inRange v2 v0.length then bif decide ((v0.getD v2.toNat (T46.mk (0 : Int) (0 : Int))).1 ≥ (1 : Int)) then bif inRange v2 v0.length then bif decide ((v0.getD v2.toNat (T46.mk (0 : Int) (0 : Int))).1 ≤ (3 : Int)) then again (v0, IntKind.i64.wrap (v1 + (1 : Int)), IntKind.i64.wrap (v2 + (1 : Int))) else again (v0, v1, IntKind.i64.wrap (v2 + (1 : Int))) else none else again (v0, v1, IntKind.i64.wrap (v2 + (1 : Int))) else none else some v1
def L15_3 (k n : Nat) (x : List T46 × Int × Int) : Option (Int) := iterR (R15_3 k) n x
noncomputable def ls15_3 : Nat → Option (LSum Ty) := addL 3 (LSum.of of15_3 ab15_3 L15_3 oe15_3 on15_3) noL
def kp15 : Nat → Keep := fun i => cond (i == 3) ⟨[0, 3, 4], [3]⟩ (⟨[], []⟩)
/-- "silt/siltref05.Blocks" -/
def F15 (k : Nat) (x : (List T46) × Unit) : Option (Int) :=
  match x with
  | (a0, ()) => (L15_3 k k (a0, (0 : Int), (0 : Int))).bind fun r => some r
noncomputable def sp15 : FSpec Ty := spec ag15 rs15 F15
theorem bo15 : Try.f15.body = some (bodyOf Try.f15) := by kernel_rfl
theorem nd15 : nodupB ((loopsIn (bodyOf Try.f15)).map firstRegion) = true := by kernel_rfl
theorem lo15_3 : LSOK fs13 kp15 tab Try.f15 ls15_3 := lsum_ok bo15 nd15 (LSOK.none) oa15_3 (R := R15_3) fun k again x => by kernel_rfl
theorem ok15 : FOK Try.prog tab 15 sp15 := spec_ok (keeps := kp15) tabOK fs13OK Try.func15 bo15 (by kernel_rfl) nd15 (lo15_3) (F := F15) fun k x => by kernel_rfl
noncomputable def fs15 : Nat → Option (FSpec Ty) := addF 15 sp15 fs13
theorem fs15OK : SpecsOK Try.prog tab fs15 := fs13OK.add ok15 Try.call15
def ag3 : Args Ty (T24 × (List Int) × Unit) := V.arg (tab.den 25) (V.arg (tab.den 27) (noArgs))
def rs3 : Res Ty tab (Bool) false := V.oneRes (tab.den 4) (ent 4).ids (ent 4).plain (fun x _ => (ent 4).flat x rfl)
def kp3 : Nat → Keep := fun i => ⟨[], []⟩
/-- "silt/siltlaw05.SummaryCodes" -/
def F3 (k : Nat) (x : T24 × (List Int) × Unit) : Option (Bool) :=
  match x with
  | (a0, a1, ()) => bif decide ((↑a0.3.length : Int) > (300 : Int)) then (F7 k PUnit.unit).bind fun r => some r else bif decide ((List.replicate (0 : Nat) (T46.mk (0 : Int) (0 : Int))).length + a0.3.length ≤ roomMost) then (F8 k (T24.mk a0.1 a0.2 (List.replicate (0 : Nat) (T46.mk (0 : Int) (0 : Int)) ++ a0.3), PUnit.unit)).bind fun r => (F10 k (T24.mk a0.1 a0.2 a0.3, PUnit.unit)).bind fun r_1 => (F9 k (T34.mk r_1.1 r_1.2 r_1.3 r_1.4, PUnit.unit)).bind fun r_2 => (F11 k (a1, PUnit.unit)).bind fun r_3 => (F12 k (a1, PUnit.unit)).bind fun r_4 => bif decide (r.fst = r_2.fst) then bif r.snd.fst == r_2.snd.fst then (F13 k (T24.mk r_3.fst.1 r_3.fst.2 r_3.fst.3, T34.mk r_4.1 r_4.2 r_4.3 r_4.4, PUnit.unit)).bind fun r => bif r then bif r_3.snd.fst == r_4.4 then (F14 k (List.replicate (0 : Nat) (T46.mk (0 : Int) (0 : Int)) ++ a0.3, PUnit.unit)).bind fun r => (F15 k (a0.3, PUnit.unit)).bind fun r_5 => bif r == r_5 then (F16 k (List.replicate (0 : Nat) (T46.mk (0 : Int) (0 : Int)) ++ a0.3, a0.3, PUnit.unit)).bind fun r => bif r then (F7 k PUnit.unit).bind fun r => some r else some false else some false else some false else some false else some false else some false else none
noncomputable def sp3 : FSpec Ty := spec ag3 rs3 F3
theorem bo3 : Try.f3.body = some (bodyOf Try.f3) := by kernel_rfl
theorem nd3 : nodupB ((loopsIn (bodyOf Try.f3)).map firstRegion) = true := by kernel_rfl
theorem ok3 : FOK Try.prog tab 3 sp3 := spec_ok (keeps := kp3) tabOK fs15OK Try.func3 bo3 (by kernel_rfl) nd3 (LSOK.none) (F := F3) fun k x => by kernel_rfl
noncomputable def fs3 : Nat → Option (FSpec Ty) := addF 3 sp3 fs15
theorem fs3OK : SpecsOK Try.prog tab fs3 := fs15OK.add ok3 Try.call3
def ag4 : Args Ty (T24 × T24 × (List Int) × Unit) := V.arg (tab.den 25) (V.arg (tab.den 25) (V.arg (tab.den 27) (noArgs)))
def rs4 : Res Ty tab (Bool) false := V.oneRes (tab.den 4) (ent 4).ids (ent 4).plain (fun x _ => (ent 4).flat x rfl)
def kp4 : Nat → Keep := fun i => ⟨[], []⟩
/-- "silt/siltlaw05.SummaryBack" -/
def F4 (k : Nat) (x : T24 × T24 × (List Int) × Unit) : Option (Bool) :=
  match x with
  | (a0, a1, a2, ()) => bif decide ((↑a0.3.length : Int) > (300 : Int)) then (F7 k PUnit.unit).bind fun r => some r else bif decide ((↑a1.3.length : Int) > (300 : Int)) then (F7 k PUnit.unit).bind fun r => some r else (F8 k (T24.mk a0.1 a0.2 a0.3, PUnit.unit)).bind fun r => (F8 k (T24.mk a1.1 a1.2 a1.3, PUnit.unit)).bind fun r_1 => bif r.snd.fst == (0 : Int) then (F11 k (r.fst, PUnit.unit)).bind fun r_2 => bif r_2.snd.fst != (0 : Int) then some false else (F10 k (T24.mk a0.1 a0.2 a0.3, PUnit.unit)).bind fun r_3 => (F13 k (T24.mk r_2.fst.1 r_2.fst.2 r_2.fst.3, T34.mk r_3.1 r_3.2 r_3.3 r_3.4, PUnit.unit)).bind fun r_4 => bif !r_4 then some false else bif r.snd.fst == (0 : Int) then bif r_1.snd.fst == (0 : Int) then bif a0.1 == a1.1 then bif a0.2 == a1.2 then (F16 k (a0.3, a1.3, PUnit.unit)).bind fun r_5 => bif !decide (r.fst = r_1.fst) == r_5 then some false else (F11 k (a2, PUnit.unit)).bind fun r => bif r.snd.fst == (0 : Int) then (F8 k (T24.mk r.fst.1 r.fst.2 r.fst.3, PUnit.unit)).bind fun r => bif r.snd.fst == (0 : Int) then bif decide (r.fst = a2) then bif a2.getD (Int.toNat (0 : Int)) (0 : Int) == (83 : Int) then (F7 k PUnit.unit).bind fun r => some r else some false else some false else some false else bif (↑r.fst.3.length : Int) == (0 : Int) then bif r.fst.1 == (0 : Int) then bif !r.fst.2 then (F7 k PUnit.unit).bind fun r => some r else some false else some false else some false else bif !decide (r.fst = r_1.fst) == false then some false else (F11 k (a2, PUnit.unit)).bind fun r => bif r.snd.fst == (0 : Int) then (F8 k (T24.mk r.fst.1 r.fst.2 r.fst.3, PUnit.unit)).bind fun r => bif r.snd.fst == (0 : Int) then bif decide (r.fst = a2) then bif a2.getD (Int.toNat (0 : Int)) (0 : Int) == (83 : Int) then (F7 k PUnit.unit).bind fun r => some r else some false else some false else some false else bif (↑r.fst.3.length : Int) == (0 : Int) then bif r.fst.1 == (0 : Int) then bif !r.fst.2 then (F7 k PUnit.unit).bind fun r => some r else some false else some false else some false else bif !decide (r.fst = r_1.fst) == false then some false else (F11 k (a2, PUnit.unit)).bind fun r => bif r.snd.fst == (0 : Int) then (F8 k (T24.mk r.fst.1 r.fst.2 r.fst.3, PUnit.unit)).bind fun r => bif r.snd.fst == (0 : Int) then bif decide (r.fst = a2) then bif a2.getD (Int.toNat (0 : Int)) (0 : Int) == (83 : Int) then (F7 k PUnit.unit).bind fun r => some r else some false else some false else some false else bif (↑r.fst.3.length : Int) == (0 : Int) then bif r.fst.1 == (0 : Int) then bif !r.fst.2 then (F7 k PUnit.unit).bind fun r => some r else some false else some false else some false else (F11 k (a2, PUnit.unit)).bind fun r => bif r.snd.fst == (0 : Int) then (F8 k (T24.mk r.fst.1 r.fst.2 r.fst.3, PUnit.unit)).bind fun r => bif r.snd.fst == (0 : Int) then bif decide (r.fst = a2) then bif a2.getD (Int.toNat (0 : Int)) (0 : Int) == (83 : Int) then (F7 k PUnit.unit).bind fun r => some r else some false else some false else some false else bif (↑r.fst.3.length : Int) == (0 : Int) then bif r.fst.1 == (0 : Int) then bif !r.fst.2 then (F7 k PUnit.unit).bind fun r => some r else some false else some false else some false else (F11 k (a2, PUnit.unit)).bind fun r => bif r.snd.fst == (0 : Int) then (F8 k (T24.mk r.fst.1 r.fst.2 r.fst.3, PUnit.unit)).bind fun r => bif r.snd.fst == (0 : Int) then bif decide (r.fst = a2) then bif a2.getD (Int.toNat (0 : Int)) (0 : Int) == (83 : Int) then (F7 k PUnit.unit).bind fun r => some r else some false else some false else some false else bif (↑r.fst.3.length : Int) == (0 : Int) then bif r.fst.1 == (0 : Int) then bif !r.fst.2 then (F7 k PUnit.unit).bind fun r => some r else some false else some false else some false else bif r.snd.fst == (0 : Int) then bif r_1.snd.fst == (0 : Int) then bif a0.1 == a1.1 then bif a0.2 == a1.2 then (F16 k (a0.3, a1.3, PUnit.unit)).bind fun r_2 => bif !decide (r.fst = r_1.fst) == r_2 then some false else (F11 k (a2, PUnit.unit)).bind fun r => bif r.snd.fst == (0 : Int) then (F8 k (T24.mk r.fst.1 r.fst.2 r.fst.3, PUnit.unit)).bind fun r => bif r.snd.fst == (0 : Int) then bif decide (r.fst = a2) then bif a2.getD (Int.toNat (0 : Int)) (0 : Int) == (83 : Int) then (F7 k PUnit.unit).bind fun r => some r else some false else some false else some false else bif (↑r.fst.3.length : Int) == (0 : Int) then bif r.fst.1 == (0 : Int) then bif !r.fst.2 then (F7 k PUnit.unit).bind fun r => some r else some false else some false else some false else bif !decide (r.fst = r_1.fst) == false then some false else (F11 k (a2, PUnit.unit)).bind fun r => bif r.snd.fst == (0 : Int) then (F8 k (T24.mk r.fst.1 r.fst.2 r.fst.3, PUnit.unit)).bind fun r => bif r.snd.fst == (0 : Int) then bif decide (r.fst = a2) then bif a2.getD (Int.toNat (0 : Int)) (0 : Int) == (83 : Int) then (F7 k PUnit.unit).bind fun r => some r else some false else some false else some false else bif (↑r.fst.3.length : Int) == (0 : Int) then bif r.fst.1 == (0 : Int) then bif !r.fst.2 then (F7 k PUnit.unit).bind fun r => some r else some false else some false else some false else bif !decide (r.fst = r_1.fst) == false then some false else (F11 k (a2, PUnit.unit)).bind fun r => bif r.snd.fst == (0 : Int) then (F8 k (T24.mk r.fst.1 r.fst.2 r.fst.3, PUnit.unit)).bind fun r => bif r.snd.fst == (0 : Int) then bif decide (r.fst = a2) then bif a2.getD (Int.toNat (0 : Int)) (0 : Int) == (83 : Int) then (F7 k PUnit.unit).bind fun r => some r else some false else some false else some false else bif (↑r.fst.3.length : Int) == (0 : Int) then bif r.fst.1 == (0 : Int) then bif !r.fst.2 then (F7 k PUnit.unit).bind fun r => some r else some false else some false else some false else (F11 k (a2, PUnit.unit)).bind fun r => bif r.snd.fst == (0 : Int) then (F8 k (T24.mk r.fst.1 r.fst.2 r.fst.3, PUnit.unit)).bind fun r => bif r.snd.fst == (0 : Int) then bif decide (r.fst = a2) then bif a2.getD (Int.toNat (0 : Int)) (0 : Int) == (83 : Int) then (F7 k PUnit.unit).bind fun r => some r else some false else some false else some false else bif (↑r.fst.3.length : Int) == (0 : Int) then bif r.fst.1 == (0 : Int) then bif !r.fst.2 then (F7 k PUnit.unit).bind fun r => some r else some false else some false else some false else (F11 k (a2, PUnit.unit)).bind fun r => bif r.snd.fst == (0 : Int) then (F8 k (T24.mk r.fst.1 r.fst.2 r.fst.3, PUnit.unit)).bind fun r => bif r.snd.fst == (0 : Int) then bif decide (r.fst = a2) then bif a2.getD (Int.toNat (0 : Int)) (0 : Int) == (83 : Int) then (F7 k PUnit.unit).bind fun r => some r else some false else some false else some false else bif (↑r.fst.3.length : Int) == (0 : Int) then bif r.fst.1 == (0 : Int) then bif !r.fst.2 then (F7 k PUnit.unit).bind fun r => some r else some false else some false else some false
noncomputable def sp4 : FSpec Ty := spec ag4 rs4 F4
theorem bo4 : Try.f4.body = some (bodyOf Try.f4) := by kernel_rfl
theorem nd4 : nodupB ((loopsIn (bodyOf Try.f4)).map firstRegion) = true := by kernel_rfl
theorem ok4 : FOK Try.prog tab 4 sp4 := spec_ok (keeps := kp4) tabOK fs3OK Try.func4 bo4 (by kernel_rfl) nd4 (LSOK.none) (F := F4) fun k x => by kernel_rfl
noncomputable def fs4 : Nat → Option (FSpec Ty) := addF 4 sp4 fs3
theorem fs4OK : SpecsOK Try.prog tab fs4 := fs3OK.add ok4 Try.call4
def ag5 : Args Ty (T24 × Int × Unit) := V.arg (tab.den 25) (V.arg (tab.den 5) (noArgs))
def rs5 : Res Ty tab (Bool) false := V.oneRes (tab.den 4) (ent 4).ids (ent 4).plain (fun x _ => (ent 4).flat x rfl)
def of5_15 : Int × Int × Bool × List T46 × List Int → NSt Ty := fun x => ⟨[.ptr 100000 [], .ptr 100001 [], .int .i64 (x.1)], [.var (.cons (.int .u32 (x.2.1)) (.cons (.bool (x.2.2.1)) (.cons (.slice 47 (x.2.2.2.1)) (.nil)))), .var (.arr 5 64 (x.2.2.2.2))]⟩
def ab5_15 : (n : NSt Ty) → Option {x : Int × Int × Bool × List T46 × List Int // of5_15 x = n}
  | ⟨[.ptr 100000 [], .ptr 100001 [], .int .i64 v0], [.var (.cons (.int .u32 v1) (.cons (.bool v2) (.cons (.slice 47 v3) (.nil)))), .var (.arr 5 64 v4)]⟩ => some ⟨(v0, v1, v2, v3, v4), rfl⟩
  | _ => none
def on5_15a : Bool × Int × Bool × List T46 × List Int → NSt Ty := fun x => ⟨[.ptr 100000 [], .bool (x.1), .ptr 100001 []], [.var (.cons (.int .u32 (x.2.1)) (.cons (.bool (x.2.2.1)) (.cons (.slice 47 (x.2.2.2.1)) (.nil)))), .var (.arr 5 64 (x.2.2.2.2))]⟩
def on5_15b : Int × Bool × List T46 × List Int → NSt Ty := fun x => ⟨[.ptr 100000 [], .undef, .ptr 100001 []], [.var (.cons (.int .u32 (x.1)) (.cons (.bool (x.2.1)) (.cons (.slice 47 (x.2.2.1)) (.nil)))), .var (.arr 5 64 (x.2.2.2))]⟩
def oa5_15 : (e : Ex) → (n : NSt Ty) → Option {y : (Bool × Int × Bool × List T46 × List Int) ⊕ (Int × Bool × List T46 × List Int) // oe2 .ret (.exit 0) y = e ∧ on2 on5_15a on5_15b y = n}
  | .ret, ⟨[.ptr 100000 [], .bool v0, .ptr 100001 []], [.var (.cons (.int .u32 v1) (.cons (.bool v2) (.cons (.slice 47 v3) (.nil)))), .var (.arr 5 64 v4)]⟩ => some ⟨.inl (v0, v1, v2, v3, v4), rfl, rfl⟩
  | .exit 0, ⟨[.ptr 100000 [], .undef, .ptr 100001 []], [.var (.cons (.int .u32 v0) (.cons (.bool v1) (.cons (.slice 47 v2) (.nil)))), .var (.arr 5 64 v3)]⟩ => some ⟨.inr (v0, v1, v2, v3), rfl, rfl⟩
  | _, _ => none
/-- a round of the loop 15 of function 5 -/
def R5_15 (k : Nat) (again : Int × Int × Bool × List T46 × List Int → Option ((Bool × Int × Bool × List T46 × List Int) ⊕ (Int × Bool × List T46 × List Int))) (x : Int × Int × Bool × List T46 × List Int) : Option ((Bool × Int × Bool × List T46 × List Int) ⊕ (Int × Bool × List T46 × List Int)) :=
  match x with
  | (v0, v1, v2, v3, v4) => bif decide (v0 < (4 : Int)) then bif inRange (IntKind.i64.wrap ((2 : Int) + v0)) (64 : Nat) then bif decide ((0 : Int) ≤ IntKind.u64.wrap (IntKind.i64.wrap ((8 : Int) * v0))) then bif v4.getD (IntKind.i64.wrap ((2 : Int) + v0)).toNat (0 : Int) != IntKind.u8.wrap (v1.fdiv ((2 : Int) ^ min (IntKind.u64.wrap (IntKind.i64.wrap ((8 : Int) * v0))).toNat IntKind.u32.bits)) then some (Sum.inl (false, v1, v2, v3, v4)) else again (IntKind.i64.wrap (v0 + (1 : Int)), v1, v2, v3, v4) else none else none else some (Sum.inr (v1, v2, v3, v4))
def L5_15 (k n : Nat) (x : Int × Int × Bool × List T46 × List Int) : Option ((Bool × Int × Bool × List T46 × List Int) ⊕ (Int × Bool × List T46 × List Int)) := iterR (R5_15 k) n x
noncomputable def ls5_15 : Nat → Option (LSum Ty) := addL 15 (lsum2 of5_15 ab5_15 L5_15 .ret on5_15a (.exit 0) on5_15b) noL
def of5_20 : Int × Int × Bool × List T46 × List Int → NSt Ty := fun x => ⟨[.ptr 100000 [], .ptr 100001 [], .int .i64 (x.1)], [.var (.cons (.int .u32 (x.2.1)) (.cons (.bool (x.2.2.1)) (.cons (.slice 47 (x.2.2.2.1)) (.nil)))), .var (.arr 5 64 (x.2.2.2.2))]⟩
def ab5_20 : (n : NSt Ty) → Option {x : Int × Int × Bool × List T46 × List Int // of5_20 x = n}
  | ⟨[.ptr 100000 [], .ptr 100001 [], .int .i64 v0], [.var (.cons (.int .u32 v1) (.cons (.bool v2) (.cons (.slice 47 v3) (.nil)))), .var (.arr 5 64 v4)]⟩ => some ⟨(v0, v1, v2, v3, v4), rfl⟩
  | _ => none
def on5_20a : Bool → NSt Ty := fun x => ⟨[.bool (x)], []⟩
def on5_20b : Unit → NSt Ty := fun x => ⟨[.undef], []⟩
def oa5_20 : (e : Ex) → (n : NSt Ty) → Option {y : (Bool) ⊕ (Unit) // oe2 .ret (.exit 2) y = e ∧ on2 on5_20a on5_20b y = n}
  | .ret, ⟨[.bool v0], []⟩ => some ⟨.inl v0, rfl, rfl⟩
  | .exit 2, ⟨[.undef], []⟩ => some ⟨.inr (), rfl, rfl⟩
  | _, _ => none
/-- a round of the loop 20 of function 5 -/
def R5_20 (k : Nat) (again : Int × Int × Bool × List T46 × List Int → Option ((Bool) ⊕ (Unit))) (x : Int × Int × Bool × List T46 × List Int) : Option ((Bool) ⊕ (Unit)) :=
  match x with
  | (v0, v1, v2, v3, v4) => bif decide (v0 < (24 : Int)) then bif decide (v0 < (↑v3.length : Int)) then bif inRange v0 v3.length then bif inRange v0 v3.length then bif inRange (IntKind.i64.wrap ((7 : Int) + IntKind.i64.wrap ((2 : Int) * v0))) (64 : Nat) then bif IntKind.i64.wrap (v4.getD (IntKind.i64.wrap ((7 : Int) + IntKind.i64.wrap ((2 : Int) * v0))).toNat (0 : Int)) != (v3.getD v0.toNat (T46.mk (0 : Int) (0 : Int))).1 then some (Sum.inl false) else bif inRange (IntKind.i64.wrap ((8 : Int) + IntKind.i64.wrap ((2 : Int) * v0))) (64 : Nat) then bif IntKind.i64.wrap (v4.getD (IntKind.i64.wrap ((8 : Int) + IntKind.i64.wrap ((2 : Int) * v0))).toNat (0 : Int)) != (v3.getD v0.toNat (T46.mk (0 : Int) (0 : Int))).2 then some (Sum.inl false) else again (IntKind.i64.wrap (v0 + (1 : Int)), v1, v2, v3, v4) else none else none else none else none else bif inRange (IntKind.i64.wrap ((7 : Int) + IntKind.i64.wrap ((2 : Int) * v0))) (64 : Nat) then bif IntKind.i64.wrap (v4.getD (IntKind.i64.wrap ((7 : Int) + IntKind.i64.wrap ((2 : Int) * v0))).toNat (0 : Int)) != (0 : Int) then some (Sum.inl false) else bif inRange (IntKind.i64.wrap ((8 : Int) + IntKind.i64.wrap ((2 : Int) * v0))) (64 : Nat) then bif IntKind.i64.wrap (v4.getD (IntKind.i64.wrap ((8 : Int) + IntKind.i64.wrap ((2 : Int) * v0))).toNat (0 : Int)) != (0 : Int) then some (Sum.inl false) else again (IntKind.i64.wrap (v0 + (1 : Int)), v1, v2, v3, v4) else none else none else some (Sum.inr PUnit.unit)
def L5_20 (k n : Nat) (x : Int × Int × Bool × List T46 × List Int) : Option ((Bool) ⊕ (Unit)) := iterR (R5_20 k) n x
noncomputable def ls5_20 : Nat → Option (LSum Ty) := addL 20 (lsum2 of5_20 ab5_20 L5_20 .ret on5_20a (.exit 2) on5_20b) ls5_15
def kp5 : Nat → Keep := fun i => cond (i == 15) ⟨[2, 6, 9], [2, 4, 6]⟩ (cond (i == 20) ⟨[2, 6, 10], [4]⟩ (⟨[], []⟩))
/-- "silt/siltlaw05.SummaryPlaces" -/
def F5 (k : Nat) (x : T24 × Int × Unit) : Option (Bool) :=
  match x with
  | (a0, a1, ()) => bif decide ((↑a0.3.length : Int) > (300 : Int)) then (F7 k PUnit.unit).bind fun r => some r else bif IntKind.i64.wrap ((↑a0.3.length : Int) + (1 : Int)) != (0 : Int) then bif decide ((0 : Int) ≤ (0 : Int)) && decide ((0 : Int) ≤ (IntKind.i64.wrap a1).tmod (IntKind.i64.wrap ((↑a0.3.length : Int) + (1 : Int)))) && decide ((IntKind.i64.wrap a1).tmod (IntKind.i64.wrap ((↑a0.3.length : Int) + (1 : Int))) ≤ (↑a0.3.length : Int)) then (F14 k (List.drop (Int.toNat (0 : Int)) (List.take ((IntKind.i64.wrap a1).tmod (IntKind.i64.wrap ((↑a0.3.length : Int) + (1 : Int)))).toNat a0.3), PUnit.unit)).bind fun r => bif decide ((0 : Int) ≤ (IntKind.i64.wrap a1).tmod (IntKind.i64.wrap ((↑a0.3.length : Int) + (1 : Int)))) && decide ((IntKind.i64.wrap a1).tmod (IntKind.i64.wrap ((↑a0.3.length : Int) + (1 : Int))) ≤ (↑a0.3.length : Int)) && decide ((↑a0.3.length : Int) ≤ (↑a0.3.length : Int)) then (F14 k (List.drop ((IntKind.i64.wrap a1).tmod (IntKind.i64.wrap ((↑a0.3.length : Int) + (1 : Int)))).toNat (List.take (↑a0.3.length : Int).toNat a0.3), PUnit.unit)).bind fun r_1 => (F14 k (a0.3, PUnit.unit)).bind fun r_2 => bif IntKind.i64.wrap (r + r_1) != r_2 then some false else (F14 k (a0.3, PUnit.unit)).bind fun r => bif decide (r > (↑a0.3.length : Int)) then some false else (F8 k (T24.mk a0.1 a0.2 a0.3, PUnit.unit)).bind fun r => bif r.snd.fst != (0 : Int) then bif r.snd.fst == (11 : Int) then bif decide (r.fst = List.replicate (64 : Nat) (0 : Int)) then (F7 k PUnit.unit).bind fun r => some r else some false else some false else bif a0.2 then bif r.fst.getD (Int.toNat (0 : Int)) (0 : Int) != (83 : Int) then some false else bif r.fst.getD (Int.toNat (1 : Int)) (0 : Int) != (1 : Int) then some false else bif IntKind.i64.wrap (r.fst.getD (Int.toNat (6 : Int)) (0 : Int)) != (↑a0.3.length : Int) then some false else (L5_15 k k ((0 : Int), a0.1, a0.2, a0.3, r.fst)).bind fun r => sumK r (fun a => some a.fst) fun b => (L5_20 k k ((0 : Int), b.fst, b.snd.fst, b.snd.snd.fst, b.snd.snd.snd)).bind fun r => sumK r (fun a => some a) fun b => (F7 k PUnit.unit).bind fun r => some r else bif r.fst.getD (Int.toNat (0 : Int)) (0 : Int) != (83 : Int) then some false else bif r.fst.getD (Int.toNat (1 : Int)) (0 : Int) != (0 : Int) then some false else bif IntKind.i64.wrap (r.fst.getD (Int.toNat (6 : Int)) (0 : Int)) != (↑a0.3.length : Int) then some false else (L5_15 k k ((0 : Int), a0.1, a0.2, a0.3, r.fst)).bind fun r => sumK r (fun a => some a.fst) fun b => (L5_20 k k ((0 : Int), b.fst, b.snd.fst, b.snd.snd.fst, b.snd.snd.snd)).bind fun r => sumK r (fun a => some a) fun b => (F7 k PUnit.unit).bind fun r => some r else none else none else none
noncomputable def sp5 : FSpec Ty := spec ag5 rs5 F5
theorem bo5 : Try.f5.body = some (bodyOf Try.f5) := by kernel_rfl
theorem nd5 : nodupB ((loopsIn (bodyOf Try.f5)).map firstRegion) = true := by kernel_rfl
theorem lo5_15 : LSOK fs4 kp5 tab Try.f5 ls5_15 := lsum2_ok bo5 nd5 (LSOK.none) oa5_15 (R := R5_15) fun k again x => by kernel_rfl
theorem lo5_20 : LSOK fs4 kp5 tab Try.f5 ls5_20 := lsum2_ok bo5 nd5 (lo5_15) oa5_20 (R := R5_20) fun k again x => by kernel_rfl
theorem ok5 : FOK Try.prog tab 5 sp5 := spec_ok (keeps := kp5) tabOK fs4OK Try.func5 bo5 (by kernel_rfl) nd5 (lo5_20) (F := F5) fun k x => by kernel_rfl
noncomputable def fs5 : Nat → Option (FSpec Ty) := addF 5 sp5 fs4
theorem fs5OK : SpecsOK Try.prog tab fs5 := fs4OK.add ok5 Try.call5
def ag6 : Args Ty (T46 × Int × Unit) := V.arg (tab.den 47) (V.arg (tab.den 5) (noArgs))
def rs6 : Res Ty tab (Bool) false := V.oneRes (tab.den 4) (ent 4).ids (ent 4).plain (fun x _ => (ent 4).flat x rfl)
def of6_5 : Bool × Int × Int × Int × Int × List T46 → NSt Ty := fun x => ⟨[.ptr 100000 [], .bool (x.1), .int .i64 (x.2.1), .row 100001, .int .i64 (x.2.2.1)], [.var (.cons (.int .i64 (x.2.2.2.1)) (.cons (.int .i64 (x.2.2.2.2.1)) (.nil))), .row 47 (x.2.2.2.2.2)]⟩
def ab6_5 : (n : NSt Ty) → Option {x : Bool × Int × Int × Int × Int × List T46 // of6_5 x = n}
  | ⟨[.ptr 100000 [], .bool v0, .int .i64 v1, .row 100001, .int .i64 v2], [.var (.cons (.int .i64 v3) (.cons (.int .i64 v4) (.nil))), .row 47 v5]⟩ => some ⟨(v0, v1, v2, v3, v4, v5), rfl⟩
  | _ => none
def oe6_5 : Bool × Int × Int × Int × List T46 → Ex := fun _ => .exit 0
def on6_5 : Bool × Int × Int × Int × List T46 → NSt Ty := fun x => ⟨[.ptr 100000 [], .bool (x.1), .int .i64 (x.2.1), .row 100001], [.var (.cons (.int .i64 (x.2.2.1)) (.cons (.int .i64 (x.2.2.2.1)) (.nil))), .row 47 (x.2.2.2.2)]⟩
def oa6_5 : (e : Ex) → (n : NSt Ty) → Option {y : Bool × Int × Int × Int × List T46 // oe6_5 y = e ∧ on6_5 y = n}
  | .exit 0, ⟨[.ptr 100000 [], .bool v0, .int .i64 v1, .row 100001], [.var (.cons (.int .i64 v2) (.cons (.int .i64 v3) (.nil))), .row 47 v4]⟩ => some ⟨(v0, v1, v2, v3, v4), rfl, rfl⟩
  | _, _ => none
/-- a round of the loop 5 of function 6 -/
def R6_5 (k : Nat) (again : Bool × Int × Int × Int × Int × List T46 → Option (Bool × Int × Int × Int × List T46)) (x : Bool × Int × Int × Int × Int × List T46) : Option (Bool × Int × Int × Int × List T46) :=
  match x with
  | (v0, v1, v2, v3, v4, v5) => bif decide (v2 < v1) then bif decide (v5.length + ((List.replicate (1 : Nat) (T46.mk (0 : Int) (0 : Int))).set (0 : Nat) (T46.mk v3 v4)).length ≤ roomMost) then again (v0, v1, IntKind.i64.wrap (v2 + (1 : Int)), v3, v4, v5 ++ (List.replicate (1 : Nat) (T46.mk (0 : Int) (0 : Int))).set (0 : Nat) (T46.mk v3 v4)) else none else some (v0, v1, v3, v4, v5)
def L6_5 (k n : Nat) (x : Bool × Int × Int × Int × Int × List T46) : Option (Bool × Int × Int × Int × List T46) := iterR (R6_5 k) n x
noncomputable def ls6_5 : Nat → Option (LSum Ty) := addL 5 (LSum.of of6_5 ab6_5 L6_5 oe6_5 on6_5) noL
def kp6 : Nat → Keep := fun i => cond (i == 5) ⟨[2, 5, 6, 7, 8], [2, 5, 6, 7]⟩ (⟨[], []⟩)
/-- "silt/siltlaw05.SummaryMarks" -/
def F6 (k : Nat) (x : T46 × Int × Unit) : Option (Bool) :=
  match x with
  | (a0, a1, ()) => bif decide (a0.1 ≥ (1 : Int)) then bif decide (a0.1 ≤ (5 : Int)) then bif decide (a0.2 ≥ (0 : Int)) then bif decide (a0.2 < (64 : Int)) then bif a0.1 != (3 : Int) then (L6_5 k k (true, IntKind.i64.wrap ((1 : Int) + (IntKind.i64.wrap a1).tmod (24 : Int)), (0 : Int), a0.1, a0.2, [])).bind fun r => (F8 k (T24.mk (5 : Int) false r.snd.snd.snd.snd, PUnit.unit)).bind fun r_1 => bif !(r_1.snd.fst == (0 : Int)) == r.fst then some false else bif !r.fst then bif !decide (r_1.fst = List.replicate (64 : Nat) (0 : Int)) then some false else bif r.snd.snd.fst == (1 : Int) then none else bif r.snd.snd.fst == (2 : Int) then none else bif r.snd.snd.fst == (3 : Int) then none else none else bif r.snd.snd.fst == (1 : Int) then none else bif r.snd.snd.fst == (2 : Int) then none else bif r.snd.snd.fst == (3 : Int) then none else none else (L6_5 k k (decide (a0.2 < (8 : Int)), IntKind.i64.wrap ((1 : Int) + (IntKind.i64.wrap a1).tmod (24 : Int)), (0 : Int), a0.1, a0.2, [])).bind fun r => (F8 k (T24.mk (5 : Int) false r.snd.snd.snd.snd, PUnit.unit)).bind fun r_1 => bif !(r_1.snd.fst == (0 : Int)) == r.fst then some false else bif !r.fst then bif !decide (r_1.fst = List.replicate (64 : Nat) (0 : Int)) then some false else bif r.snd.snd.fst == (1 : Int) then none else bif r.snd.snd.fst == (2 : Int) then none else bif r.snd.snd.fst == (3 : Int) then none else none else bif r.snd.snd.fst == (1 : Int) then none else bif r.snd.snd.fst == (2 : Int) then none else bif r.snd.snd.fst == (3 : Int) then none else none else (L6_5 k k (false, IntKind.i64.wrap ((1 : Int) + (IntKind.i64.wrap a1).tmod (24 : Int)), (0 : Int), a0.1, a0.2, [])).bind fun r => (F8 k (T24.mk (5 : Int) false r.snd.snd.snd.snd, PUnit.unit)).bind fun r_1 => bif !(r_1.snd.fst == (0 : Int)) == r.fst then some false else bif !r.fst then bif !decide (r_1.fst = List.replicate (64 : Nat) (0 : Int)) then some false else bif r.snd.snd.fst == (1 : Int) then none else bif r.snd.snd.fst == (2 : Int) then none else bif r.snd.snd.fst == (3 : Int) then none else none else bif r.snd.snd.fst == (1 : Int) then none else bif r.snd.snd.fst == (2 : Int) then none else bif r.snd.snd.fst == (3 : Int) then none else none else (L6_5 k k (false, IntKind.i64.wrap ((1 : Int) + (IntKind.i64.wrap a1).tmod (24 : Int)), (0 : Int), a0.1, a0.2, [])).bind fun r => (F8 k (T24.mk (5 : Int) false r.snd.snd.snd.snd, PUnit.unit)).bind fun r_1 => bif !(r_1.snd.fst == (0 : Int)) == r.fst then some false else bif !r.fst then bif !decide (r_1.fst = List.replicate (64 : Nat) (0 : Int)) then some false else bif r.snd.snd.fst == (1 : Int) then none else bif r.snd.snd.fst == (2 : Int) then none else bif r.snd.snd.fst == (3 : Int) then none else none else bif r.snd.snd.fst == (1 : Int) then none else bif r.snd.snd.fst == (2 : Int) then none else bif r.snd.snd.fst == (3 : Int) then none else none else (L6_5 k k (false, IntKind.i64.wrap ((1 : Int) + (IntKind.i64.wrap a1).tmod (24 : Int)), (0 : Int), a0.1, a0.2, [])).bind fun r => (F8 k (T24.mk (5 : Int) false r.snd.snd.snd.snd, PUnit.unit)).bind fun r_1 => bif !(r_1.snd.fst == (0 : Int)) == r.fst then some false else bif !r.fst then bif !decide (r_1.fst = List.replicate (64 : Nat) (0 : Int)) then some false else bif r.snd.snd.fst == (1 : Int) then none else bif r.snd.snd.fst == (2 : Int) then none else bif r.snd.snd.fst == (3 : Int) then none else none else bif r.snd.snd.fst == (1 : Int) then none else bif r.snd.snd.fst == (2 : Int) then none else bif r.snd.snd.fst == (3 : Int) then none else none else (L6_5 k k (false, IntKind.i64.wrap ((1 : Int) + (IntKind.i64.wrap a1).tmod (24 : Int)), (0 : Int), a0.1, a0.2, [])).bind fun r => (F8 k (T24.mk (5 : Int) false r.snd.snd.snd.snd, PUnit.unit)).bind fun r_1 => bif !(r_1.snd.fst == (0 : Int)) == r.fst then some false else bif !r.fst then bif !decide (r_1.fst = List.replicate (64 : Nat) (0 : Int)) then some false else bif r.snd.snd.fst == (1 : Int) then none else bif r.snd.snd.fst == (2 : Int) then none else bif r.snd.snd.fst == (3 : Int) then none else none else bif r.snd.snd.fst == (1 : Int) then none else bif r.snd.snd.fst == (2 : Int) then none else bif r.snd.snd.fst == (3 : Int) then none else none
noncomputable def sp6 : FSpec Ty := spec ag6 rs6 F6
theorem bo6 : Try.f6.body = some (bodyOf Try.f6) := by kernel_rfl
theorem nd6 : nodupB ((loopsIn (bodyOf Try.f6)).map firstRegion) = true := by kernel_rfl
theorem lo6_5 : LSOK fs5 kp6 tab Try.f6 ls6_5 := lsum_ok bo6 nd6 (LSOK.none) oa6_5 (R := R6_5) fun k again x => by kernel_rfl
theorem ok6 : FOK Try.prog tab 6 sp6 := spec_ok (keeps := kp6) tabOK fs5OK Try.func6 bo6 (by kernel_rfl) nd6 (lo6_5) (F := F6) fun k x => by kernel_rfl
noncomputable def fs6 : Nat → Option (FSpec Ty) := addF 6 sp6 fs5
theorem fs6OK : SpecsOK Try.prog tab fs6 := fs5OK.add ok6 Try.call6
end Go.Proofs.Ytobienpnlaloeaa.W
