/-
  The types of the seat as Lean types, what each stands for in cells, and that the program has them so. Laid by program (mktab.py).
-/
import Derived.Test.YtofodkmokjhcoaaVK4
import Derived.Test.YtofodkmokjhcoaaProg
namespace Go.Proofs.Ytofodkmokjhcoaa.W
open Go Go.Proofs V
/-- api.Geom -/
structure T22 where
  Pages : Int
  Segs : Int
  SegLen : Int
  Frames : Int
  deriving DecidableEq
/-- api.Op -/
structure T41 where
  Kind : Int
  Page : Int
  Off : Int
  Data : List Int
  deriving DecidableEq
/-- siltlaw25.Asked -/
structure T43 where
  Session : Int
  X : T41
  May : Bool
  deriving DecidableEq
/-- api.Result -/
structure T38 where
  E : Int
  Page : Int
  Data : List Int
  deriving DecidableEq
/-- siltref03.Sizes -/
structure T59 where
  Maps : Int
  Total : Int
  Cap : Int
  deriving DecidableEq
/-- model.Model -/
structure T71 where
  heads : List Int
  pages : List (List Int)
  most : Int
  pins : List (List Int)
  deriving DecidableEq
/-- siltref27.Model -/
structure T76 where
  G : T22
  There : List Bool
  P : List (List Int)
  Pins : Unit
  deriving DecidableEq
/-- siltref24.Pins -/
structure T81 where
  N : List (List Int)
  deriving DecidableEq
/-- siltref07.Got -/
structure T87 where
  P : List Int
  OK : Bool
  deriving DecidableEq
/-- fault.fault -/
structure T126 where
  what : ByteArray
  about : GErr
  wraps : Bool
  deriving DecidableEq
def Ty : Nat → Type := fun t => cond (t == 3) (Int) (cond (t == 4) (Bool) (cond (t == 5) (Int) (cond (t == 9) (ByteArray) (cond (t == 23) (T22) (cond (t == 24) (List T43) (cond (t == 27) (Unit) (cond (t == 28) (Int) (cond (t == 31) (Unit) (cond (t == 37) (List Int) (cond (t == 39) (T38) (cond (t == 42) (T41) (cond (t == 44) (T43) (cond (t == 50) (List Int) (cond (t == 51) (List (List Int)) (cond (t == 52) (List Bool) (cond (t == 57) (List Int) (cond (t == 60) (T59) (cond (t == 65) (List Int) (cond (t == 68) (List (List Int)) (cond (t == 70) (List (List Int)) (cond (t == 72) (T71) (cond (t == 73) (Unit) (cond (t == 77) (T76) (cond (t == 80) (List (List Int)) (cond (t == 82) (T81) (cond (t == 88) (T87) (cond (t == 95) (List Int) (cond (t == 101) (GErr) (cond (t == 112) (List (List Int)) (cond (t == 123) (List GErr) (cond (t == 125) (Unit) (cond (t == 127) (T126) (Unit)))))))))))))))))))))))))))))))))
def dI_i64 : Den Ty Int where
  enc := fun (x : Int) => .int .i64 x
  dec := fun v => match v with
    | .int .i64 v0 => some v0
    | _ => none
  dflt := (0 : Int)
  spec := by intro v x h; split at h <;> cases h; rfl
def dB : Den Ty Bool where
  enc := fun (x : Bool) => .bool x
  dec := fun v => match v with
    | .bool v0 => some v0
    | _ => none
  dflt := false
  spec := by intro v x h; split at h <;> cases h; rfl
def dI_u8 : Den Ty Int where
  enc := fun (x : Int) => .int .u8 x
  dec := fun v => match v with
    | .int .u8 v0 => some v0
    | _ => none
  dflt := (0 : Int)
  spec := by intro v x h; split at h <;> cases h; rfl
def dS : Den Ty ByteArray where
  enc := fun (x : ByteArray) => .str x
  dec := fun v => match v with
    | .str v0 => some v0
    | _ => none
  dflt := ByteArray.empty
  spec := by intro v x h; split at h <;> cases h; rfl
def dT22 : Den Ty T22 where
  enc := fun (x : T22) => .cons (.int .i64 x.Pages) (.cons (.int .i64 x.Segs) (.cons (.int .i64 x.SegLen) (.cons (.int .i64 x.Frames) (.nil))))
  dec := fun v => match v with
    | .cons (.int .i64 v0) (.cons (.int .i64 v1) (.cons (.int .i64 v2) (.cons (.int .i64 v3) (.nil)))) => some (T22.mk v0 v1 v2 v3)
    | _ => none
  dflt := (T22.mk (0 : Int) (0 : Int) (0 : Int) (0 : Int))
  spec := by intro v x h; split at h <;> cases h; rfl
def dL44 : Den Ty (List T43) where
  enc := fun (x : List T43) => .slice 44 x
  dec := fun v => match v with
    | .slice 44 v0 => some v0
    | _ => none
  dflt := ([] : List T43)
  spec := by intro v x h; split at h <;> cases h; rfl
def dL5 : Den Ty (List Int) where
  enc := fun (x : List Int) => .slice 5 x
  dec := fun v => match v with
    | .slice 5 v0 => some v0
    | _ => none
  dflt := ([] : List Int)
  spec := by intro v x h; split at h <;> cases h; rfl
def dT38 : Den Ty T38 where
  enc := fun (x : T38) => .cons (.int .i64 x.E) (.cons (.int .i64 x.Page) (.cons (.slice 5 x.Data) (.nil)))
  dec := fun v => match v with
    | .cons (.int .i64 v0) (.cons (.int .i64 v1) (.cons (.slice 5 v2) (.nil))) => some (T38.mk v0 v1 v2)
    | _ => none
  dflt := (T38.mk (0 : Int) (0 : Int) ([] : List Int))
  spec := by intro v x h; split at h <;> cases h; rfl
def dT41 : Den Ty T41 where
  enc := fun (x : T41) => .cons (.int .i64 x.Kind) (.cons (.int .i64 x.Page) (.cons (.int .i64 x.Off) (.cons (.slice 5 x.Data) (.nil))))
  dec := fun v => match v with
    | .cons (.int .i64 v0) (.cons (.int .i64 v1) (.cons (.int .i64 v2) (.cons (.slice 5 v3) (.nil)))) => some (T41.mk v0 v1 v2 v3)
    | _ => none
  dflt := (T41.mk (0 : Int) (0 : Int) (0 : Int) ([] : List Int))
  spec := by intro v x h; split at h <;> cases h; rfl
def dT43 : Den Ty T43 where
  enc := fun (x : T43) => .cons (.int .i64 x.Session) (.cons (.cons (.int .i64 x.X.Kind) (.cons (.int .i64 x.X.Page) (.cons (.int .i64 x.X.Off) (.cons (.slice 5 x.X.Data) (.nil))))) (.cons (.bool x.May) (.nil)))
  dec := fun v => match v with
    | .cons (.int .i64 v0) (.cons (.cons (.int .i64 v1) (.cons (.int .i64 v2) (.cons (.int .i64 v3) (.cons (.slice 5 v4) (.nil))))) (.cons (.bool v5) (.nil))) => some (T43.mk v0 (T41.mk v1 v2 v3 v4) v5)
    | _ => none
  dflt := (T43.mk (0 : Int) (T41.mk (0 : Int) (0 : Int) (0 : Int) ([] : List Int)) false)
  spec := by intro v x h; split at h <;> cases h; rfl
def dA32_5 : Den Ty (List Int) where
  enc := fun (x : List Int) => .arr 5 32 x
  dec := fun v => match v with
    | .arr 5 32 v0 => some v0
    | _ => none
  dflt := (List.replicate 32 (0 : Int))
  spec := by intro v x h; split at h <;> cases h; rfl
def dA64_50 : Den Ty (List (List Int)) where
  enc := fun (x : List (List Int)) => .arr 50 64 x
  dec := fun v => match v with
    | .arr 50 64 v0 => some v0
    | _ => none
  dflt := (List.replicate 64 (List.replicate 32 (0 : Int)))
  spec := by intro v x h; split at h <;> cases h; rfl
def dA64_4 : Den Ty (List Bool) where
  enc := fun (x : List Bool) => .arr 4 64 x
  dec := fun v => match v with
    | .arr 4 64 v0 => some v0
    | _ => none
  dflt := (List.replicate 64 false)
  spec := by intro v x h; split at h <;> cases h; rfl
def dL3 : Den Ty (List Int) where
  enc := fun (x : List Int) => .slice 3 x
  dec := fun v => match v with
    | .slice 3 v0 => some v0
    | _ => none
  dflt := ([] : List Int)
  spec := by intro v x h; split at h <;> cases h; rfl
def dT59 : Den Ty T59 where
  enc := fun (x : T59) => .cons (.int .i64 x.Maps) (.cons (.int .i64 x.Total) (.cons (.int .i64 x.Cap) (.nil)))
  dec := fun v => match v with
    | .cons (.int .i64 v0) (.cons (.int .i64 v1) (.cons (.int .i64 v2) (.nil))) => some (T59.mk v0 v1 v2)
    | _ => none
  dflt := (T59.mk (0 : Int) (0 : Int) (0 : Int))
  spec := by intro v x h; split at h <;> cases h; rfl
def dA4_3 : Den Ty (List Int) where
  enc := fun (x : List Int) => .arr 3 4 x
  dec := fun v => match v with
    | .arr 3 4 v0 => some v0
    | _ => none
  dflt := (List.replicate 4 (0 : Int))
  spec := by intro v x h; split at h <;> cases h; rfl
def dL50 : Den Ty (List (List Int)) where
  enc := fun (x : List (List Int)) => .slice 50 x
  dec := fun v => match v with
    | .slice 50 v0 => some v0
    | _ => none
  dflt := ([] : List (List Int))
  spec := by intro v x h; split at h <;> cases h; rfl
def dA4_57 : Den Ty (List (List Int)) where
  enc := fun (x : List (List Int)) => .arr 57 4 x
  dec := fun v => match v with
    | .arr 57 4 v0 => some v0
    | _ => none
  dflt := (List.replicate 4 ([] : List Int))
  spec := by intro v x h; split at h <;> cases h; rfl
def dT71 : Den Ty T71 where
  enc := fun (x : T71) => .cons (.slice 3 x.heads) (.cons (.slice 50 x.pages) (.cons (.int .i64 x.most) (.cons (.arr 57 4 x.pins) (.nil))))
  dec := fun v => match v with
    | .cons (.slice 3 v0) (.cons (.slice 50 v1) (.cons (.int .i64 v2) (.cons (.arr 57 4 v3) (.nil)))) => some (T71.mk v0 v1 v2 v3)
    | _ => none
  dflt := (T71.mk ([] : List Int) ([] : List (List Int)) (0 : Int) (List.replicate 4 ([] : List Int)))
  spec := by intro v x h; split at h <;> cases h; rfl
def dT76 : Den Ty T76 where
  enc := fun (x : T76) => .cons (.cons (.int .i64 x.G.Pages) (.cons (.int .i64 x.G.Segs) (.cons (.int .i64 x.G.SegLen) (.cons (.int .i64 x.G.Frames) (.nil))))) (.cons (.arr 4 64 x.There) (.cons (.arr 50 64 x.P) (.cons (.nilp) (.nil))))
  dec := fun v => match v with
    | .cons (.cons (.int .i64 v0) (.cons (.int .i64 v1) (.cons (.int .i64 v2) (.cons (.int .i64 v3) (.nil))))) (.cons (.arr 4 64 v4) (.cons (.arr 50 64 v5) (.cons (.nilp) (.nil)))) => some (T76.mk (T22.mk v0 v1 v2 v3) v4 v5 ())
    | _ => none
  dflt := (T76.mk (T22.mk (0 : Int) (0 : Int) (0 : Int) (0 : Int)) (List.replicate 64 false) (List.replicate 64 (List.replicate 32 (0 : Int))) ())
  spec := by intro v x h; split at h <;> cases h; rfl
def dL95 : Den Ty (List (List Int)) where
  enc := fun (x : List (List Int)) => .slice 95 x
  dec := fun v => match v with
    | .slice 95 v0 => some v0
    | _ => none
  dflt := ([] : List (List Int))
  spec := by intro v x h; split at h <;> cases h; rfl
def dT81 : Den Ty T81 where
  enc := fun (x : T81) => .cons (.slice 95 x.N) (.nil)
  dec := fun v => match v with
    | .cons (.slice 95 v0) (.nil) => some (T81.mk v0)
    | _ => none
  dflt := (T81.mk ([] : List (List Int)))
  spec := by intro v x h; split at h <;> cases h; rfl
def dT87 : Den Ty T87 where
  enc := fun (x : T87) => .cons (.arr 5 32 x.P) (.cons (.bool x.OK) (.nil))
  dec := fun v => match v with
    | .cons (.arr 5 32 v0) (.cons (.bool v1) (.nil)) => some (T87.mk v0 v1)
    | _ => none
  dflt := (T87.mk (List.replicate 32 (0 : Int)) false)
  spec := by intro v x h; split at h <;> cases h; rfl
def dA64_3 : Den Ty (List Int) where
  enc := fun (x : List Int) => .arr 3 64 x
  dec := fun v => match v with
    | .arr 3 64 v0 => some v0
    | _ => none
  dflt := (List.replicate 64 (0 : Int))
  spec := by intro v x h; split at h <;> cases h; rfl
def dE : Den Ty GErr where
  enc := fun (x : GErr) => .err x
  dec := fun v => match v with
    | .err v0 => some v0
    | _ => none
  dflt := GErr.nil
  spec := by intro v x h; split at h <;> cases h; rfl
def dL57 : Den Ty (List (List Int)) where
  enc := fun (x : List (List Int)) => .slice 57 x
  dec := fun v => match v with
    | .slice 57 v0 => some v0
    | _ => none
  dflt := ([] : List (List Int))
  spec := by intro v x h; split at h <;> cases h; rfl
def dL101 : Den Ty (List GErr) where
  enc := fun (x : List GErr) => .slice 101 x
  dec := fun v => match v with
    | .slice 101 v0 => some v0
    | _ => none
  dflt := ([] : List GErr)
  spec := by intro v x h; split at h <;> cases h; rfl
def dT126 : Den Ty T126 where
  enc := fun (x : T126) => .cons (.str x.what) (.cons (.err x.about) (.cons (.bool x.wraps) (.nil)))
  dec := fun v => match v with
    | .cons (.str v0) (.cons (.err v1) (.cons (.bool v2) (.nil))) => some (T126.mk v0 v1 v2)
    | _ => none
  dflt := (T126.mk ByteArray.empty GErr.nil false)
  spec := by intro v x h; split at h <;> cases h; rfl
def den : (t : Nat) → Den Ty (Ty t) := fun t => pickDen (t == 3) dI_i64 (pickDen (t == 4) dB (pickDen (t == 5) dI_u8 (pickDen (t == 9) dS (pickDen (t == 23) dT22 (pickDen (t == 24) dL44 (pickDen (t == 27) ptrDen (pickDen (t == 28) dI_i64 (pickDen (t == 31) ptrDen (pickDen (t == 37) dL5 (pickDen (t == 39) dT38 (pickDen (t == 42) dT41 (pickDen (t == 44) dT43 (pickDen (t == 50) dA32_5 (pickDen (t == 51) dA64_50 (pickDen (t == 52) dA64_4 (pickDen (t == 57) dL3 (pickDen (t == 60) dT59 (pickDen (t == 65) dA4_3 (pickDen (t == 68) dL50 (pickDen (t == 70) dA4_57 (pickDen (t == 72) dT71 (pickDen (t == 73) ptrDen (pickDen (t == 77) dT76 (pickDen (t == 80) dL95 (pickDen (t == 82) dT81 (pickDen (t == 88) dT87 (pickDen (t == 95) dA64_3 (pickDen (t == 101) dE (pickDen (t == 112) dL57 (pickDen (t == 123) dL101 (pickDen (t == 125) ptrDen (pickDen (t == 127) dT126 (unitDen)))))))))))))))))))))))))))))))))
def info : List (Nat × TI) := [(3, ⟨.int .i64, 1, 8⟩), (4, ⟨.bool, 1, 1⟩), (5, ⟨.int .u8, 1, 1⟩), (9, ⟨.str, 1, 16⟩), (23, ⟨.struct [(3, 0), (3, 1), (3, 2), (3, 3)], 4, 32⟩), (24, ⟨.slice 44, 1, 24⟩), (27, ⟨.ptr 72, 1, 8⟩), (28, ⟨.int .i64, 1, 8⟩), (31, ⟨.ptr 77, 1, 8⟩), (37, ⟨.slice 5, 1, 24⟩), (39, ⟨.struct [(28, 0), (3, 1), (37, 2)], 3, 40⟩), (42, ⟨.struct [(3, 0), (3, 1), (3, 2), (37, 3)], 4, 48⟩), (44, ⟨.struct [(3, 0), (42, 1), (4, 5)], 6, 64⟩), (50, ⟨.arr 32 5, 32, 32⟩), (51, ⟨.arr 64 50, 2048, 2048⟩), (52, ⟨.arr 64 4, 64, 64⟩), (57, ⟨.slice 3, 1, 24⟩), (60, ⟨.struct [(3, 0), (3, 1), (3, 2)], 3, 24⟩), (65, ⟨.arr 4 3, 4, 32⟩), (68, ⟨.slice 50, 1, 24⟩), (70, ⟨.spread 4 57, 4, 96⟩), (72, ⟨.struct [(57, 0), (68, 1), (3, 2), (70, 3)], 7, 152⟩), (73, ⟨.ptr 82, 1, 8⟩), (77, ⟨.struct [(23, 0), (52, 4), (51, 68), (73, 2116)], 2117, 2152⟩), (80, ⟨.slice 95, 1, 24⟩), (82, ⟨.struct [(80, 0)], 1, 24⟩), (88, ⟨.struct [(50, 0), (4, 32)], 33, 33⟩), (95, ⟨.arr 64 3, 64, 512⟩), (101, ⟨.iface, 1, 16⟩), (112, ⟨.slice 57, 1, 24⟩), (123, ⟨.slice 101, 1, 24⟩), (125, ⟨.ptr 127, 1, 8⟩), (127, ⟨.struct [(9, 0), (101, 1), (4, 2)], 3, 40⟩)]
def isOf (l : List Nat) (t : Nat) : Bool := l.any fun u => u == t
def eqL1 {α β : Type} (b : Bool) (f : List α → List α → Bool) (g : List β → List β → Bool) : List (cond b α β) → List (cond b α β) → Bool :=
  match b with
  | true => f
  | false => g
def eqL : (t : Nat) → List (Ty t) → List (Ty t) → Bool := fun t => eqL1 (t == 3) (fun (xs ys : List Int) => decide (xs = ys)) (eqL1 (t == 4) (fun _ _ => false) (eqL1 (t == 5) (fun (xs ys : List Int) => decide (xs = ys)) (eqL1 (t == 9) (fun _ _ => false) (eqL1 (t == 23) (fun _ _ => false) (eqL1 (t == 24) (fun _ _ => false) (eqL1 (t == 27) (fun _ _ => false) (eqL1 (t == 28) (fun _ _ => false) (eqL1 (t == 31) (fun _ _ => false) (eqL1 (t == 37) (fun _ _ => false) (eqL1 (t == 39) (fun _ _ => false) (eqL1 (t == 42) (fun _ _ => false) (eqL1 (t == 44) (fun _ _ => false) (eqL1 (t == 50) (fun (xs ys : List (List Int)) => decide (xs = ys)) (eqL1 (t == 51) (fun _ _ => false) (eqL1 (t == 52) (fun _ _ => false) (eqL1 (t == 57) (fun _ _ => false) (eqL1 (t == 60) (fun _ _ => false) (eqL1 (t == 65) (fun _ _ => false) (eqL1 (t == 68) (fun _ _ => false) (eqL1 (t == 70) (fun _ _ => false) (eqL1 (t == 72) (fun _ _ => false) (eqL1 (t == 73) (fun _ _ => false) (eqL1 (t == 77) (fun _ _ => false) (eqL1 (t == 80) (fun _ _ => false) (eqL1 (t == 82) (fun _ _ => false) (eqL1 (t == 88) (fun _ _ => false) (eqL1 (t == 95) (fun _ _ => false) (eqL1 (t == 101) (fun _ _ => false) (eqL1 (t == 112) (fun _ _ => false) (eqL1 (t == 123) (fun _ _ => false) (eqL1 (t == 125) (fun _ _ => false) (eqL1 (t == 127) (fun _ _ => false) (fun _ _ => false)))))))))))))))))))))))))))))))))
def tab : Tab Ty := { den, flatTy := isOf [3, 4, 5, 9, 23, 28, 50, 51, 52, 60, 65, 88, 95], eqOk := isOf [3, 5, 50], cmp := isOf [3, 4, 5, 9, 23, 28, 50, 51, 60, 65, 88, 95], eqL, errnoTy := 28, faultTy := 125, asOn := false, asFn := 0, errnoPtr := 0, globs := [], info, stl := [(39, 52), (39, 161), (39, 50)], subs := [(13, 57), (22, 57), (25, 57), (31, 57)] }
theorem ent3 : EntOK tab 3 Int dI_i64 := ⟨fun _ => rfl, fun _ _ => rfl, fun _ => rfl, fun _ => rfl, fun _ _ => rfl, fun _ h => (by cases h)⟩
theorem ent4 : EntOK tab 4 Bool dB := ⟨fun _ => rfl, fun _ _ => rfl, fun _ => rfl, fun _ => rfl, fun _ _ => rfl, fun _ h => (by cases h)⟩
theorem ent5 : EntOK tab 5 Int dI_u8 := ⟨fun _ => rfl, fun _ _ => rfl, fun _ => rfl, fun _ => rfl, fun _ _ => rfl, fun x _ => ⟨x, rfl⟩⟩
theorem ent9 : EntOK tab 9 ByteArray dS := ⟨fun _ => rfl, fun _ _ => rfl, fun _ => rfl, fun _ => rfl, fun _ _ => rfl, fun _ h => (by cases h)⟩
theorem ent23 : EntOK tab 23 T22 dT22 := ⟨fun _ => rfl, fun _ _ => rfl, fun _ => rfl, fun _ => rfl, fun _ _ => rfl, fun _ h => (by cases h)⟩
theorem ent24 : EntOK tab 24 (List T43) dL44 := ⟨fun _ => rfl, fun _ _ => rfl, fun _ => rfl, fun _ => rfl, fun _ h => (by cases h), fun _ h => (by cases h)⟩
theorem ent27 : EntOK tab 27 Unit ptrDen := ⟨fun _ => rfl, fun _ _ => rfl, fun _ => rfl, fun _ => rfl, fun _ h => (by cases h), fun _ h => (by cases h)⟩
theorem ent28 : EntOK tab 28 Int dI_i64 := ⟨fun _ => rfl, fun _ _ => rfl, fun _ => rfl, fun _ => rfl, fun _ _ => rfl, fun _ h => (by cases h)⟩
theorem ent31 : EntOK tab 31 Unit ptrDen := ⟨fun _ => rfl, fun _ _ => rfl, fun _ => rfl, fun _ => rfl, fun _ h => (by cases h), fun _ h => (by cases h)⟩
theorem ent37 : EntOK tab 37 (List Int) dL5 := ⟨fun _ => rfl, fun _ _ => rfl, fun _ => rfl, fun _ => rfl, fun _ h => (by cases h), fun _ h => (by cases h)⟩
theorem ent39 : EntOK tab 39 T38 dT38 := ⟨fun _ => rfl, fun _ _ => rfl, fun _ => rfl, fun _ => rfl, fun _ h => (by cases h), fun _ h => (by cases h)⟩
theorem ent42 : EntOK tab 42 T41 dT41 := ⟨fun _ => rfl, fun _ _ => rfl, fun _ => rfl, fun _ => rfl, fun _ h => (by cases h), fun _ h => (by cases h)⟩
theorem ent44 : EntOK tab 44 T43 dT43 := ⟨fun _ => rfl, fun _ _ => rfl, fun _ => rfl, fun _ => rfl, fun _ h => (by cases h), fun _ h => (by cases h)⟩
theorem ent50 : EntOK tab 50 (List Int) dA32_5 := ⟨fun _ => rfl, fun _ _ => rfl, fun _ => rfl, fun _ => rfl, fun _ _ => rfl, fun _ h => (by cases h)⟩
theorem ent51 : EntOK tab 51 (List (List Int)) dA64_50 := ⟨fun _ => by kernel_rfl, fun _ _ => rfl, fun _ => rfl, fun _ => rfl, fun _ _ => rfl, fun _ h => (by cases h)⟩
theorem ent52 : EntOK tab 52 (List Bool) dA64_4 := ⟨fun _ => rfl, fun _ _ => rfl, fun _ => rfl, fun _ => rfl, fun _ _ => rfl, fun _ h => (by cases h)⟩
theorem ent57 : EntOK tab 57 (List Int) dL3 := ⟨fun _ => rfl, fun _ _ => rfl, fun _ => rfl, fun _ => rfl, fun _ h => (by cases h), fun _ h => (by cases h)⟩
theorem ent60 : EntOK tab 60 T59 dT59 := ⟨fun _ => rfl, fun _ _ => rfl, fun _ => rfl, fun _ => rfl, fun _ _ => rfl, fun _ h => (by cases h)⟩
theorem ent65 : EntOK tab 65 (List Int) dA4_3 := ⟨fun _ => rfl, fun _ _ => rfl, fun _ => rfl, fun _ => rfl, fun _ _ => rfl, fun _ h => (by cases h)⟩
theorem ent68 : EntOK tab 68 (List (List Int)) dL50 := ⟨fun _ => rfl, fun _ _ => rfl, fun _ => rfl, fun _ => rfl, fun _ h => (by cases h), fun _ h => (by cases h)⟩
theorem ent70 : EntOK tab 70 (List (List Int)) dA4_57 := ⟨fun _ => rfl, fun _ _ => rfl, fun _ => rfl, fun _ => rfl, fun _ h => (by cases h), fun _ h => (by cases h)⟩
theorem ent72 : EntOK tab 72 T71 dT71 := ⟨fun _ => rfl, fun _ _ => rfl, fun _ => rfl, fun _ => rfl, fun _ h => (by cases h), fun _ h => (by cases h)⟩
theorem ent73 : EntOK tab 73 Unit ptrDen := ⟨fun _ => rfl, fun _ _ => rfl, fun _ => rfl, fun _ => rfl, fun _ h => (by cases h), fun _ h => (by cases h)⟩
theorem ent77 : EntOK tab 77 T76 dT76 := ⟨fun _ => by kernel_rfl, fun _ _ => rfl, fun _ => rfl, fun _ => rfl, fun _ h => (by cases h), fun _ h => (by cases h)⟩
theorem ent80 : EntOK tab 80 (List (List Int)) dL95 := ⟨fun _ => rfl, fun _ _ => rfl, fun _ => rfl, fun _ => rfl, fun _ h => (by cases h), fun _ h => (by cases h)⟩
theorem ent82 : EntOK tab 82 T81 dT81 := ⟨fun _ => rfl, fun _ _ => rfl, fun _ => rfl, fun _ => rfl, fun _ h => (by cases h), fun _ h => (by cases h)⟩
theorem ent88 : EntOK tab 88 T87 dT87 := ⟨fun _ => rfl, fun _ _ => rfl, fun _ => rfl, fun _ => rfl, fun _ _ => rfl, fun _ h => (by cases h)⟩
theorem ent95 : EntOK tab 95 (List Int) dA64_3 := ⟨fun _ => rfl, fun _ _ => rfl, fun _ => rfl, fun _ => rfl, fun _ _ => rfl, fun _ h => (by cases h)⟩
theorem ent101 : EntOK tab 101 GErr dE := ⟨fun _ => rfl, fun _ _ => rfl, fun _ => rfl, fun _ => rfl, fun _ h => (by cases h), fun _ h => (by cases h)⟩
theorem ent112 : EntOK tab 112 (List (List Int)) dL57 := ⟨fun _ => rfl, fun _ _ => rfl, fun _ => rfl, fun _ => rfl, fun _ h => (by cases h), fun _ h => (by cases h)⟩
theorem ent123 : EntOK tab 123 (List GErr) dL101 := ⟨fun _ => rfl, fun _ _ => rfl, fun _ => rfl, fun _ => rfl, fun _ h => (by cases h), fun _ h => (by cases h)⟩
theorem ent125 : EntOK tab 125 Unit ptrDen := ⟨fun _ => rfl, fun _ _ => rfl, fun _ => rfl, fun _ => rfl, fun _ h => (by cases h), fun _ h => (by cases h)⟩
theorem ent127 : EntOK tab 127 T126 dT126 := ⟨fun _ => rfl, fun _ _ => rfl, fun _ => rfl, fun _ => rfl, fun _ h => (by cases h), fun _ h => (by cases h)⟩
set_option maxRecDepth 100000 in
theorem ent (t : Nat) : EntOK tab t (Ty t) (tab.den t) := by
  show EntOK tab t (Ty t) (den t)
  unfold den Ty
  by_cases hall : t ∈ [3, 4, 5, 9, 23, 24, 27, 28, 31, 37, 39, 42, 44, 50, 51, 52, 57, 60, 65, 68, 70, 72, 73, 77, 80, 82, 88, 95, 101, 112, 123, 125, 127]
  · simp only [List.mem_cons, List.not_mem_nil, or_false] at hall
    rcases hall with h | h | h | h | h | h | h | h | h | h | h | h | h | h | h | h | h | h | h | h | h | h | h | h | h | h | h | h | h | h | h | h | h
    · subst h; exact ent3
    · subst h; exact ent4
    · subst h; exact ent5
    · subst h; exact ent9
    · subst h; exact ent23
    · subst h; exact ent24
    · subst h; exact ent27
    · subst h; exact ent28
    · subst h; exact ent31
    · subst h; exact ent37
    · subst h; exact ent39
    · subst h; exact ent42
    · subst h; exact ent44
    · subst h; exact ent50
    · subst h; exact ent51
    · subst h; exact ent52
    · subst h; exact ent57
    · subst h; exact ent60
    · subst h; exact ent65
    · subst h; exact ent68
    · subst h; exact ent70
    · subst h; exact ent72
    · subst h; exact ent73
    · subst h; exact ent77
    · subst h; exact ent80
    · subst h; exact ent82
    · subst h; exact ent88
    · subst h; exact ent95
    · subst h; exact ent101
    · subst h; exact ent112
    · subst h; exact ent123
    · subst h; exact ent125
    · subst h; exact ent127
  · have hf : ∀ u ∈ [3, 4, 5, 9, 23, 24, 27, 28, 31, 37, 39, 42, 44, 50, 51, 52, 57, 60, 65, 68, 70, 72, 73, 77, 80, 82, 88, 95, 101, 112, 123, 125, 127], (t == u) = false := fun u hu => by simp only [beq_eq_false_iff_ne]; intro e; subst e; exact hall hu
    have hi : infoAt t info = ⟨.other, 1, 8⟩ := by
      rcases infoAt_spec info t with ⟨p, h1, h2, _⟩ | h
      · exfalso; apply hall; rw [← h2]; have : ∀ q ∈ info, q.1 ∈ [3, 4, 5, 9, 23, 24, 27, 28, 31, 37, 39, 42, 44, 50, 51, 52, 57, 60, 65, 68, 70, 72, 73, 77, 80, 82, 88, 95, 101, 112, 123, 125, 127] := by decide
        exact this p h1
      · exact h
    have hs : tab.size t = 1 := by unfold Tab.size; show (infoAt t info).size = 1; rw [hi]
    have hk : tab.td t = .other := by unfold Tab.td; show (infoAt t info).td = .other; rw [hi]
    have hu : EntOK tab t Unit unitDen := ⟨fun _ => (by rw [hs]; rfl), fun _ h => (by rw [hk] at h; cases h), fun _ => rfl, fun _ => rfl, fun _ _ => rfl, fun _ h => (by rw [hk] at h; cases h)⟩
    have hQ : ∀ (u : Nat) (_ : u ∈ [3, 4, 5, 9, 23, 24, 27, 28, 31, 37, 39, 42, 44, 50, 51, 52, 57, 60, 65, 68, 70, 72, 73, 77, 80, 82, 88, 95, 101, 112, 123, 125, 127]) {α β : Type} {x : Den Ty α} {y : Den Ty β}, EntOK tab t β y → EntOK tab t (cond (t == u) α β) (pickDen (t == u) x y) := fun u h α β x y hy => pick_all (Q := EntOK tab t) (fun e => by rw [hf u h] at e; cases e) fun _ => hy
    exact hQ 3 (by decide) (hQ 4 (by decide) (hQ 5 (by decide) (hQ 9 (by decide) (hQ 23 (by decide) (hQ 24 (by decide) (hQ 27 (by decide) (hQ 28 (by decide) (hQ 31 (by decide) (hQ 37 (by decide) (hQ 39 (by decide) (hQ 42 (by decide) (hQ 44 (by decide) (hQ 50 (by decide) (hQ 51 (by decide) (hQ 52 (by decide) (hQ 57 (by decide) (hQ 60 (by decide) (hQ 65 (by decide) (hQ 68 (by decide) (hQ 70 (by decide) (hQ 72 (by decide) (hQ 73 (by decide) (hQ 77 (by decide) (hQ 80 (by decide) (hQ 82 (by decide) (hQ 88 (by decide) (hQ 95 (by decide) (hQ 101 (by decide) (hQ 112 (by decide) (hQ 123 (by decide) (hQ 125 (by decide) (hQ 127 (by decide) (hu)))))))))))))))))))))))))))))))))
theorem tabOK : TabOK Try.prog tab := TabOK.of (by kernel_rfl) ent (by kernel_rfl)
theorem eq3 : V.EqAt Try.prog tab 1 3 := V.eqAt_int Try.underlying3 rfl
theorem eq4 : V.EqAt Try.prog tab 1 4 := V.eqAt_bool Try.underlying4 rfl
theorem eq5 : V.EqAt Try.prog tab 1 5 := V.eqAt_int Try.underlying5 rfl
theorem eq9 : V.EqAt Try.prog tab 1 9 := V.eqAt_str Try.underlying9 rfl
theorem eq23 : V.EqAt Try.prog tab 2 23 := V.eqAt_struct (m := 1) tabOK Try.underlying23 rfl rfl (by kernel_rfl) (by decide) (by
  simp only [List.forall_mem_cons]
  exact ⟨eq3, eq3, eq3, eq3, nofun⟩)
theorem eq28 : V.EqAt Try.prog tab 1 28 := V.eqAt_int Try.underlying28 rfl
theorem eq50 : V.EqAt Try.prog tab 2 50 := V.eqAt_arr (f0 := 1) tabOK Try.underlying50 rfl eq5 (fun _ => rfl) (f := fun (x y : Int) => x == y) (fun _ _ => rfl) eqInts
theorem eq51 : V.EqAt Try.prog tab 3 51 := V.eqAt_arr (f0 := 2) tabOK Try.underlying51 rfl eq50 (fun _ => rfl) (f := fun (x y : List Int) => decide (x = y)) (fun _ _ => rfl) eqLists
theorem eq60 : V.EqAt Try.prog tab 2 60 := V.eqAt_struct (m := 1) tabOK Try.underlying60 rfl rfl (by kernel_rfl) (by decide) (by
  simp only [List.forall_mem_cons]
  exact ⟨eq3, eq3, eq3, nofun⟩)
theorem eq65 : V.EqAt Try.prog tab 2 65 := V.eqAt_arr (f0 := 1) tabOK Try.underlying65 rfl eq3 (fun _ => rfl) (f := fun (x y : Int) => x == y) (fun _ _ => rfl) eqInts
theorem eq88 : V.EqAt Try.prog tab 3 88 := V.eqAt_struct (m := 2) tabOK Try.underlying88 rfl rfl (by kernel_rfl) (by decide) (by
  simp only [List.forall_mem_cons]
  exact ⟨eq50, V.EqAt.more (by decide) eq4, nofun⟩)
theorem eq95 : V.EqAt Try.prog tab 2 95 := V.eqAt_arr (f0 := 1) tabOK Try.underlying95 rfl eq3 (fun _ => rfl) (f := fun (x y : Int) => x == y) (fun _ _ => rfl) eqInts
theorem cmpOK : CmpOK Try.prog tab := by
  intro t h
  have hm : t ∈ [3, 4, 5, 9, 23, 28, 50, 51, 60, 65, 88, 95] := by
    obtain ⟨u, h1, h2⟩ := List.any_eq_true.1 (show ([3, 4, 5, 9, 23, 28, 50, 51, 60, 65, 88, 95].any fun u => u == t) = true from h)
    have : u = t := by simpa using h2
    rw [← this]; exact h1
  simp only [List.mem_cons, List.not_mem_nil, or_false] at hm
  rcases hm with h | h | h | h | h | h | h | h | h | h | h | h
  · subst h; exact ⟨by kernel_rfl, 1, by decide, eq3⟩
  · subst h; exact ⟨by kernel_rfl, 1, by decide, eq4⟩
  · subst h; exact ⟨by kernel_rfl, 1, by decide, eq5⟩
  · subst h; exact ⟨by kernel_rfl, 1, by decide, eq9⟩
  · subst h; exact ⟨by kernel_rfl, 2, by decide, eq23⟩
  · subst h; exact ⟨by kernel_rfl, 1, by decide, eq28⟩
  · subst h; exact ⟨by kernel_rfl, 2, by decide, eq50⟩
  · subst h; exact ⟨by kernel_rfl, 3, by decide, eq51⟩
  · subst h; exact ⟨by kernel_rfl, 2, by decide, eq60⟩
  · subst h; exact ⟨by kernel_rfl, 2, by decide, eq65⟩
  · subst h; exact ⟨by kernel_rfl, 3, by decide, eq88⟩
  · subst h; exact ⟨by kernel_rfl, 2, by decide, eq95⟩
theorem asOK : AsOK Try.prog tab := fun h => by cases h
end Go.Proofs.Ytofodkmokjhcoaa.W
