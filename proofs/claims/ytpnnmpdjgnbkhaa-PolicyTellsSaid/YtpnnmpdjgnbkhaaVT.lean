/-
  The types of the seat as Lean types, what each stands for in cells, and that the program has them so. Laid by program (mktab.py).
-/
import Derived.Test.YtpnnmpdjgnbkhaaVK3
import Derived.Test.YtpnnmpdjgnbkhaaProg
namespace Go.Proofs.Ytpnnmpdjgnbkhaa.W
open Go Go.Proofs V
/-- policy.Was -/
structure T38 where
  Head : Int
  Length : Int
  Page : List Int
  deriving DecidableEq
/-- api.Mark -/
structure T40 where
  Kind : Int
  Id : Int
  deriving DecidableEq
/-- api.Block -/
structure T44 where
  Kind : Int
  Id : Int
  Page : List Int
  Off : Int
  Bytes : List Int
  Prev : Int
  Heads : List Int
  deriving DecidableEq
/-- api.Item -/
structure T46 where
  Mark : T40
  Block : T44
  deriving DecidableEq
/-- api.Geom -/
structure T59 where
  Pages : Int
  Segs : Int
  SegLen : Int
  Frames : Int
  deriving DecidableEq
/-- api.Op -/
structure T75 where
  Kind : Int
  Page : Int
  Off : Int
  Data : List Int
  deriving DecidableEq
/-- siltlaw25.Asked -/
structure T77 where
  Session : Int
  X : T75
  May : Bool
  deriving DecidableEq
/-- api.Result -/
structure T72 where
  E : Int
  Page : Int
  Data : List Int
  deriving DecidableEq
/-- siltref03.Sizes -/
structure T90 where
  Maps : Int
  Total : Int
  Cap : Int
  deriving DecidableEq
/-- siltref07.Change -/
structure T107 where
  Off : Int
  Bytes : List Int
  OK : Bool
  deriving DecidableEq
/-- model.Model -/
structure T116 where
  heads : List Int
  pages : List (List Int)
  most : Int
  pins : List (List Int)
  deriving DecidableEq
/-- siltref24.Pins -/
structure T126 where
  N : List (List Int)
  deriving DecidableEq
/-- siltref07.Got -/
structure T132 where
  P : List Int
  OK : Bool
  deriving DecidableEq
/-- fault.fault -/
structure T158 where
  what : ByteArray
  about : GErr
  wraps : Bool
  deriving DecidableEq
def Ty : Nat → Type := fun t => cond (t == 3) (Int) (cond (t == 4) (Bool) (cond (t == 5) (Int) (cond (t == 9) (ByteArray) (cond (t == 22) (List Int) (cond (t == 24) (Int) (cond (t == 33) (List Bool) (cond (t == 37) (List Int) (cond (t == 39) (T38) (cond (t == 41) (T40) (cond (t == 42) (List Int) (cond (t == 43) (List Int) (cond (t == 45) (T44) (cond (t == 47) (T46) (cond (t == 52) (T38) (cond (t == 57) (List T46) (cond (t == 60) (T59) (cond (t == 61) (List T77) (cond (t == 73) (T72) (cond (t == 76) (T75) (cond (t == 78) (T77) (cond (t == 83) (List (List Int)) (cond (t == 84) (List Bool) (cond (t == 91) (T90) (cond (t == 96) (List Int) (cond (t == 100) (GErr) (cond (t == 106) (Unit) (cond (t == 108) (T107) (cond (t == 113) (List (List Int)) (cond (t == 115) (List (List Int)) (cond (t == 117) (T116) (cond (t == 125) (List (List Int)) (cond (t == 127) (T126) (cond (t == 133) (T132) (cond (t == 144) (List Int) (cond (t == 155) (List GErr) (cond (t == 157) (Unit) (cond (t == 159) (T158) (cond (t == 163) (List (List Int)) (Unit)))))))))))))))))))))))))))))))))))))))
def dI_i64 : Den Ty Int where
  enc := fun (x : Int) => .int .i64 x
  dec := fun v => match v with
    | .int .i64 v0 => some v0
    | _ => none
  dflt := (0 : Int)
  spec := by intro v x h; split at h <;> cases h; rfl
def dB : Den Ty Bool where
  enc := fun (x : Bool) => .bool x
  dec := fun v => match v with
    | .bool v0 => some v0
    | _ => none
  dflt := false
  spec := by intro v x h; split at h <;> cases h; rfl
def dI_u8 : Den Ty Int where
  enc := fun (x : Int) => .int .u8 x
  dec := fun v => match v with
    | .int .u8 v0 => some v0
    | _ => none
  dflt := (0 : Int)
  spec := by intro v x h; split at h <;> cases h; rfl
def dS : Den Ty ByteArray where
  enc := fun (x : ByteArray) => .str x
  dec := fun v => match v with
    | .str v0 => some v0
    | _ => none
  dflt := ByteArray.empty
  spec := by intro v x h; split at h <;> cases h; rfl
def dL3 : Den Ty (List Int) where
  enc := fun (x : List Int) => .slice 3 x
  dec := fun v => match v with
    | .slice 3 v0 => some v0
    | _ => none
  dflt := ([] : List Int)
  spec := by intro v x h; split at h <;> cases h; rfl
def dL4 : Den Ty (List Bool) where
  enc := fun (x : List Bool) => .slice 4 x
  dec := fun v => match v with
    | .slice 4 v0 => some v0
    | _ => none
  dflt := ([] : List Bool)
  spec := by intro v x h; split at h <;> cases h; rfl
def dA32_5 : Den Ty (List Int) where
  enc := fun (x : List Int) => .arr 5 32 x
  dec := fun v => match v with
    | .arr 5 32 v0 => some v0
    | _ => none
  dflt := (List.replicate 32 (0 : Int))
  spec := by intro v x h; split at h <;> cases h; rfl
def dT38 : Den Ty T38 where
  enc := fun (x : T38) => .cons (.int .i64 x.Head) (.cons (.int .i64 x.Length) (.cons (.arr 5 32 x.Page) (.nil)))
  dec := fun v => match v with
    | .cons (.int .i64 v0) (.cons (.int .i64 v1) (.cons (.arr 5 32 v2) (.nil))) => some (T38.mk v0 v1 v2)
    | _ => none
  dflt := (T38.mk (0 : Int) (0 : Int) (List.replicate 32 (0 : Int)))
  spec := by intro v x h; split at h <;> cases h; rfl
def dT40 : Den Ty T40 where
  enc := fun (x : T40) => .cons (.int .i64 x.Kind) (.cons (.int .i64 x.Id) (.nil))
  dec := fun v => match v with
    | .cons (.int .i64 v0) (.cons (.int .i64 v1) (.nil)) => some (T40.mk v0 v1)
    | _ => none
  dflt := (T40.mk (0 : Int) (0 : Int))
  spec := by intro v x h; split at h <;> cases h; rfl
def dL5 : Den Ty (List Int) where
  enc := fun (x : List Int) => .slice 5 x
  dec := fun v => match v with
    | .slice 5 v0 => some v0
    | _ => none
  dflt := ([] : List Int)
  spec := by intro v x h; split at h <;> cases h; rfl
def dA8_3 : Den Ty (List Int) where
  enc := fun (x : List Int) => .arr 3 8 x
  dec := fun v => match v with
    | .arr 3 8 v0 => some v0
    | _ => none
  dflt := (List.replicate 8 (0 : Int))
  spec := by intro v x h; split at h <;> cases h; rfl
def dT44 : Den Ty T44 where
  enc := fun (x : T44) => .cons (.int .i64 x.Kind) (.cons (.int .i64 x.Id) (.cons (.arr 5 32 x.Page) (.cons (.int .i64 x.Off) (.cons (.slice 5 x.Bytes) (.cons (.int .i64 x.Prev) (.cons (.arr 3 8 x.Heads) (.nil)))))))
  dec := fun v => match v with
    | .cons (.int .i64 v0) (.cons (.int .i64 v1) (.cons (.arr 5 32 v2) (.cons (.int .i64 v3) (.cons (.slice 5 v4) (.cons (.int .i64 v5) (.cons (.arr 3 8 v6) (.nil))))))) => some (T44.mk v0 v1 v2 v3 v4 v5 v6)
    | _ => none
  dflt := (T44.mk (0 : Int) (0 : Int) (List.replicate 32 (0 : Int)) (0 : Int) ([] : List Int) (0 : Int) (List.replicate 8 (0 : Int)))
  spec := by intro v x h; split at h <;> cases h; rfl
def dT46 : Den Ty T46 where
  enc := fun (x : T46) => .cons (.cons (.int .i64 x.Mark.Kind) (.cons (.int .i64 x.Mark.Id) (.nil))) (.cons (.cons (.int .i64 x.Block.Kind) (.cons (.int .i64 x.Block.Id) (.cons (.arr 5 32 x.Block.Page) (.cons (.int .i64 x.Block.Off) (.cons (.slice 5 x.Block.Bytes) (.cons (.int .i64 x.Block.Prev) (.cons (.arr 3 8 x.Block.Heads) (.nil)))))))) (.nil))
  dec := fun v => match v with
    | .cons (.cons (.int .i64 v0) (.cons (.int .i64 v1) (.nil))) (.cons (.cons (.int .i64 v2) (.cons (.int .i64 v3) (.cons (.arr 5 32 v4) (.cons (.int .i64 v5) (.cons (.slice 5 v6) (.cons (.int .i64 v7) (.cons (.arr 3 8 v8) (.nil)))))))) (.nil)) => some (T46.mk (T40.mk v0 v1) (T44.mk v2 v3 v4 v5 v6 v7 v8))
    | _ => none
  dflt := (T46.mk (T40.mk (0 : Int) (0 : Int)) (T44.mk (0 : Int) (0 : Int) (List.replicate 32 (0 : Int)) (0 : Int) ([] : List Int) (0 : Int) (List.replicate 8 (0 : Int))))
  spec := by intro v x h; split at h <;> cases h; rfl
def dL47 : Den Ty (List T46) where
  enc := fun (x : List T46) => .slice 47 x
  dec := fun v => match v with
    | .slice 47 v0 => some v0
    | _ => none
  dflt := ([] : List T46)
  spec := by intro v x h; split at h <;> cases h; rfl
def dT59 : Den Ty T59 where
  enc := fun (x : T59) => .cons (.int .i64 x.Pages) (.cons (.int .i64 x.Segs) (.cons (.int .i64 x.SegLen) (.cons (.int .i64 x.Frames) (.nil))))
  dec := fun v => match v with
    | .cons (.int .i64 v0) (.cons (.int .i64 v1) (.cons (.int .i64 v2) (.cons (.int .i64 v3) (.nil)))) => some (T59.mk v0 v1 v2 v3)
    | _ => none
  dflt := (T59.mk (0 : Int) (0 : Int) (0 : Int) (0 : Int))
  spec := by intro v x h; split at h <;> cases h; rfl
def dL78 : Den Ty (List T77) where
  enc := fun (x : List T77) => .slice 78 x
  dec := fun v => match v with
    | .slice 78 v0 => some v0
    | _ => none
  dflt := ([] : List T77)
  spec := by intro v x h; split at h <;> cases h; rfl
def dT72 : Den Ty T72 where
  enc := fun (x : T72) => .cons (.int .i64 x.E) (.cons (.int .i64 x.Page) (.cons (.slice 5 x.Data) (.nil)))
  dec := fun v => match v with
    | .cons (.int .i64 v0) (.cons (.int .i64 v1) (.cons (.slice 5 v2) (.nil))) => some (T72.mk v0 v1 v2)
    | _ => none
  dflt := (T72.mk (0 : Int) (0 : Int) ([] : List Int))
  spec := by intro v x h; split at h <;> cases h; rfl
def dT75 : Den Ty T75 where
  enc := fun (x : T75) => .cons (.int .i64 x.Kind) (.cons (.int .i64 x.Page) (.cons (.int .i64 x.Off) (.cons (.slice 5 x.Data) (.nil))))
  dec := fun v => match v with
    | .cons (.int .i64 v0) (.cons (.int .i64 v1) (.cons (.int .i64 v2) (.cons (.slice 5 v3) (.nil)))) => some (T75.mk v0 v1 v2 v3)
    | _ => none
  dflt := (T75.mk (0 : Int) (0 : Int) (0 : Int) ([] : List Int))
  spec := by intro v x h; split at h <;> cases h; rfl
def dT77 : Den Ty T77 where
  enc := fun (x : T77) => .cons (.int .i64 x.Session) (.cons (.cons (.int .i64 x.X.Kind) (.cons (.int .i64 x.X.Page) (.cons (.int .i64 x.X.Off) (.cons (.slice 5 x.X.Data) (.nil))))) (.cons (.bool x.May) (.nil)))
  dec := fun v => match v with
    | .cons (.int .i64 v0) (.cons (.cons (.int .i64 v1) (.cons (.int .i64 v2) (.cons (.int .i64 v3) (.cons (.slice 5 v4) (.nil))))) (.cons (.bool v5) (.nil))) => some (T77.mk v0 (T75.mk v1 v2 v3 v4) v5)
    | _ => none
  dflt := (T77.mk (0 : Int) (T75.mk (0 : Int) (0 : Int) (0 : Int) ([] : List Int)) false)
  spec := by intro v x h; split at h <;> cases h; rfl
def dA64_37 : Den Ty (List (List Int)) where
  enc := fun (x : List (List Int)) => .arr 37 64 x
  dec := fun v => match v with
    | .arr 37 64 v0 => some v0
    | _ => none
  dflt := (List.replicate 64 (List.replicate 32 (0 : Int)))
  spec := by intro v x h; split at h <;> cases h; rfl
def dA64_4 : Den Ty (List Bool) where
  enc := fun (x : List Bool) => .arr 4 64 x
  dec := fun v => match v with
    | .arr 4 64 v0 => some v0
    | _ => none
  dflt := (List.replicate 64 false)
  spec := by intro v x h; split at h <;> cases h; rfl
def dT90 : Den Ty T90 where
  enc := fun (x : T90) => .cons (.int .i64 x.Maps) (.cons (.int .i64 x.Total) (.cons (.int .i64 x.Cap) (.nil)))
  dec := fun v => match v with
    | .cons (.int .i64 v0) (.cons (.int .i64 v1) (.cons (.int .i64 v2) (.nil))) => some (T90.mk v0 v1 v2)
    | _ => none
  dflt := (T90.mk (0 : Int) (0 : Int) (0 : Int))
  spec := by intro v x h; split at h <;> cases h; rfl
def dA4_3 : Den Ty (List Int) where
  enc := fun (x : List Int) => .arr 3 4 x
  dec := fun v => match v with
    | .arr 3 4 v0 => some v0
    | _ => none
  dflt := (List.replicate 4 (0 : Int))
  spec := by intro v x h; split at h <;> cases h; rfl
def dE : Den Ty GErr where
  enc := fun (x : GErr) => .err x
  dec := fun v => match v with
    | .err v0 => some v0
    | _ => none
  dflt := GErr.nil
  spec := by intro v x h; split at h <;> cases h; rfl
def dF77 : Den Ty Unit where
  enc := fun (x : Unit) => .func 77
  dec := fun v => match v with
    | .func 77 => some ()
    | _ => none
  dflt := ()
  spec := by intro v x h; split at h <;> cases h; rfl
def dT107 : Den Ty T107 where
  enc := fun (x : T107) => .cons (.int .i64 x.Off) (.cons (.slice 5 x.Bytes) (.cons (.bool x.OK) (.nil)))
  dec := fun v => match v with
    | .cons (.int .i64 v0) (.cons (.slice 5 v1) (.cons (.bool v2) (.nil))) => some (T107.mk v0 v1 v2)
    | _ => none
  dflt := (T107.mk (0 : Int) ([] : List Int) false)
  spec := by intro v x h; split at h <;> cases h; rfl
def dL37 : Den Ty (List (List Int)) where
  enc := fun (x : List (List Int)) => .slice 37 x
  dec := fun v => match v with
    | .slice 37 v0 => some v0
    | _ => none
  dflt := ([] : List (List Int))
  spec := by intro v x h; split at h <;> cases h; rfl
def dA4_22 : Den Ty (List (List Int)) where
  enc := fun (x : List (List Int)) => .arr 22 4 x
  dec := fun v => match v with
    | .arr 22 4 v0 => some v0
    | _ => none
  dflt := (List.replicate 4 ([] : List Int))
  spec := by intro v x h; split at h <;> cases h; rfl
def dT116 : Den Ty T116 where
  enc := fun (x : T116) => .cons (.slice 3 x.heads) (.cons (.slice 37 x.pages) (.cons (.int .i64 x.most) (.cons (.arr 22 4 x.pins) (.nil))))
  dec := fun v => match v with
    | .cons (.slice 3 v0) (.cons (.slice 37 v1) (.cons (.int .i64 v2) (.cons (.arr 22 4 v3) (.nil)))) => some (T116.mk v0 v1 v2 v3)
    | _ => none
  dflt := (T116.mk ([] : List Int) ([] : List (List Int)) (0 : Int) (List.replicate 4 ([] : List Int)))
  spec := by intro v x h; split at h <;> cases h; rfl
def dL144 : Den Ty (List (List Int)) where
  enc := fun (x : List (List Int)) => .slice 144 x
  dec := fun v => match v with
    | .slice 144 v0 => some v0
    | _ => none
  dflt := ([] : List (List Int))
  spec := by intro v x h; split at h <;> cases h; rfl
def dT126 : Den Ty T126 where
  enc := fun (x : T126) => .cons (.slice 144 x.N) (.nil)
  dec := fun v => match v with
    | .cons (.slice 144 v0) (.nil) => some (T126.mk v0)
    | _ => none
  dflt := (T126.mk ([] : List (List Int)))
  spec := by intro v x h; split at h <;> cases h; rfl
def dT132 : Den Ty T132 where
  enc := fun (x : T132) => .cons (.arr 5 32 x.P) (.cons (.bool x.OK) (.nil))
  dec := fun v => match v with
    | .cons (.arr 5 32 v0) (.cons (.bool v1) (.nil)) => some (T132.mk v0 v1)
    | _ => none
  dflt := (T132.mk (List.replicate 32 (0 : Int)) false)
  spec := by intro v x h; split at h <;> cases h; rfl
def dA64_3 : Den Ty (List Int) where
  enc := fun (x : List Int) => .arr 3 64 x
  dec := fun v => match v with
    | .arr 3 64 v0 => some v0
    | _ => none
  dflt := (List.replicate 64 (0 : Int))
  spec := by intro v x h; split at h <;> cases h; rfl
def dL100 : Den Ty (List GErr) where
  enc := fun (x : List GErr) => .slice 100 x
  dec := fun v => match v with
    | .slice 100 v0 => some v0
    | _ => none
  dflt := ([] : List GErr)
  spec := by intro v x h; split at h <;> cases h; rfl
def dT158 : Den Ty T158 where
  enc := fun (x : T158) => .cons (.str x.what) (.cons (.err x.about) (.cons (.bool x.wraps) (.nil)))
  dec := fun v => match v with
    | .cons (.str v0) (.cons (.err v1) (.cons (.bool v2) (.nil))) => some (T158.mk v0 v1 v2)
    | _ => none
  dflt := (T158.mk ByteArray.empty GErr.nil false)
  spec := by intro v x h; split at h <;> cases h; rfl
def dL22 : Den Ty (List (List Int)) where
  enc := fun (x : List (List Int)) => .slice 22 x
  dec := fun v => match v with
    | .slice 22 v0 => some v0
    | _ => none
  dflt := ([] : List (List Int))
  spec := by intro v x h; split at h <;> cases h; rfl
def den : (t : Nat) → Den Ty (Ty t) := fun t => pickDen (t == 3) dI_i64 (pickDen (t == 4) dB (pickDen (t == 5) dI_u8 (pickDen (t == 9) dS (pickDen (t == 22) dL3 (pickDen (t == 24) dI_i64 (pickDen (t == 33) dL4 (pickDen (t == 37) dA32_5 (pickDen (t == 39) dT38 (pickDen (t == 41) dT40 (pickDen (t == 42) dL5 (pickDen (t == 43) dA8_3 (pickDen (t == 45) dT44 (pickDen (t == 47) dT46 (pickDen (t == 52) dT38 (pickDen (t == 57) dL47 (pickDen (t == 60) dT59 (pickDen (t == 61) dL78 (pickDen (t == 73) dT72 (pickDen (t == 76) dT75 (pickDen (t == 78) dT77 (pickDen (t == 83) dA64_37 (pickDen (t == 84) dA64_4 (pickDen (t == 91) dT90 (pickDen (t == 96) dA4_3 (pickDen (t == 100) dE (pickDen (t == 106) dF77 (pickDen (t == 108) dT107 (pickDen (t == 113) dL37 (pickDen (t == 115) dA4_22 (pickDen (t == 117) dT116 (pickDen (t == 125) dL144 (pickDen (t == 127) dT126 (pickDen (t == 133) dT132 (pickDen (t == 144) dA64_3 (pickDen (t == 155) dL100 (pickDen (t == 157) ptrDen (pickDen (t == 159) dT158 (pickDen (t == 163) dL22 (unitDen)))))))))))))))))))))))))))))))))))))))
def info : List (Nat × TI) := [(3, ⟨.int .i64, 1, 8⟩), (4, ⟨.bool, 1, 1⟩), (5, ⟨.int .u8, 1, 1⟩), (9, ⟨.str, 1, 16⟩), (22, ⟨.slice 3, 1, 24⟩), (24, ⟨.int .i64, 1, 8⟩), (33, ⟨.slice 4, 1, 24⟩), (37, ⟨.arr 32 5, 32, 32⟩), (39, ⟨.struct [(3, 0), (3, 1), (37, 2)], 34, 48⟩), (41, ⟨.struct [(3, 0), (3, 1)], 2, 16⟩), (42, ⟨.slice 5, 1, 24⟩), (43, ⟨.arr 8 3, 8, 64⟩), (45, ⟨.struct [(3, 0), (3, 1), (37, 2), (3, 34), (42, 35), (3, 36), (43, 37)], 45, 152⟩), (47, ⟨.struct [(41, 0), (45, 2)], 47, 168⟩), (52, ⟨.struct [(3, 0), (3, 1), (37, 2)], 34, 48⟩), (57, ⟨.slice 47, 1, 24⟩), (60, ⟨.struct [(3, 0), (3, 1), (3, 2), (3, 3)], 4, 32⟩), (61, ⟨.slice 78, 1, 24⟩), (73, ⟨.struct [(24, 0), (3, 1), (42, 2)], 3, 40⟩), (76, ⟨.struct [(3, 0), (3, 1), (3, 2), (42, 3)], 4, 48⟩), (78, ⟨.struct [(3, 0), (76, 1), (4, 5)], 6, 64⟩), (83, ⟨.arr 64 37, 2048, 2048⟩), (84, ⟨.arr 64 4, 64, 64⟩), (91, ⟨.struct [(3, 0), (3, 1), (3, 2)], 3, 24⟩), (96, ⟨.arr 4 3, 4, 32⟩), (100, ⟨.iface, 1, 16⟩), (108, ⟨.struct [(3, 0), (42, 1), (4, 2)], 3, 40⟩), (113, ⟨.slice 37, 1, 24⟩), (115, ⟨.arr 4 22, 4, 96⟩), (117, ⟨.struct [(22, 0), (113, 1), (3, 2), (115, 3)], 7, 152⟩), (125, ⟨.slice 144, 1, 24⟩), (127, ⟨.struct [(125, 0)], 1, 24⟩), (133, ⟨.struct [(37, 0), (4, 32)], 33, 33⟩), (144, ⟨.arr 64 3, 64, 512⟩), (155, ⟨.slice 100, 1, 24⟩), (157, ⟨.ptr 159, 1, 8⟩), (159, ⟨.struct [(9, 0), (100, 1), (4, 2)], 3, 40⟩), (163, ⟨.slice 22, 1, 24⟩)]
def isOf (l : List Nat) (t : Nat) : Bool := l.any fun u => u == t
def eqL1 {α β : Type} (b : Bool) (f : List α → List α → Bool) (g : List β → List β → Bool) : List (cond b α β) → List (cond b α β) → Bool :=
  match b with
  | true => f
  | false => g
def eqL : (t : Nat) → List (Ty t) → List (Ty t) → Bool := fun t => eqL1 (t == 3) (fun (xs ys : List Int) => decide (xs = ys)) (eqL1 (t == 4) (fun _ _ => false) (eqL1 (t == 5) (fun (xs ys : List Int) => decide (xs = ys)) (eqL1 (t == 9) (fun _ _ => false) (eqL1 (t == 22) (fun _ _ => false) (eqL1 (t == 24) (fun _ _ => false) (eqL1 (t == 33) (fun _ _ => false) (eqL1 (t == 37) (fun _ _ => false) (eqL1 (t == 39) (fun _ _ => false) (eqL1 (t == 41) (fun _ _ => false) (eqL1 (t == 42) (fun _ _ => false) (eqL1 (t == 43) (fun _ _ => false) (eqL1 (t == 45) (fun _ _ => false) (eqL1 (t == 47) (fun _ _ => false) (eqL1 (t == 52) (fun _ _ => false) (eqL1 (t == 57) (fun _ _ => false) (eqL1 (t == 60) (fun _ _ => false) (eqL1 (t == 61) (fun _ _ => false) (eqL1 (t == 73) (fun _ _ => false) (eqL1 (t == 76) (fun _ _ => false) (eqL1 (t == 78) (fun _ _ => false) (eqL1 (t == 83) (fun _ _ => false) (eqL1 (t == 84) (fun _ _ => false) (eqL1 (t == 91) (fun _ _ => false) (eqL1 (t == 96) (fun _ _ => false) (eqL1 (t == 100) (fun _ _ => false) (eqL1 (t == 106) (fun _ _ => false) (eqL1 (t == 108) (fun _ _ => false) (eqL1 (t == 113) (fun _ _ => false) (eqL1 (t == 115) (fun _ _ => false) (eqL1 (t == 117) (fun _ _ => false) (eqL1 (t == 125) (fun _ _ => false) (eqL1 (t == 127) (fun _ _ => false) (eqL1 (t == 133) (fun _ _ => false) (eqL1 (t == 144) (fun _ _ => false) (eqL1 (t == 155) (fun _ _ => false) (eqL1 (t == 157) (fun _ _ => false) (eqL1 (t == 159) (fun _ _ => false) (eqL1 (t == 163) (fun _ _ => false) (fun _ _ => false)))))))))))))))))))))))))))))))))))))))
def tab : Tab Ty := { den, flatTy := isOf [3, 4, 5, 9, 24, 37, 39, 41, 43, 52, 60, 83, 84, 91, 96, 133, 144], eqOk := isOf [3, 5], cmp := isOf [3, 4, 5, 9, 24, 37, 39, 41, 43, 52, 60, 91, 96, 133, 144], eqL, errnoTy := 24, faultTy := 157, info }
theorem ent3 : EntOK tab 3 Int dI_i64 := ⟨fun _ => rfl, fun _ _ => rfl, fun _ => rfl, fun _ => rfl, fun _ _ => rfl, fun _ h => (by cases h)⟩
theorem ent4 : EntOK tab 4 Bool dB := ⟨fun _ => rfl, fun _ _ => rfl, fun _ => rfl, fun _ => rfl, fun _ _ => rfl, fun _ h => (by cases h)⟩
theorem ent5 : EntOK tab 5 Int dI_u8 := ⟨fun _ => rfl, fun _ _ => rfl, fun _ => rfl, fun _ => rfl, fun _ _ => rfl, fun x _ => ⟨x, rfl⟩⟩
theorem ent9 : EntOK tab 9 ByteArray dS := ⟨fun _ => rfl, fun _ _ => rfl, fun _ => rfl, fun _ => rfl, fun _ _ => rfl, fun _ h => (by cases h)⟩
theorem ent22 : EntOK tab 22 (List Int) dL3 := ⟨fun _ => rfl, fun _ _ => rfl, fun _ => rfl, fun _ => rfl, fun _ h => (by cases h), fun _ h => (by cases h)⟩
theorem ent24 : EntOK tab 24 Int dI_i64 := ⟨fun _ => rfl, fun _ _ => rfl, fun _ => rfl, fun _ => rfl, fun _ _ => rfl, fun _ h => (by cases h)⟩
theorem ent33 : EntOK tab 33 (List Bool) dL4 := ⟨fun _ => rfl, fun _ _ => rfl, fun _ => rfl, fun _ => rfl, fun _ h => (by cases h), fun _ h => (by cases h)⟩
theorem ent37 : EntOK tab 37 (List Int) dA32_5 := ⟨fun _ => rfl, fun _ _ => rfl, fun _ => rfl, fun _ => rfl, fun _ _ => rfl, fun _ h => (by cases h)⟩
theorem ent39 : EntOK tab 39 T38 dT38 := ⟨fun _ => rfl, fun _ _ => rfl, fun _ => rfl, fun _ => rfl, fun _ _ => rfl, fun _ h => (by cases h)⟩
theorem ent41 : EntOK tab 41 T40 dT40 := ⟨fun _ => rfl, fun _ _ => rfl, fun _ => rfl, fun _ => rfl, fun _ _ => rfl, fun _ h => (by cases h)⟩
theorem ent42 : EntOK tab 42 (List Int) dL5 := ⟨fun _ => rfl, fun _ _ => rfl, fun _ => rfl, fun _ => rfl, fun _ h => (by cases h), fun _ h => (by cases h)⟩
theorem ent43 : EntOK tab 43 (List Int) dA8_3 := ⟨fun _ => rfl, fun _ _ => rfl, fun _ => rfl, fun _ => rfl, fun _ _ => rfl, fun _ h => (by cases h)⟩
theorem ent45 : EntOK tab 45 T44 dT44 := ⟨fun _ => rfl, fun _ _ => rfl, fun _ => rfl, fun _ => rfl, fun _ h => (by cases h), fun _ h => (by cases h)⟩
theorem ent47 : EntOK tab 47 T46 dT46 := ⟨fun _ => rfl, fun _ _ => rfl, fun _ => rfl, fun _ => rfl, fun _ h => (by cases h), fun _ h => (by cases h)⟩
theorem ent52 : EntOK tab 52 T38 dT38 := ⟨fun _ => rfl, fun _ _ => rfl, fun _ => rfl, fun _ => rfl, fun _ _ => rfl, fun _ h => (by cases h)⟩
theorem ent57 : EntOK tab 57 (List T46) dL47 := ⟨fun _ => rfl, fun _ _ => rfl, fun _ => rfl, fun _ => rfl, fun _ h => (by cases h), fun _ h => (by cases h)⟩
theorem ent60 : EntOK tab 60 T59 dT59 := ⟨fun _ => rfl, fun _ _ => rfl, fun _ => rfl, fun _ => rfl, fun _ _ => rfl, fun _ h => (by cases h)⟩
theorem ent61 : EntOK tab 61 (List T77) dL78 := ⟨fun _ => rfl, fun _ _ => rfl, fun _ => rfl, fun _ => rfl, fun _ h => (by cases h), fun _ h => (by cases h)⟩
theorem ent73 : EntOK tab 73 T72 dT72 := ⟨fun _ => rfl, fun _ _ => rfl, fun _ => rfl, fun _ => rfl, fun _ h => (by cases h), fun _ h => (by cases h)⟩
theorem ent76 : EntOK tab 76 T75 dT75 := ⟨fun _ => rfl, fun _ _ => rfl, fun _ => rfl, fun _ => rfl, fun _ h => (by cases h), fun _ h => (by cases h)⟩
theorem ent78 : EntOK tab 78 T77 dT77 := ⟨fun _ => rfl, fun _ _ => rfl, fun _ => rfl, fun _ => rfl, fun _ h => (by cases h), fun _ h => (by cases h)⟩
theorem ent83 : EntOK tab 83 (List (List Int)) dA64_37 := ⟨fun _ => rfl, fun _ _ => rfl, fun _ => rfl, fun _ => rfl, fun _ _ => rfl, fun _ h => (by cases h)⟩
theorem ent84 : EntOK tab 84 (List Bool) dA64_4 := ⟨fun _ => rfl, fun _ _ => rfl, fun _ => rfl, fun _ => rfl, fun _ _ => rfl, fun _ h => (by cases h)⟩
theorem ent91 : EntOK tab 91 T90 dT90 := ⟨fun _ => rfl, fun _ _ => rfl, fun _ => rfl, fun _ => rfl, fun _ _ => rfl, fun _ h => (by cases h)⟩
theorem ent96 : EntOK tab 96 (List Int) dA4_3 := ⟨fun _ => rfl, fun _ _ => rfl, fun _ => rfl, fun _ => rfl, fun _ _ => rfl, fun _ h => (by cases h)⟩
theorem ent100 : EntOK tab 100 GErr dE := ⟨fun _ => rfl, fun _ _ => rfl, fun _ => rfl, fun _ => rfl, fun _ h => (by cases h), fun _ h => (by cases h)⟩
theorem ent106 : EntOK tab 106 Unit dF77 := ⟨fun _ => rfl, fun _ _ => rfl, fun _ => rfl, fun _ => rfl, fun _ h => (by cases h), fun _ h => (by cases h)⟩
theorem ent108 : EntOK tab 108 T107 dT107 := ⟨fun _ => rfl, fun _ _ => rfl, fun _ => rfl, fun _ => rfl, fun _ h => (by cases h), fun _ h => (by cases h)⟩
theorem ent113 : EntOK tab 113 (List (List Int)) dL37 := ⟨fun _ => rfl, fun _ _ => rfl, fun _ => rfl, fun _ => rfl, fun _ h => (by cases h), fun _ h => (by cases h)⟩
theorem ent115 : EntOK tab 115 (List (List Int)) dA4_22 := ⟨fun _ => rfl, fun _ _ => rfl, fun _ => rfl, fun _ => rfl, fun _ h => (by cases h), fun _ h => (by cases h)⟩
theorem ent117 : EntOK tab 117 T116 dT116 := ⟨fun _ => rfl, fun _ _ => rfl, fun _ => rfl, fun _ => rfl, fun _ h => (by cases h), fun _ h => (by cases h)⟩
theorem ent125 : EntOK tab 125 (List (List Int)) dL144 := ⟨fun _ => rfl, fun _ _ => rfl, fun _ => rfl, fun _ => rfl, fun _ h => (by cases h), fun _ h => (by cases h)⟩
theorem ent127 : EntOK tab 127 T126 dT126 := ⟨fun _ => rfl, fun _ _ => rfl, fun _ => rfl, fun _ => rfl, fun _ h => (by cases h), fun _ h => (by cases h)⟩
theorem ent133 : EntOK tab 133 T132 dT132 := ⟨fun _ => rfl, fun _ _ => rfl, fun _ => rfl, fun _ => rfl, fun _ _ => rfl, fun _ h => (by cases h)⟩
theorem ent144 : EntOK tab 144 (List Int) dA64_3 := ⟨fun _ => rfl, fun _ _ => rfl, fun _ => rfl, fun _ => rfl, fun _ _ => rfl, fun _ h => (by cases h)⟩
theorem ent155 : EntOK tab 155 (List GErr) dL100 := ⟨fun _ => rfl, fun _ _ => rfl, fun _ => rfl, fun _ => rfl, fun _ h => (by cases h), fun _ h => (by cases h)⟩
theorem ent157 : EntOK tab 157 Unit ptrDen := ⟨fun _ => rfl, fun _ _ => rfl, fun _ => rfl, fun _ => rfl, fun _ h => (by cases h), fun _ h => (by cases h)⟩
theorem ent159 : EntOK tab 159 T158 dT158 := ⟨fun _ => rfl, fun _ _ => rfl, fun _ => rfl, fun _ => rfl, fun _ h => (by cases h), fun _ h => (by cases h)⟩
theorem ent163 : EntOK tab 163 (List (List Int)) dL22 := ⟨fun _ => rfl, fun _ _ => rfl, fun _ => rfl, fun _ => rfl, fun _ h => (by cases h), fun _ h => (by cases h)⟩
theorem ent (t : Nat) : EntOK tab t (Ty t) (tab.den t) := by
  show EntOK tab t (Ty t) (den t)
  unfold den Ty
  by_cases hall : t ∈ [3, 4, 5, 9, 22, 24, 33, 37, 39, 41, 42, 43, 45, 47, 52, 57, 60, 61, 73, 76, 78, 83, 84, 91, 96, 100, 106, 108, 113, 115, 117, 125, 127, 133, 144, 155, 157, 159, 163]
  · simp only [List.mem_cons, List.not_mem_nil, or_false] at hall
    rcases hall with h | h | h | h | h | h | h | h | h | h | h | h | h | h | h | h | h | h | h | h | h | h | h | h | h | h | h | h | h | h | h | h | h | h | h | h | h | h | h
    · subst h; exact ent3
    · subst h; exact ent4
    · subst h; exact ent5
    · subst h; exact ent9
    · subst h; exact ent22
    · subst h; exact ent24
    · subst h; exact ent33
    · subst h; exact ent37
    · subst h; exact ent39
    · subst h; exact ent41
    · subst h; exact ent42
    · subst h; exact ent43
    · subst h; exact ent45
    · subst h; exact ent47
    · subst h; exact ent52
    · subst h; exact ent57
    · subst h; exact ent60
    · subst h; exact ent61
    · subst h; exact ent73
    · subst h; exact ent76
    · subst h; exact ent78
    · subst h; exact ent83
    · subst h; exact ent84
    · subst h; exact ent91
    · subst h; exact ent96
    · subst h; exact ent100
    · subst h; exact ent106
    · subst h; exact ent108
    · subst h; exact ent113
    · subst h; exact ent115
    · subst h; exact ent117
    · subst h; exact ent125
    · subst h; exact ent127
    · subst h; exact ent133
    · subst h; exact ent144
    · subst h; exact ent155
    · subst h; exact ent157
    · subst h; exact ent159
    · subst h; exact ent163
  · have hf : ∀ u ∈ [3, 4, 5, 9, 22, 24, 33, 37, 39, 41, 42, 43, 45, 47, 52, 57, 60, 61, 73, 76, 78, 83, 84, 91, 96, 100, 106, 108, 113, 115, 117, 125, 127, 133, 144, 155, 157, 159, 163], (t == u) = false := fun u hu => by simp only [beq_eq_false_iff_ne]; intro e; subst e; exact hall hu
    have hi : infoAt t info = ⟨.other, 1, 8⟩ := by
      rcases infoAt_spec info t with ⟨p, h1, h2, _⟩ | h
      · exfalso; apply hall; rw [← h2]; have : ∀ q ∈ info, q.1 ∈ [3, 4, 5, 9, 22, 24, 33, 37, 39, 41, 42, 43, 45, 47, 52, 57, 60, 61, 73, 76, 78, 83, 84, 91, 96, 100, 106, 108, 113, 115, 117, 125, 127, 133, 144, 155, 157, 159, 163] := by decide
        exact this p h1
      · exact h
    have hs : tab.size t = 1 := by unfold Tab.size; show (infoAt t info).size = 1; rw [hi]
    have hk : tab.td t = .other := by unfold Tab.td; show (infoAt t info).td = .other; rw [hi]
    have hu : EntOK tab t Unit unitDen := ⟨fun _ => (by rw [hs]; rfl), fun _ h => (by rw [hk] at h; cases h), fun _ => rfl, fun _ => rfl, fun _ _ => rfl, fun _ h => (by rw [hk] at h; cases h)⟩
    have hQ : ∀ (u : Nat) (_ : u ∈ [3, 4, 5, 9, 22, 24, 33, 37, 39, 41, 42, 43, 45, 47, 52, 57, 60, 61, 73, 76, 78, 83, 84, 91, 96, 100, 106, 108, 113, 115, 117, 125, 127, 133, 144, 155, 157, 159, 163]) {α β : Type} {x : Den Ty α} {y : Den Ty β}, EntOK tab t β y → EntOK tab t (cond (t == u) α β) (pickDen (t == u) x y) := fun u h α β x y hy => pick_all (Q := EntOK tab t) (fun e => by rw [hf u h] at e; cases e) fun _ => hy
    exact hQ 3 (by decide) (hQ 4 (by decide) (hQ 5 (by decide) (hQ 9 (by decide) (hQ 22 (by decide) (hQ 24 (by decide) (hQ 33 (by decide) (hQ 37 (by decide) (hQ 39 (by decide) (hQ 41 (by decide) (hQ 42 (by decide) (hQ 43 (by decide) (hQ 45 (by decide) (hQ 47 (by decide) (hQ 52 (by decide) (hQ 57 (by decide) (hQ 60 (by decide) (hQ 61 (by decide) (hQ 73 (by decide) (hQ 76 (by decide) (hQ 78 (by decide) (hQ 83 (by decide) (hQ 84 (by decide) (hQ 91 (by decide) (hQ 96 (by decide) (hQ 100 (by decide) (hQ 106 (by decide) (hQ 108 (by decide) (hQ 113 (by decide) (hQ 115 (by decide) (hQ 117 (by decide) (hQ 125 (by decide) (hQ 127 (by decide) (hQ 133 (by decide) (hQ 144 (by decide) (hQ 155 (by decide) (hQ 157 (by decide) (hQ 159 (by decide) (hQ 163 (by decide) (hu)))))))))))))))))))))))))))))))))))))))
theorem tabOK : TabOK Try.prog tab := TabOK.of (by kernel_rfl) ent (by kernel_rfl)
theorem eq3 : V.EqAt Try.prog tab 1 3 := V.eqAt_int Try.underlying3 rfl
theorem eq4 : V.EqAt Try.prog tab 1 4 := V.eqAt_bool Try.underlying4 rfl
theorem eq5 : V.EqAt Try.prog tab 1 5 := V.eqAt_int Try.underlying5 rfl
theorem eq9 : V.EqAt Try.prog tab 1 9 := V.eqAt_str Try.underlying9 rfl
theorem eq24 : V.EqAt Try.prog tab 1 24 := V.eqAt_int Try.underlying24 rfl
theorem eq37 : V.EqAt Try.prog tab 2 37 := V.eqAt_arr (f0 := 1) tabOK Try.underlying37 rfl eq5 (fun _ => rfl) (f := fun (x y : Int) => x == y) (fun _ _ => rfl) eqInts
theorem eq39 : V.EqAt Try.prog tab 3 39 := V.eqAt_struct (m := 2) tabOK Try.underlying39 rfl rfl (by kernel_rfl) (by decide) (by
  simp only [List.forall_mem_cons]
  exact ⟨V.EqAt.more (by decide) eq3, V.EqAt.more (by decide) eq3, eq37, nofun⟩)
theorem eq41 : V.EqAt Try.prog tab 2 41 := V.eqAt_struct (m := 1) tabOK Try.underlying41 rfl rfl (by kernel_rfl) (by decide) (by
  simp only [List.forall_mem_cons]
  exact ⟨eq3, eq3, nofun⟩)
theorem eq43 : V.EqAt Try.prog tab 2 43 := V.eqAt_arr (f0 := 1) tabOK Try.underlying43 rfl eq3 (fun _ => rfl) (f := fun (x y : Int) => x == y) (fun _ _ => rfl) eqInts
theorem eq52 : V.EqAt Try.prog tab 3 52 := V.eqAt_struct (m := 2) tabOK Try.underlying52 rfl rfl (by kernel_rfl) (by decide) (by
  simp only [List.forall_mem_cons]
  exact ⟨V.EqAt.more (by decide) eq3, V.EqAt.more (by decide) eq3, eq37, nofun⟩)
theorem eq60 : V.EqAt Try.prog tab 2 60 := V.eqAt_struct (m := 1) tabOK Try.underlying60 rfl rfl (by kernel_rfl) (by decide) (by
  simp only [List.forall_mem_cons]
  exact ⟨eq3, eq3, eq3, eq3, nofun⟩)
theorem eq91 : V.EqAt Try.prog tab 2 91 := V.eqAt_struct (m := 1) tabOK Try.underlying91 rfl rfl (by kernel_rfl) (by decide) (by
  simp only [List.forall_mem_cons]
  exact ⟨eq3, eq3, eq3, nofun⟩)
theorem eq96 : V.EqAt Try.prog tab 2 96 := V.eqAt_arr (f0 := 1) tabOK Try.underlying96 rfl eq3 (fun _ => rfl) (f := fun (x y : Int) => x == y) (fun _ _ => rfl) eqInts
theorem eq133 : V.EqAt Try.prog tab 3 133 := V.eqAt_struct (m := 2) tabOK Try.underlying133 rfl rfl (by kernel_rfl) (by decide) (by
  simp only [List.forall_mem_cons]
  exact ⟨eq37, V.EqAt.more (by decide) eq4, nofun⟩)
theorem eq144 : V.EqAt Try.prog tab 2 144 := V.eqAt_arr (f0 := 1) tabOK Try.underlying144 rfl eq3 (fun _ => rfl) (f := fun (x y : Int) => x == y) (fun _ _ => rfl) eqInts
theorem cmpOK : CmpOK Try.prog tab := by
  intro t h
  have hm : t ∈ [3, 4, 5, 9, 24, 37, 39, 41, 43, 52, 60, 91, 96, 133, 144] := by
    obtain ⟨u, h1, h2⟩ := List.any_eq_true.1 (show ([3, 4, 5, 9, 24, 37, 39, 41, 43, 52, 60, 91, 96, 133, 144].any fun u => u == t) = true from h)
    have : u = t := by simpa using h2
    rw [← this]; exact h1
  simp only [List.mem_cons, List.not_mem_nil, or_false] at hm
  rcases hm with h | h | h | h | h | h | h | h | h | h | h | h | h | h | h
  · subst h; exact ⟨by kernel_rfl, 1, by decide, eq3⟩
  · subst h; exact ⟨by kernel_rfl, 1, by decide, eq4⟩
  · subst h; exact ⟨by kernel_rfl, 1, by decide, eq5⟩
  · subst h; exact ⟨by kernel_rfl, 1, by decide, eq9⟩
  · subst h; exact ⟨by kernel_rfl, 1, by decide, eq24⟩
  · subst h; exact ⟨by kernel_rfl, 2, by decide, eq37⟩
  · subst h; exact ⟨by kernel_rfl, 3, by decide, eq39⟩
  · subst h; exact ⟨by kernel_rfl, 2, by decide, eq41⟩
  · subst h; exact ⟨by kernel_rfl, 2, by decide, eq43⟩
  · subst h; exact ⟨by kernel_rfl, 3, by decide, eq52⟩
  · subst h; exact ⟨by kernel_rfl, 2, by decide, eq60⟩
  · subst h; exact ⟨by kernel_rfl, 2, by decide, eq91⟩
  · subst h; exact ⟨by kernel_rfl, 2, by decide, eq96⟩
  · subst h; exact ⟨by kernel_rfl, 3, by decide, eq133⟩
  · subst h; exact ⟨by kernel_rfl, 2, by decide, eq144⟩
end Go.Proofs.Ytpnnmpdjgnbkhaa.W
