/-
  The types of the seat as Lean types, what each stands for in cells, and that the program has them so. Laid by program (mktab.py).
-/
import Derived.Test.YtpnnmpdjgnbkhaaDoorVK4
import Derived.Test.YtpnnmpdjgnbkhaaDoorProg
namespace Go.Proofs.YtpnnmpdjgnbkhaaDoor.W
open Go Go.Proofs V
/-- siltlaw07.Laid -/
structure T25 where
  Off : Int
  Bytes : List Int
  deriving DecidableEq
/-- siltref07.Change -/
structure T30 where
  Off : Int
  Bytes : List Int
  OK : Bool
  deriving DecidableEq
/-- siltref07.Got -/
structure T36 where
  P : List Int
  OK : Bool
  deriving DecidableEq
/-- api.Geom -/
structure T64 where
  Pages : Int
  Segs : Int
  SegLen : Int
  Frames : Int
  deriving DecidableEq
/-- api.Region -/
structure T67 where
  Gen : Int
  Geom : T64
  Seg : Int
  Off : Int
  Seq : Int
  Roots : List Int
  deriving DecidableEq
/-- policy.Was -/
structure T85 where
  Head : Int
  Length : Int
  Page : List Int
  deriving DecidableEq
/-- api.Mark -/
structure T87 where
  Kind : Int
  Id : Int
  deriving DecidableEq
/-- api.Block -/
structure T89 where
  Kind : Int
  Id : Int
  Page : List Int
  Off : Int
  Bytes : List Int
  Prev : Int
  Heads : List Int
  deriving DecidableEq
/-- api.Item -/
structure T91 where
  Mark : T87
  Block : T89
  deriving DecidableEq
/-- siltref03.Sizes -/
structure T106 where
  Maps : Int
  Total : Int
  Cap : Int
  deriving DecidableEq
/-- fault.fault -/
structure T125 where
  what : ByteArray
  about : GErr
  wraps : Bool
  deriving DecidableEq
/-- siltref03.Place -/
structure T136 where
  Seg : Int
  Off : Int
  OK : Bool
  deriving DecidableEq
def Ty : Nat → Type := fun t => cond (t == 3) (Int) (cond (t == 4) (Bool) (cond (t == 5) (Int) (cond (t == 9) (ByteArray) (cond (t == 23) (List Int) (cond (t == 24) (List Int) (cond (t == 26) (T25) (cond (t == 31) (T30) (cond (t == 33) (Int) (cond (t == 37) (T36) (cond (t == 44) (Int) (cond (t == 45) (List ByteArray) (cond (t == 48) (GErr) (cond (t == 58) (List Int) (cond (t == 61) (List Int) (cond (t == 63) (Int) (cond (t == 65) (T64) (cond (t == 66) (List Int) (cond (t == 68) (T67) (cond (t == 70) (List Int) (cond (t == 71) (List (List Int)) (cond (t == 83) (Int) (cond (t == 86) (T85) (cond (t == 88) (T87) (cond (t == 90) (T89) (cond (t == 92) (T91) (cond (t == 97) (List Int) (cond (t == 100) (List T89) (cond (t == 107) (T106) (cond (t == 114) (T36) (cond (t == 117) (List T89) (cond (t == 119) (List (List Int)) (cond (t == 123) (Unit) (cond (t == 124) (Unit) (cond (t == 126) (T125) (cond (t == 137) (T136) (cond (t == 143) (Unit) (cond (t == 160) (Int) (cond (t == 180) (List GErr) (Unit)))))))))))))))))))))))))))))))))))))))
def dI_i64 : Den Ty Int where
  enc := fun (x : Int) => .int .i64 x
  dec := fun v => match v with
    | .int .i64 v0 => some v0
    | _ => none
  dflt := (0 : Int)
  spec := by intro v x h; split at h <;> cases h; rfl
def dB : Den Ty Bool where
  enc := fun (x : Bool) => .bool x
  dec := fun v => match v with
    | .bool v0 => some v0
    | _ => none
  dflt := false
  spec := by intro v x h; split at h <;> cases h; rfl
def dI_u8 : Den Ty Int where
  enc := fun (x : Int) => .int .u8 x
  dec := fun v => match v with
    | .int .u8 v0 => some v0
    | _ => none
  dflt := (0 : Int)
  spec := by intro v x h; split at h <;> cases h; rfl
def dS : Den Ty ByteArray where
  enc := fun (x : ByteArray) => .str x
  dec := fun v => match v with
    | .str v0 => some v0
    | _ => none
  dflt := ByteArray.empty
  spec := by intro v x h; split at h <;> cases h; rfl
def dA32_5 : Den Ty (List Int) where
  enc := fun (x : List Int) => .arr 5 32 x
  dec := fun v => match v with
    | .arr 5 32 v0 => some v0
    | _ => none
  dflt := (List.replicate 32 (0 : Int))
  spec := by intro v x h; split at h <;> cases h; rfl
def dL5 : Den Ty (List Int) where
  enc := fun (x : List Int) => .slice 5 x
  dec := fun v => match v with
    | .slice 5 v0 => some v0
    | _ => none
  dflt := ([] : List Int)
  spec := by intro v x h; split at h <;> cases h; rfl
def dT25 : Den Ty T25 where
  enc := fun (x : T25) => .cons (.int .i64 x.Off) (.cons (.slice 5 x.Bytes) (.nil))
  dec := fun v => match v with
    | .cons (.int .i64 v0) (.cons (.slice 5 v1) (.nil)) => some (T25.mk v0 v1)
    | _ => none
  dflt := (T25.mk (0 : Int) ([] : List Int))
  spec := by intro v x h; split at h <;> cases h; rfl
def dT30 : Den Ty T30 where
  enc := fun (x : T30) => .cons (.int .i64 x.Off) (.cons (.slice 5 x.Bytes) (.cons (.bool x.OK) (.nil)))
  dec := fun v => match v with
    | .cons (.int .i64 v0) (.cons (.slice 5 v1) (.cons (.bool v2) (.nil))) => some (T30.mk v0 v1 v2)
    | _ => none
  dflt := (T30.mk (0 : Int) ([] : List Int) false)
  spec := by intro v x h; split at h <;> cases h; rfl
def dT36 : Den Ty T36 where
  enc := fun (x : T36) => .cons (.arr 5 32 x.P) (.cons (.bool x.OK) (.nil))
  dec := fun v => match v with
    | .cons (.arr 5 32 v0) (.cons (.bool v1) (.nil)) => some (T36.mk v0 v1)
    | _ => none
  dflt := (T36.mk (List.replicate 32 (0 : Int)) false)
  spec := by intro v x h; split at h <;> cases h; rfl
def dI_u16 : Den Ty Int where
  enc := fun (x : Int) => .int .u16 x
  dec := fun v => match v with
    | .int .u16 v0 => some v0
    | _ => none
  dflt := (0 : Int)
  spec := by intro v x h; split at h <;> cases h; rfl
def dL9 : Den Ty (List ByteArray) where
  enc := fun (x : List ByteArray) => .slice 9 x
  dec := fun v => match v with
    | .slice 9 v0 => some v0
    | _ => none
  dflt := ([] : List ByteArray)
  spec := by intro v x h; split at h <;> cases h; rfl
def dE : Den Ty GErr where
  enc := fun (x : GErr) => .err x
  dec := fun v => match v with
    | .err v0 => some v0
    | _ => none
  dflt := GErr.nil
  spec := by intro v x h; split at h <;> cases h; rfl
def dA2_5 : Den Ty (List Int) where
  enc := fun (x : List Int) => .arr 5 2 x
  dec := fun v => match v with
    | .arr 5 2 v0 => some v0
    | _ => none
  dflt := (List.replicate 2 (0 : Int))
  spec := by intro v x h; split at h <;> cases h; rfl
def dA2_44 : Den Ty (List Int) where
  enc := fun (x : List Int) => .arr 44 2 x
  dec := fun v => match v with
    | .arr 44 2 v0 => some v0
    | _ => none
  dflt := (List.replicate 2 (0 : Int))
  spec := by intro v x h; split at h <;> cases h; rfl
def dI_u32 : Den Ty Int where
  enc := fun (x : Int) => .int .u32 x
  dec := fun v => match v with
    | .int .u32 v0 => some v0
    | _ => none
  dflt := (0 : Int)
  spec := by intro v x h; split at h <;> cases h; rfl
def dT64 : Den Ty T64 where
  enc := fun (x : T64) => .cons (.int .i64 x.Pages) (.cons (.int .i64 x.Segs) (.cons (.int .i64 x.SegLen) (.cons (.int .i64 x.Frames) (.nil))))
  dec := fun v => match v with
    | .cons (.int .i64 v0) (.cons (.int .i64 v1) (.cons (.int .i64 v2) (.cons (.int .i64 v3) (.nil)))) => some (T64.mk v0 v1 v2 v3)
    | _ => none
  dflt := (T64.mk (0 : Int) (0 : Int) (0 : Int) (0 : Int))
  spec := by intro v x h; split at h <;> cases h; rfl
def dA8_3 : Den Ty (List Int) where
  enc := fun (x : List Int) => .arr 3 8 x
  dec := fun v => match v with
    | .arr 3 8 v0 => some v0
    | _ => none
  dflt := (List.replicate 8 (0 : Int))
  spec := by intro v x h; split at h <;> cases h; rfl
def dT67 : Den Ty T67 where
  enc := fun (x : T67) => .cons (.int .u32 x.Gen) (.cons (.cons (.int .i64 x.Geom.Pages) (.cons (.int .i64 x.Geom.Segs) (.cons (.int .i64 x.Geom.SegLen) (.cons (.int .i64 x.Geom.Frames) (.nil))))) (.cons (.int .i64 x.Seg) (.cons (.int .i64 x.Off) (.cons (.int .u32 x.Seq) (.cons (.arr 3 8 x.Roots) (.nil))))))
  dec := fun v => match v with
    | .cons (.int .u32 v0) (.cons (.cons (.int .i64 v1) (.cons (.int .i64 v2) (.cons (.int .i64 v3) (.cons (.int .i64 v4) (.nil))))) (.cons (.int .i64 v5) (.cons (.int .i64 v6) (.cons (.int .u32 v7) (.cons (.arr 3 8 v8) (.nil)))))) => some (T67.mk v0 (T64.mk v1 v2 v3 v4) v5 v6 v7 v8)
    | _ => none
  dflt := (T67.mk (0 : Int) (T64.mk (0 : Int) (0 : Int) (0 : Int) (0 : Int)) (0 : Int) (0 : Int) (0 : Int) (List.replicate 8 (0 : Int)))
  spec := by intro v x h; split at h <;> cases h; rfl
def dA64_5 : Den Ty (List Int) where
  enc := fun (x : List Int) => .arr 5 64 x
  dec := fun v => match v with
    | .arr 5 64 v0 => some v0
    | _ => none
  dflt := (List.replicate 64 (0 : Int))
  spec := by intro v x h; split at h <;> cases h; rfl
def dA2_70 : Den Ty (List (List Int)) where
  enc := fun (x : List (List Int)) => .arr 70 2 x
  dec := fun v => match v with
    | .arr 70 2 v0 => some v0
    | _ => none
  dflt := (List.replicate 2 (List.replicate 64 (0 : Int)))
  spec := by intro v x h; split at h <;> cases h; rfl
def dI_u64 : Den Ty Int where
  enc := fun (x : Int) => .int .u64 x
  dec := fun v => match v with
    | .int .u64 v0 => some v0
    | _ => none
  dflt := (0 : Int)
  spec := by intro v x h; split at h <;> cases h; rfl
def dT85 : Den Ty T85 where
  enc := fun (x : T85) => .cons (.int .i64 x.Head) (.cons (.int .i64 x.Length) (.cons (.arr 5 32 x.Page) (.nil)))
  dec := fun v => match v with
    | .cons (.int .i64 v0) (.cons (.int .i64 v1) (.cons (.arr 5 32 v2) (.nil))) => some (T85.mk v0 v1 v2)
    | _ => none
  dflt := (T85.mk (0 : Int) (0 : Int) (List.replicate 32 (0 : Int)))
  spec := by intro v x h; split at h <;> cases h; rfl
def dT87 : Den Ty T87 where
  enc := fun (x : T87) => .cons (.int .i64 x.Kind) (.cons (.int .i64 x.Id) (.nil))
  dec := fun v => match v with
    | .cons (.int .i64 v0) (.cons (.int .i64 v1) (.nil)) => some (T87.mk v0 v1)
    | _ => none
  dflt := (T87.mk (0 : Int) (0 : Int))
  spec := by intro v x h; split at h <;> cases h; rfl
def dT89 : Den Ty T89 where
  enc := fun (x : T89) => .cons (.int .i64 x.Kind) (.cons (.int .i64 x.Id) (.cons (.arr 5 32 x.Page) (.cons (.int .i64 x.Off) (.cons (.slice 5 x.Bytes) (.cons (.int .i64 x.Prev) (.cons (.arr 3 8 x.Heads) (.nil)))))))
  dec := fun v => match v with
    | .cons (.int .i64 v0) (.cons (.int .i64 v1) (.cons (.arr 5 32 v2) (.cons (.int .i64 v3) (.cons (.slice 5 v4) (.cons (.int .i64 v5) (.cons (.arr 3 8 v6) (.nil))))))) => some (T89.mk v0 v1 v2 v3 v4 v5 v6)
    | _ => none
  dflt := (T89.mk (0 : Int) (0 : Int) (List.replicate 32 (0 : Int)) (0 : Int) ([] : List Int) (0 : Int) (List.replicate 8 (0 : Int)))
  spec := by intro v x h; split at h <;> cases h; rfl
def dT91 : Den Ty T91 where
  enc := fun (x : T91) => .cons (.cons (.int .i64 x.Mark.Kind) (.cons (.int .i64 x.Mark.Id) (.nil))) (.cons (.cons (.int .i64 x.Block.Kind) (.cons (.int .i64 x.Block.Id) (.cons (.arr 5 32 x.Block.Page) (.cons (.int .i64 x.Block.Off) (.cons (.slice 5 x.Block.Bytes) (.cons (.int .i64 x.Block.Prev) (.cons (.arr 3 8 x.Block.Heads) (.nil)))))))) (.nil))
  dec := fun v => match v with
    | .cons (.cons (.int .i64 v0) (.cons (.int .i64 v1) (.nil))) (.cons (.cons (.int .i64 v2) (.cons (.int .i64 v3) (.cons (.arr 5 32 v4) (.cons (.int .i64 v5) (.cons (.slice 5 v6) (.cons (.int .i64 v7) (.cons (.arr 3 8 v8) (.nil)))))))) (.nil)) => some (T91.mk (T87.mk v0 v1) (T89.mk v2 v3 v4 v5 v6 v7 v8))
    | _ => none
  dflt := (T91.mk (T87.mk (0 : Int) (0 : Int)) (T89.mk (0 : Int) (0 : Int) (List.replicate 32 (0 : Int)) (0 : Int) ([] : List Int) (0 : Int) (List.replicate 8 (0 : Int))))
  spec := by intro v x h; split at h <;> cases h; rfl
def dL3 : Den Ty (List Int) where
  enc := fun (x : List Int) => .slice 3 x
  dec := fun v => match v with
    | .slice 3 v0 => some v0
    | _ => none
  dflt := ([] : List Int)
  spec := by intro v x h; split at h <;> cases h; rfl
def dL90 : Den Ty (List T89) where
  enc := fun (x : List T89) => .slice 90 x
  dec := fun v => match v with
    | .slice 90 v0 => some v0
    | _ => none
  dflt := ([] : List T89)
  spec := by intro v x h; split at h <;> cases h; rfl
def dT106 : Den Ty T106 where
  enc := fun (x : T106) => .cons (.int .i64 x.Maps) (.cons (.int .i64 x.Total) (.cons (.int .i64 x.Cap) (.nil)))
  dec := fun v => match v with
    | .cons (.int .i64 v0) (.cons (.int .i64 v1) (.cons (.int .i64 v2) (.nil))) => some (T106.mk v0 v1 v2)
    | _ => none
  dflt := (T106.mk (0 : Int) (0 : Int) (0 : Int))
  spec := by intro v x h; split at h <;> cases h; rfl
def dA2_90 : Den Ty (List T89) where
  enc := fun (x : List T89) => .arr 90 2 x
  dec := fun v => match v with
    | .arr 90 2 v0 => some v0
    | _ => none
  dflt := (List.replicate 2 (T89.mk (0 : Int) (0 : Int) (List.replicate 32 (0 : Int)) (0 : Int) ([] : List Int) (0 : Int) (List.replicate 8 (0 : Int))))
  spec := by intro v x h; split at h <;> cases h; rfl
def dL58 : Den Ty (List (List Int)) where
  enc := fun (x : List (List Int)) => .slice 58 x
  dec := fun v => match v with
    | .slice 58 v0 => some v0
    | _ => none
  dflt := ([] : List (List Int))
  spec := by intro v x h; split at h <;> cases h; rfl
def dT125 : Den Ty T125 where
  enc := fun (x : T125) => .cons (.str x.what) (.cons (.err x.about) (.cons (.bool x.wraps) (.nil)))
  dec := fun v => match v with
    | .cons (.str v0) (.cons (.err v1) (.cons (.bool v2) (.nil))) => some (T125.mk v0 v1 v2)
    | _ => none
  dflt := (T125.mk ByteArray.empty GErr.nil false)
  spec := by intro v x h; split at h <;> cases h; rfl
def dT136 : Den Ty T136 where
  enc := fun (x : T136) => .cons (.int .i64 x.Seg) (.cons (.int .i64 x.Off) (.cons (.bool x.OK) (.nil)))
  dec := fun v => match v with
    | .cons (.int .i64 v0) (.cons (.int .i64 v1) (.cons (.bool v2) (.nil))) => some (T136.mk v0 v1 v2)
    | _ => none
  dflt := (T136.mk (0 : Int) (0 : Int) false)
  spec := by intro v x h; split at h <;> cases h; rfl
def dF78 : Den Ty Unit where
  enc := fun (x : Unit) => .func 78
  dec := fun v => match v with
    | .func 78 => some ()
    | _ => none
  dflt := ()
  spec := by intro v x h; split at h <;> cases h; rfl
def dL48 : Den Ty (List GErr) where
  enc := fun (x : List GErr) => .slice 48 x
  dec := fun v => match v with
    | .slice 48 v0 => some v0
    | _ => none
  dflt := ([] : List GErr)
  spec := by intro v x h; split at h <;> cases h; rfl
def den : (t : Nat) → Den Ty (Ty t) := fun t => pickDen (t == 3) dI_i64 (pickDen (t == 4) dB (pickDen (t == 5) dI_u8 (pickDen (t == 9) dS (pickDen (t == 23) dA32_5 (pickDen (t == 24) dL5 (pickDen (t == 26) dT25 (pickDen (t == 31) dT30 (pickDen (t == 33) dI_i64 (pickDen (t == 37) dT36 (pickDen (t == 44) dI_u16 (pickDen (t == 45) dL9 (pickDen (t == 48) dE (pickDen (t == 58) dA2_5 (pickDen (t == 61) dA2_44 (pickDen (t == 63) dI_u32 (pickDen (t == 65) dT64 (pickDen (t == 66) dA8_3 (pickDen (t == 68) dT67 (pickDen (t == 70) dA64_5 (pickDen (t == 71) dA2_70 (pickDen (t == 83) dI_u64 (pickDen (t == 86) dT85 (pickDen (t == 88) dT87 (pickDen (t == 90) dT89 (pickDen (t == 92) dT91 (pickDen (t == 97) dL3 (pickDen (t == 100) dL90 (pickDen (t == 107) dT106 (pickDen (t == 114) dT36 (pickDen (t == 117) dA2_90 (pickDen (t == 119) dL58 (pickDen (t == 123) ptrDen (pickDen (t == 124) ptrDen (pickDen (t == 126) dT125 (pickDen (t == 137) dT136 (pickDen (t == 143) dF78 (pickDen (t == 160) dI_u8 (pickDen (t == 180) dL48 (unitDen)))))))))))))))))))))))))))))))))))))))
def info : List (Nat × TI) := [(3, ⟨.int .i64, 1, 8⟩), (4, ⟨.bool, 1, 1⟩), (5, ⟨.int .u8, 1, 1⟩), (9, ⟨.str, 1, 16⟩), (23, ⟨.arr 32 5, 32, 32⟩), (24, ⟨.slice 5, 1, 24⟩), (26, ⟨.struct [(3, 0), (24, 1)], 2, 32⟩), (31, ⟨.struct [(3, 0), (24, 1), (4, 2)], 3, 40⟩), (33, ⟨.int .i64, 1, 8⟩), (37, ⟨.struct [(23, 0), (4, 32)], 33, 33⟩), (44, ⟨.int .u16, 1, 2⟩), (45, ⟨.slice 9, 1, 24⟩), (48, ⟨.iface, 1, 16⟩), (58, ⟨.arr 2 5, 2, 2⟩), (61, ⟨.arr 2 44, 2, 4⟩), (63, ⟨.int .u32, 1, 4⟩), (65, ⟨.struct [(3, 0), (3, 1), (3, 2), (3, 3)], 4, 32⟩), (66, ⟨.arr 8 3, 8, 64⟩), (68, ⟨.struct [(63, 0), (65, 1), (3, 5), (3, 6), (63, 7), (66, 8)], 16, 128⟩), (70, ⟨.arr 64 5, 64, 64⟩), (71, ⟨.arr 2 70, 128, 128⟩), (83, ⟨.int .u64, 1, 8⟩), (86, ⟨.struct [(3, 0), (3, 1), (23, 2)], 34, 48⟩), (88, ⟨.struct [(3, 0), (3, 1)], 2, 16⟩), (90, ⟨.struct [(3, 0), (3, 1), (23, 2), (3, 34), (24, 35), (3, 36), (66, 37)], 45, 152⟩), (92, ⟨.struct [(88, 0), (90, 2)], 47, 168⟩), (97, ⟨.slice 3, 1, 24⟩), (100, ⟨.slice 90, 1, 24⟩), (107, ⟨.struct [(3, 0), (3, 1), (3, 2)], 3, 24⟩), (114, ⟨.struct [(23, 0), (4, 32)], 33, 33⟩), (117, ⟨.arr 2 90, 90, 304⟩), (119, ⟨.slice 58, 1, 24⟩), (123, ⟨.ptr 33, 1, 8⟩), (124, ⟨.ptr 126, 1, 8⟩), (126, ⟨.struct [(9, 0), (48, 1), (4, 2)], 3, 40⟩), (137, ⟨.struct [(3, 0), (3, 1), (4, 2)], 3, 24⟩), (160, ⟨.int .u8, 1, 1⟩), (180, ⟨.slice 48, 1, 24⟩)]
def isOf (l : List Nat) (t : Nat) : Bool := l.any fun u => u == t
def eqL1 {α β : Type} (b : Bool) (f : List α → List α → Bool) (g : List β → List β → Bool) : List (cond b α β) → List (cond b α β) → Bool :=
  match b with
  | true => f
  | false => g
def eqL : (t : Nat) → List (Ty t) → List (Ty t) → Bool := fun t => eqL1 (t == 3) (fun (xs ys : List Int) => decide (xs = ys)) (eqL1 (t == 4) (fun _ _ => false) (eqL1 (t == 5) (fun (xs ys : List Int) => decide (xs = ys)) (eqL1 (t == 9) (fun _ _ => false) (eqL1 (t == 23) (fun _ _ => false) (eqL1 (t == 24) (fun _ _ => false) (eqL1 (t == 26) (fun _ _ => false) (eqL1 (t == 31) (fun _ _ => false) (eqL1 (t == 33) (fun _ _ => false) (eqL1 (t == 37) (fun _ _ => false) (eqL1 (t == 44) (fun (xs ys : List Int) => decide (xs = ys)) (eqL1 (t == 45) (fun _ _ => false) (eqL1 (t == 48) (fun _ _ => false) (eqL1 (t == 58) (fun _ _ => false) (eqL1 (t == 61) (fun _ _ => false) (eqL1 (t == 63) (fun _ _ => false) (eqL1 (t == 65) (fun _ _ => false) (eqL1 (t == 66) (fun _ _ => false) (eqL1 (t == 68) (fun _ _ => false) (eqL1 (t == 70) (fun (xs ys : List (List Int)) => decide (xs = ys)) (eqL1 (t == 71) (fun _ _ => false) (eqL1 (t == 83) (fun _ _ => false) (eqL1 (t == 86) (fun _ _ => false) (eqL1 (t == 88) (fun _ _ => false) (eqL1 (t == 90) (fun _ _ => false) (eqL1 (t == 92) (fun _ _ => false) (eqL1 (t == 97) (fun _ _ => false) (eqL1 (t == 100) (fun _ _ => false) (eqL1 (t == 107) (fun _ _ => false) (eqL1 (t == 114) (fun _ _ => false) (eqL1 (t == 117) (fun _ _ => false) (eqL1 (t == 119) (fun _ _ => false) (eqL1 (t == 123) (fun _ _ => false) (eqL1 (t == 124) (fun _ _ => false) (eqL1 (t == 126) (fun _ _ => false) (eqL1 (t == 137) (fun _ _ => false) (eqL1 (t == 143) (fun _ _ => false) (eqL1 (t == 160) (fun _ _ => false) (eqL1 (t == 180) (fun _ _ => false) (fun _ _ => false)))))))))))))))))))))))))))))))))))))))
def tab : Tab Ty := { den, flatTy := isOf [3, 4, 5, 9, 23, 33, 37, 44, 58, 61, 63, 65, 66, 68, 70, 71, 83, 86, 88, 107, 114, 137, 160], eqOk := isOf [3, 5, 44, 70], cmp := isOf [3, 4, 5, 9, 23, 33, 37, 44, 58, 61, 63, 65, 66, 68, 70, 71, 83, 86, 88, 107, 114, 137, 160], eqL, errnoTy := 33, faultTy := 124, asOn := true, asFn := 59, errnoPtr := 123, globs := [(0, .iface 170 (.agg #[.pointer (some ⟨1, 48, none⟩)]))], info }
theorem ent3 : EntOK tab 3 Int dI_i64 := ⟨fun _ => rfl, fun _ _ => rfl, fun _ => rfl, fun _ => rfl, fun _ _ => rfl, fun _ h => (by cases h)⟩
theorem ent4 : EntOK tab 4 Bool dB := ⟨fun _ => rfl, fun _ _ => rfl, fun _ => rfl, fun _ => rfl, fun _ _ => rfl, fun _ h => (by cases h)⟩
theorem ent5 : EntOK tab 5 Int dI_u8 := ⟨fun _ => rfl, fun _ _ => rfl, fun _ => rfl, fun _ => rfl, fun _ _ => rfl, fun x _ => ⟨x, rfl⟩⟩
theorem ent9 : EntOK tab 9 ByteArray dS := ⟨fun _ => rfl, fun _ _ => rfl, fun _ => rfl, fun _ => rfl, fun _ _ => rfl, fun _ h => (by cases h)⟩
theorem ent23 : EntOK tab 23 (List Int) dA32_5 := ⟨fun _ => rfl, fun _ _ => rfl, fun _ => rfl, fun _ => rfl, fun _ _ => rfl, fun _ h => (by cases h)⟩
theorem ent24 : EntOK tab 24 (List Int) dL5 := ⟨fun _ => rfl, fun _ _ => rfl, fun _ => rfl, fun _ => rfl, fun _ h => (by cases h), fun _ h => (by cases h)⟩
theorem ent26 : EntOK tab 26 T25 dT25 := ⟨fun _ => rfl, fun _ _ => rfl, fun _ => rfl, fun _ => rfl, fun _ h => (by cases h), fun _ h => (by cases h)⟩
theorem ent31 : EntOK tab 31 T30 dT30 := ⟨fun _ => rfl, fun _ _ => rfl, fun _ => rfl, fun _ => rfl, fun _ h => (by cases h), fun _ h => (by cases h)⟩
theorem ent33 : EntOK tab 33 Int dI_i64 := ⟨fun _ => rfl, fun _ _ => rfl, fun _ => rfl, fun _ => rfl, fun _ _ => rfl, fun _ h => (by cases h)⟩
theorem ent37 : EntOK tab 37 T36 dT36 := ⟨fun _ => rfl, fun _ _ => rfl, fun _ => rfl, fun _ => rfl, fun _ _ => rfl, fun _ h => (by cases h)⟩
theorem ent44 : EntOK tab 44 Int dI_u16 := ⟨fun _ => rfl, fun _ _ => rfl, fun _ => rfl, fun _ => rfl, fun _ _ => rfl, fun _ h => (by cases h)⟩
theorem ent45 : EntOK tab 45 (List ByteArray) dL9 := ⟨fun _ => rfl, fun _ _ => rfl, fun _ => rfl, fun _ => rfl, fun _ h => (by cases h), fun _ h => (by cases h)⟩
theorem ent48 : EntOK tab 48 GErr dE := ⟨fun _ => rfl, fun _ _ => rfl, fun _ => rfl, fun _ => rfl, fun _ h => (by cases h), fun _ h => (by cases h)⟩
theorem ent58 : EntOK tab 58 (List Int) dA2_5 := ⟨fun _ => rfl, fun _ _ => rfl, fun _ => rfl, fun _ => rfl, fun _ _ => rfl, fun _ h => (by cases h)⟩
theorem ent61 : EntOK tab 61 (List Int) dA2_44 := ⟨fun _ => rfl, fun _ _ => rfl, fun _ => rfl, fun _ => rfl, fun _ _ => rfl, fun _ h => (by cases h)⟩
theorem ent63 : EntOK tab 63 Int dI_u32 := ⟨fun _ => rfl, fun _ _ => rfl, fun _ => rfl, fun _ => rfl, fun _ _ => rfl, fun _ h => (by cases h)⟩
theorem ent65 : EntOK tab 65 T64 dT64 := ⟨fun _ => rfl, fun _ _ => rfl, fun _ => rfl, fun _ => rfl, fun _ _ => rfl, fun _ h => (by cases h)⟩
theorem ent66 : EntOK tab 66 (List Int) dA8_3 := ⟨fun _ => rfl, fun _ _ => rfl, fun _ => rfl, fun _ => rfl, fun _ _ => rfl, fun _ h => (by cases h)⟩
theorem ent68 : EntOK tab 68 T67 dT67 := ⟨fun _ => rfl, fun _ _ => rfl, fun _ => rfl, fun _ => rfl, fun _ _ => rfl, fun _ h => (by cases h)⟩
theorem ent70 : EntOK tab 70 (List Int) dA64_5 := ⟨fun _ => rfl, fun _ _ => rfl, fun _ => rfl, fun _ => rfl, fun _ _ => rfl, fun _ h => (by cases h)⟩
theorem ent71 : EntOK tab 71 (List (List Int)) dA2_70 := ⟨fun _ => rfl, fun _ _ => rfl, fun _ => rfl, fun _ => rfl, fun _ _ => rfl, fun _ h => (by cases h)⟩
theorem ent83 : EntOK tab 83 Int dI_u64 := ⟨fun _ => rfl, fun _ _ => rfl, fun _ => rfl, fun _ => rfl, fun _ _ => rfl, fun _ h => (by cases h)⟩
theorem ent86 : EntOK tab 86 T85 dT85 := ⟨fun _ => rfl, fun _ _ => rfl, fun _ => rfl, fun _ => rfl, fun _ _ => rfl, fun _ h => (by cases h)⟩
theorem ent88 : EntOK tab 88 T87 dT87 := ⟨fun _ => rfl, fun _ _ => rfl, fun _ => rfl, fun _ => rfl, fun _ _ => rfl, fun _ h => (by cases h)⟩
theorem ent90 : EntOK tab 90 T89 dT89 := ⟨fun _ => rfl, fun _ _ => rfl, fun _ => rfl, fun _ => rfl, fun _ h => (by cases h), fun _ h => (by cases h)⟩
theorem ent92 : EntOK tab 92 T91 dT91 := ⟨fun _ => rfl, fun _ _ => rfl, fun _ => rfl, fun _ => rfl, fun _ h => (by cases h), fun _ h => (by cases h)⟩
theorem ent97 : EntOK tab 97 (List Int) dL3 := ⟨fun _ => rfl, fun _ _ => rfl, fun _ => rfl, fun _ => rfl, fun _ h => (by cases h), fun _ h => (by cases h)⟩
theorem ent100 : EntOK tab 100 (List T89) dL90 := ⟨fun _ => rfl, fun _ _ => rfl, fun _ => rfl, fun _ => rfl, fun _ h => (by cases h), fun _ h => (by cases h)⟩
theorem ent107 : EntOK tab 107 T106 dT106 := ⟨fun _ => rfl, fun _ _ => rfl, fun _ => rfl, fun _ => rfl, fun _ _ => rfl, fun _ h => (by cases h)⟩
theorem ent114 : EntOK tab 114 T36 dT36 := ⟨fun _ => rfl, fun _ _ => rfl, fun _ => rfl, fun _ => rfl, fun _ _ => rfl, fun _ h => (by cases h)⟩
theorem ent117 : EntOK tab 117 (List T89) dA2_90 := ⟨fun _ => rfl, fun _ _ => rfl, fun _ => rfl, fun _ => rfl, fun _ h => (by cases h), fun _ h => (by cases h)⟩
theorem ent119 : EntOK tab 119 (List (List Int)) dL58 := ⟨fun _ => rfl, fun _ _ => rfl, fun _ => rfl, fun _ => rfl, fun _ h => (by cases h), fun _ h => (by cases h)⟩
theorem ent123 : EntOK tab 123 Unit ptrDen := ⟨fun _ => rfl, fun _ _ => rfl, fun _ => rfl, fun _ => rfl, fun _ h => (by cases h), fun _ h => (by cases h)⟩
theorem ent124 : EntOK tab 124 Unit ptrDen := ⟨fun _ => rfl, fun _ _ => rfl, fun _ => rfl, fun _ => rfl, fun _ h => (by cases h), fun _ h => (by cases h)⟩
theorem ent126 : EntOK tab 126 T125 dT125 := ⟨fun _ => rfl, fun _ _ => rfl, fun _ => rfl, fun _ => rfl, fun _ h => (by cases h), fun _ h => (by cases h)⟩
theorem ent137 : EntOK tab 137 T136 dT136 := ⟨fun _ => rfl, fun _ _ => rfl, fun _ => rfl, fun _ => rfl, fun _ _ => rfl, fun _ h => (by cases h)⟩
theorem ent143 : EntOK tab 143 Unit dF78 := ⟨fun _ => rfl, fun _ _ => rfl, fun _ => rfl, fun _ => rfl, fun _ h => (by cases h), fun _ h => (by cases h)⟩
theorem ent160 : EntOK tab 160 Int dI_u8 := ⟨fun _ => rfl, fun _ _ => rfl, fun _ => rfl, fun _ => rfl, fun _ _ => rfl, fun x _ => ⟨x, rfl⟩⟩
theorem ent180 : EntOK tab 180 (List GErr) dL48 := ⟨fun _ => rfl, fun _ _ => rfl, fun _ => rfl, fun _ => rfl, fun _ h => (by cases h), fun _ h => (by cases h)⟩
theorem ent (t : Nat) : EntOK tab t (Ty t) (tab.den t) := by
  show EntOK tab t (Ty t) (den t)
  unfold den Ty
  by_cases hall : t ∈ [3, 4, 5, 9, 23, 24, 26, 31, 33, 37, 44, 45, 48, 58, 61, 63, 65, 66, 68, 70, 71, 83, 86, 88, 90, 92, 97, 100, 107, 114, 117, 119, 123, 124, 126, 137, 143, 160, 180]
  · simp only [List.mem_cons, List.not_mem_nil, or_false] at hall
    rcases hall with h | h | h | h | h | h | h | h | h | h | h | h | h | h | h | h | h | h | h | h | h | h | h | h | h | h | h | h | h | h | h | h | h | h | h | h | h | h | h
    · subst h; exact ent3
    · subst h; exact ent4
    · subst h; exact ent5
    · subst h; exact ent9
    · subst h; exact ent23
    · subst h; exact ent24
    · subst h; exact ent26
    · subst h; exact ent31
    · subst h; exact ent33
    · subst h; exact ent37
    · subst h; exact ent44
    · subst h; exact ent45
    · subst h; exact ent48
    · subst h; exact ent58
    · subst h; exact ent61
    · subst h; exact ent63
    · subst h; exact ent65
    · subst h; exact ent66
    · subst h; exact ent68
    · subst h; exact ent70
    · subst h; exact ent71
    · subst h; exact ent83
    · subst h; exact ent86
    · subst h; exact ent88
    · subst h; exact ent90
    · subst h; exact ent92
    · subst h; exact ent97
    · subst h; exact ent100
    · subst h; exact ent107
    · subst h; exact ent114
    · subst h; exact ent117
    · subst h; exact ent119
    · subst h; exact ent123
    · subst h; exact ent124
    · subst h; exact ent126
    · subst h; exact ent137
    · subst h; exact ent143
    · subst h; exact ent160
    · subst h; exact ent180
  · have hf : ∀ u ∈ [3, 4, 5, 9, 23, 24, 26, 31, 33, 37, 44, 45, 48, 58, 61, 63, 65, 66, 68, 70, 71, 83, 86, 88, 90, 92, 97, 100, 107, 114, 117, 119, 123, 124, 126, 137, 143, 160, 180], (t == u) = false := fun u hu => by simp only [beq_eq_false_iff_ne]; intro e; subst e; exact hall hu
    have hi : infoAt t info = ⟨.other, 1, 8⟩ := by
      rcases infoAt_spec info t with ⟨p, h1, h2, _⟩ | h
      · exfalso; apply hall; rw [← h2]; have : ∀ q ∈ info, q.1 ∈ [3, 4, 5, 9, 23, 24, 26, 31, 33, 37, 44, 45, 48, 58, 61, 63, 65, 66, 68, 70, 71, 83, 86, 88, 90, 92, 97, 100, 107, 114, 117, 119, 123, 124, 126, 137, 143, 160, 180] := by decide
        exact this p h1
      · exact h
    have hs : tab.size t = 1 := by unfold Tab.size; show (infoAt t info).size = 1; rw [hi]
    have hk : tab.td t = .other := by unfold Tab.td; show (infoAt t info).td = .other; rw [hi]
    have hu : EntOK tab t Unit unitDen := ⟨fun _ => (by rw [hs]; rfl), fun _ h => (by rw [hk] at h; cases h), fun _ => rfl, fun _ => rfl, fun _ _ => rfl, fun _ h => (by rw [hk] at h; cases h)⟩
    have hQ : ∀ (u : Nat) (_ : u ∈ [3, 4, 5, 9, 23, 24, 26, 31, 33, 37, 44, 45, 48, 58, 61, 63, 65, 66, 68, 70, 71, 83, 86, 88, 90, 92, 97, 100, 107, 114, 117, 119, 123, 124, 126, 137, 143, 160, 180]) {α β : Type} {x : Den Ty α} {y : Den Ty β}, EntOK tab t β y → EntOK tab t (cond (t == u) α β) (pickDen (t == u) x y) := fun u h α β x y hy => pick_all (Q := EntOK tab t) (fun e => by rw [hf u h] at e; cases e) fun _ => hy
    exact hQ 3 (by decide) (hQ 4 (by decide) (hQ 5 (by decide) (hQ 9 (by decide) (hQ 23 (by decide) (hQ 24 (by decide) (hQ 26 (by decide) (hQ 31 (by decide) (hQ 33 (by decide) (hQ 37 (by decide) (hQ 44 (by decide) (hQ 45 (by decide) (hQ 48 (by decide) (hQ 58 (by decide) (hQ 61 (by decide) (hQ 63 (by decide) (hQ 65 (by decide) (hQ 66 (by decide) (hQ 68 (by decide) (hQ 70 (by decide) (hQ 71 (by decide) (hQ 83 (by decide) (hQ 86 (by decide) (hQ 88 (by decide) (hQ 90 (by decide) (hQ 92 (by decide) (hQ 97 (by decide) (hQ 100 (by decide) (hQ 107 (by decide) (hQ 114 (by decide) (hQ 117 (by decide) (hQ 119 (by decide) (hQ 123 (by decide) (hQ 124 (by decide) (hQ 126 (by decide) (hQ 137 (by decide) (hQ 143 (by decide) (hQ 160 (by decide) (hQ 180 (by decide) (hu)))))))))))))))))))))))))))))))))))))))
theorem tabOK : TabOK Tryd.prog tab := TabOK.of (by kernel_rfl) ent (by kernel_rfl)
theorem eq3 : V.EqAt Tryd.prog tab 1 3 := V.eqAt_int Tryd.underlying3 rfl
theorem eq4 : V.EqAt Tryd.prog tab 1 4 := V.eqAt_bool Tryd.underlying4 rfl
theorem eq5 : V.EqAt Tryd.prog tab 1 5 := V.eqAt_int Tryd.underlying5 rfl
theorem eq9 : V.EqAt Tryd.prog tab 1 9 := V.eqAt_str Tryd.underlying9 rfl
theorem eq23 : V.EqAt Tryd.prog tab 2 23 := V.eqAt_arr (f0 := 1) tabOK Tryd.underlying23 rfl eq5 (fun _ => rfl) (f := fun (x y : Int) => x == y) (fun _ _ => rfl) eqInts
theorem eq33 : V.EqAt Tryd.prog tab 1 33 := V.eqAt_int Tryd.underlying33 rfl
theorem eq37 : V.EqAt Tryd.prog tab 3 37 := V.eqAt_struct (m := 2) tabOK Tryd.underlying37 rfl rfl (by kernel_rfl) (by decide) (by
  simp only [List.forall_mem_cons]
  exact ⟨eq23, V.EqAt.more (by decide) eq4, nofun⟩)
theorem eq44 : V.EqAt Tryd.prog tab 1 44 := V.eqAt_int Tryd.underlying44 rfl
theorem eq58 : V.EqAt Tryd.prog tab 2 58 := V.eqAt_arr (f0 := 1) tabOK Tryd.underlying58 rfl eq5 (fun _ => rfl) (f := fun (x y : Int) => x == y) (fun _ _ => rfl) eqInts
theorem eq61 : V.EqAt Tryd.prog tab 2 61 := V.eqAt_arr (f0 := 1) tabOK Tryd.underlying61 rfl eq44 (fun _ => rfl) (f := fun (x y : Int) => x == y) (fun _ _ => rfl) eqInts
theorem eq63 : V.EqAt Tryd.prog tab 1 63 := V.eqAt_int Tryd.underlying63 rfl
theorem eq65 : V.EqAt Tryd.prog tab 2 65 := V.eqAt_struct (m := 1) tabOK Tryd.underlying65 rfl rfl (by kernel_rfl) (by decide) (by
  simp only [List.forall_mem_cons]
  exact ⟨eq3, eq3, eq3, eq3, nofun⟩)
theorem eq66 : V.EqAt Tryd.prog tab 2 66 := V.eqAt_arr (f0 := 1) tabOK Tryd.underlying66 rfl eq3 (fun _ => rfl) (f := fun (x y : Int) => x == y) (fun _ _ => rfl) eqInts
theorem eq68 : V.EqAt Tryd.prog tab 3 68 := V.eqAt_struct (m := 2) tabOK Tryd.underlying68 rfl rfl (by kernel_rfl) (by decide) (by
  simp only [List.forall_mem_cons]
  exact ⟨V.EqAt.more (by decide) eq63, eq65, V.EqAt.more (by decide) eq3, V.EqAt.more (by decide) eq3, V.EqAt.more (by decide) eq63, eq66, nofun⟩)
theorem eq70 : V.EqAt Tryd.prog tab 2 70 := V.eqAt_arr (f0 := 1) tabOK Tryd.underlying70 rfl eq5 (fun _ => rfl) (f := fun (x y : Int) => x == y) (fun _ _ => rfl) eqInts
theorem eq71 : V.EqAt Tryd.prog tab 3 71 := V.eqAt_arr (f0 := 2) tabOK Tryd.underlying71 rfl eq70 (fun _ => rfl) (f := fun (x y : List Int) => decide (x = y)) (fun _ _ => rfl) eqLists
theorem eq83 : V.EqAt Tryd.prog tab 1 83 := V.eqAt_int Tryd.underlying83 rfl
theorem eq86 : V.EqAt Tryd.prog tab 3 86 := V.eqAt_struct (m := 2) tabOK Tryd.underlying86 rfl rfl (by kernel_rfl) (by decide) (by
  simp only [List.forall_mem_cons]
  exact ⟨V.EqAt.more (by decide) eq3, V.EqAt.more (by decide) eq3, eq23, nofun⟩)
theorem eq88 : V.EqAt Tryd.prog tab 2 88 := V.eqAt_struct (m := 1) tabOK Tryd.underlying88 rfl rfl (by kernel_rfl) (by decide) (by
  simp only [List.forall_mem_cons]
  exact ⟨eq3, eq3, nofun⟩)
theorem eq107 : V.EqAt Tryd.prog tab 2 107 := V.eqAt_struct (m := 1) tabOK Tryd.underlying107 rfl rfl (by kernel_rfl) (by decide) (by
  simp only [List.forall_mem_cons]
  exact ⟨eq3, eq3, eq3, nofun⟩)
theorem eq114 : V.EqAt Tryd.prog tab 3 114 := V.eqAt_struct (m := 2) tabOK Tryd.underlying114 rfl rfl (by kernel_rfl) (by decide) (by
  simp only [List.forall_mem_cons]
  exact ⟨eq23, V.EqAt.more (by decide) eq4, nofun⟩)
theorem eq137 : V.EqAt Tryd.prog tab 2 137 := V.eqAt_struct (m := 1) tabOK Tryd.underlying137 rfl rfl (by kernel_rfl) (by decide) (by
  simp only [List.forall_mem_cons]
  exact ⟨eq3, eq3, eq4, nofun⟩)
theorem eq160 : V.EqAt Tryd.prog tab 1 160 := V.eqAt_int Tryd.underlying160 rfl
theorem cmpOK : CmpOK Tryd.prog tab := by
  intro t h
  have hm : t ∈ [3, 4, 5, 9, 23, 33, 37, 44, 58, 61, 63, 65, 66, 68, 70, 71, 83, 86, 88, 107, 114, 137, 160] := by
    obtain ⟨u, h1, h2⟩ := List.any_eq_true.1 (show ([3, 4, 5, 9, 23, 33, 37, 44, 58, 61, 63, 65, 66, 68, 70, 71, 83, 86, 88, 107, 114, 137, 160].any fun u => u == t) = true from h)
    have : u = t := by simpa using h2
    rw [← this]; exact h1
  simp only [List.mem_cons, List.not_mem_nil, or_false] at hm
  rcases hm with h | h | h | h | h | h | h | h | h | h | h | h | h | h | h | h | h | h | h | h | h | h | h
  · subst h; exact ⟨by kernel_rfl, 1, by decide, eq3⟩
  · subst h; exact ⟨by kernel_rfl, 1, by decide, eq4⟩
  · subst h; exact ⟨by kernel_rfl, 1, by decide, eq5⟩
  · subst h; exact ⟨by kernel_rfl, 1, by decide, eq9⟩
  · subst h; exact ⟨by kernel_rfl, 2, by decide, eq23⟩
  · subst h; exact ⟨by kernel_rfl, 1, by decide, eq33⟩
  · subst h; exact ⟨by kernel_rfl, 3, by decide, eq37⟩
  · subst h; exact ⟨by kernel_rfl, 1, by decide, eq44⟩
  · subst h; exact ⟨by kernel_rfl, 2, by decide, eq58⟩
  · subst h; exact ⟨by kernel_rfl, 2, by decide, eq61⟩
  · subst h; exact ⟨by kernel_rfl, 1, by decide, eq63⟩
  · subst h; exact ⟨by kernel_rfl, 2, by decide, eq65⟩
  · subst h; exact ⟨by kernel_rfl, 2, by decide, eq66⟩
  · subst h; exact ⟨by kernel_rfl, 3, by decide, eq68⟩
  · subst h; exact ⟨by kernel_rfl, 2, by decide, eq70⟩
  · subst h; exact ⟨by kernel_rfl, 3, by decide, eq71⟩
  · subst h; exact ⟨by kernel_rfl, 1, by decide, eq83⟩
  · subst h; exact ⟨by kernel_rfl, 3, by decide, eq86⟩
  · subst h; exact ⟨by kernel_rfl, 2, by decide, eq88⟩
  · subst h; exact ⟨by kernel_rfl, 2, by decide, eq107⟩
  · subst h; exact ⟨by kernel_rfl, 3, by decide, eq114⟩
  · subst h; exact ⟨by kernel_rfl, 2, by decide, eq137⟩
  · subst h; exact ⟨by kernel_rfl, 1, by decide, eq160⟩
end Go.Proofs.YtpnnmpdjgnbkhaaDoor.W
