/-
  The types of the seat as Lean types, what each stands for in cells, and that the program has them so. Laid by program (mktab.py).
-/
import Derived.Test.YtbhnkjnjeifdhaaVK4
import Derived.Test.YtbhnkjnjeifdhaaProg
namespace Go.Proofs.Ytbhnkjnjeifdhaa.W
open Go Go.Proofs V
/-- api.Mark -/
structure T46 where
  Kind : Int
  Id : Int
  deriving DecidableEq
/-- summary.Summary -/
structure T24 where
  Seq : Int
  More : Bool
  Marks : List T46
  deriving DecidableEq
/-- siltref05.Summary -/
structure T34 where
  Seq : Int
  More : Bool
  Marks : List T46
  E : Int
  deriving DecidableEq
/-- siltlaw02.Step -/
structure T59 where
  Kind : Int
  I : Int
  V : Int
  Keep : List Int
  deriving DecidableEq
/-- siltref02.Loose -/
structure T145 where
  I : Int
  S : List Int
  deriving DecidableEq
/-- siltref02.Dev -/
structure T72 where
  S : List (List Int)
  L : List T145
  F : Int
  Done : Int
  deriving DecidableEq
/-- api.Block -/
structure T87 where
  Kind : Int
  Id : Int
  Page : List Int
  Off : Int
  Bytes : List Int
  Prev : Int
  Heads : List Int
  deriving DecidableEq
/-- siltref04.Got -/
structure T94 where
  B : T87
  Seq : Int
  E : Int
  deriving DecidableEq
/-- api.Item -/
structure T128 where
  Mark : T46
  Block : T87
  deriving DecidableEq
/-- siltref13.Laid -/
structure T112 where
  S : List (List Int)
  At : List Int
  OK : Bool
  deriving DecidableEq
/-- group.Found -/
structure T115 where
  Items : List T128
  At : List Int
  Sectors : Int
  Parts : Int
  deriving DecidableEq
/-- siltref13.Found -/
structure T119 where
  Items : List T128
  At : List Int
  Sectors : Int
  Parts : Int
  OK : Bool
  deriving DecidableEq
/-- dev.write -/
structure T143 where
  at_ : Int
  s : List Int
  deriving DecidableEq
/-- dev.Dev -/
structure T140 where
  sectors : List (List Int)
  loose : List T143
  fail : Int
  done : Int
  deriving DecidableEq
def Ty : Nat → Type := fun t => cond (t == 3) (Int) (cond (t == 4) (Bool) (cond (t == 5) (Int) (cond (t == 9) (ByteArray) (cond (t == 22) (Int) (cond (t == 23) (List T46) (cond (t == 25) (T24) (cond (t == 27) (List Int) (cond (t == 29) (Int) (cond (t == 35) (T34) (cond (t == 45) (Int) (cond (t == 47) (T46) (cond (t == 50) (List T59) (cond (t == 52) (Unit) (cond (t == 55) (Unit) (cond (t == 58) (List Int) (cond (t == 60) (T59) (cond (t == 70) (List (List Int)) (cond (t == 71) (List T145) (cond (t == 73) (T72) (cond (t == 75) (List Int) (cond (t == 78) (List (List Int)) (cond (t == 81) (List (List Int)) (cond (t == 82) (List Int) (cond (t == 85) (List Int) (cond (t == 86) (List Int) (cond (t == 88) (T87) (cond (t == 95) (T94) (cond (t == 100) (List Int) (cond (t == 106) (List T128) (cond (t == 109) (List Int) (cond (t == 113) (T112) (cond (t == 116) (T115) (cond (t == 120) (T119) (cond (t == 129) (T128) (cond (t == 139) (List T143) (cond (t == 141) (T140) (cond (t == 142) (Unit) (cond (t == 144) (T143) (cond (t == 146) (T145) (cond (t == 158) (Unit) (Unit)))))))))))))))))))))))))))))))))))))))))
def dI_i64 : Den Ty Int where
  enc := fun (x : Int) => .int .i64 x
  dec := fun v => match v with
    | .int .i64 v0 => some v0
    | _ => none
  dflt := (0 : Int)
  spec := by intro v x h; split at h <;> cases h; rfl
def dB : Den Ty Bool where
  enc := fun (x : Bool) => .bool x
  dec := fun v => match v with
    | .bool v0 => some v0
    | _ => none
  dflt := false
  spec := by intro v x h; split at h <;> cases h; rfl
def dI_u8 : Den Ty Int where
  enc := fun (x : Int) => .int .u8 x
  dec := fun v => match v with
    | .int .u8 v0 => some v0
    | _ => none
  dflt := (0 : Int)
  spec := by intro v x h; split at h <;> cases h; rfl
def dS : Den Ty ByteArray where
  enc := fun (x : ByteArray) => .str x
  dec := fun v => match v with
    | .str v0 => some v0
    | _ => none
  dflt := ByteArray.empty
  spec := by intro v x h; split at h <;> cases h; rfl
def dI_u32 : Den Ty Int where
  enc := fun (x : Int) => .int .u32 x
  dec := fun v => match v with
    | .int .u32 v0 => some v0
    | _ => none
  dflt := (0 : Int)
  spec := by intro v x h; split at h <;> cases h; rfl
def dL47 : Den Ty (List T46) where
  enc := fun (x : List T46) => .slice 47 x
  dec := fun v => match v with
    | .slice 47 v0 => some v0
    | _ => none
  dflt := ([] : List T46)
  spec := by intro v x h; split at h <;> cases h; rfl
def dT24 : Den Ty T24 where
  enc := fun (x : T24) => .cons (.int .u32 x.Seq) (.cons (.bool x.More) (.cons (.slice 47 x.Marks) (.nil)))
  dec := fun v => match v with
    | .cons (.int .u32 v0) (.cons (.bool v1) (.cons (.slice 47 v2) (.nil))) => some (T24.mk v0 v1 v2)
    | _ => none
  dflt := (T24.mk (0 : Int) false ([] : List T46))
  spec := by intro v x h; split at h <;> cases h; rfl
def dA64_5 : Den Ty (List Int) where
  enc := fun (x : List Int) => .arr 5 64 x
  dec := fun v => match v with
    | .arr 5 64 v0 => some v0
    | _ => none
  dflt := (List.replicate 64 (0 : Int))
  spec := by intro v x h; split at h <;> cases h; rfl
def dT34 : Den Ty T34 where
  enc := fun (x : T34) => .cons (.int .u32 x.Seq) (.cons (.bool x.More) (.cons (.slice 47 x.Marks) (.cons (.int .i64 x.E) (.nil))))
  dec := fun v => match v with
    | .cons (.int .u32 v0) (.cons (.bool v1) (.cons (.slice 47 v2) (.cons (.int .i64 v3) (.nil)))) => some (T34.mk v0 v1 v2 v3)
    | _ => none
  dflt := (T34.mk (0 : Int) false ([] : List T46) (0 : Int))
  spec := by intro v x h; split at h <;> cases h; rfl
def dI_u64 : Den Ty Int where
  enc := fun (x : Int) => .int .u64 x
  dec := fun v => match v with
    | .int .u64 v0 => some v0
    | _ => none
  dflt := (0 : Int)
  spec := by intro v x h; split at h <;> cases h; rfl
def dT46 : Den Ty T46 where
  enc := fun (x : T46) => .cons (.int .i64 x.Kind) (.cons (.int .i64 x.Id) (.nil))
  dec := fun v => match v with
    | .cons (.int .i64 v0) (.cons (.int .i64 v1) (.nil)) => some (T46.mk v0 v1)
    | _ => none
  dflt := (T46.mk (0 : Int) (0 : Int))
  spec := by intro v x h; split at h <;> cases h; rfl
def dL60 : Den Ty (List T59) where
  enc := fun (x : List T59) => .slice 60 x
  dec := fun v => match v with
    | .slice 60 v0 => some v0
    | _ => none
  dflt := ([] : List T59)
  spec := by intro v x h; split at h <;> cases h; rfl
def dL5 : Den Ty (List Int) where
  enc := fun (x : List Int) => .slice 5 x
  dec := fun v => match v with
    | .slice 5 v0 => some v0
    | _ => none
  dflt := ([] : List Int)
  spec := by intro v x h; split at h <;> cases h; rfl
def dT59 : Den Ty T59 where
  enc := fun (x : T59) => .cons (.int .i64 x.Kind) (.cons (.int .i64 x.I) (.cons (.int .u8 x.V) (.cons (.slice 5 x.Keep) (.nil))))
  dec := fun v => match v with
    | .cons (.int .i64 v0) (.cons (.int .i64 v1) (.cons (.int .u8 v2) (.cons (.slice 5 v3) (.nil)))) => some (T59.mk v0 v1 v2 v3)
    | _ => none
  dflt := (T59.mk (0 : Int) (0 : Int) (0 : Int) ([] : List Int))
  spec := by intro v x h; split at h <;> cases h; rfl
def dL27 : Den Ty (List (List Int)) where
  enc := fun (x : List (List Int)) => .slice 27 x
  dec := fun v => match v with
    | .slice 27 v0 => some v0
    | _ => none
  dflt := ([] : List (List Int))
  spec := by intro v x h; split at h <;> cases h; rfl
def dL146 : Den Ty (List T145) where
  enc := fun (x : List T145) => .slice 146 x
  dec := fun v => match v with
    | .slice 146 v0 => some v0
    | _ => none
  dflt := ([] : List T145)
  spec := by intro v x h; split at h <;> cases h; rfl
def dT72 : Den Ty T72 where
  enc := fun (x : T72) => .cons (.slice 27 x.S) (.cons (.slice 146 x.L) (.cons (.int .i64 x.F) (.cons (.int .i64 x.Done) (.nil))))
  dec := fun v => match v with
    | .cons (.slice 27 v0) (.cons (.slice 146 v1) (.cons (.int .i64 v2) (.cons (.int .i64 v3) (.nil)))) => some (T72.mk v0 v1 v2 v3)
    | _ => none
  dflt := (T72.mk ([] : List (List Int)) ([] : List T145) (0 : Int) (0 : Int))
  spec := by intro v x h; split at h <;> cases h; rfl
def dA6_5 : Den Ty (List Int) where
  enc := fun (x : List Int) => .arr 5 6 x
  dec := fun v => match v with
    | .arr 5 6 v0 => some v0
    | _ => none
  dflt := (List.replicate 6 (0 : Int))
  spec := by intro v x h; split at h <;> cases h; rfl
def dA5_27 : Den Ty (List (List Int)) where
  enc := fun (x : List (List Int)) => .arr 27 5 x
  dec := fun v => match v with
    | .arr 27 5 v0 => some v0
    | _ => none
  dflt := (List.replicate 5 (List.replicate 64 (0 : Int)))
  spec := by intro v x h; split at h <;> cases h; rfl
def dA7_27 : Den Ty (List (List Int)) where
  enc := fun (x : List (List Int)) => .arr 27 7 x
  dec := fun v => match v with
    | .arr 27 7 v0 => some v0
    | _ => none
  dflt := (List.replicate 7 (List.replicate 64 (0 : Int)))
  spec := by intro v x h; split at h <;> cases h; rfl
def dA2_5 : Den Ty (List Int) where
  enc := fun (x : List Int) => .arr 5 2 x
  dec := fun v => match v with
    | .arr 5 2 v0 => some v0
    | _ => none
  dflt := (List.replicate 2 (0 : Int))
  spec := by intro v x h; split at h <;> cases h; rfl
def dA32_5 : Den Ty (List Int) where
  enc := fun (x : List Int) => .arr 5 32 x
  dec := fun v => match v with
    | .arr 5 32 v0 => some v0
    | _ => none
  dflt := (List.replicate 32 (0 : Int))
  spec := by intro v x h; split at h <;> cases h; rfl
def dA8_3 : Den Ty (List Int) where
  enc := fun (x : List Int) => .arr 3 8 x
  dec := fun v => match v with
    | .arr 3 8 v0 => some v0
    | _ => none
  dflt := (List.replicate 8 (0 : Int))
  spec := by intro v x h; split at h <;> cases h; rfl
def dT87 : Den Ty T87 where
  enc := fun (x : T87) => .cons (.int .i64 x.Kind) (.cons (.int .i64 x.Id) (.cons (.arr 5 32 x.Page) (.cons (.int .i64 x.Off) (.cons (.slice 5 x.Bytes) (.cons (.int .i64 x.Prev) (.cons (.arr 3 8 x.Heads) (.nil)))))))
  dec := fun v => match v with
    | .cons (.int .i64 v0) (.cons (.int .i64 v1) (.cons (.arr 5 32 v2) (.cons (.int .i64 v3) (.cons (.slice 5 v4) (.cons (.int .i64 v5) (.cons (.arr 3 8 v6) (.nil))))))) => some (T87.mk v0 v1 v2 v3 v4 v5 v6)
    | _ => none
  dflt := (T87.mk (0 : Int) (0 : Int) (List.replicate 32 (0 : Int)) (0 : Int) ([] : List Int) (0 : Int) (List.replicate 8 (0 : Int)))
  spec := by intro v x h; split at h <;> cases h; rfl
def dT94 : Den Ty T94 where
  enc := fun (x : T94) => .cons (.cons (.int .i64 x.B.Kind) (.cons (.int .i64 x.B.Id) (.cons (.arr 5 32 x.B.Page) (.cons (.int .i64 x.B.Off) (.cons (.slice 5 x.B.Bytes) (.cons (.int .i64 x.B.Prev) (.cons (.arr 3 8 x.B.Heads) (.nil)))))))) (.cons (.int .u32 x.Seq) (.cons (.int .i64 x.E) (.nil)))
  dec := fun v => match v with
    | .cons (.cons (.int .i64 v0) (.cons (.int .i64 v1) (.cons (.arr 5 32 v2) (.cons (.int .i64 v3) (.cons (.slice 5 v4) (.cons (.int .i64 v5) (.cons (.arr 3 8 v6) (.nil)))))))) (.cons (.int .u32 v7) (.cons (.int .i64 v8) (.nil))) => some (T94.mk (T87.mk v0 v1 v2 v3 v4 v5 v6) v7 v8)
    | _ => none
  dflt := (T94.mk (T87.mk (0 : Int) (0 : Int) (List.replicate 32 (0 : Int)) (0 : Int) ([] : List Int) (0 : Int) (List.replicate 8 (0 : Int))) (0 : Int) (0 : Int))
  spec := by intro v x h; split at h <;> cases h; rfl
def dA2_22 : Den Ty (List Int) where
  enc := fun (x : List Int) => .arr 22 2 x
  dec := fun v => match v with
    | .arr 22 2 v0 => some v0
    | _ => none
  dflt := (List.replicate 2 (0 : Int))
  spec := by intro v x h; split at h <;> cases h; rfl
def dL129 : Den Ty (List T128) where
  enc := fun (x : List T128) => .slice 129 x
  dec := fun v => match v with
    | .slice 129 v0 => some v0
    | _ => none
  dflt := ([] : List T128)
  spec := by intro v x h; split at h <;> cases h; rfl
def dL3 : Den Ty (List Int) where
  enc := fun (x : List Int) => .slice 3 x
  dec := fun v => match v with
    | .slice 3 v0 => some v0
    | _ => none
  dflt := ([] : List Int)
  spec := by intro v x h; split at h <;> cases h; rfl
def dT112 : Den Ty T112 where
  enc := fun (x : T112) => .cons (.slice 27 x.S) (.cons (.slice 3 x.At) (.cons (.bool x.OK) (.nil)))
  dec := fun v => match v with
    | .cons (.slice 27 v0) (.cons (.slice 3 v1) (.cons (.bool v2) (.nil))) => some (T112.mk v0 v1 v2)
    | _ => none
  dflt := (T112.mk ([] : List (List Int)) ([] : List Int) false)
  spec := by intro v x h; split at h <;> cases h; rfl
def dT115 : Den Ty T115 where
  enc := fun (x : T115) => .cons (.slice 129 x.Items) (.cons (.slice 3 x.At) (.cons (.int .i64 x.Sectors) (.cons (.int .i64 x.Parts) (.nil))))
  dec := fun v => match v with
    | .cons (.slice 129 v0) (.cons (.slice 3 v1) (.cons (.int .i64 v2) (.cons (.int .i64 v3) (.nil)))) => some (T115.mk v0 v1 v2 v3)
    | _ => none
  dflt := (T115.mk ([] : List T128) ([] : List Int) (0 : Int) (0 : Int))
  spec := by intro v x h; split at h <;> cases h; rfl
def dT119 : Den Ty T119 where
  enc := fun (x : T119) => .cons (.slice 129 x.Items) (.cons (.slice 3 x.At) (.cons (.int .i64 x.Sectors) (.cons (.int .i64 x.Parts) (.cons (.bool x.OK) (.nil)))))
  dec := fun v => match v with
    | .cons (.slice 129 v0) (.cons (.slice 3 v1) (.cons (.int .i64 v2) (.cons (.int .i64 v3) (.cons (.bool v4) (.nil))))) => some (T119.mk v0 v1 v2 v3 v4)
    | _ => none
  dflt := (T119.mk ([] : List T128) ([] : List Int) (0 : Int) (0 : Int) false)
  spec := by intro v x h; split at h <;> cases h; rfl
def dT128 : Den Ty T128 where
  enc := fun (x : T128) => .cons (.cons (.int .i64 x.Mark.Kind) (.cons (.int .i64 x.Mark.Id) (.nil))) (.cons (.cons (.int .i64 x.Block.Kind) (.cons (.int .i64 x.Block.Id) (.cons (.arr 5 32 x.Block.Page) (.cons (.int .i64 x.Block.Off) (.cons (.slice 5 x.Block.Bytes) (.cons (.int .i64 x.Block.Prev) (.cons (.arr 3 8 x.Block.Heads) (.nil)))))))) (.nil))
  dec := fun v => match v with
    | .cons (.cons (.int .i64 v0) (.cons (.int .i64 v1) (.nil))) (.cons (.cons (.int .i64 v2) (.cons (.int .i64 v3) (.cons (.arr 5 32 v4) (.cons (.int .i64 v5) (.cons (.slice 5 v6) (.cons (.int .i64 v7) (.cons (.arr 3 8 v8) (.nil)))))))) (.nil)) => some (T128.mk (T46.mk v0 v1) (T87.mk v2 v3 v4 v5 v6 v7 v8))
    | _ => none
  dflt := (T128.mk (T46.mk (0 : Int) (0 : Int)) (T87.mk (0 : Int) (0 : Int) (List.replicate 32 (0 : Int)) (0 : Int) ([] : List Int) (0 : Int) (List.replicate 8 (0 : Int))))
  spec := by intro v x h; split at h <;> cases h; rfl
def dL144 : Den Ty (List T143) where
  enc := fun (x : List T143) => .slice 144 x
  dec := fun v => match v with
    | .slice 144 v0 => some v0
    | _ => none
  dflt := ([] : List T143)
  spec := by intro v x h; split at h <;> cases h; rfl
def dT140 : Den Ty T140 where
  enc := fun (x : T140) => .cons (.slice 27 x.sectors) (.cons (.slice 144 x.loose) (.cons (.int .i64 x.fail) (.cons (.int .i64 x.done) (.nil))))
  dec := fun v => match v with
    | .cons (.slice 27 v0) (.cons (.slice 144 v1) (.cons (.int .i64 v2) (.cons (.int .i64 v3) (.nil)))) => some (T140.mk v0 v1 v2 v3)
    | _ => none
  dflt := (T140.mk ([] : List (List Int)) ([] : List T143) (0 : Int) (0 : Int))
  spec := by intro v x h; split at h <;> cases h; rfl
def dF93 : Den Ty Unit where
  enc := fun (x : Unit) => .func 93
  dec := fun v => match v with
    | .func 93 => some ()
    | _ => none
  dflt := ()
  spec := by intro v x h; split at h <;> cases h; rfl
def dT143 : Den Ty T143 where
  enc := fun (x : T143) => .cons (.int .i64 x.at_) (.cons (.arr 5 64 x.s) (.nil))
  dec := fun v => match v with
    | .cons (.int .i64 v0) (.cons (.arr 5 64 v1) (.nil)) => some (T143.mk v0 v1)
    | _ => none
  dflt := (T143.mk (0 : Int) (List.replicate 64 (0 : Int)))
  spec := by intro v x h; split at h <;> cases h; rfl
def dT145 : Den Ty T145 where
  enc := fun (x : T145) => .cons (.int .i64 x.I) (.cons (.arr 5 64 x.S) (.nil))
  dec := fun v => match v with
    | .cons (.int .i64 v0) (.cons (.arr 5 64 v1) (.nil)) => some (T145.mk v0 v1)
    | _ => none
  dflt := (T145.mk (0 : Int) (List.replicate 64 (0 : Int)))
  spec := by intro v x h; split at h <;> cases h; rfl
def den : (t : Nat) → Den Ty (Ty t) := fun t => pickDen (t == 3) dI_i64 (pickDen (t == 4) dB (pickDen (t == 5) dI_u8 (pickDen (t == 9) dS (pickDen (t == 22) dI_u32 (pickDen (t == 23) dL47 (pickDen (t == 25) dT24 (pickDen (t == 27) dA64_5 (pickDen (t == 29) dI_i64 (pickDen (t == 35) dT34 (pickDen (t == 45) dI_u64 (pickDen (t == 47) dT46 (pickDen (t == 50) dL60 (pickDen (t == 52) ptrDen (pickDen (t == 55) ptrDen (pickDen (t == 58) dL5 (pickDen (t == 60) dT59 (pickDen (t == 70) dL27 (pickDen (t == 71) dL146 (pickDen (t == 73) dT72 (pickDen (t == 75) dA6_5 (pickDen (t == 78) dA5_27 (pickDen (t == 81) dA7_27 (pickDen (t == 82) dA2_5 (pickDen (t == 85) dA32_5 (pickDen (t == 86) dA8_3 (pickDen (t == 88) dT87 (pickDen (t == 95) dT94 (pickDen (t == 100) dA2_22 (pickDen (t == 106) dL129 (pickDen (t == 109) dL3 (pickDen (t == 113) dT112 (pickDen (t == 116) dT115 (pickDen (t == 120) dT119 (pickDen (t == 129) dT128 (pickDen (t == 139) dL144 (pickDen (t == 141) dT140 (pickDen (t == 142) dF93 (pickDen (t == 144) dT143 (pickDen (t == 146) dT145 (pickDen (t == 158) ptrDen (unitDen)))))))))))))))))))))))))))))))))))))))))
def info : List (Nat × TI) := [(3, ⟨.int .i64, 1, 8⟩), (4, ⟨.bool, 1, 1⟩), (5, ⟨.int .u8, 1, 1⟩), (9, ⟨.str, 1, 16⟩), (22, ⟨.int .u32, 1, 4⟩), (23, ⟨.slice 47, 1, 24⟩), (25, ⟨.struct [(22, 0), (4, 1), (23, 2)], 3, 32⟩), (27, ⟨.arr 64 5, 64, 64⟩), (29, ⟨.int .i64, 1, 8⟩), (35, ⟨.struct [(22, 0), (4, 1), (23, 2), (3, 3)], 4, 40⟩), (45, ⟨.int .u64, 1, 8⟩), (47, ⟨.struct [(3, 0), (3, 1)], 2, 16⟩), (50, ⟨.slice 60, 1, 24⟩), (52, ⟨.ptr 141, 1, 8⟩), (55, ⟨.ptr 73, 1, 8⟩), (58, ⟨.slice 5, 1, 24⟩), (60, ⟨.struct [(3, 0), (3, 1), (5, 2), (58, 3)], 4, 48⟩), (70, ⟨.slice 27, 1, 24⟩), (71, ⟨.slice 146, 1, 24⟩), (73, ⟨.struct [(70, 0), (71, 1), (3, 2), (3, 3)], 4, 64⟩), (75, ⟨.arr 6 5, 6, 6⟩), (78, ⟨.arr 5 27, 320, 320⟩), (81, ⟨.arr 7 27, 448, 448⟩), (82, ⟨.arr 2 5, 2, 2⟩), (85, ⟨.arr 32 5, 32, 32⟩), (86, ⟨.arr 8 3, 8, 64⟩), (88, ⟨.struct [(3, 0), (3, 1), (85, 2), (3, 34), (58, 35), (3, 36), (86, 37)], 45, 152⟩), (95, ⟨.struct [(88, 0), (22, 45), (3, 46)], 47, 168⟩), (100, ⟨.arr 2 22, 2, 8⟩), (106, ⟨.slice 129, 1, 24⟩), (109, ⟨.slice 3, 1, 24⟩), (113, ⟨.struct [(70, 0), (109, 1), (4, 2)], 3, 56⟩), (116, ⟨.struct [(106, 0), (109, 1), (3, 2), (3, 3)], 4, 64⟩), (120, ⟨.struct [(106, 0), (109, 1), (3, 2), (3, 3), (4, 4)], 5, 72⟩), (129, ⟨.struct [(47, 0), (88, 2)], 47, 168⟩), (139, ⟨.slice 144, 1, 24⟩), (141, ⟨.struct [(70, 0), (139, 1), (3, 2), (3, 3)], 4, 64⟩), (144, ⟨.struct [(3, 0), (27, 1)], 65, 72⟩), (146, ⟨.struct [(3, 0), (27, 1)], 65, 72⟩), (158, ⟨.map 3, 1, 8⟩)]
def isOf (l : List Nat) (t : Nat) : Bool := l.any fun u => u == t
def eqL1 {α β : Type} (b : Bool) (f : List α → List α → Bool) (g : List β → List β → Bool) : List (cond b α β) → List (cond b α β) → Bool :=
  match b with
  | true => f
  | false => g
def eqL : (t : Nat) → List (Ty t) → List (Ty t) → Bool := fun t => eqL1 (t == 3) (fun (xs ys : List Int) => decide (xs = ys)) (eqL1 (t == 4) (fun _ _ => false) (eqL1 (t == 5) (fun (xs ys : List Int) => decide (xs = ys)) (eqL1 (t == 9) (fun _ _ => false) (eqL1 (t == 22) (fun (xs ys : List Int) => decide (xs = ys)) (eqL1 (t == 23) (fun _ _ => false) (eqL1 (t == 25) (fun _ _ => false) (eqL1 (t == 27) (fun (xs ys : List (List Int)) => decide (xs = ys)) (eqL1 (t == 29) (fun _ _ => false) (eqL1 (t == 35) (fun _ _ => false) (eqL1 (t == 45) (fun _ _ => false) (eqL1 (t == 47) (fun _ _ => false) (eqL1 (t == 50) (fun _ _ => false) (eqL1 (t == 52) (fun _ _ => false) (eqL1 (t == 55) (fun _ _ => false) (eqL1 (t == 58) (fun _ _ => false) (eqL1 (t == 60) (fun _ _ => false) (eqL1 (t == 70) (fun _ _ => false) (eqL1 (t == 71) (fun _ _ => false) (eqL1 (t == 73) (fun _ _ => false) (eqL1 (t == 75) (fun _ _ => false) (eqL1 (t == 78) (fun _ _ => false) (eqL1 (t == 81) (fun _ _ => false) (eqL1 (t == 82) (fun _ _ => false) (eqL1 (t == 85) (fun _ _ => false) (eqL1 (t == 86) (fun _ _ => false) (eqL1 (t == 88) (fun _ _ => false) (eqL1 (t == 95) (fun _ _ => false) (eqL1 (t == 100) (fun _ _ => false) (eqL1 (t == 106) (fun _ _ => false) (eqL1 (t == 109) (fun _ _ => false) (eqL1 (t == 113) (fun _ _ => false) (eqL1 (t == 116) (fun _ _ => false) (eqL1 (t == 120) (fun _ _ => false) (eqL1 (t == 129) (fun _ _ => false) (eqL1 (t == 139) (fun _ _ => false) (eqL1 (t == 141) (fun _ _ => false) (eqL1 (t == 142) (fun _ _ => false) (eqL1 (t == 144) (fun _ _ => false) (eqL1 (t == 146) (fun _ _ => false) (eqL1 (t == 158) (fun _ _ => false) (fun _ _ => false)))))))))))))))))))))))))))))))))))))))))
def tab : Tab Ty := { den, flatTy := isOf [3, 4, 5, 9, 22, 27, 29, 45, 47, 75, 78, 81, 82, 85, 86, 100, 144, 146], eqOk := isOf [3, 5, 22, 27], cmp := isOf [3, 4, 5, 9, 22, 27, 29, 45, 47, 75, 78, 81, 82, 85, 86, 100, 144, 146], eqL, errnoTy := 1000000, faultTy := 1000001, asOn := false, asFn := 0, errnoPtr := 0, globs := [], info, frz := [27,90], fgt := [144] }
theorem ent3 : EntOK tab 3 Int dI_i64 := ⟨fun _ => rfl, fun _ _ => rfl, fun _ => rfl, fun _ => rfl, fun _ _ => rfl, fun _ h => (by cases h)⟩
theorem ent4 : EntOK tab 4 Bool dB := ⟨fun _ => rfl, fun _ _ => rfl, fun _ => rfl, fun _ => rfl, fun _ _ => rfl, fun _ h => (by cases h)⟩
theorem ent5 : EntOK tab 5 Int dI_u8 := ⟨fun _ => rfl, fun _ _ => rfl, fun _ => rfl, fun _ => rfl, fun _ _ => rfl, fun x _ => ⟨x, rfl⟩⟩
theorem ent9 : EntOK tab 9 ByteArray dS := ⟨fun _ => rfl, fun _ _ => rfl, fun _ => rfl, fun _ => rfl, fun _ _ => rfl, fun _ h => (by cases h)⟩
theorem ent22 : EntOK tab 22 Int dI_u32 := ⟨fun _ => rfl, fun _ _ => rfl, fun _ => rfl, fun _ => rfl, fun _ _ => rfl, fun _ h => (by cases h)⟩
theorem ent23 : EntOK tab 23 (List T46) dL47 := ⟨fun _ => rfl, fun _ _ => rfl, fun _ => rfl, fun _ => rfl, fun _ h => (by cases h), fun _ h => (by cases h)⟩
theorem ent25 : EntOK tab 25 T24 dT24 := ⟨fun _ => rfl, fun _ _ => rfl, fun _ => rfl, fun _ => rfl, fun _ h => (by cases h), fun _ h => (by cases h)⟩
theorem ent27 : EntOK tab 27 (List Int) dA64_5 := ⟨fun _ => rfl, fun _ _ => rfl, fun _ => rfl, fun _ => rfl, fun _ _ => rfl, fun _ h => (by cases h)⟩
theorem ent29 : EntOK tab 29 Int dI_i64 := ⟨fun _ => rfl, fun _ _ => rfl, fun _ => rfl, fun _ => rfl, fun _ _ => rfl, fun _ h => (by cases h)⟩
theorem ent35 : EntOK tab 35 T34 dT34 := ⟨fun _ => rfl, fun _ _ => rfl, fun _ => rfl, fun _ => rfl, fun _ h => (by cases h), fun _ h => (by cases h)⟩
theorem ent45 : EntOK tab 45 Int dI_u64 := ⟨fun _ => rfl, fun _ _ => rfl, fun _ => rfl, fun _ => rfl, fun _ _ => rfl, fun _ h => (by cases h)⟩
theorem ent47 : EntOK tab 47 T46 dT46 := ⟨fun _ => rfl, fun _ _ => rfl, fun _ => rfl, fun _ => rfl, fun _ _ => rfl, fun _ h => (by cases h)⟩
theorem ent50 : EntOK tab 50 (List T59) dL60 := ⟨fun _ => rfl, fun _ _ => rfl, fun _ => rfl, fun _ => rfl, fun _ h => (by cases h), fun _ h => (by cases h)⟩
theorem ent52 : EntOK tab 52 Unit ptrDen := ⟨fun _ => rfl, fun _ _ => rfl, fun _ => rfl, fun _ => rfl, fun _ h => (by cases h), fun _ h => (by cases h)⟩
theorem ent55 : EntOK tab 55 Unit ptrDen := ⟨fun _ => rfl, fun _ _ => rfl, fun _ => rfl, fun _ => rfl, fun _ h => (by cases h), fun _ h => (by cases h)⟩
theorem ent58 : EntOK tab 58 (List Int) dL5 := ⟨fun _ => rfl, fun _ _ => rfl, fun _ => rfl, fun _ => rfl, fun _ h => (by cases h), fun _ h => (by cases h)⟩
theorem ent60 : EntOK tab 60 T59 dT59 := ⟨fun _ => rfl, fun _ _ => rfl, fun _ => rfl, fun _ => rfl, fun _ h => (by cases h), fun _ h => (by cases h)⟩
theorem ent70 : EntOK tab 70 (List (List Int)) dL27 := ⟨fun _ => rfl, fun _ _ => rfl, fun _ => rfl, fun _ => rfl, fun _ h => (by cases h), fun _ h => (by cases h)⟩
theorem ent71 : EntOK tab 71 (List T145) dL146 := ⟨fun _ => rfl, fun _ _ => rfl, fun _ => rfl, fun _ => rfl, fun _ h => (by cases h), fun _ h => (by cases h)⟩
theorem ent73 : EntOK tab 73 T72 dT72 := ⟨fun _ => rfl, fun _ _ => rfl, fun _ => rfl, fun _ => rfl, fun _ h => (by cases h), fun _ h => (by cases h)⟩
theorem ent75 : EntOK tab 75 (List Int) dA6_5 := ⟨fun _ => rfl, fun _ _ => rfl, fun _ => rfl, fun _ => rfl, fun _ _ => rfl, fun _ h => (by cases h)⟩
theorem ent78 : EntOK tab 78 (List (List Int)) dA5_27 := ⟨fun _ => rfl, fun _ _ => rfl, fun _ => rfl, fun _ => rfl, fun _ _ => rfl, fun _ h => (by cases h)⟩
theorem ent81 : EntOK tab 81 (List (List Int)) dA7_27 := ⟨fun _ => rfl, fun _ _ => rfl, fun _ => rfl, fun _ => rfl, fun _ _ => rfl, fun _ h => (by cases h)⟩
theorem ent82 : EntOK tab 82 (List Int) dA2_5 := ⟨fun _ => rfl, fun _ _ => rfl, fun _ => rfl, fun _ => rfl, fun _ _ => rfl, fun _ h => (by cases h)⟩
theorem ent85 : EntOK tab 85 (List Int) dA32_5 := ⟨fun _ => rfl, fun _ _ => rfl, fun _ => rfl, fun _ => rfl, fun _ _ => rfl, fun _ h => (by cases h)⟩
theorem ent86 : EntOK tab 86 (List Int) dA8_3 := ⟨fun _ => rfl, fun _ _ => rfl, fun _ => rfl, fun _ => rfl, fun _ _ => rfl, fun _ h => (by cases h)⟩
theorem ent88 : EntOK tab 88 T87 dT87 := ⟨fun _ => rfl, fun _ _ => rfl, fun _ => rfl, fun _ => rfl, fun _ h => (by cases h), fun _ h => (by cases h)⟩
theorem ent95 : EntOK tab 95 T94 dT94 := ⟨fun _ => rfl, fun _ _ => rfl, fun _ => rfl, fun _ => rfl, fun _ h => (by cases h), fun _ h => (by cases h)⟩
theorem ent100 : EntOK tab 100 (List Int) dA2_22 := ⟨fun _ => rfl, fun _ _ => rfl, fun _ => rfl, fun _ => rfl, fun _ _ => rfl, fun _ h => (by cases h)⟩
theorem ent106 : EntOK tab 106 (List T128) dL129 := ⟨fun _ => rfl, fun _ _ => rfl, fun _ => rfl, fun _ => rfl, fun _ h => (by cases h), fun _ h => (by cases h)⟩
theorem ent109 : EntOK tab 109 (List Int) dL3 := ⟨fun _ => rfl, fun _ _ => rfl, fun _ => rfl, fun _ => rfl, fun _ h => (by cases h), fun _ h => (by cases h)⟩
theorem ent113 : EntOK tab 113 T112 dT112 := ⟨fun _ => rfl, fun _ _ => rfl, fun _ => rfl, fun _ => rfl, fun _ h => (by cases h), fun _ h => (by cases h)⟩
theorem ent116 : EntOK tab 116 T115 dT115 := ⟨fun _ => rfl, fun _ _ => rfl, fun _ => rfl, fun _ => rfl, fun _ h => (by cases h), fun _ h => (by cases h)⟩
theorem ent120 : EntOK tab 120 T119 dT119 := ⟨fun _ => rfl, fun _ _ => rfl, fun _ => rfl, fun _ => rfl, fun _ h => (by cases h), fun _ h => (by cases h)⟩
theorem ent129 : EntOK tab 129 T128 dT128 := ⟨fun _ => rfl, fun _ _ => rfl, fun _ => rfl, fun _ => rfl, fun _ h => (by cases h), fun _ h => (by cases h)⟩
theorem ent139 : EntOK tab 139 (List T143) dL144 := ⟨fun _ => rfl, fun _ _ => rfl, fun _ => rfl, fun _ => rfl, fun _ h => (by cases h), fun _ h => (by cases h)⟩
theorem ent141 : EntOK tab 141 T140 dT140 := ⟨fun _ => rfl, fun _ _ => rfl, fun _ => rfl, fun _ => rfl, fun _ h => (by cases h), fun _ h => (by cases h)⟩
theorem ent142 : EntOK tab 142 Unit dF93 := ⟨fun _ => rfl, fun _ _ => rfl, fun _ => rfl, fun _ => rfl, fun _ h => (by cases h), fun _ h => (by cases h)⟩
theorem ent144 : EntOK tab 144 T143 dT143 := ⟨fun _ => rfl, fun _ _ => rfl, fun _ => rfl, fun _ => rfl, fun _ _ => rfl, fun _ h => (by cases h)⟩
theorem ent146 : EntOK tab 146 T145 dT145 := ⟨fun _ => rfl, fun _ _ => rfl, fun _ => rfl, fun _ => rfl, fun _ _ => rfl, fun _ h => (by cases h)⟩
theorem ent158 : EntOK tab 158 Unit ptrDen := ⟨fun _ => rfl, fun _ _ => rfl, fun _ => rfl, fun _ => rfl, fun _ h => (by cases h), fun _ h => (by cases h)⟩
theorem ent (t : Nat) : EntOK tab t (Ty t) (tab.den t) := by
  show EntOK tab t (Ty t) (den t)
  unfold den Ty
  by_cases hall : t ∈ [3, 4, 5, 9, 22, 23, 25, 27, 29, 35, 45, 47, 50, 52, 55, 58, 60, 70, 71, 73, 75, 78, 81, 82, 85, 86, 88, 95, 100, 106, 109, 113, 116, 120, 129, 139, 141, 142, 144, 146, 158]
  · simp only [List.mem_cons, List.not_mem_nil, or_false] at hall
    rcases hall with h | h | h | h | h | h | h | h | h | h | h | h | h | h | h | h | h | h | h | h | h | h | h | h | h | h | h | h | h | h | h | h | h | h | h | h | h | h | h | h | h
    · subst h; exact ent3
    · subst h; exact ent4
    · subst h; exact ent5
    · subst h; exact ent9
    · subst h; exact ent22
    · subst h; exact ent23
    · subst h; exact ent25
    · subst h; exact ent27
    · subst h; exact ent29
    · subst h; exact ent35
    · subst h; exact ent45
    · subst h; exact ent47
    · subst h; exact ent50
    · subst h; exact ent52
    · subst h; exact ent55
    · subst h; exact ent58
    · subst h; exact ent60
    · subst h; exact ent70
    · subst h; exact ent71
    · subst h; exact ent73
    · subst h; exact ent75
    · subst h; exact ent78
    · subst h; exact ent81
    · subst h; exact ent82
    · subst h; exact ent85
    · subst h; exact ent86
    · subst h; exact ent88
    · subst h; exact ent95
    · subst h; exact ent100
    · subst h; exact ent106
    · subst h; exact ent109
    · subst h; exact ent113
    · subst h; exact ent116
    · subst h; exact ent120
    · subst h; exact ent129
    · subst h; exact ent139
    · subst h; exact ent141
    · subst h; exact ent142
    · subst h; exact ent144
    · subst h; exact ent146
    · subst h; exact ent158
  · have hf : ∀ u ∈ [3, 4, 5, 9, 22, 23, 25, 27, 29, 35, 45, 47, 50, 52, 55, 58, 60, 70, 71, 73, 75, 78, 81, 82, 85, 86, 88, 95, 100, 106, 109, 113, 116, 120, 129, 139, 141, 142, 144, 146, 158], (t == u) = false := fun u hu => by simp only [beq_eq_false_iff_ne]; intro e; subst e; exact hall hu
    have hi : infoAt t info = ⟨.other, 1, 8⟩ := by
      rcases infoAt_spec info t with ⟨p, h1, h2, _⟩ | h
      · exfalso; apply hall; rw [← h2]; have : ∀ q ∈ info, q.1 ∈ [3, 4, 5, 9, 22, 23, 25, 27, 29, 35, 45, 47, 50, 52, 55, 58, 60, 70, 71, 73, 75, 78, 81, 82, 85, 86, 88, 95, 100, 106, 109, 113, 116, 120, 129, 139, 141, 142, 144, 146, 158] := by decide
        exact this p h1
      · exact h
    have hs : tab.size t = 1 := by unfold Tab.size; show (infoAt t info).size = 1; rw [hi]
    have hk : tab.td t = .other := by unfold Tab.td; show (infoAt t info).td = .other; rw [hi]
    have hu : EntOK tab t Unit unitDen := ⟨fun _ => (by rw [hs]; rfl), fun _ h => (by rw [hk] at h; cases h), fun _ => rfl, fun _ => rfl, fun _ _ => rfl, fun _ h => (by rw [hk] at h; cases h)⟩
    have hQ : ∀ (u : Nat) (_ : u ∈ [3, 4, 5, 9, 22, 23, 25, 27, 29, 35, 45, 47, 50, 52, 55, 58, 60, 70, 71, 73, 75, 78, 81, 82, 85, 86, 88, 95, 100, 106, 109, 113, 116, 120, 129, 139, 141, 142, 144, 146, 158]) {α β : Type} {x : Den Ty α} {y : Den Ty β}, EntOK tab t β y → EntOK tab t (cond (t == u) α β) (pickDen (t == u) x y) := fun u h α β x y hy => pick_all (Q := EntOK tab t) (fun e => by rw [hf u h] at e; cases e) fun _ => hy
    exact hQ 3 (by decide) (hQ 4 (by decide) (hQ 5 (by decide) (hQ 9 (by decide) (hQ 22 (by decide) (hQ 23 (by decide) (hQ 25 (by decide) (hQ 27 (by decide) (hQ 29 (by decide) (hQ 35 (by decide) (hQ 45 (by decide) (hQ 47 (by decide) (hQ 50 (by decide) (hQ 52 (by decide) (hQ 55 (by decide) (hQ 58 (by decide) (hQ 60 (by decide) (hQ 70 (by decide) (hQ 71 (by decide) (hQ 73 (by decide) (hQ 75 (by decide) (hQ 78 (by decide) (hQ 81 (by decide) (hQ 82 (by decide) (hQ 85 (by decide) (hQ 86 (by decide) (hQ 88 (by decide) (hQ 95 (by decide) (hQ 100 (by decide) (hQ 106 (by decide) (hQ 109 (by decide) (hQ 113 (by decide) (hQ 116 (by decide) (hQ 120 (by decide) (hQ 129 (by decide) (hQ 139 (by decide) (hQ 141 (by decide) (hQ 142 (by decide) (hQ 144 (by decide) (hQ 146 (by decide) (hQ 158 (by decide) (hu)))))))))))))))))))))))))))))))))))))))))
theorem tabOK : TabOK Try.prog tab := TabOK.of (by kernel_rfl) ent (by kernel_rfl)
theorem eq3 : V.EqAt Try.prog tab 1 3 := V.eqAt_int Try.underlying3 rfl
theorem eq4 : V.EqAt Try.prog tab 1 4 := V.eqAt_bool Try.underlying4 rfl
theorem eq5 : V.EqAt Try.prog tab 1 5 := V.eqAt_int Try.underlying5 rfl
theorem eq9 : V.EqAt Try.prog tab 1 9 := V.eqAt_str Try.underlying9 rfl
theorem eq22 : V.EqAt Try.prog tab 1 22 := V.eqAt_int Try.underlying22 rfl
theorem eq27 : V.EqAt Try.prog tab 2 27 := V.eqAt_arr (f0 := 1) tabOK Try.underlying27 rfl eq5 (fun _ => rfl) (f := fun (x y : Int) => x == y) (fun _ _ => rfl) eqInts
theorem eq29 : V.EqAt Try.prog tab 1 29 := V.eqAt_int Try.underlying29 rfl
theorem eq45 : V.EqAt Try.prog tab 1 45 := V.eqAt_int Try.underlying45 rfl
theorem eq47 : V.EqAt Try.prog tab 2 47 := V.eqAt_struct (m := 1) tabOK Try.underlying47 rfl rfl (by kernel_rfl) (by decide) (by
  simp only [List.forall_mem_cons]
  exact ⟨eq3, eq3, nofun⟩)
theorem eq75 : V.EqAt Try.prog tab 2 75 := V.eqAt_arr (f0 := 1) tabOK Try.underlying75 rfl eq5 (fun _ => rfl) (f := fun (x y : Int) => x == y) (fun _ _ => rfl) eqInts
theorem eq78 : V.EqAt Try.prog tab 3 78 := V.eqAt_arr (f0 := 2) tabOK Try.underlying78 rfl eq27 (fun _ => rfl) (f := fun (x y : List Int) => decide (x = y)) (fun _ _ => rfl) eqLists
theorem eq81 : V.EqAt Try.prog tab 3 81 := V.eqAt_arr (f0 := 2) tabOK Try.underlying81 rfl eq27 (fun _ => rfl) (f := fun (x y : List Int) => decide (x = y)) (fun _ _ => rfl) eqLists
theorem eq82 : V.EqAt Try.prog tab 2 82 := V.eqAt_arr (f0 := 1) tabOK Try.underlying82 rfl eq5 (fun _ => rfl) (f := fun (x y : Int) => x == y) (fun _ _ => rfl) eqInts
theorem eq85 : V.EqAt Try.prog tab 2 85 := V.eqAt_arr (f0 := 1) tabOK Try.underlying85 rfl eq5 (fun _ => rfl) (f := fun (x y : Int) => x == y) (fun _ _ => rfl) eqInts
theorem eq86 : V.EqAt Try.prog tab 2 86 := V.eqAt_arr (f0 := 1) tabOK Try.underlying86 rfl eq3 (fun _ => rfl) (f := fun (x y : Int) => x == y) (fun _ _ => rfl) eqInts
theorem eq100 : V.EqAt Try.prog tab 2 100 := V.eqAt_arr (f0 := 1) tabOK Try.underlying100 rfl eq22 (fun _ => rfl) (f := fun (x y : Int) => x == y) (fun _ _ => rfl) eqInts
theorem eq144 : V.EqAt Try.prog tab 3 144 := V.eqAt_struct (m := 2) tabOK Try.underlying144 rfl rfl (by kernel_rfl) (by decide) (by
  simp only [List.forall_mem_cons]
  exact ⟨V.EqAt.more (by decide) eq3, eq27, nofun⟩)
theorem eq146 : V.EqAt Try.prog tab 3 146 := V.eqAt_struct (m := 2) tabOK Try.underlying146 rfl rfl (by kernel_rfl) (by decide) (by
  simp only [List.forall_mem_cons]
  exact ⟨V.EqAt.more (by decide) eq3, eq27, nofun⟩)
theorem cmpOK : CmpOK Try.prog tab := by
  intro t h
  have hm : t ∈ [3, 4, 5, 9, 22, 27, 29, 45, 47, 75, 78, 81, 82, 85, 86, 100, 144, 146] := by
    obtain ⟨u, h1, h2⟩ := List.any_eq_true.1 (show ([3, 4, 5, 9, 22, 27, 29, 45, 47, 75, 78, 81, 82, 85, 86, 100, 144, 146].any fun u => u == t) = true from h)
    have : u = t := by simpa using h2
    rw [← this]; exact h1
  simp only [List.mem_cons, List.not_mem_nil, or_false] at hm
  rcases hm with h | h | h | h | h | h | h | h | h | h | h | h | h | h | h | h | h | h
  · subst h; exact ⟨by kernel_rfl, 1, by decide, eq3⟩
  · subst h; exact ⟨by kernel_rfl, 1, by decide, eq4⟩
  · subst h; exact ⟨by kernel_rfl, 1, by decide, eq5⟩
  · subst h; exact ⟨by kernel_rfl, 1, by decide, eq9⟩
  · subst h; exact ⟨by kernel_rfl, 1, by decide, eq22⟩
  · subst h; exact ⟨by kernel_rfl, 2, by decide, eq27⟩
  · subst h; exact ⟨by kernel_rfl, 1, by decide, eq29⟩
  · subst h; exact ⟨by kernel_rfl, 1, by decide, eq45⟩
  · subst h; exact ⟨by kernel_rfl, 2, by decide, eq47⟩
  · subst h; exact ⟨by kernel_rfl, 2, by decide, eq75⟩
  · subst h; exact ⟨by kernel_rfl, 3, by decide, eq78⟩
  · subst h; exact ⟨by kernel_rfl, 3, by decide, eq81⟩
  · subst h; exact ⟨by kernel_rfl, 2, by decide, eq82⟩
  · subst h; exact ⟨by kernel_rfl, 2, by decide, eq85⟩
  · subst h; exact ⟨by kernel_rfl, 2, by decide, eq86⟩
  · subst h; exact ⟨by kernel_rfl, 2, by decide, eq100⟩
  · subst h; exact ⟨by kernel_rfl, 3, by decide, eq144⟩
  · subst h; exact ⟨by kernel_rfl, 3, by decide, eq146⟩
theorem asOK : AsOK Try.prog tab := fun h => by cases h
end Go.Proofs.Ytbhnkjnjeifdhaa.W
