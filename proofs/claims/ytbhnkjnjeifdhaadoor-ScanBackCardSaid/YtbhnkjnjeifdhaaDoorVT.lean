/-
  The types of the seat as Lean types, what each stands for in cells, and that the program has them so. Laid by program (mktab.py).
-/
import Derived.Test.YtbhnkjnjeifdhaaDoorVK4
import Derived.Test.YtbhnkjnjeifdhaaDoorProg
namespace Go.Proofs.YtbhnkjnjeifdhaaDoor.W
open Go Go.Proofs V
/-- api.Geom -/
structure T23 where
  Pages : Int
  Segs : Int
  SegLen : Int
  Frames : Int
  deriving DecidableEq
/-- api.Region -/
structure T26 where
  Gen : Int
  Geom : T23
  Seg : Int
  Off : Int
  Seq : Int
  Roots : List Int
  deriving DecidableEq
/-- api.Mark -/
structure T73 where
  Kind : Int
  Id : Int
  deriving DecidableEq
/-- api.Block -/
structure T78 where
  Kind : Int
  Id : Int
  Page : List Int
  Off : Int
  Bytes : List Int
  Prev : Int
  Heads : List Int
  deriving DecidableEq
/-- api.Item -/
structure T80 where
  Mark : T73
  Block : T78
  deriving DecidableEq
/-- siltref03.Sizes -/
structure T39 where
  Maps : Int
  Total : Int
  Cap : Int
  deriving DecidableEq
/-- journal.At -/
structure T46 where
  Seg : Int
  Off : Int
  Seq : Int
  Free : List Int
  deriving DecidableEq
/-- siltref03.Place -/
structure T57 where
  Seg : Int
  Off : Int
  OK : Bool
  deriving DecidableEq
/-- scan.Group -/
structure T94 where
  Items : List T80
  Places : List Int
  deriving DecidableEq
/-- siltlaw15.Fall -/
structure T97 where
  Off : Int
  At : Int
  Keep : List Int
  deriving DecidableEq
/-- dev.write -/
structure T126 where
  at_ : Int
  s : List Int
  deriving DecidableEq
/-- dev.Dev -/
structure T103 where
  sectors : List (List Int)
  loose : List T126
  fail : Int
  done : Int
  deriving DecidableEq
/-- journal.Journal -/
structure T116 where
  d : Unit
  g : T23
  a : T46
  deriving DecidableEq
/-- scan.log -/
structure T128 where
  d : Unit
  g : T23
  deriving DecidableEq
/-- fault.fault -/
structure T165 where
  what : ByteArray
  about : GErr
  wraps : Bool
  deriving DecidableEq
/-- group.Found -/
structure T185 where
  Items : List T80
  At : List Int
  Sectors : Int
  Parts : Int
  deriving DecidableEq
/-- summary.Summary -/
structure T197 where
  Seq : Int
  More : Bool
  Marks : List T73
  deriving DecidableEq
def Ty : Nat → Type := fun t => cond (t == 3) (Int) (cond (t == 4) (Bool) (cond (t == 5) (Int) (cond (t == 9) (ByteArray) (cond (t == 22) (Int) (cond (t == 24) (T23) (cond (t == 25) (List Int) (cond (t == 27) (T26) (cond (t == 28) (Unit) (cond (t == 29) (Int) (cond (t == 37) (List (List T80)) (cond (t == 40) (T39) (cond (t == 42) (List Int) (cond (t == 43) (Unit) (cond (t == 47) (T46) (cond (t == 48) (List Bool) (cond (t == 50) (List T80) (cond (t == 55) (T46) (cond (t == 58) (T57) (cond (t == 65) (List Int) (cond (t == 74) (T73) (cond (t == 76) (List Int) (cond (t == 77) (List Int) (cond (t == 79) (T78) (cond (t == 81) (T80) (cond (t == 84) (List Int) (cond (t == 88) (List T94) (cond (t == 95) (T94) (cond (t == 98) (T97) (cond (t == 101) (List (List Int)) (cond (t == 102) (List T126) (cond (t == 104) (T103) (cond (t == 106) (GErr) (cond (t == 110) (List (List Int)) (cond (t == 117) (T116) (cond (t == 121) (Unit) (cond (t == 125) (Unit) (cond (t == 127) (T126) (cond (t == 129) (T128) (cond (t == 144) (Int) (cond (t == 157) (Int) (cond (t == 164) (Unit) (cond (t == 166) (T165) (cond (t == 177) (List GErr) (cond (t == 186) (T185) (cond (t == 191) (Unit) (cond (t == 196) (List T73) (cond (t == 198) (T197) (Unit))))))))))))))))))))))))))))))))))))))))))))))))
def dI_i64 : Den Ty Int where
  enc := fun (x : Int) => .int .i64 x
  dec := fun v => match v with
    | .int .i64 v0 => some v0
    | _ => none
  dflt := (0 : Int)
  spec := by intro v x h; split at h <;> cases h; rfl
def dB : Den Ty Bool where
  enc := fun (x : Bool) => .bool x
  dec := fun v => match v with
    | .bool v0 => some v0
    | _ => none
  dflt := false
  spec := by intro v x h; split at h <;> cases h; rfl
def dI_u8 : Den Ty Int where
  enc := fun (x : Int) => .int .u8 x
  dec := fun v => match v with
    | .int .u8 v0 => some v0
    | _ => none
  dflt := (0 : Int)
  spec := by intro v x h; split at h <;> cases h; rfl
def dS : Den Ty ByteArray where
  enc := fun (x : ByteArray) => .str x
  dec := fun v => match v with
    | .str v0 => some v0
    | _ => none
  dflt := ByteArray.empty
  spec := by intro v x h; split at h <;> cases h; rfl
def dI_u32 : Den Ty Int where
  enc := fun (x : Int) => .int .u32 x
  dec := fun v => match v with
    | .int .u32 v0 => some v0
    | _ => none
  dflt := (0 : Int)
  spec := by intro v x h; split at h <;> cases h; rfl
def dT23 : Den Ty T23 where
  enc := fun (x : T23) => .cons (.int .i64 x.Pages) (.cons (.int .i64 x.Segs) (.cons (.int .i64 x.SegLen) (.cons (.int .i64 x.Frames) (.nil))))
  dec := fun v => match v with
    | .cons (.int .i64 v0) (.cons (.int .i64 v1) (.cons (.int .i64 v2) (.cons (.int .i64 v3) (.nil)))) => some (T23.mk v0 v1 v2 v3)
    | _ => none
  dflt := (T23.mk (0 : Int) (0 : Int) (0 : Int) (0 : Int))
  spec := by intro v x h; split at h <;> cases h; rfl
def dA8_3 : Den Ty (List Int) where
  enc := fun (x : List Int) => .arr 3 8 x
  dec := fun v => match v with
    | .arr 3 8 v0 => some v0
    | _ => none
  dflt := (List.replicate 8 (0 : Int))
  spec := by intro v x h; split at h <;> cases h; rfl
def dT26 : Den Ty T26 where
  enc := fun (x : T26) => .cons (.int .u32 x.Gen) (.cons (.cons (.int .i64 x.Geom.Pages) (.cons (.int .i64 x.Geom.Segs) (.cons (.int .i64 x.Geom.SegLen) (.cons (.int .i64 x.Geom.Frames) (.nil))))) (.cons (.int .i64 x.Seg) (.cons (.int .i64 x.Off) (.cons (.int .u32 x.Seq) (.cons (.arr 3 8 x.Roots) (.nil))))))
  dec := fun v => match v with
    | .cons (.int .u32 v0) (.cons (.cons (.int .i64 v1) (.cons (.int .i64 v2) (.cons (.int .i64 v3) (.cons (.int .i64 v4) (.nil))))) (.cons (.int .i64 v5) (.cons (.int .i64 v6) (.cons (.int .u32 v7) (.cons (.arr 3 8 v8) (.nil)))))) => some (T26.mk v0 (T23.mk v1 v2 v3 v4) v5 v6 v7 v8)
    | _ => none
  dflt := (T26.mk (0 : Int) (T23.mk (0 : Int) (0 : Int) (0 : Int) (0 : Int)) (0 : Int) (0 : Int) (0 : Int) (List.replicate 8 (0 : Int)))
  spec := by intro v x h; split at h <;> cases h; rfl
def dL50 : Den Ty (List (List T80)) where
  enc := fun (x : List (List T80)) => .slice 50 x
  dec := fun v => match v with
    | .slice 50 v0 => some v0
    | _ => none
  dflt := ([] : List (List T80))
  spec := by intro v x h; split at h <;> cases h; rfl
def dT39 : Den Ty T39 where
  enc := fun (x : T39) => .cons (.int .i64 x.Maps) (.cons (.int .i64 x.Total) (.cons (.int .i64 x.Cap) (.nil)))
  dec := fun v => match v with
    | .cons (.int .i64 v0) (.cons (.int .i64 v1) (.cons (.int .i64 v2) (.nil))) => some (T39.mk v0 v1 v2)
    | _ => none
  dflt := (T39.mk (0 : Int) (0 : Int) (0 : Int))
  spec := by intro v x h; split at h <;> cases h; rfl
def dL3 : Den Ty (List Int) where
  enc := fun (x : List Int) => .slice 3 x
  dec := fun v => match v with
    | .slice 3 v0 => some v0
    | _ => none
  dflt := ([] : List Int)
  spec := by intro v x h; split at h <;> cases h; rfl
def dT46 : Den Ty T46 where
  enc := fun (x : T46) => .cons (.int .i64 x.Seg) (.cons (.int .i64 x.Off) (.cons (.int .u32 x.Seq) (.cons (.slice 3 x.Free) (.nil))))
  dec := fun v => match v with
    | .cons (.int .i64 v0) (.cons (.int .i64 v1) (.cons (.int .u32 v2) (.cons (.slice 3 v3) (.nil)))) => some (T46.mk v0 v1 v2 v3)
    | _ => none
  dflt := (T46.mk (0 : Int) (0 : Int) (0 : Int) ([] : List Int))
  spec := by intro v x h; split at h <;> cases h; rfl
def dL4 : Den Ty (List Bool) where
  enc := fun (x : List Bool) => .slice 4 x
  dec := fun v => match v with
    | .slice 4 v0 => some v0
    | _ => none
  dflt := ([] : List Bool)
  spec := by intro v x h; split at h <;> cases h; rfl
def dL81 : Den Ty (List T80) where
  enc := fun (x : List T80) => .slice 81 x
  dec := fun v => match v with
    | .slice 81 v0 => some v0
    | _ => none
  dflt := ([] : List T80)
  spec := by intro v x h; split at h <;> cases h; rfl
def dT57 : Den Ty T57 where
  enc := fun (x : T57) => .cons (.int .i64 x.Seg) (.cons (.int .i64 x.Off) (.cons (.bool x.OK) (.nil)))
  dec := fun v => match v with
    | .cons (.int .i64 v0) (.cons (.int .i64 v1) (.cons (.bool v2) (.nil))) => some (T57.mk v0 v1 v2)
    | _ => none
  dflt := (T57.mk (0 : Int) (0 : Int) false)
  spec := by intro v x h; split at h <;> cases h; rfl
def dA2_5 : Den Ty (List Int) where
  enc := fun (x : List Int) => .arr 5 2 x
  dec := fun v => match v with
    | .arr 5 2 v0 => some v0
    | _ => none
  dflt := (List.replicate 2 (0 : Int))
  spec := by intro v x h; split at h <;> cases h; rfl
def dT73 : Den Ty T73 where
  enc := fun (x : T73) => .cons (.int .i64 x.Kind) (.cons (.int .i64 x.Id) (.nil))
  dec := fun v => match v with
    | .cons (.int .i64 v0) (.cons (.int .i64 v1) (.nil)) => some (T73.mk v0 v1)
    | _ => none
  dflt := (T73.mk (0 : Int) (0 : Int))
  spec := by intro v x h; split at h <;> cases h; rfl
def dA32_5 : Den Ty (List Int) where
  enc := fun (x : List Int) => .arr 5 32 x
  dec := fun v => match v with
    | .arr 5 32 v0 => some v0
    | _ => none
  dflt := (List.replicate 32 (0 : Int))
  spec := by intro v x h; split at h <;> cases h; rfl
def dL5 : Den Ty (List Int) where
  enc := fun (x : List Int) => .slice 5 x
  dec := fun v => match v with
    | .slice 5 v0 => some v0
    | _ => none
  dflt := ([] : List Int)
  spec := by intro v x h; split at h <;> cases h; rfl
def dT78 : Den Ty T78 where
  enc := fun (x : T78) => .cons (.int .i64 x.Kind) (.cons (.int .i64 x.Id) (.cons (.arr 5 32 x.Page) (.cons (.int .i64 x.Off) (.cons (.slice 5 x.Bytes) (.cons (.int .i64 x.Prev) (.cons (.arr 3 8 x.Heads) (.nil)))))))
  dec := fun v => match v with
    | .cons (.int .i64 v0) (.cons (.int .i64 v1) (.cons (.arr 5 32 v2) (.cons (.int .i64 v3) (.cons (.slice 5 v4) (.cons (.int .i64 v5) (.cons (.arr 3 8 v6) (.nil))))))) => some (T78.mk v0 v1 v2 v3 v4 v5 v6)
    | _ => none
  dflt := (T78.mk (0 : Int) (0 : Int) (List.replicate 32 (0 : Int)) (0 : Int) ([] : List Int) (0 : Int) (List.replicate 8 (0 : Int)))
  spec := by intro v x h; split at h <;> cases h; rfl
def dT80 : Den Ty T80 where
  enc := fun (x : T80) => .cons (.cons (.int .i64 x.Mark.Kind) (.cons (.int .i64 x.Mark.Id) (.nil))) (.cons (.cons (.int .i64 x.Block.Kind) (.cons (.int .i64 x.Block.Id) (.cons (.arr 5 32 x.Block.Page) (.cons (.int .i64 x.Block.Off) (.cons (.slice 5 x.Block.Bytes) (.cons (.int .i64 x.Block.Prev) (.cons (.arr 3 8 x.Block.Heads) (.nil)))))))) (.nil))
  dec := fun v => match v with
    | .cons (.cons (.int .i64 v0) (.cons (.int .i64 v1) (.nil))) (.cons (.cons (.int .i64 v2) (.cons (.int .i64 v3) (.cons (.arr 5 32 v4) (.cons (.int .i64 v5) (.cons (.slice 5 v6) (.cons (.int .i64 v7) (.cons (.arr 3 8 v8) (.nil)))))))) (.nil)) => some (T80.mk (T73.mk v0 v1) (T78.mk v2 v3 v4 v5 v6 v7 v8))
    | _ => none
  dflt := (T80.mk (T73.mk (0 : Int) (0 : Int)) (T78.mk (0 : Int) (0 : Int) (List.replicate 32 (0 : Int)) (0 : Int) ([] : List Int) (0 : Int) (List.replicate 8 (0 : Int))))
  spec := by intro v x h; split at h <;> cases h; rfl
def dA64_5 : Den Ty (List Int) where
  enc := fun (x : List Int) => .arr 5 64 x
  dec := fun v => match v with
    | .arr 5 64 v0 => some v0
    | _ => none
  dflt := (List.replicate 64 (0 : Int))
  spec := by intro v x h; split at h <;> cases h; rfl
def dL95 : Den Ty (List T94) where
  enc := fun (x : List T94) => .slice 95 x
  dec := fun v => match v with
    | .slice 95 v0 => some v0
    | _ => none
  dflt := ([] : List T94)
  spec := by intro v x h; split at h <;> cases h; rfl
def dT94 : Den Ty T94 where
  enc := fun (x : T94) => .cons (.slice 81 x.Items) (.cons (.slice 3 x.Places) (.nil))
  dec := fun v => match v with
    | .cons (.slice 81 v0) (.cons (.slice 3 v1) (.nil)) => some (T94.mk v0 v1)
    | _ => none
  dflt := (T94.mk ([] : List T80) ([] : List Int))
  spec := by intro v x h; split at h <;> cases h; rfl
def dT97 : Den Ty T97 where
  enc := fun (x : T97) => .cons (.int .i64 x.Off) (.cons (.int .i64 x.At) (.cons (.slice 5 x.Keep) (.nil)))
  dec := fun v => match v with
    | .cons (.int .i64 v0) (.cons (.int .i64 v1) (.cons (.slice 5 v2) (.nil))) => some (T97.mk v0 v1 v2)
    | _ => none
  dflt := (T97.mk (0 : Int) (0 : Int) ([] : List Int))
  spec := by intro v x h; split at h <;> cases h; rfl
def dL84 : Den Ty (List (List Int)) where
  enc := fun (x : List (List Int)) => .slice 84 x
  dec := fun v => match v with
    | .slice 84 v0 => some v0
    | _ => none
  dflt := ([] : List (List Int))
  spec := by intro v x h; split at h <;> cases h; rfl
def dL127 : Den Ty (List T126) where
  enc := fun (x : List T126) => .slice 127 x
  dec := fun v => match v with
    | .slice 127 v0 => some v0
    | _ => none
  dflt := ([] : List T126)
  spec := by intro v x h; split at h <;> cases h; rfl
def dT103 : Den Ty T103 where
  enc := fun (x : T103) => .cons (.slice 84 x.sectors) (.cons (.slice 127 x.loose) (.cons (.int .i64 x.fail) (.cons (.int .i64 x.done) (.nil))))
  dec := fun v => match v with
    | .cons (.slice 84 v0) (.cons (.slice 127 v1) (.cons (.int .i64 v2) (.cons (.int .i64 v3) (.nil)))) => some (T103.mk v0 v1 v2 v3)
    | _ => none
  dflt := (T103.mk ([] : List (List Int)) ([] : List T126) (0 : Int) (0 : Int))
  spec := by intro v x h; split at h <;> cases h; rfl
def dE : Den Ty GErr where
  enc := fun (x : GErr) => .err x
  dec := fun v => match v with
    | .err v0 => some v0
    | _ => none
  dflt := GErr.nil
  spec := by intro v x h; split at h <;> cases h; rfl
def dA2_84 : Den Ty (List (List Int)) where
  enc := fun (x : List (List Int)) => .arr 84 2 x
  dec := fun v => match v with
    | .arr 84 2 v0 => some v0
    | _ => none
  dflt := (List.replicate 2 (List.replicate 64 (0 : Int)))
  spec := by intro v x h; split at h <;> cases h; rfl
def dT116 : Den Ty T116 where
  enc := fun (x : T116) => .cons (.nilp) (.cons (.cons (.int .i64 x.g.Pages) (.cons (.int .i64 x.g.Segs) (.cons (.int .i64 x.g.SegLen) (.cons (.int .i64 x.g.Frames) (.nil))))) (.cons (.cons (.int .i64 x.a.Seg) (.cons (.int .i64 x.a.Off) (.cons (.int .u32 x.a.Seq) (.cons (.slice 3 x.a.Free) (.nil))))) (.nil)))
  dec := fun v => match v with
    | .cons (.nilp) (.cons (.cons (.int .i64 v0) (.cons (.int .i64 v1) (.cons (.int .i64 v2) (.cons (.int .i64 v3) (.nil))))) (.cons (.cons (.int .i64 v4) (.cons (.int .i64 v5) (.cons (.int .u32 v6) (.cons (.slice 3 v7) (.nil))))) (.nil))) => some (T116.mk () (T23.mk v0 v1 v2 v3) (T46.mk v4 v5 v6 v7))
    | _ => none
  dflt := (T116.mk () (T23.mk (0 : Int) (0 : Int) (0 : Int) (0 : Int)) (T46.mk (0 : Int) (0 : Int) (0 : Int) ([] : List Int)))
  spec := by intro v x h; split at h <;> cases h; rfl
def dF112 : Den Ty Unit where
  enc := fun (x : Unit) => .func 112
  dec := fun v => match v with
    | .func 112 => some ()
    | _ => none
  dflt := ()
  spec := by intro v x h; split at h <;> cases h; rfl
def dT126 : Den Ty T126 where
  enc := fun (x : T126) => .cons (.int .i64 x.at_) (.cons (.arr 5 64 x.s) (.nil))
  dec := fun v => match v with
    | .cons (.int .i64 v0) (.cons (.arr 5 64 v1) (.nil)) => some (T126.mk v0 v1)
    | _ => none
  dflt := (T126.mk (0 : Int) (List.replicate 64 (0 : Int)))
  spec := by intro v x h; split at h <;> cases h; rfl
def dT128 : Den Ty T128 where
  enc := fun (x : T128) => .cons (.nilp) (.cons (.cons (.int .i64 x.g.Pages) (.cons (.int .i64 x.g.Segs) (.cons (.int .i64 x.g.SegLen) (.cons (.int .i64 x.g.Frames) (.nil))))) (.nil))
  dec := fun v => match v with
    | .cons (.nilp) (.cons (.cons (.int .i64 v0) (.cons (.int .i64 v1) (.cons (.int .i64 v2) (.cons (.int .i64 v3) (.nil))))) (.nil)) => some (T128.mk () (T23.mk v0 v1 v2 v3))
    | _ => none
  dflt := (T128.mk () (T23.mk (0 : Int) (0 : Int) (0 : Int) (0 : Int)))
  spec := by intro v x h; split at h <;> cases h; rfl
def dI_u64 : Den Ty Int where
  enc := fun (x : Int) => .int .u64 x
  dec := fun v => match v with
    | .int .u64 v0 => some v0
    | _ => none
  dflt := (0 : Int)
  spec := by intro v x h; split at h <;> cases h; rfl
def dT165 : Den Ty T165 where
  enc := fun (x : T165) => .cons (.str x.what) (.cons (.err x.about) (.cons (.bool x.wraps) (.nil)))
  dec := fun v => match v with
    | .cons (.str v0) (.cons (.err v1) (.cons (.bool v2) (.nil))) => some (T165.mk v0 v1 v2)
    | _ => none
  dflt := (T165.mk ByteArray.empty GErr.nil false)
  spec := by intro v x h; split at h <;> cases h; rfl
def dL106 : Den Ty (List GErr) where
  enc := fun (x : List GErr) => .slice 106 x
  dec := fun v => match v with
    | .slice 106 v0 => some v0
    | _ => none
  dflt := ([] : List GErr)
  spec := by intro v x h; split at h <;> cases h; rfl
def dT185 : Den Ty T185 where
  enc := fun (x : T185) => .cons (.slice 81 x.Items) (.cons (.slice 3 x.At) (.cons (.int .i64 x.Sectors) (.cons (.int .i64 x.Parts) (.nil))))
  dec := fun v => match v with
    | .cons (.slice 81 v0) (.cons (.slice 3 v1) (.cons (.int .i64 v2) (.cons (.int .i64 v3) (.nil)))) => some (T185.mk v0 v1 v2 v3)
    | _ => none
  dflt := (T185.mk ([] : List T80) ([] : List Int) (0 : Int) (0 : Int))
  spec := by intro v x h; split at h <;> cases h; rfl
def dL74 : Den Ty (List T73) where
  enc := fun (x : List T73) => .slice 74 x
  dec := fun v => match v with
    | .slice 74 v0 => some v0
    | _ => none
  dflt := ([] : List T73)
  spec := by intro v x h; split at h <;> cases h; rfl
def dT197 : Den Ty T197 where
  enc := fun (x : T197) => .cons (.int .u32 x.Seq) (.cons (.bool x.More) (.cons (.slice 74 x.Marks) (.nil)))
  dec := fun v => match v with
    | .cons (.int .u32 v0) (.cons (.bool v1) (.cons (.slice 74 v2) (.nil))) => some (T197.mk v0 v1 v2)
    | _ => none
  dflt := (T197.mk (0 : Int) false ([] : List T73))
  spec := by intro v x h; split at h <;> cases h; rfl
def den : (t : Nat) → Den Ty (Ty t) := fun t => pickDen (t == 3) dI_i64 (pickDen (t == 4) dB (pickDen (t == 5) dI_u8 (pickDen (t == 9) dS (pickDen (t == 22) dI_u32 (pickDen (t == 24) dT23 (pickDen (t == 25) dA8_3 (pickDen (t == 27) dT26 (pickDen (t == 28) ptrDen (pickDen (t == 29) dI_i64 (pickDen (t == 37) dL50 (pickDen (t == 40) dT39 (pickDen (t == 42) dL3 (pickDen (t == 43) ptrDen (pickDen (t == 47) dT46 (pickDen (t == 48) dL4 (pickDen (t == 50) dL81 (pickDen (t == 55) dT46 (pickDen (t == 58) dT57 (pickDen (t == 65) dA2_5 (pickDen (t == 74) dT73 (pickDen (t == 76) dA32_5 (pickDen (t == 77) dL5 (pickDen (t == 79) dT78 (pickDen (t == 81) dT80 (pickDen (t == 84) dA64_5 (pickDen (t == 88) dL95 (pickDen (t == 95) dT94 (pickDen (t == 98) dT97 (pickDen (t == 101) dL84 (pickDen (t == 102) dL127 (pickDen (t == 104) dT103 (pickDen (t == 106) dE (pickDen (t == 110) dA2_84 (pickDen (t == 117) dT116 (pickDen (t == 121) ptrDen (pickDen (t == 125) dF112 (pickDen (t == 127) dT126 (pickDen (t == 129) dT128 (pickDen (t == 144) dI_u64 (pickDen (t == 157) dI_u8 (pickDen (t == 164) ptrDen (pickDen (t == 166) dT165 (pickDen (t == 177) dL106 (pickDen (t == 186) dT185 (pickDen (t == 191) ptrDen (pickDen (t == 196) dL74 (pickDen (t == 198) dT197 (unitDen))))))))))))))))))))))))))))))))))))))))))))))))
def info : List (Nat × TI) := [(3, ⟨.int .i64, 1, 8⟩), (4, ⟨.bool, 1, 1⟩), (5, ⟨.int .u8, 1, 1⟩), (9, ⟨.str, 1, 16⟩), (22, ⟨.int .u32, 1, 4⟩), (24, ⟨.struct [(3, 0), (3, 1), (3, 2), (3, 3)], 4, 32⟩), (25, ⟨.arr 8 3, 8, 64⟩), (27, ⟨.struct [(22, 0), (24, 1), (3, 5), (3, 6), (22, 7), (25, 8)], 16, 128⟩), (28, ⟨.ptr 104, 1, 8⟩), (29, ⟨.int .i64, 1, 8⟩), (37, ⟨.slice 50, 1, 24⟩), (40, ⟨.struct [(3, 0), (3, 1), (3, 2)], 3, 24⟩), (42, ⟨.slice 3, 1, 24⟩), (43, ⟨.ptr 117, 1, 8⟩), (47, ⟨.struct [(3, 0), (3, 1), (22, 2), (42, 3)], 4, 48⟩), (48, ⟨.slice 4, 1, 24⟩), (50, ⟨.slice 81, 1, 24⟩), (55, ⟨.struct [(3, 0), (3, 1), (22, 2), (42, 3)], 4, 48⟩), (58, ⟨.struct [(3, 0), (3, 1), (4, 2)], 3, 24⟩), (65, ⟨.arr 2 5, 2, 2⟩), (74, ⟨.struct [(3, 0), (3, 1)], 2, 16⟩), (76, ⟨.arr 32 5, 32, 32⟩), (77, ⟨.slice 5, 1, 24⟩), (79, ⟨.struct [(3, 0), (3, 1), (76, 2), (3, 34), (77, 35), (3, 36), (25, 37)], 45, 152⟩), (81, ⟨.struct [(74, 0), (79, 2)], 47, 168⟩), (84, ⟨.arr 64 5, 64, 64⟩), (88, ⟨.slice 95, 1, 24⟩), (95, ⟨.struct [(50, 0), (42, 1)], 2, 48⟩), (98, ⟨.struct [(3, 0), (3, 1), (77, 2)], 3, 40⟩), (101, ⟨.slice 84, 1, 24⟩), (102, ⟨.slice 127, 1, 24⟩), (104, ⟨.struct [(101, 0), (102, 1), (3, 2), (3, 3)], 4, 64⟩), (106, ⟨.iface, 1, 16⟩), (110, ⟨.arr 2 84, 128, 128⟩), (117, ⟨.struct [(28, 0), (24, 1), (47, 5)], 9, 88⟩), (121, ⟨.ptr 29, 1, 8⟩), (127, ⟨.struct [(3, 0), (84, 1)], 65, 72⟩), (129, ⟨.struct [(28, 0), (24, 1)], 5, 40⟩), (144, ⟨.int .u64, 1, 8⟩), (157, ⟨.int .u8, 1, 1⟩), (164, ⟨.ptr 166, 1, 8⟩), (166, ⟨.struct [(9, 0), (106, 1), (4, 2)], 3, 40⟩), (177, ⟨.slice 106, 1, 24⟩), (186, ⟨.struct [(50, 0), (42, 1), (3, 2), (3, 3)], 4, 64⟩), (191, ⟨.map 3, 1, 8⟩), (196, ⟨.slice 74, 1, 24⟩), (198, ⟨.struct [(22, 0), (4, 1), (196, 2)], 3, 32⟩)]
def isOf (l : List Nat) (t : Nat) : Bool := l.any fun u => u == t
def eqL1 {α β : Type} (b : Bool) (f : List α → List α → Bool) (g : List β → List β → Bool) : List (cond b α β) → List (cond b α β) → Bool :=
  match b with
  | true => f
  | false => g
def eqL : (t : Nat) → List (Ty t) → List (Ty t) → Bool := fun t => eqL1 (t == 3) (fun (xs ys : List Int) => decide (xs = ys)) (eqL1 (t == 4) (fun _ _ => false) (eqL1 (t == 5) (fun (xs ys : List Int) => decide (xs = ys)) (eqL1 (t == 9) (fun _ _ => false) (eqL1 (t == 22) (fun _ _ => false) (eqL1 (t == 24) (fun _ _ => false) (eqL1 (t == 25) (fun _ _ => false) (eqL1 (t == 27) (fun _ _ => false) (eqL1 (t == 28) (fun _ _ => false) (eqL1 (t == 29) (fun _ _ => false) (eqL1 (t == 37) (fun _ _ => false) (eqL1 (t == 40) (fun _ _ => false) (eqL1 (t == 42) (fun _ _ => false) (eqL1 (t == 43) (fun _ _ => false) (eqL1 (t == 47) (fun _ _ => false) (eqL1 (t == 48) (fun _ _ => false) (eqL1 (t == 50) (fun _ _ => false) (eqL1 (t == 55) (fun _ _ => false) (eqL1 (t == 58) (fun _ _ => false) (eqL1 (t == 65) (fun _ _ => false) (eqL1 (t == 74) (fun _ _ => false) (eqL1 (t == 76) (fun _ _ => false) (eqL1 (t == 77) (fun _ _ => false) (eqL1 (t == 79) (fun _ _ => false) (eqL1 (t == 81) (fun _ _ => false) (eqL1 (t == 84) (fun (xs ys : List (List Int)) => decide (xs = ys)) (eqL1 (t == 88) (fun _ _ => false) (eqL1 (t == 95) (fun _ _ => false) (eqL1 (t == 98) (fun _ _ => false) (eqL1 (t == 101) (fun _ _ => false) (eqL1 (t == 102) (fun _ _ => false) (eqL1 (t == 104) (fun _ _ => false) (eqL1 (t == 106) (fun _ _ => false) (eqL1 (t == 110) (fun _ _ => false) (eqL1 (t == 117) (fun _ _ => false) (eqL1 (t == 121) (fun _ _ => false) (eqL1 (t == 125) (fun _ _ => false) (eqL1 (t == 127) (fun _ _ => false) (eqL1 (t == 129) (fun _ _ => false) (eqL1 (t == 144) (fun _ _ => false) (eqL1 (t == 157) (fun _ _ => false) (eqL1 (t == 164) (fun _ _ => false) (eqL1 (t == 166) (fun _ _ => false) (eqL1 (t == 177) (fun _ _ => false) (eqL1 (t == 186) (fun _ _ => false) (eqL1 (t == 191) (fun _ _ => false) (eqL1 (t == 196) (fun _ _ => false) (eqL1 (t == 198) (fun _ _ => false) (fun _ _ => false))))))))))))))))))))))))))))))))))))))))))))))))
def tab : Tab Ty := { den, flatTy := isOf [3, 4, 5, 9, 22, 24, 25, 27, 29, 40, 58, 65, 74, 76, 84, 110, 127, 144, 157], eqOk := isOf [3, 5, 84], cmp := isOf [3, 4, 5, 9, 22, 24, 25, 27, 29, 40, 58, 65, 74, 76, 84, 110, 127, 144, 157], eqL, errnoTy := 29, faultTy := 164, asOn := true, asFn := 53, errnoPtr := 121, globs := [(0, .iface 169 (.agg #[.pointer (some ⟨1, 106, none⟩)]))], info }
theorem ent3 : EntOK tab 3 Int dI_i64 := ⟨fun _ => rfl, fun _ _ => rfl, fun _ => rfl, fun _ => rfl, fun _ _ => rfl, fun _ h => (by cases h)⟩
theorem ent4 : EntOK tab 4 Bool dB := ⟨fun _ => rfl, fun _ _ => rfl, fun _ => rfl, fun _ => rfl, fun _ _ => rfl, fun _ h => (by cases h)⟩
theorem ent5 : EntOK tab 5 Int dI_u8 := ⟨fun _ => rfl, fun _ _ => rfl, fun _ => rfl, fun _ => rfl, fun _ _ => rfl, fun x _ => ⟨x, rfl⟩⟩
theorem ent9 : EntOK tab 9 ByteArray dS := ⟨fun _ => rfl, fun _ _ => rfl, fun _ => rfl, fun _ => rfl, fun _ _ => rfl, fun _ h => (by cases h)⟩
theorem ent22 : EntOK tab 22 Int dI_u32 := ⟨fun _ => rfl, fun _ _ => rfl, fun _ => rfl, fun _ => rfl, fun _ _ => rfl, fun _ h => (by cases h)⟩
theorem ent24 : EntOK tab 24 T23 dT23 := ⟨fun _ => rfl, fun _ _ => rfl, fun _ => rfl, fun _ => rfl, fun _ _ => rfl, fun _ h => (by cases h)⟩
theorem ent25 : EntOK tab 25 (List Int) dA8_3 := ⟨fun _ => rfl, fun _ _ => rfl, fun _ => rfl, fun _ => rfl, fun _ _ => rfl, fun _ h => (by cases h)⟩
theorem ent27 : EntOK tab 27 T26 dT26 := ⟨fun _ => rfl, fun _ _ => rfl, fun _ => rfl, fun _ => rfl, fun _ _ => rfl, fun _ h => (by cases h)⟩
theorem ent28 : EntOK tab 28 Unit ptrDen := ⟨fun _ => rfl, fun _ _ => rfl, fun _ => rfl, fun _ => rfl, fun _ h => (by cases h), fun _ h => (by cases h)⟩
theorem ent29 : EntOK tab 29 Int dI_i64 := ⟨fun _ => rfl, fun _ _ => rfl, fun _ => rfl, fun _ => rfl, fun _ _ => rfl, fun _ h => (by cases h)⟩
theorem ent37 : EntOK tab 37 (List (List T80)) dL50 := ⟨fun _ => rfl, fun _ _ => rfl, fun _ => rfl, fun _ => rfl, fun _ h => (by cases h), fun _ h => (by cases h)⟩
theorem ent40 : EntOK tab 40 T39 dT39 := ⟨fun _ => rfl, fun _ _ => rfl, fun _ => rfl, fun _ => rfl, fun _ _ => rfl, fun _ h => (by cases h)⟩
theorem ent42 : EntOK tab 42 (List Int) dL3 := ⟨fun _ => rfl, fun _ _ => rfl, fun _ => rfl, fun _ => rfl, fun _ h => (by cases h), fun _ h => (by cases h)⟩
theorem ent43 : EntOK tab 43 Unit ptrDen := ⟨fun _ => rfl, fun _ _ => rfl, fun _ => rfl, fun _ => rfl, fun _ h => (by cases h), fun _ h => (by cases h)⟩
theorem ent47 : EntOK tab 47 T46 dT46 := ⟨fun _ => rfl, fun _ _ => rfl, fun _ => rfl, fun _ => rfl, fun _ h => (by cases h), fun _ h => (by cases h)⟩
theorem ent48 : EntOK tab 48 (List Bool) dL4 := ⟨fun _ => rfl, fun _ _ => rfl, fun _ => rfl, fun _ => rfl, fun _ h => (by cases h), fun _ h => (by cases h)⟩
theorem ent50 : EntOK tab 50 (List T80) dL81 := ⟨fun _ => rfl, fun _ _ => rfl, fun _ => rfl, fun _ => rfl, fun _ h => (by cases h), fun _ h => (by cases h)⟩
theorem ent55 : EntOK tab 55 T46 dT46 := ⟨fun _ => rfl, fun _ _ => rfl, fun _ => rfl, fun _ => rfl, fun _ h => (by cases h), fun _ h => (by cases h)⟩
theorem ent58 : EntOK tab 58 T57 dT57 := ⟨fun _ => rfl, fun _ _ => rfl, fun _ => rfl, fun _ => rfl, fun _ _ => rfl, fun _ h => (by cases h)⟩
theorem ent65 : EntOK tab 65 (List Int) dA2_5 := ⟨fun _ => rfl, fun _ _ => rfl, fun _ => rfl, fun _ => rfl, fun _ _ => rfl, fun _ h => (by cases h)⟩
theorem ent74 : EntOK tab 74 T73 dT73 := ⟨fun _ => rfl, fun _ _ => rfl, fun _ => rfl, fun _ => rfl, fun _ _ => rfl, fun _ h => (by cases h)⟩
theorem ent76 : EntOK tab 76 (List Int) dA32_5 := ⟨fun _ => rfl, fun _ _ => rfl, fun _ => rfl, fun _ => rfl, fun _ _ => rfl, fun _ h => (by cases h)⟩
theorem ent77 : EntOK tab 77 (List Int) dL5 := ⟨fun _ => rfl, fun _ _ => rfl, fun _ => rfl, fun _ => rfl, fun _ h => (by cases h), fun _ h => (by cases h)⟩
theorem ent79 : EntOK tab 79 T78 dT78 := ⟨fun _ => rfl, fun _ _ => rfl, fun _ => rfl, fun _ => rfl, fun _ h => (by cases h), fun _ h => (by cases h)⟩
theorem ent81 : EntOK tab 81 T80 dT80 := ⟨fun _ => rfl, fun _ _ => rfl, fun _ => rfl, fun _ => rfl, fun _ h => (by cases h), fun _ h => (by cases h)⟩
theorem ent84 : EntOK tab 84 (List Int) dA64_5 := ⟨fun _ => rfl, fun _ _ => rfl, fun _ => rfl, fun _ => rfl, fun _ _ => rfl, fun _ h => (by cases h)⟩
theorem ent88 : EntOK tab 88 (List T94) dL95 := ⟨fun _ => rfl, fun _ _ => rfl, fun _ => rfl, fun _ => rfl, fun _ h => (by cases h), fun _ h => (by cases h)⟩
theorem ent95 : EntOK tab 95 T94 dT94 := ⟨fun _ => rfl, fun _ _ => rfl, fun _ => rfl, fun _ => rfl, fun _ h => (by cases h), fun _ h => (by cases h)⟩
theorem ent98 : EntOK tab 98 T97 dT97 := ⟨fun _ => rfl, fun _ _ => rfl, fun _ => rfl, fun _ => rfl, fun _ h => (by cases h), fun _ h => (by cases h)⟩
theorem ent101 : EntOK tab 101 (List (List Int)) dL84 := ⟨fun _ => rfl, fun _ _ => rfl, fun _ => rfl, fun _ => rfl, fun _ h => (by cases h), fun _ h => (by cases h)⟩
theorem ent102 : EntOK tab 102 (List T126) dL127 := ⟨fun _ => rfl, fun _ _ => rfl, fun _ => rfl, fun _ => rfl, fun _ h => (by cases h), fun _ h => (by cases h)⟩
theorem ent104 : EntOK tab 104 T103 dT103 := ⟨fun _ => rfl, fun _ _ => rfl, fun _ => rfl, fun _ => rfl, fun _ h => (by cases h), fun _ h => (by cases h)⟩
theorem ent106 : EntOK tab 106 GErr dE := ⟨fun _ => rfl, fun _ _ => rfl, fun _ => rfl, fun _ => rfl, fun _ h => (by cases h), fun _ h => (by cases h)⟩
theorem ent110 : EntOK tab 110 (List (List Int)) dA2_84 := ⟨fun _ => rfl, fun _ _ => rfl, fun _ => rfl, fun _ => rfl, fun _ _ => rfl, fun _ h => (by cases h)⟩
theorem ent117 : EntOK tab 117 T116 dT116 := ⟨fun _ => rfl, fun _ _ => rfl, fun _ => rfl, fun _ => rfl, fun _ h => (by cases h), fun _ h => (by cases h)⟩
theorem ent121 : EntOK tab 121 Unit ptrDen := ⟨fun _ => rfl, fun _ _ => rfl, fun _ => rfl, fun _ => rfl, fun _ h => (by cases h), fun _ h => (by cases h)⟩
theorem ent125 : EntOK tab 125 Unit dF112 := ⟨fun _ => rfl, fun _ _ => rfl, fun _ => rfl, fun _ => rfl, fun _ h => (by cases h), fun _ h => (by cases h)⟩
theorem ent127 : EntOK tab 127 T126 dT126 := ⟨fun _ => rfl, fun _ _ => rfl, fun _ => rfl, fun _ => rfl, fun _ _ => rfl, fun _ h => (by cases h)⟩
theorem ent129 : EntOK tab 129 T128 dT128 := ⟨fun _ => rfl, fun _ _ => rfl, fun _ => rfl, fun _ => rfl, fun _ h => (by cases h), fun _ h => (by cases h)⟩
theorem ent144 : EntOK tab 144 Int dI_u64 := ⟨fun _ => rfl, fun _ _ => rfl, fun _ => rfl, fun _ => rfl, fun _ _ => rfl, fun _ h => (by cases h)⟩
theorem ent157 : EntOK tab 157 Int dI_u8 := ⟨fun _ => rfl, fun _ _ => rfl, fun _ => rfl, fun _ => rfl, fun _ _ => rfl, fun x _ => ⟨x, rfl⟩⟩
theorem ent164 : EntOK tab 164 Unit ptrDen := ⟨fun _ => rfl, fun _ _ => rfl, fun _ => rfl, fun _ => rfl, fun _ h => (by cases h), fun _ h => (by cases h)⟩
theorem ent166 : EntOK tab 166 T165 dT165 := ⟨fun _ => rfl, fun _ _ => rfl, fun _ => rfl, fun _ => rfl, fun _ h => (by cases h), fun _ h => (by cases h)⟩
theorem ent177 : EntOK tab 177 (List GErr) dL106 := ⟨fun _ => rfl, fun _ _ => rfl, fun _ => rfl, fun _ => rfl, fun _ h => (by cases h), fun _ h => (by cases h)⟩
theorem ent186 : EntOK tab 186 T185 dT185 := ⟨fun _ => rfl, fun _ _ => rfl, fun _ => rfl, fun _ => rfl, fun _ h => (by cases h), fun _ h => (by cases h)⟩
theorem ent191 : EntOK tab 191 Unit ptrDen := ⟨fun _ => rfl, fun _ _ => rfl, fun _ => rfl, fun _ => rfl, fun _ h => (by cases h), fun _ h => (by cases h)⟩
theorem ent196 : EntOK tab 196 (List T73) dL74 := ⟨fun _ => rfl, fun _ _ => rfl, fun _ => rfl, fun _ => rfl, fun _ h => (by cases h), fun _ h => (by cases h)⟩
theorem ent198 : EntOK tab 198 T197 dT197 := ⟨fun _ => rfl, fun _ _ => rfl, fun _ => rfl, fun _ => rfl, fun _ h => (by cases h), fun _ h => (by cases h)⟩
theorem ent (t : Nat) : EntOK tab t (Ty t) (tab.den t) := by
  show EntOK tab t (Ty t) (den t)
  unfold den Ty
  by_cases hall : t ∈ [3, 4, 5, 9, 22, 24, 25, 27, 28, 29, 37, 40, 42, 43, 47, 48, 50, 55, 58, 65, 74, 76, 77, 79, 81, 84, 88, 95, 98, 101, 102, 104, 106, 110, 117, 121, 125, 127, 129, 144, 157, 164, 166, 177, 186, 191, 196, 198]
  · simp only [List.mem_cons, List.not_mem_nil, or_false] at hall
    rcases hall with h | h | h | h | h | h | h | h | h | h | h | h | h | h | h | h | h | h | h | h | h | h | h | h | h | h | h | h | h | h | h | h | h | h | h | h | h | h | h | h | h | h | h | h | h | h | h | h
    · subst h; exact ent3
    · subst h; exact ent4
    · subst h; exact ent5
    · subst h; exact ent9
    · subst h; exact ent22
    · subst h; exact ent24
    · subst h; exact ent25
    · subst h; exact ent27
    · subst h; exact ent28
    · subst h; exact ent29
    · subst h; exact ent37
    · subst h; exact ent40
    · subst h; exact ent42
    · subst h; exact ent43
    · subst h; exact ent47
    · subst h; exact ent48
    · subst h; exact ent50
    · subst h; exact ent55
    · subst h; exact ent58
    · subst h; exact ent65
    · subst h; exact ent74
    · subst h; exact ent76
    · subst h; exact ent77
    · subst h; exact ent79
    · subst h; exact ent81
    · subst h; exact ent84
    · subst h; exact ent88
    · subst h; exact ent95
    · subst h; exact ent98
    · subst h; exact ent101
    · subst h; exact ent102
    · subst h; exact ent104
    · subst h; exact ent106
    · subst h; exact ent110
    · subst h; exact ent117
    · subst h; exact ent121
    · subst h; exact ent125
    · subst h; exact ent127
    · subst h; exact ent129
    · subst h; exact ent144
    · subst h; exact ent157
    · subst h; exact ent164
    · subst h; exact ent166
    · subst h; exact ent177
    · subst h; exact ent186
    · subst h; exact ent191
    · subst h; exact ent196
    · subst h; exact ent198
  · have hf : ∀ u ∈ [3, 4, 5, 9, 22, 24, 25, 27, 28, 29, 37, 40, 42, 43, 47, 48, 50, 55, 58, 65, 74, 76, 77, 79, 81, 84, 88, 95, 98, 101, 102, 104, 106, 110, 117, 121, 125, 127, 129, 144, 157, 164, 166, 177, 186, 191, 196, 198], (t == u) = false := fun u hu => by simp only [beq_eq_false_iff_ne]; intro e; subst e; exact hall hu
    have hi : infoAt t info = ⟨.other, 1, 8⟩ := by
      rcases infoAt_spec info t with ⟨p, h1, h2, _⟩ | h
      · exfalso; apply hall; rw [← h2]; have : ∀ q ∈ info, q.1 ∈ [3, 4, 5, 9, 22, 24, 25, 27, 28, 29, 37, 40, 42, 43, 47, 48, 50, 55, 58, 65, 74, 76, 77, 79, 81, 84, 88, 95, 98, 101, 102, 104, 106, 110, 117, 121, 125, 127, 129, 144, 157, 164, 166, 177, 186, 191, 196, 198] := by decide
        exact this p h1
      · exact h
    have hs : tab.size t = 1 := by unfold Tab.size; show (infoAt t info).size = 1; rw [hi]
    have hk : tab.td t = .other := by unfold Tab.td; show (infoAt t info).td = .other; rw [hi]
    have hu : EntOK tab t Unit unitDen := ⟨fun _ => (by rw [hs]; rfl), fun _ h => (by rw [hk] at h; cases h), fun _ => rfl, fun _ => rfl, fun _ _ => rfl, fun _ h => (by rw [hk] at h; cases h)⟩
    have hQ : ∀ (u : Nat) (_ : u ∈ [3, 4, 5, 9, 22, 24, 25, 27, 28, 29, 37, 40, 42, 43, 47, 48, 50, 55, 58, 65, 74, 76, 77, 79, 81, 84, 88, 95, 98, 101, 102, 104, 106, 110, 117, 121, 125, 127, 129, 144, 157, 164, 166, 177, 186, 191, 196, 198]) {α β : Type} {x : Den Ty α} {y : Den Ty β}, EntOK tab t β y → EntOK tab t (cond (t == u) α β) (pickDen (t == u) x y) := fun u h α β x y hy => pick_all (Q := EntOK tab t) (fun e => by rw [hf u h] at e; cases e) fun _ => hy
    exact hQ 3 (by decide) (hQ 4 (by decide) (hQ 5 (by decide) (hQ 9 (by decide) (hQ 22 (by decide) (hQ 24 (by decide) (hQ 25 (by decide) (hQ 27 (by decide) (hQ 28 (by decide) (hQ 29 (by decide) (hQ 37 (by decide) (hQ 40 (by decide) (hQ 42 (by decide) (hQ 43 (by decide) (hQ 47 (by decide) (hQ 48 (by decide) (hQ 50 (by decide) (hQ 55 (by decide) (hQ 58 (by decide) (hQ 65 (by decide) (hQ 74 (by decide) (hQ 76 (by decide) (hQ 77 (by decide) (hQ 79 (by decide) (hQ 81 (by decide) (hQ 84 (by decide) (hQ 88 (by decide) (hQ 95 (by decide) (hQ 98 (by decide) (hQ 101 (by decide) (hQ 102 (by decide) (hQ 104 (by decide) (hQ 106 (by decide) (hQ 110 (by decide) (hQ 117 (by decide) (hQ 121 (by decide) (hQ 125 (by decide) (hQ 127 (by decide) (hQ 129 (by decide) (hQ 144 (by decide) (hQ 157 (by decide) (hQ 164 (by decide) (hQ 166 (by decide) (hQ 177 (by decide) (hQ 186 (by decide) (hQ 191 (by decide) (hQ 196 (by decide) (hQ 198 (by decide) (hu))))))))))))))))))))))))))))))))))))))))))))))))
theorem tabOK : TabOK Tryd.prog tab := TabOK.of (by kernel_rfl) ent (by kernel_rfl)
theorem eq3 : V.EqAt Tryd.prog tab 1 3 := V.eqAt_int Tryd.underlying3 rfl
theorem eq4 : V.EqAt Tryd.prog tab 1 4 := V.eqAt_bool Tryd.underlying4 rfl
theorem eq5 : V.EqAt Tryd.prog tab 1 5 := V.eqAt_int Tryd.underlying5 rfl
theorem eq9 : V.EqAt Tryd.prog tab 1 9 := V.eqAt_str Tryd.underlying9 rfl
theorem eq22 : V.EqAt Tryd.prog tab 1 22 := V.eqAt_int Tryd.underlying22 rfl
theorem eq24 : V.EqAt Tryd.prog tab 2 24 := V.eqAt_struct (m := 1) tabOK Tryd.underlying24 rfl rfl (by kernel_rfl) (by decide) (by
  simp only [List.forall_mem_cons]
  exact ⟨eq3, eq3, eq3, eq3, nofun⟩)
theorem eq25 : V.EqAt Tryd.prog tab 2 25 := V.eqAt_arr (f0 := 1) tabOK Tryd.underlying25 rfl eq3 (fun _ => rfl) (f := fun (x y : Int) => x == y) (fun _ _ => rfl) eqInts
theorem eq27 : V.EqAt Tryd.prog tab 3 27 := V.eqAt_struct (m := 2) tabOK Tryd.underlying27 rfl rfl (by kernel_rfl) (by decide) (by
  simp only [List.forall_mem_cons]
  exact ⟨V.EqAt.more (by decide) eq22, eq24, V.EqAt.more (by decide) eq3, V.EqAt.more (by decide) eq3, V.EqAt.more (by decide) eq22, eq25, nofun⟩)
theorem eq29 : V.EqAt Tryd.prog tab 1 29 := V.eqAt_int Tryd.underlying29 rfl
theorem eq40 : V.EqAt Tryd.prog tab 2 40 := V.eqAt_struct (m := 1) tabOK Tryd.underlying40 rfl rfl (by kernel_rfl) (by decide) (by
  simp only [List.forall_mem_cons]
  exact ⟨eq3, eq3, eq3, nofun⟩)
theorem eq58 : V.EqAt Tryd.prog tab 2 58 := V.eqAt_struct (m := 1) tabOK Tryd.underlying58 rfl rfl (by kernel_rfl) (by decide) (by
  simp only [List.forall_mem_cons]
  exact ⟨eq3, eq3, eq4, nofun⟩)
theorem eq65 : V.EqAt Tryd.prog tab 2 65 := V.eqAt_arr (f0 := 1) tabOK Tryd.underlying65 rfl eq5 (fun _ => rfl) (f := fun (x y : Int) => x == y) (fun _ _ => rfl) eqInts
theorem eq74 : V.EqAt Tryd.prog tab 2 74 := V.eqAt_struct (m := 1) tabOK Tryd.underlying74 rfl rfl (by kernel_rfl) (by decide) (by
  simp only [List.forall_mem_cons]
  exact ⟨eq3, eq3, nofun⟩)
theorem eq76 : V.EqAt Tryd.prog tab 2 76 := V.eqAt_arr (f0 := 1) tabOK Tryd.underlying76 rfl eq5 (fun _ => rfl) (f := fun (x y : Int) => x == y) (fun _ _ => rfl) eqInts
theorem eq84 : V.EqAt Tryd.prog tab 2 84 := V.eqAt_arr (f0 := 1) tabOK Tryd.underlying84 rfl eq5 (fun _ => rfl) (f := fun (x y : Int) => x == y) (fun _ _ => rfl) eqInts
theorem eq110 : V.EqAt Tryd.prog tab 3 110 := V.eqAt_arr (f0 := 2) tabOK Tryd.underlying110 rfl eq84 (fun _ => rfl) (f := fun (x y : List Int) => decide (x = y)) (fun _ _ => rfl) eqLists
theorem eq127 : V.EqAt Tryd.prog tab 3 127 := V.eqAt_struct (m := 2) tabOK Tryd.underlying127 rfl rfl (by kernel_rfl) (by decide) (by
  simp only [List.forall_mem_cons]
  exact ⟨V.EqAt.more (by decide) eq3, eq84, nofun⟩)
theorem eq144 : V.EqAt Tryd.prog tab 1 144 := V.eqAt_int Tryd.underlying144 rfl
theorem eq157 : V.EqAt Tryd.prog tab 1 157 := V.eqAt_int Tryd.underlying157 rfl
theorem cmpOK : CmpOK Tryd.prog tab := by
  intro t h
  have hm : t ∈ [3, 4, 5, 9, 22, 24, 25, 27, 29, 40, 58, 65, 74, 76, 84, 110, 127, 144, 157] := by
    obtain ⟨u, h1, h2⟩ := List.any_eq_true.1 (show ([3, 4, 5, 9, 22, 24, 25, 27, 29, 40, 58, 65, 74, 76, 84, 110, 127, 144, 157].any fun u => u == t) = true from h)
    have : u = t := by simpa using h2
    rw [← this]; exact h1
  simp only [List.mem_cons, List.not_mem_nil, or_false] at hm
  rcases hm with h | h | h | h | h | h | h | h | h | h | h | h | h | h | h | h | h | h | h
  · subst h; exact ⟨by kernel_rfl, 1, by decide, eq3⟩
  · subst h; exact ⟨by kernel_rfl, 1, by decide, eq4⟩
  · subst h; exact ⟨by kernel_rfl, 1, by decide, eq5⟩
  · subst h; exact ⟨by kernel_rfl, 1, by decide, eq9⟩
  · subst h; exact ⟨by kernel_rfl, 1, by decide, eq22⟩
  · subst h; exact ⟨by kernel_rfl, 2, by decide, eq24⟩
  · subst h; exact ⟨by kernel_rfl, 2, by decide, eq25⟩
  · subst h; exact ⟨by kernel_rfl, 3, by decide, eq27⟩
  · subst h; exact ⟨by kernel_rfl, 1, by decide, eq29⟩
  · subst h; exact ⟨by kernel_rfl, 2, by decide, eq40⟩
  · subst h; exact ⟨by kernel_rfl, 2, by decide, eq58⟩
  · subst h; exact ⟨by kernel_rfl, 2, by decide, eq65⟩
  · subst h; exact ⟨by kernel_rfl, 2, by decide, eq74⟩
  · subst h; exact ⟨by kernel_rfl, 2, by decide, eq76⟩
  · subst h; exact ⟨by kernel_rfl, 2, by decide, eq84⟩
  · subst h; exact ⟨by kernel_rfl, 3, by decide, eq110⟩
  · subst h; exact ⟨by kernel_rfl, 3, by decide, eq127⟩
  · subst h; exact ⟨by kernel_rfl, 1, by decide, eq144⟩
  · subst h; exact ⟨by kernel_rfl, 1, by decide, eq157⟩
end Go.Proofs.YtbhnkjnjeifdhaaDoor.W
