/-
  The types of the seat as Lean types, what each stands for in cells, and that the program has them so. Laid by program (mktab.py).
-/
import Derived.Test.YtbhnkjnjeifdhaaGreatDoorVK4
import Derived.Test.YtbhnkjnjeifdhaaGreatDoorProg
namespace Go.Proofs.YtbhnkjnjeifdhaaGreatDoor.W
open Go Go.Proofs V
/-- api.Geom -/
structure T22 where
  Pages : Int
  Segs : Int
  SegLen : Int
  Frames : Int
  deriving DecidableEq
/-- journal.At -/
structure T26 where
  Seg : Int
  Off : Int
  Seq : Int
  Free : List Int
  deriving DecidableEq
/-- api.Mark -/
structure T80 where
  Kind : Int
  Id : Int
  deriving DecidableEq
/-- api.Block -/
structure T86 where
  Kind : Int
  Id : Int
  Page : List Int
  Off : Int
  Bytes : List Int
  Prev : Int
  Heads : List Int
  deriving DecidableEq
/-- api.Item -/
structure T88 where
  Mark : T80
  Block : T86
  deriving DecidableEq
/-- siltlaw14.Step -/
structure T52 where
  Kind : Int
  N : Int
  L : List T88
  Free : List Int
  deriving DecidableEq
/-- siltref03.Sizes -/
structure T31 where
  Maps : Int
  Total : Int
  Cap : Int
  deriving DecidableEq
/-- siltref14.Journal -/
structure T61 where
  D : Unit
  G : T22
  A : T26
  deriving DecidableEq
/-- siltref02.Loose -/
structure T119 where
  I : Int
  S : List Int
  deriving DecidableEq
/-- siltref02.Dev -/
structure T67 where
  S : List (List Int)
  L : List T119
  F : Int
  Done : Int
  deriving DecidableEq
/-- dev.write -/
structure T117 where
  at_ : Int
  s : List Int
  deriving DecidableEq
/-- dev.Dev -/
structure T94 where
  sectors : List (List Int)
  loose : List T117
  fail : Int
  done : Int
  deriving DecidableEq
/-- journal.Journal -/
structure T97 where
  d : Unit
  g : T22
  a : T26
  deriving DecidableEq
/-- siltref13.Laid -/
structure T107 where
  S : List (List Int)
  At : List Int
  OK : Bool
  deriving DecidableEq
/-- siltref05.Summary -/
structure T142 where
  Seq : Int
  More : Bool
  Marks : List T80
  E : Int
  deriving DecidableEq
/-- fault.fault -/
structure T148 where
  what : ByteArray
  about : GErr
  wraps : Bool
  deriving DecidableEq
/-- summary.Summary -/
structure T176 where
  Seq : Int
  More : Bool
  Marks : List T80
  deriving DecidableEq
def Ty : Nat → Type := fun t => cond (t == 3) (Int) (cond (t == 4) (Bool) (cond (t == 5) (Int) (cond (t == 9) (ByteArray) (cond (t == 23) (T22) (cond (t == 24) (Int) (cond (t == 25) (List Int) (cond (t == 27) (T26) (cond (t == 28) (List T52) (cond (t == 32) (T31) (cond (t == 34) (Unit) (cond (t == 35) (Int) (cond (t == 38) (Unit) (cond (t == 41) (Unit) (cond (t == 44) (Unit) (cond (t == 47) (T26) (cond (t == 51) (List T88) (cond (t == 53) (T52) (cond (t == 62) (T61) (cond (t == 65) (List (List Int)) (cond (t == 66) (List T119) (cond (t == 68) (T67) (cond (t == 72) (List Int) (cond (t == 81) (T80) (cond (t == 83) (List Int) (cond (t == 84) (List Int) (cond (t == 85) (List Int) (cond (t == 87) (T86) (cond (t == 89) (T88) (cond (t == 93) (List T117) (cond (t == 95) (T94) (cond (t == 98) (T97) (cond (t == 101) (GErr) (cond (t == 105) (Unit) (cond (t == 108) (T107) (cond (t == 116) (Unit) (cond (t == 118) (T117) (cond (t == 120) (T119) (cond (t == 137) (Int) (cond (t == 141) (List T80) (cond (t == 143) (T142) (cond (t == 147) (Unit) (cond (t == 149) (T148) (cond (t == 165) (List GErr) (cond (t == 171) (Unit) (cond (t == 177) (T176) (cond (t == 180) (Int) (Unit)))))))))))))))))))))))))))))))))))))))))))))))
def dI_i64 : Den Ty Int where
  enc := fun (x : Int) => .int .i64 x
  dec := fun v => match v with
    | .int .i64 v0 => some v0
    | _ => none
  dflt := (0 : Int)
  spec := by intro v x h; split at h <;> cases h; rfl
def dB : Den Ty Bool where
  enc := fun (x : Bool) => .bool x
  dec := fun v => match v with
    | .bool v0 => some v0
    | _ => none
  dflt := false
  spec := by intro v x h; split at h <;> cases h; rfl
def dI_u8 : Den Ty Int where
  enc := fun (x : Int) => .int .u8 x
  dec := fun v => match v with
    | .int .u8 v0 => some v0
    | _ => none
  dflt := (0 : Int)
  spec := by intro v x h; split at h <;> cases h; rfl
def dS : Den Ty ByteArray where
  enc := fun (x : ByteArray) => .str x
  dec := fun v => match v with
    | .str v0 => some v0
    | _ => none
  dflt := ByteArray.empty
  spec := by intro v x h; split at h <;> cases h; rfl
def dT22 : Den Ty T22 where
  enc := fun (x : T22) => .cons (.int .i64 x.Pages) (.cons (.int .i64 x.Segs) (.cons (.int .i64 x.SegLen) (.cons (.int .i64 x.Frames) (.nil))))
  dec := fun v => match v with
    | .cons (.int .i64 v0) (.cons (.int .i64 v1) (.cons (.int .i64 v2) (.cons (.int .i64 v3) (.nil)))) => some (T22.mk v0 v1 v2 v3)
    | _ => none
  dflt := (T22.mk (0 : Int) (0 : Int) (0 : Int) (0 : Int))
  spec := by intro v x h; split at h <;> cases h; rfl
def dI_u32 : Den Ty Int where
  enc := fun (x : Int) => .int .u32 x
  dec := fun v => match v with
    | .int .u32 v0 => some v0
    | _ => none
  dflt := (0 : Int)
  spec := by intro v x h; split at h <;> cases h; rfl
def dL3 : Den Ty (List Int) where
  enc := fun (x : List Int) => .slice 3 x
  dec := fun v => match v with
    | .slice 3 v0 => some v0
    | _ => none
  dflt := ([] : List Int)
  spec := by intro v x h; split at h <;> cases h; rfl
def dT26 : Den Ty T26 where
  enc := fun (x : T26) => .cons (.int .i64 x.Seg) (.cons (.int .i64 x.Off) (.cons (.int .u32 x.Seq) (.cons (.slice 3 x.Free) (.nil))))
  dec := fun v => match v with
    | .cons (.int .i64 v0) (.cons (.int .i64 v1) (.cons (.int .u32 v2) (.cons (.slice 3 v3) (.nil)))) => some (T26.mk v0 v1 v2 v3)
    | _ => none
  dflt := (T26.mk (0 : Int) (0 : Int) (0 : Int) ([] : List Int))
  spec := by intro v x h; split at h <;> cases h; rfl
def dL53 : Den Ty (List T52) where
  enc := fun (x : List T52) => .slice 53 x
  dec := fun v => match v with
    | .slice 53 v0 => some v0
    | _ => none
  dflt := ([] : List T52)
  spec := by intro v x h; split at h <;> cases h; rfl
def dT31 : Den Ty T31 where
  enc := fun (x : T31) => .cons (.int .i64 x.Maps) (.cons (.int .i64 x.Total) (.cons (.int .i64 x.Cap) (.nil)))
  dec := fun v => match v with
    | .cons (.int .i64 v0) (.cons (.int .i64 v1) (.cons (.int .i64 v2) (.nil))) => some (T31.mk v0 v1 v2)
    | _ => none
  dflt := (T31.mk (0 : Int) (0 : Int) (0 : Int))
  spec := by intro v x h; split at h <;> cases h; rfl
def dL89 : Den Ty (List T88) where
  enc := fun (x : List T88) => .slice 89 x
  dec := fun v => match v with
    | .slice 89 v0 => some v0
    | _ => none
  dflt := ([] : List T88)
  spec := by intro v x h; split at h <;> cases h; rfl
def dT52 : Den Ty T52 where
  enc := fun (x : T52) => .cons (.int .i64 x.Kind) (.cons (.int .i64 x.N) (.cons (.slice 89 x.L) (.cons (.slice 3 x.Free) (.nil))))
  dec := fun v => match v with
    | .cons (.int .i64 v0) (.cons (.int .i64 v1) (.cons (.slice 89 v2) (.cons (.slice 3 v3) (.nil)))) => some (T52.mk v0 v1 v2 v3)
    | _ => none
  dflt := (T52.mk (0 : Int) (0 : Int) ([] : List T88) ([] : List Int))
  spec := by intro v x h; split at h <;> cases h; rfl
def dT61 : Den Ty T61 where
  enc := fun (x : T61) => .cons (.nilp) (.cons (.cons (.int .i64 x.G.Pages) (.cons (.int .i64 x.G.Segs) (.cons (.int .i64 x.G.SegLen) (.cons (.int .i64 x.G.Frames) (.nil))))) (.cons (.cons (.int .i64 x.A.Seg) (.cons (.int .i64 x.A.Off) (.cons (.int .u32 x.A.Seq) (.cons (.slice 3 x.A.Free) (.nil))))) (.nil)))
  dec := fun v => match v with
    | .cons (.nilp) (.cons (.cons (.int .i64 v0) (.cons (.int .i64 v1) (.cons (.int .i64 v2) (.cons (.int .i64 v3) (.nil))))) (.cons (.cons (.int .i64 v4) (.cons (.int .i64 v5) (.cons (.int .u32 v6) (.cons (.slice 3 v7) (.nil))))) (.nil))) => some (T61.mk () (T22.mk v0 v1 v2 v3) (T26.mk v4 v5 v6 v7))
    | _ => none
  dflt := (T61.mk () (T22.mk (0 : Int) (0 : Int) (0 : Int) (0 : Int)) (T26.mk (0 : Int) (0 : Int) (0 : Int) ([] : List Int)))
  spec := by intro v x h; split at h <;> cases h; rfl
def dL72 : Den Ty (List (List Int)) where
  enc := fun (x : List (List Int)) => .slice 72 x
  dec := fun v => match v with
    | .slice 72 v0 => some v0
    | _ => none
  dflt := ([] : List (List Int))
  spec := by intro v x h; split at h <;> cases h; rfl
def dL120 : Den Ty (List T119) where
  enc := fun (x : List T119) => .slice 120 x
  dec := fun v => match v with
    | .slice 120 v0 => some v0
    | _ => none
  dflt := ([] : List T119)
  spec := by intro v x h; split at h <;> cases h; rfl
def dT67 : Den Ty T67 where
  enc := fun (x : T67) => .cons (.slice 72 x.S) (.cons (.slice 120 x.L) (.cons (.int .i64 x.F) (.cons (.int .i64 x.Done) (.nil))))
  dec := fun v => match v with
    | .cons (.slice 72 v0) (.cons (.slice 120 v1) (.cons (.int .i64 v2) (.cons (.int .i64 v3) (.nil)))) => some (T67.mk v0 v1 v2 v3)
    | _ => none
  dflt := (T67.mk ([] : List (List Int)) ([] : List T119) (0 : Int) (0 : Int))
  spec := by intro v x h; split at h <;> cases h; rfl
def dA64_5 : Den Ty (List Int) where
  enc := fun (x : List Int) => .arr 5 64 x
  dec := fun v => match v with
    | .arr 5 64 v0 => some v0
    | _ => none
  dflt := (List.replicate 64 (0 : Int))
  spec := by intro v x h; split at h <;> cases h; rfl
def dT80 : Den Ty T80 where
  enc := fun (x : T80) => .cons (.int .i64 x.Kind) (.cons (.int .i64 x.Id) (.nil))
  dec := fun v => match v with
    | .cons (.int .i64 v0) (.cons (.int .i64 v1) (.nil)) => some (T80.mk v0 v1)
    | _ => none
  dflt := (T80.mk (0 : Int) (0 : Int))
  spec := by intro v x h; split at h <;> cases h; rfl
def dA32_5 : Den Ty (List Int) where
  enc := fun (x : List Int) => .arr 5 32 x
  dec := fun v => match v with
    | .arr 5 32 v0 => some v0
    | _ => none
  dflt := (List.replicate 32 (0 : Int))
  spec := by intro v x h; split at h <;> cases h; rfl
def dL5 : Den Ty (List Int) where
  enc := fun (x : List Int) => .slice 5 x
  dec := fun v => match v with
    | .slice 5 v0 => some v0
    | _ => none
  dflt := ([] : List Int)
  spec := by intro v x h; split at h <;> cases h; rfl
def dA8_3 : Den Ty (List Int) where
  enc := fun (x : List Int) => .arr 3 8 x
  dec := fun v => match v with
    | .arr 3 8 v0 => some v0
    | _ => none
  dflt := (List.replicate 8 (0 : Int))
  spec := by intro v x h; split at h <;> cases h; rfl
def dT86 : Den Ty T86 where
  enc := fun (x : T86) => .cons (.int .i64 x.Kind) (.cons (.int .i64 x.Id) (.cons (.arr 5 32 x.Page) (.cons (.int .i64 x.Off) (.cons (.slice 5 x.Bytes) (.cons (.int .i64 x.Prev) (.cons (.arr 3 8 x.Heads) (.nil)))))))
  dec := fun v => match v with
    | .cons (.int .i64 v0) (.cons (.int .i64 v1) (.cons (.arr 5 32 v2) (.cons (.int .i64 v3) (.cons (.slice 5 v4) (.cons (.int .i64 v5) (.cons (.arr 3 8 v6) (.nil))))))) => some (T86.mk v0 v1 v2 v3 v4 v5 v6)
    | _ => none
  dflt := (T86.mk (0 : Int) (0 : Int) (List.replicate 32 (0 : Int)) (0 : Int) ([] : List Int) (0 : Int) (List.replicate 8 (0 : Int)))
  spec := by intro v x h; split at h <;> cases h; rfl
def dT88 : Den Ty T88 where
  enc := fun (x : T88) => .cons (.cons (.int .i64 x.Mark.Kind) (.cons (.int .i64 x.Mark.Id) (.nil))) (.cons (.cons (.int .i64 x.Block.Kind) (.cons (.int .i64 x.Block.Id) (.cons (.arr 5 32 x.Block.Page) (.cons (.int .i64 x.Block.Off) (.cons (.slice 5 x.Block.Bytes) (.cons (.int .i64 x.Block.Prev) (.cons (.arr 3 8 x.Block.Heads) (.nil)))))))) (.nil))
  dec := fun v => match v with
    | .cons (.cons (.int .i64 v0) (.cons (.int .i64 v1) (.nil))) (.cons (.cons (.int .i64 v2) (.cons (.int .i64 v3) (.cons (.arr 5 32 v4) (.cons (.int .i64 v5) (.cons (.slice 5 v6) (.cons (.int .i64 v7) (.cons (.arr 3 8 v8) (.nil)))))))) (.nil)) => some (T88.mk (T80.mk v0 v1) (T86.mk v2 v3 v4 v5 v6 v7 v8))
    | _ => none
  dflt := (T88.mk (T80.mk (0 : Int) (0 : Int)) (T86.mk (0 : Int) (0 : Int) (List.replicate 32 (0 : Int)) (0 : Int) ([] : List Int) (0 : Int) (List.replicate 8 (0 : Int))))
  spec := by intro v x h; split at h <;> cases h; rfl
def dL118 : Den Ty (List T117) where
  enc := fun (x : List T117) => .slice 118 x
  dec := fun v => match v with
    | .slice 118 v0 => some v0
    | _ => none
  dflt := ([] : List T117)
  spec := by intro v x h; split at h <;> cases h; rfl
def dT94 : Den Ty T94 where
  enc := fun (x : T94) => .cons (.slice 72 x.sectors) (.cons (.slice 118 x.loose) (.cons (.int .i64 x.fail) (.cons (.int .i64 x.done) (.nil))))
  dec := fun v => match v with
    | .cons (.slice 72 v0) (.cons (.slice 118 v1) (.cons (.int .i64 v2) (.cons (.int .i64 v3) (.nil)))) => some (T94.mk v0 v1 v2 v3)
    | _ => none
  dflt := (T94.mk ([] : List (List Int)) ([] : List T117) (0 : Int) (0 : Int))
  spec := by intro v x h; split at h <;> cases h; rfl
def dT97 : Den Ty T97 where
  enc := fun (x : T97) => .cons (.nilp) (.cons (.cons (.int .i64 x.g.Pages) (.cons (.int .i64 x.g.Segs) (.cons (.int .i64 x.g.SegLen) (.cons (.int .i64 x.g.Frames) (.nil))))) (.cons (.cons (.int .i64 x.a.Seg) (.cons (.int .i64 x.a.Off) (.cons (.int .u32 x.a.Seq) (.cons (.slice 3 x.a.Free) (.nil))))) (.nil)))
  dec := fun v => match v with
    | .cons (.nilp) (.cons (.cons (.int .i64 v0) (.cons (.int .i64 v1) (.cons (.int .i64 v2) (.cons (.int .i64 v3) (.nil))))) (.cons (.cons (.int .i64 v4) (.cons (.int .i64 v5) (.cons (.int .u32 v6) (.cons (.slice 3 v7) (.nil))))) (.nil))) => some (T97.mk () (T22.mk v0 v1 v2 v3) (T26.mk v4 v5 v6 v7))
    | _ => none
  dflt := (T97.mk () (T22.mk (0 : Int) (0 : Int) (0 : Int) (0 : Int)) (T26.mk (0 : Int) (0 : Int) (0 : Int) ([] : List Int)))
  spec := by intro v x h; split at h <;> cases h; rfl
def dE : Den Ty GErr where
  enc := fun (x : GErr) => .err x
  dec := fun v => match v with
    | .err v0 => some v0
    | _ => none
  dflt := GErr.nil
  spec := by intro v x h; split at h <;> cases h; rfl
def dT107 : Den Ty T107 where
  enc := fun (x : T107) => .cons (.slice 72 x.S) (.cons (.slice 3 x.At) (.cons (.bool x.OK) (.nil)))
  dec := fun v => match v with
    | .cons (.slice 72 v0) (.cons (.slice 3 v1) (.cons (.bool v2) (.nil))) => some (T107.mk v0 v1 v2)
    | _ => none
  dflt := (T107.mk ([] : List (List Int)) ([] : List Int) false)
  spec := by intro v x h; split at h <;> cases h; rfl
def dF89 : Den Ty Unit where
  enc := fun (x : Unit) => .func 89
  dec := fun v => match v with
    | .func 89 => some ()
    | _ => none
  dflt := ()
  spec := by intro v x h; split at h <;> cases h; rfl
def dT117 : Den Ty T117 where
  enc := fun (x : T117) => .cons (.int .i64 x.at_) (.cons (.arr 5 64 x.s) (.nil))
  dec := fun v => match v with
    | .cons (.int .i64 v0) (.cons (.arr 5 64 v1) (.nil)) => some (T117.mk v0 v1)
    | _ => none
  dflt := (T117.mk (0 : Int) (List.replicate 64 (0 : Int)))
  spec := by intro v x h; split at h <;> cases h; rfl
def dT119 : Den Ty T119 where
  enc := fun (x : T119) => .cons (.int .i64 x.I) (.cons (.arr 5 64 x.S) (.nil))
  dec := fun v => match v with
    | .cons (.int .i64 v0) (.cons (.arr 5 64 v1) (.nil)) => some (T119.mk v0 v1)
    | _ => none
  dflt := (T119.mk (0 : Int) (List.replicate 64 (0 : Int)))
  spec := by intro v x h; split at h <;> cases h; rfl
def dL81 : Den Ty (List T80) where
  enc := fun (x : List T80) => .slice 81 x
  dec := fun v => match v with
    | .slice 81 v0 => some v0
    | _ => none
  dflt := ([] : List T80)
  spec := by intro v x h; split at h <;> cases h; rfl
def dT142 : Den Ty T142 where
  enc := fun (x : T142) => .cons (.int .u32 x.Seq) (.cons (.bool x.More) (.cons (.slice 81 x.Marks) (.cons (.int .i64 x.E) (.nil))))
  dec := fun v => match v with
    | .cons (.int .u32 v0) (.cons (.bool v1) (.cons (.slice 81 v2) (.cons (.int .i64 v3) (.nil)))) => some (T142.mk v0 v1 v2 v3)
    | _ => none
  dflt := (T142.mk (0 : Int) false ([] : List T80) (0 : Int))
  spec := by intro v x h; split at h <;> cases h; rfl
def dT148 : Den Ty T148 where
  enc := fun (x : T148) => .cons (.str x.what) (.cons (.err x.about) (.cons (.bool x.wraps) (.nil)))
  dec := fun v => match v with
    | .cons (.str v0) (.cons (.err v1) (.cons (.bool v2) (.nil))) => some (T148.mk v0 v1 v2)
    | _ => none
  dflt := (T148.mk ByteArray.empty GErr.nil false)
  spec := by intro v x h; split at h <;> cases h; rfl
def dL101 : Den Ty (List GErr) where
  enc := fun (x : List GErr) => .slice 101 x
  dec := fun v => match v with
    | .slice 101 v0 => some v0
    | _ => none
  dflt := ([] : List GErr)
  spec := by intro v x h; split at h <;> cases h; rfl
def dT176 : Den Ty T176 where
  enc := fun (x : T176) => .cons (.int .u32 x.Seq) (.cons (.bool x.More) (.cons (.slice 81 x.Marks) (.nil)))
  dec := fun v => match v with
    | .cons (.int .u32 v0) (.cons (.bool v1) (.cons (.slice 81 v2) (.nil))) => some (T176.mk v0 v1 v2)
    | _ => none
  dflt := (T176.mk (0 : Int) false ([] : List T80))
  spec := by intro v x h; split at h <;> cases h; rfl
def dI_u64 : Den Ty Int where
  enc := fun (x : Int) => .int .u64 x
  dec := fun v => match v with
    | .int .u64 v0 => some v0
    | _ => none
  dflt := (0 : Int)
  spec := by intro v x h; split at h <;> cases h; rfl
def den : (t : Nat) → Den Ty (Ty t) := fun t => pickDen (t == 3) dI_i64 (pickDen (t == 4) dB (pickDen (t == 5) dI_u8 (pickDen (t == 9) dS (pickDen (t == 23) dT22 (pickDen (t == 24) dI_u32 (pickDen (t == 25) dL3 (pickDen (t == 27) dT26 (pickDen (t == 28) dL53 (pickDen (t == 32) dT31 (pickDen (t == 34) ptrDen (pickDen (t == 35) dI_i64 (pickDen (t == 38) ptrDen (pickDen (t == 41) ptrDen (pickDen (t == 44) ptrDen (pickDen (t == 47) dT26 (pickDen (t == 51) dL89 (pickDen (t == 53) dT52 (pickDen (t == 62) dT61 (pickDen (t == 65) dL72 (pickDen (t == 66) dL120 (pickDen (t == 68) dT67 (pickDen (t == 72) dA64_5 (pickDen (t == 81) dT80 (pickDen (t == 83) dA32_5 (pickDen (t == 84) dL5 (pickDen (t == 85) dA8_3 (pickDen (t == 87) dT86 (pickDen (t == 89) dT88 (pickDen (t == 93) dL118 (pickDen (t == 95) dT94 (pickDen (t == 98) dT97 (pickDen (t == 101) dE (pickDen (t == 105) ptrDen (pickDen (t == 108) dT107 (pickDen (t == 116) dF89 (pickDen (t == 118) dT117 (pickDen (t == 120) dT119 (pickDen (t == 137) dI_u8 (pickDen (t == 141) dL81 (pickDen (t == 143) dT142 (pickDen (t == 147) ptrDen (pickDen (t == 149) dT148 (pickDen (t == 165) dL101 (pickDen (t == 171) ptrDen (pickDen (t == 177) dT176 (pickDen (t == 180) dI_u64 (unitDen)))))))))))))))))))))))))))))))))))))))))))))))
def info : List (Nat × TI) := [(3, ⟨.int .i64, 1, 8⟩), (4, ⟨.bool, 1, 1⟩), (5, ⟨.int .u8, 1, 1⟩), (9, ⟨.str, 1, 16⟩), (23, ⟨.struct [(3, 0), (3, 1), (3, 2), (3, 3)], 4, 32⟩), (24, ⟨.int .u32, 1, 4⟩), (25, ⟨.slice 3, 1, 24⟩), (27, ⟨.struct [(3, 0), (3, 1), (24, 2), (25, 3)], 4, 48⟩), (28, ⟨.slice 53, 1, 24⟩), (32, ⟨.struct [(3, 0), (3, 1), (3, 2)], 3, 24⟩), (34, ⟨.ptr 95, 1, 8⟩), (35, ⟨.int .i64, 1, 8⟩), (38, ⟨.ptr 68, 1, 8⟩), (41, ⟨.ptr 98, 1, 8⟩), (44, ⟨.ptr 62, 1, 8⟩), (47, ⟨.struct [(3, 0), (3, 1), (24, 2), (25, 3)], 4, 48⟩), (51, ⟨.slice 89, 1, 24⟩), (53, ⟨.struct [(3, 0), (3, 1), (51, 2), (25, 3)], 4, 64⟩), (62, ⟨.struct [(38, 0), (23, 1), (47, 5)], 9, 88⟩), (65, ⟨.slice 72, 1, 24⟩), (66, ⟨.slice 120, 1, 24⟩), (68, ⟨.struct [(65, 0), (66, 1), (3, 2), (3, 3)], 4, 64⟩), (72, ⟨.arr 64 5, 64, 64⟩), (81, ⟨.struct [(3, 0), (3, 1)], 2, 16⟩), (83, ⟨.arr 32 5, 32, 32⟩), (84, ⟨.slice 5, 1, 24⟩), (85, ⟨.arr 8 3, 8, 64⟩), (87, ⟨.struct [(3, 0), (3, 1), (83, 2), (3, 34), (84, 35), (3, 36), (85, 37)], 45, 152⟩), (89, ⟨.struct [(81, 0), (87, 2)], 47, 168⟩), (93, ⟨.slice 118, 1, 24⟩), (95, ⟨.struct [(65, 0), (93, 1), (3, 2), (3, 3)], 4, 64⟩), (98, ⟨.struct [(34, 0), (23, 1), (27, 5)], 9, 88⟩), (101, ⟨.iface, 1, 16⟩), (105, ⟨.ptr 35, 1, 8⟩), (108, ⟨.struct [(65, 0), (25, 1), (4, 2)], 3, 56⟩), (118, ⟨.struct [(3, 0), (72, 1)], 65, 72⟩), (120, ⟨.struct [(3, 0), (72, 1)], 65, 72⟩), (137, ⟨.int .u8, 1, 1⟩), (141, ⟨.slice 81, 1, 24⟩), (143, ⟨.struct [(24, 0), (4, 1), (141, 2), (3, 3)], 4, 40⟩), (147, ⟨.ptr 149, 1, 8⟩), (149, ⟨.struct [(9, 0), (101, 1), (4, 2)], 3, 40⟩), (165, ⟨.slice 101, 1, 24⟩), (171, ⟨.map 3, 1, 8⟩), (177, ⟨.struct [(24, 0), (4, 1), (141, 2)], 3, 32⟩), (180, ⟨.int .u64, 1, 8⟩)]
def isOf (l : List Nat) (t : Nat) : Bool := l.any fun u => u == t
def eqL1 {α β : Type} (b : Bool) (f : List α → List α → Bool) (g : List β → List β → Bool) : List (cond b α β) → List (cond b α β) → Bool :=
  match b with
  | true => f
  | false => g
def eqL : (t : Nat) → List (Ty t) → List (Ty t) → Bool := fun t => eqL1 (t == 3) (fun (xs ys : List Int) => decide (xs = ys)) (eqL1 (t == 4) (fun _ _ => false) (eqL1 (t == 5) (fun (xs ys : List Int) => decide (xs = ys)) (eqL1 (t == 9) (fun _ _ => false) (eqL1 (t == 23) (fun _ _ => false) (eqL1 (t == 24) (fun _ _ => false) (eqL1 (t == 25) (fun _ _ => false) (eqL1 (t == 27) (fun _ _ => false) (eqL1 (t == 28) (fun _ _ => false) (eqL1 (t == 32) (fun _ _ => false) (eqL1 (t == 34) (fun _ _ => false) (eqL1 (t == 35) (fun _ _ => false) (eqL1 (t == 38) (fun _ _ => false) (eqL1 (t == 41) (fun _ _ => false) (eqL1 (t == 44) (fun _ _ => false) (eqL1 (t == 47) (fun _ _ => false) (eqL1 (t == 51) (fun _ _ => false) (eqL1 (t == 53) (fun _ _ => false) (eqL1 (t == 62) (fun _ _ => false) (eqL1 (t == 65) (fun _ _ => false) (eqL1 (t == 66) (fun _ _ => false) (eqL1 (t == 68) (fun _ _ => false) (eqL1 (t == 72) (fun _ _ => false) (eqL1 (t == 81) (fun _ _ => false) (eqL1 (t == 83) (fun _ _ => false) (eqL1 (t == 84) (fun _ _ => false) (eqL1 (t == 85) (fun _ _ => false) (eqL1 (t == 87) (fun _ _ => false) (eqL1 (t == 89) (fun _ _ => false) (eqL1 (t == 93) (fun _ _ => false) (eqL1 (t == 95) (fun _ _ => false) (eqL1 (t == 98) (fun _ _ => false) (eqL1 (t == 101) (fun _ _ => false) (eqL1 (t == 105) (fun _ _ => false) (eqL1 (t == 108) (fun _ _ => false) (eqL1 (t == 116) (fun _ _ => false) (eqL1 (t == 118) (fun _ _ => false) (eqL1 (t == 120) (fun _ _ => false) (eqL1 (t == 137) (fun _ _ => false) (eqL1 (t == 141) (fun _ _ => false) (eqL1 (t == 143) (fun _ _ => false) (eqL1 (t == 147) (fun _ _ => false) (eqL1 (t == 149) (fun _ _ => false) (eqL1 (t == 165) (fun _ _ => false) (eqL1 (t == 171) (fun _ _ => false) (eqL1 (t == 177) (fun _ _ => false) (eqL1 (t == 180) (fun _ _ => false) (fun _ _ => false)))))))))))))))))))))))))))))))))))))))))))))))
def tab : Tab Ty := { den, flatTy := isOf [3, 4, 5, 9, 23, 24, 32, 35, 72, 81, 83, 85, 118, 120, 137, 180], eqOk := isOf [3, 5], cmp := isOf [3, 4, 5, 9, 23, 24, 32, 35, 72, 81, 83, 85, 118, 120, 137, 180], eqL, errnoTy := 35, faultTy := 147, asOn := true, asFn := 36, errnoPtr := 105, globs := [(0, .iface 154 (.agg #[.pointer (some ⟨1, 101, none⟩)]))], info, frz := [165] }
theorem ent3 : EntOK tab 3 Int dI_i64 := ⟨fun _ => rfl, fun _ _ => rfl, fun _ => rfl, fun _ => rfl, fun _ _ => rfl, fun _ h => (by cases h)⟩
theorem ent4 : EntOK tab 4 Bool dB := ⟨fun _ => rfl, fun _ _ => rfl, fun _ => rfl, fun _ => rfl, fun _ _ => rfl, fun _ h => (by cases h)⟩
theorem ent5 : EntOK tab 5 Int dI_u8 := ⟨fun _ => rfl, fun _ _ => rfl, fun _ => rfl, fun _ => rfl, fun _ _ => rfl, fun x _ => ⟨x, rfl⟩⟩
theorem ent9 : EntOK tab 9 ByteArray dS := ⟨fun _ => rfl, fun _ _ => rfl, fun _ => rfl, fun _ => rfl, fun _ _ => rfl, fun _ h => (by cases h)⟩
theorem ent23 : EntOK tab 23 T22 dT22 := ⟨fun _ => rfl, fun _ _ => rfl, fun _ => rfl, fun _ => rfl, fun _ _ => rfl, fun _ h => (by cases h)⟩
theorem ent24 : EntOK tab 24 Int dI_u32 := ⟨fun _ => rfl, fun _ _ => rfl, fun _ => rfl, fun _ => rfl, fun _ _ => rfl, fun _ h => (by cases h)⟩
theorem ent25 : EntOK tab 25 (List Int) dL3 := ⟨fun _ => rfl, fun _ _ => rfl, fun _ => rfl, fun _ => rfl, fun _ h => (by cases h), fun _ h => (by cases h)⟩
theorem ent27 : EntOK tab 27 T26 dT26 := ⟨fun _ => rfl, fun _ _ => rfl, fun _ => rfl, fun _ => rfl, fun _ h => (by cases h), fun _ h => (by cases h)⟩
theorem ent28 : EntOK tab 28 (List T52) dL53 := ⟨fun _ => rfl, fun _ _ => rfl, fun _ => rfl, fun _ => rfl, fun _ h => (by cases h), fun _ h => (by cases h)⟩
theorem ent32 : EntOK tab 32 T31 dT31 := ⟨fun _ => rfl, fun _ _ => rfl, fun _ => rfl, fun _ => rfl, fun _ _ => rfl, fun _ h => (by cases h)⟩
theorem ent34 : EntOK tab 34 Unit ptrDen := ⟨fun _ => rfl, fun _ _ => rfl, fun _ => rfl, fun _ => rfl, fun _ h => (by cases h), fun _ h => (by cases h)⟩
theorem ent35 : EntOK tab 35 Int dI_i64 := ⟨fun _ => rfl, fun _ _ => rfl, fun _ => rfl, fun _ => rfl, fun _ _ => rfl, fun _ h => (by cases h)⟩
theorem ent38 : EntOK tab 38 Unit ptrDen := ⟨fun _ => rfl, fun _ _ => rfl, fun _ => rfl, fun _ => rfl, fun _ h => (by cases h), fun _ h => (by cases h)⟩
theorem ent41 : EntOK tab 41 Unit ptrDen := ⟨fun _ => rfl, fun _ _ => rfl, fun _ => rfl, fun _ => rfl, fun _ h => (by cases h), fun _ h => (by cases h)⟩
theorem ent44 : EntOK tab 44 Unit ptrDen := ⟨fun _ => rfl, fun _ _ => rfl, fun _ => rfl, fun _ => rfl, fun _ h => (by cases h), fun _ h => (by cases h)⟩
theorem ent47 : EntOK tab 47 T26 dT26 := ⟨fun _ => rfl, fun _ _ => rfl, fun _ => rfl, fun _ => rfl, fun _ h => (by cases h), fun _ h => (by cases h)⟩
theorem ent51 : EntOK tab 51 (List T88) dL89 := ⟨fun _ => rfl, fun _ _ => rfl, fun _ => rfl, fun _ => rfl, fun _ h => (by cases h), fun _ h => (by cases h)⟩
theorem ent53 : EntOK tab 53 T52 dT52 := ⟨fun _ => rfl, fun _ _ => rfl, fun _ => rfl, fun _ => rfl, fun _ h => (by cases h), fun _ h => (by cases h)⟩
theorem ent62 : EntOK tab 62 T61 dT61 := ⟨fun _ => rfl, fun _ _ => rfl, fun _ => rfl, fun _ => rfl, fun _ h => (by cases h), fun _ h => (by cases h)⟩
theorem ent65 : EntOK tab 65 (List (List Int)) dL72 := ⟨fun _ => rfl, fun _ _ => rfl, fun _ => rfl, fun _ => rfl, fun _ h => (by cases h), fun _ h => (by cases h)⟩
theorem ent66 : EntOK tab 66 (List T119) dL120 := ⟨fun _ => rfl, fun _ _ => rfl, fun _ => rfl, fun _ => rfl, fun _ h => (by cases h), fun _ h => (by cases h)⟩
theorem ent68 : EntOK tab 68 T67 dT67 := ⟨fun _ => rfl, fun _ _ => rfl, fun _ => rfl, fun _ => rfl, fun _ h => (by cases h), fun _ h => (by cases h)⟩
theorem ent72 : EntOK tab 72 (List Int) dA64_5 := ⟨fun _ => rfl, fun _ _ => rfl, fun _ => rfl, fun _ => rfl, fun _ _ => rfl, fun _ h => (by cases h)⟩
theorem ent81 : EntOK tab 81 T80 dT80 := ⟨fun _ => rfl, fun _ _ => rfl, fun _ => rfl, fun _ => rfl, fun _ _ => rfl, fun _ h => (by cases h)⟩
theorem ent83 : EntOK tab 83 (List Int) dA32_5 := ⟨fun _ => rfl, fun _ _ => rfl, fun _ => rfl, fun _ => rfl, fun _ _ => rfl, fun _ h => (by cases h)⟩
theorem ent84 : EntOK tab 84 (List Int) dL5 := ⟨fun _ => rfl, fun _ _ => rfl, fun _ => rfl, fun _ => rfl, fun _ h => (by cases h), fun _ h => (by cases h)⟩
theorem ent85 : EntOK tab 85 (List Int) dA8_3 := ⟨fun _ => rfl, fun _ _ => rfl, fun _ => rfl, fun _ => rfl, fun _ _ => rfl, fun _ h => (by cases h)⟩
theorem ent87 : EntOK tab 87 T86 dT86 := ⟨fun _ => rfl, fun _ _ => rfl, fun _ => rfl, fun _ => rfl, fun _ h => (by cases h), fun _ h => (by cases h)⟩
theorem ent89 : EntOK tab 89 T88 dT88 := ⟨fun _ => rfl, fun _ _ => rfl, fun _ => rfl, fun _ => rfl, fun _ h => (by cases h), fun _ h => (by cases h)⟩
theorem ent93 : EntOK tab 93 (List T117) dL118 := ⟨fun _ => rfl, fun _ _ => rfl, fun _ => rfl, fun _ => rfl, fun _ h => (by cases h), fun _ h => (by cases h)⟩
theorem ent95 : EntOK tab 95 T94 dT94 := ⟨fun _ => rfl, fun _ _ => rfl, fun _ => rfl, fun _ => rfl, fun _ h => (by cases h), fun _ h => (by cases h)⟩
theorem ent98 : EntOK tab 98 T97 dT97 := ⟨fun _ => rfl, fun _ _ => rfl, fun _ => rfl, fun _ => rfl, fun _ h => (by cases h), fun _ h => (by cases h)⟩
theorem ent101 : EntOK tab 101 GErr dE := ⟨fun _ => rfl, fun _ _ => rfl, fun _ => rfl, fun _ => rfl, fun _ h => (by cases h), fun _ h => (by cases h)⟩
theorem ent105 : EntOK tab 105 Unit ptrDen := ⟨fun _ => rfl, fun _ _ => rfl, fun _ => rfl, fun _ => rfl, fun _ h => (by cases h), fun _ h => (by cases h)⟩
theorem ent108 : EntOK tab 108 T107 dT107 := ⟨fun _ => rfl, fun _ _ => rfl, fun _ => rfl, fun _ => rfl, fun _ h => (by cases h), fun _ h => (by cases h)⟩
theorem ent116 : EntOK tab 116 Unit dF89 := ⟨fun _ => rfl, fun _ _ => rfl, fun _ => rfl, fun _ => rfl, fun _ h => (by cases h), fun _ h => (by cases h)⟩
theorem ent118 : EntOK tab 118 T117 dT117 := ⟨fun _ => rfl, fun _ _ => rfl, fun _ => rfl, fun _ => rfl, fun _ _ => rfl, fun _ h => (by cases h)⟩
theorem ent120 : EntOK tab 120 T119 dT119 := ⟨fun _ => rfl, fun _ _ => rfl, fun _ => rfl, fun _ => rfl, fun _ _ => rfl, fun _ h => (by cases h)⟩
theorem ent137 : EntOK tab 137 Int dI_u8 := ⟨fun _ => rfl, fun _ _ => rfl, fun _ => rfl, fun _ => rfl, fun _ _ => rfl, fun x _ => ⟨x, rfl⟩⟩
theorem ent141 : EntOK tab 141 (List T80) dL81 := ⟨fun _ => rfl, fun _ _ => rfl, fun _ => rfl, fun _ => rfl, fun _ h => (by cases h), fun _ h => (by cases h)⟩
theorem ent143 : EntOK tab 143 T142 dT142 := ⟨fun _ => rfl, fun _ _ => rfl, fun _ => rfl, fun _ => rfl, fun _ h => (by cases h), fun _ h => (by cases h)⟩
theorem ent147 : EntOK tab 147 Unit ptrDen := ⟨fun _ => rfl, fun _ _ => rfl, fun _ => rfl, fun _ => rfl, fun _ h => (by cases h), fun _ h => (by cases h)⟩
theorem ent149 : EntOK tab 149 T148 dT148 := ⟨fun _ => rfl, fun _ _ => rfl, fun _ => rfl, fun _ => rfl, fun _ h => (by cases h), fun _ h => (by cases h)⟩
theorem ent165 : EntOK tab 165 (List GErr) dL101 := ⟨fun _ => rfl, fun _ _ => rfl, fun _ => rfl, fun _ => rfl, fun _ h => (by cases h), fun _ h => (by cases h)⟩
theorem ent171 : EntOK tab 171 Unit ptrDen := ⟨fun _ => rfl, fun _ _ => rfl, fun _ => rfl, fun _ => rfl, fun _ h => (by cases h), fun _ h => (by cases h)⟩
theorem ent177 : EntOK tab 177 T176 dT176 := ⟨fun _ => rfl, fun _ _ => rfl, fun _ => rfl, fun _ => rfl, fun _ h => (by cases h), fun _ h => (by cases h)⟩
theorem ent180 : EntOK tab 180 Int dI_u64 := ⟨fun _ => rfl, fun _ _ => rfl, fun _ => rfl, fun _ => rfl, fun _ _ => rfl, fun _ h => (by cases h)⟩
theorem ent (t : Nat) : EntOK tab t (Ty t) (tab.den t) := by
  show EntOK tab t (Ty t) (den t)
  unfold den Ty
  by_cases hall : t ∈ [3, 4, 5, 9, 23, 24, 25, 27, 28, 32, 34, 35, 38, 41, 44, 47, 51, 53, 62, 65, 66, 68, 72, 81, 83, 84, 85, 87, 89, 93, 95, 98, 101, 105, 108, 116, 118, 120, 137, 141, 143, 147, 149, 165, 171, 177, 180]
  · simp only [List.mem_cons, List.not_mem_nil, or_false] at hall
    rcases hall with h | h | h | h | h | h | h | h | h | h | h | h | h | h | h | h | h | h | h | h | h | h | h | h | h | h | h | h | h | h | h | h | h | h | h | h | h | h | h | h | h | h | h | h | h | h | h
    · subst h; exact ent3
    · subst h; exact ent4
    · subst h; exact ent5
    · subst h; exact ent9
    · subst h; exact ent23
    · subst h; exact ent24
    · subst h; exact ent25
    · subst h; exact ent27
    · subst h; exact ent28
    · subst h; exact ent32
    · subst h; exact ent34
    · subst h; exact ent35
    · subst h; exact ent38
    · subst h; exact ent41
    · subst h; exact ent44
    · subst h; exact ent47
    · subst h; exact ent51
    · subst h; exact ent53
    · subst h; exact ent62
    · subst h; exact ent65
    · subst h; exact ent66
    · subst h; exact ent68
    · subst h; exact ent72
    · subst h; exact ent81
    · subst h; exact ent83
    · subst h; exact ent84
    · subst h; exact ent85
    · subst h; exact ent87
    · subst h; exact ent89
    · subst h; exact ent93
    · subst h; exact ent95
    · subst h; exact ent98
    · subst h; exact ent101
    · subst h; exact ent105
    · subst h; exact ent108
    · subst h; exact ent116
    · subst h; exact ent118
    · subst h; exact ent120
    · subst h; exact ent137
    · subst h; exact ent141
    · subst h; exact ent143
    · subst h; exact ent147
    · subst h; exact ent149
    · subst h; exact ent165
    · subst h; exact ent171
    · subst h; exact ent177
    · subst h; exact ent180
  · have hf : ∀ u ∈ [3, 4, 5, 9, 23, 24, 25, 27, 28, 32, 34, 35, 38, 41, 44, 47, 51, 53, 62, 65, 66, 68, 72, 81, 83, 84, 85, 87, 89, 93, 95, 98, 101, 105, 108, 116, 118, 120, 137, 141, 143, 147, 149, 165, 171, 177, 180], (t == u) = false := fun u hu => by simp only [beq_eq_false_iff_ne]; intro e; subst e; exact hall hu
    have hi : infoAt t info = ⟨.other, 1, 8⟩ := by
      rcases infoAt_spec info t with ⟨p, h1, h2, _⟩ | h
      · exfalso; apply hall; rw [← h2]; have : ∀ q ∈ info, q.1 ∈ [3, 4, 5, 9, 23, 24, 25, 27, 28, 32, 34, 35, 38, 41, 44, 47, 51, 53, 62, 65, 66, 68, 72, 81, 83, 84, 85, 87, 89, 93, 95, 98, 101, 105, 108, 116, 118, 120, 137, 141, 143, 147, 149, 165, 171, 177, 180] := by decide
        exact this p h1
      · exact h
    have hs : tab.size t = 1 := by unfold Tab.size; show (infoAt t info).size = 1; rw [hi]
    have hk : tab.td t = .other := by unfold Tab.td; show (infoAt t info).td = .other; rw [hi]
    have hu : EntOK tab t Unit unitDen := ⟨fun _ => (by rw [hs]; rfl), fun _ h => (by rw [hk] at h; cases h), fun _ => rfl, fun _ => rfl, fun _ _ => rfl, fun _ h => (by rw [hk] at h; cases h)⟩
    have hQ : ∀ (u : Nat) (_ : u ∈ [3, 4, 5, 9, 23, 24, 25, 27, 28, 32, 34, 35, 38, 41, 44, 47, 51, 53, 62, 65, 66, 68, 72, 81, 83, 84, 85, 87, 89, 93, 95, 98, 101, 105, 108, 116, 118, 120, 137, 141, 143, 147, 149, 165, 171, 177, 180]) {α β : Type} {x : Den Ty α} {y : Den Ty β}, EntOK tab t β y → EntOK tab t (cond (t == u) α β) (pickDen (t == u) x y) := fun u h α β x y hy => pick_all (Q := EntOK tab t) (fun e => by rw [hf u h] at e; cases e) fun _ => hy
    exact hQ 3 (by decide) (hQ 4 (by decide) (hQ 5 (by decide) (hQ 9 (by decide) (hQ 23 (by decide) (hQ 24 (by decide) (hQ 25 (by decide) (hQ 27 (by decide) (hQ 28 (by decide) (hQ 32 (by decide) (hQ 34 (by decide) (hQ 35 (by decide) (hQ 38 (by decide) (hQ 41 (by decide) (hQ 44 (by decide) (hQ 47 (by decide) (hQ 51 (by decide) (hQ 53 (by decide) (hQ 62 (by decide) (hQ 65 (by decide) (hQ 66 (by decide) (hQ 68 (by decide) (hQ 72 (by decide) (hQ 81 (by decide) (hQ 83 (by decide) (hQ 84 (by decide) (hQ 85 (by decide) (hQ 87 (by decide) (hQ 89 (by decide) (hQ 93 (by decide) (hQ 95 (by decide) (hQ 98 (by decide) (hQ 101 (by decide) (hQ 105 (by decide) (hQ 108 (by decide) (hQ 116 (by decide) (hQ 118 (by decide) (hQ 120 (by decide) (hQ 137 (by decide) (hQ 141 (by decide) (hQ 143 (by decide) (hQ 147 (by decide) (hQ 149 (by decide) (hQ 165 (by decide) (hQ 171 (by decide) (hQ 177 (by decide) (hQ 180 (by decide) (hu)))))))))))))))))))))))))))))))))))))))))))))))
theorem tabOK : TabOK Tryz.prog tab := TabOK.of (by kernel_rfl) ent (by kernel_rfl)
theorem eq3 : V.EqAt Tryz.prog tab 1 3 := V.eqAt_int Tryz.underlying3 rfl
theorem eq4 : V.EqAt Tryz.prog tab 1 4 := V.eqAt_bool Tryz.underlying4 rfl
theorem eq5 : V.EqAt Tryz.prog tab 1 5 := V.eqAt_int Tryz.underlying5 rfl
theorem eq9 : V.EqAt Tryz.prog tab 1 9 := V.eqAt_str Tryz.underlying9 rfl
theorem eq23 : V.EqAt Tryz.prog tab 2 23 := V.eqAt_struct (m := 1) tabOK Tryz.underlying23 rfl rfl (by kernel_rfl) (by decide) (by
  simp only [List.forall_mem_cons]
  exact ⟨eq3, eq3, eq3, eq3, nofun⟩)
theorem eq24 : V.EqAt Tryz.prog tab 1 24 := V.eqAt_int Tryz.underlying24 rfl
theorem eq32 : V.EqAt Tryz.prog tab 2 32 := V.eqAt_struct (m := 1) tabOK Tryz.underlying32 rfl rfl (by kernel_rfl) (by decide) (by
  simp only [List.forall_mem_cons]
  exact ⟨eq3, eq3, eq3, nofun⟩)
theorem eq35 : V.EqAt Tryz.prog tab 1 35 := V.eqAt_int Tryz.underlying35 rfl
theorem eq72 : V.EqAt Tryz.prog tab 2 72 := V.eqAt_arr (f0 := 1) tabOK Tryz.underlying72 rfl eq5 (fun _ => rfl) (f := fun (x y : Int) => x == y) (fun _ _ => rfl) eqInts
theorem eq81 : V.EqAt Tryz.prog tab 2 81 := V.eqAt_struct (m := 1) tabOK Tryz.underlying81 rfl rfl (by kernel_rfl) (by decide) (by
  simp only [List.forall_mem_cons]
  exact ⟨eq3, eq3, nofun⟩)
theorem eq83 : V.EqAt Tryz.prog tab 2 83 := V.eqAt_arr (f0 := 1) tabOK Tryz.underlying83 rfl eq5 (fun _ => rfl) (f := fun (x y : Int) => x == y) (fun _ _ => rfl) eqInts
theorem eq85 : V.EqAt Tryz.prog tab 2 85 := V.eqAt_arr (f0 := 1) tabOK Tryz.underlying85 rfl eq3 (fun _ => rfl) (f := fun (x y : Int) => x == y) (fun _ _ => rfl) eqInts
theorem eq118 : V.EqAt Tryz.prog tab 3 118 := V.eqAt_struct (m := 2) tabOK Tryz.underlying118 rfl rfl (by kernel_rfl) (by decide) (by
  simp only [List.forall_mem_cons]
  exact ⟨V.EqAt.more (by decide) eq3, eq72, nofun⟩)
theorem eq120 : V.EqAt Tryz.prog tab 3 120 := V.eqAt_struct (m := 2) tabOK Tryz.underlying120 rfl rfl (by kernel_rfl) (by decide) (by
  simp only [List.forall_mem_cons]
  exact ⟨V.EqAt.more (by decide) eq3, eq72, nofun⟩)
theorem eq137 : V.EqAt Tryz.prog tab 1 137 := V.eqAt_int Tryz.underlying137 rfl
theorem eq180 : V.EqAt Tryz.prog tab 1 180 := V.eqAt_int Tryz.underlying180 rfl
theorem cmpOK : CmpOK Tryz.prog tab := by
  intro t h
  have hm : t ∈ [3, 4, 5, 9, 23, 24, 32, 35, 72, 81, 83, 85, 118, 120, 137, 180] := by
    obtain ⟨u, h1, h2⟩ := List.any_eq_true.1 (show ([3, 4, 5, 9, 23, 24, 32, 35, 72, 81, 83, 85, 118, 120, 137, 180].any fun u => u == t) = true from h)
    have : u = t := by simpa using h2
    rw [← this]; exact h1
  simp only [List.mem_cons, List.not_mem_nil, or_false] at hm
  rcases hm with h | h | h | h | h | h | h | h | h | h | h | h | h | h | h | h
  · subst h; exact ⟨by kernel_rfl, 1, by decide, eq3⟩
  · subst h; exact ⟨by kernel_rfl, 1, by decide, eq4⟩
  · subst h; exact ⟨by kernel_rfl, 1, by decide, eq5⟩
  · subst h; exact ⟨by kernel_rfl, 1, by decide, eq9⟩
  · subst h; exact ⟨by kernel_rfl, 2, by decide, eq23⟩
  · subst h; exact ⟨by kernel_rfl, 1, by decide, eq24⟩
  · subst h; exact ⟨by kernel_rfl, 2, by decide, eq32⟩
  · subst h; exact ⟨by kernel_rfl, 1, by decide, eq35⟩
  · subst h; exact ⟨by kernel_rfl, 2, by decide, eq72⟩
  · subst h; exact ⟨by kernel_rfl, 2, by decide, eq81⟩
  · subst h; exact ⟨by kernel_rfl, 2, by decide, eq83⟩
  · subst h; exact ⟨by kernel_rfl, 2, by decide, eq85⟩
  · subst h; exact ⟨by kernel_rfl, 3, by decide, eq118⟩
  · subst h; exact ⟨by kernel_rfl, 3, by decide, eq120⟩
  · subst h; exact ⟨by kernel_rfl, 1, by decide, eq137⟩
  · subst h; exact ⟨by kernel_rfl, 1, by decide, eq180⟩
end Go.Proofs.YtbhnkjnjeifdhaaGreatDoor.W
