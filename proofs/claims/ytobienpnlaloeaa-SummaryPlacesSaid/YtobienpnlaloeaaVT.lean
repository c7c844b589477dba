/-
  The types of the seat as Lean types, what each stands for in cells, and that the program has them so. Laid by program (mktab.py).
-/
import Derived.Test.YtobienpnlaloeaaVK3
import Derived.Test.YtobienpnlaloeaaProg
namespace Go.Proofs.Ytobienpnlaloeaa.W
open Go Go.Proofs V
/-- api.Mark -/
structure T46 where
  Kind : Int
  Id : Int
  deriving DecidableEq
/-- summary.Summary -/
structure T24 where
  Seq : Int
  More : Bool
  Marks : List T46
  deriving DecidableEq
/-- siltref05.Summary -/
structure T34 where
  Seq : Int
  More : Bool
  Marks : List T46
  E : Int
  deriving DecidableEq
def Ty : Nat → Type := fun t => cond (t == 3) (Int) (cond (t == 4) (Bool) (cond (t == 5) (Int) (cond (t == 22) (Int) (cond (t == 23) (List T46) (cond (t == 25) (T24) (cond (t == 27) (List Int) (cond (t == 29) (Int) (cond (t == 35) (T34) (cond (t == 45) (Int) (cond (t == 47) (T46) (cond (t == 51) (List Int) (Unit))))))))))))
def dI_i64 : Den Ty Int where
  enc := fun (x : Int) => .int .i64 x
  dec := fun v => match v with
    | .int .i64 v0 => some v0
    | _ => none
  dflt := (0 : Int)
  spec := by intro v x h; split at h <;> cases h; rfl
def dB : Den Ty Bool where
  enc := fun (x : Bool) => .bool x
  dec := fun v => match v with
    | .bool v0 => some v0
    | _ => none
  dflt := false
  spec := by intro v x h; split at h <;> cases h; rfl
def dI_u8 : Den Ty Int where
  enc := fun (x : Int) => .int .u8 x
  dec := fun v => match v with
    | .int .u8 v0 => some v0
    | _ => none
  dflt := (0 : Int)
  spec := by intro v x h; split at h <;> cases h; rfl
def dI_u32 : Den Ty Int where
  enc := fun (x : Int) => .int .u32 x
  dec := fun v => match v with
    | .int .u32 v0 => some v0
    | _ => none
  dflt := (0 : Int)
  spec := by intro v x h; split at h <;> cases h; rfl
def dL47 : Den Ty (List T46) where
  enc := fun (x : List T46) => .slice 47 x
  dec := fun v => match v with
    | .slice 47 v0 => some v0
    | _ => none
  dflt := ([] : List T46)
  spec := by intro v x h; split at h <;> cases h; rfl
def dT24 : Den Ty T24 where
  enc := fun (x : T24) => .cons (.int .u32 x.Seq) (.cons (.bool x.More) (.cons (.slice 47 x.Marks) (.nil)))
  dec := fun v => match v with
    | .cons (.int .u32 v0) (.cons (.bool v1) (.cons (.slice 47 v2) (.nil))) => some (T24.mk v0 v1 v2)
    | _ => none
  dflt := (T24.mk (0 : Int) false ([] : List T46))
  spec := by intro v x h; split at h <;> cases h; rfl
def dA64_5 : Den Ty (List Int) where
  enc := fun (x : List Int) => .arr 5 64 x
  dec := fun v => match v with
    | .arr 5 64 v0 => some v0
    | _ => none
  dflt := (List.replicate 64 (0 : Int))
  spec := by intro v x h; split at h <;> cases h; rfl
def dT34 : Den Ty T34 where
  enc := fun (x : T34) => .cons (.int .u32 x.Seq) (.cons (.bool x.More) (.cons (.slice 47 x.Marks) (.cons (.int .i64 x.E) (.nil))))
  dec := fun v => match v with
    | .cons (.int .u32 v0) (.cons (.bool v1) (.cons (.slice 47 v2) (.cons (.int .i64 v3) (.nil)))) => some (T34.mk v0 v1 v2 v3)
    | _ => none
  dflt := (T34.mk (0 : Int) false ([] : List T46) (0 : Int))
  spec := by intro v x h; split at h <;> cases h; rfl
def dI_u64 : Den Ty Int where
  enc := fun (x : Int) => .int .u64 x
  dec := fun v => match v with
    | .int .u64 v0 => some v0
    | _ => none
  dflt := (0 : Int)
  spec := by intro v x h; split at h <;> cases h; rfl
def dT46 : Den Ty T46 where
  enc := fun (x : T46) => .cons (.int .i64 x.Kind) (.cons (.int .i64 x.Id) (.nil))
  dec := fun v => match v with
    | .cons (.int .i64 v0) (.cons (.int .i64 v1) (.nil)) => some (T46.mk v0 v1)
    | _ => none
  dflt := (T46.mk (0 : Int) (0 : Int))
  spec := by intro v x h; split at h <;> cases h; rfl
def dL5 : Den Ty (List Int) where
  enc := fun (x : List Int) => .slice 5 x
  dec := fun v => match v with
    | .slice 5 v0 => some v0
    | _ => none
  dflt := ([] : List Int)
  spec := by intro v x h; split at h <;> cases h; rfl
def den : (t : Nat) → Den Ty (Ty t) := fun t => pickDen (t == 3) dI_i64 (pickDen (t == 4) dB (pickDen (t == 5) dI_u8 (pickDen (t == 22) dI_u32 (pickDen (t == 23) dL47 (pickDen (t == 25) dT24 (pickDen (t == 27) dA64_5 (pickDen (t == 29) dI_i64 (pickDen (t == 35) dT34 (pickDen (t == 45) dI_u64 (pickDen (t == 47) dT46 (pickDen (t == 51) dL5 (unitDen))))))))))))
def info : List (Nat × TI) := [(3, ⟨.int .i64, 1, 8⟩), (4, ⟨.bool, 1, 1⟩), (5, ⟨.int .u8, 1, 1⟩), (22, ⟨.int .u32, 1, 4⟩), (23, ⟨.slice 47, 1, 24⟩), (25, ⟨.struct [(22, 0), (4, 1), (23, 2)], 3, 32⟩), (27, ⟨.arr 64 5, 64, 64⟩), (29, ⟨.int .i64, 1, 8⟩), (35, ⟨.struct [(22, 0), (4, 1), (23, 2), (3, 3)], 4, 40⟩), (45, ⟨.int .u64, 1, 8⟩), (47, ⟨.struct [(3, 0), (3, 1)], 2, 16⟩), (51, ⟨.slice 5, 1, 24⟩)]
def isOf (l : List Nat) (t : Nat) : Bool := l.any fun u => u == t
def eqL1 {α β : Type} (b : Bool) (f : List α → List α → Bool) (g : List β → List β → Bool) : List (cond b α β) → List (cond b α β) → Bool :=
  match b with
  | true => f
  | false => g
def eqL : (t : Nat) → List (Ty t) → List (Ty t) → Bool := fun t => eqL1 (t == 3) (fun _ _ => false) (eqL1 (t == 4) (fun _ _ => false) (eqL1 (t == 5) (fun (xs ys : List Int) => decide (xs = ys)) (eqL1 (t == 22) (fun _ _ => false) (eqL1 (t == 23) (fun _ _ => false) (eqL1 (t == 25) (fun _ _ => false) (eqL1 (t == 27) (fun _ _ => false) (eqL1 (t == 29) (fun _ _ => false) (eqL1 (t == 35) (fun _ _ => false) (eqL1 (t == 45) (fun _ _ => false) (eqL1 (t == 47) (fun _ _ => false) (eqL1 (t == 51) (fun _ _ => false) (fun _ _ => false))))))))))))
def tab : Tab Ty := { den, flatTy := isOf [3, 4, 5, 22, 27, 29, 45, 47], eqOk := isOf [5], cmp := isOf [3, 4, 5, 22, 27, 29, 45, 47], eqL, info }
theorem ent3 : EntOK tab 3 Int dI_i64 := ⟨fun _ => rfl, fun _ _ => rfl, fun _ => rfl, fun _ => rfl, fun _ _ => rfl⟩
theorem ent4 : EntOK tab 4 Bool dB := ⟨fun _ => rfl, fun _ _ => rfl, fun _ => rfl, fun _ => rfl, fun _ _ => rfl⟩
theorem ent5 : EntOK tab 5 Int dI_u8 := ⟨fun _ => rfl, fun _ _ => rfl, fun _ => rfl, fun _ => rfl, fun _ _ => rfl⟩
theorem ent22 : EntOK tab 22 Int dI_u32 := ⟨fun _ => rfl, fun _ _ => rfl, fun _ => rfl, fun _ => rfl, fun _ _ => rfl⟩
theorem ent23 : EntOK tab 23 (List T46) dL47 := ⟨fun _ => rfl, fun _ _ => rfl, fun _ => rfl, fun _ => rfl, fun _ h => by cases h⟩
theorem ent25 : EntOK tab 25 T24 dT24 := ⟨fun _ => rfl, fun _ _ => rfl, fun _ => rfl, fun _ => rfl, fun _ h => by cases h⟩
theorem ent27 : EntOK tab 27 (List Int) dA64_5 := ⟨fun _ => rfl, fun _ _ => rfl, fun _ => rfl, fun _ => rfl, fun _ _ => rfl⟩
theorem ent29 : EntOK tab 29 Int dI_i64 := ⟨fun _ => rfl, fun _ _ => rfl, fun _ => rfl, fun _ => rfl, fun _ _ => rfl⟩
theorem ent35 : EntOK tab 35 T34 dT34 := ⟨fun _ => rfl, fun _ _ => rfl, fun _ => rfl, fun _ => rfl, fun _ h => by cases h⟩
theorem ent45 : EntOK tab 45 Int dI_u64 := ⟨fun _ => rfl, fun _ _ => rfl, fun _ => rfl, fun _ => rfl, fun _ _ => rfl⟩
theorem ent47 : EntOK tab 47 T46 dT46 := ⟨fun _ => rfl, fun _ _ => rfl, fun _ => rfl, fun _ => rfl, fun _ _ => rfl⟩
theorem ent51 : EntOK tab 51 (List Int) dL5 := ⟨fun _ => rfl, fun _ _ => rfl, fun _ => rfl, fun _ => rfl, fun _ h => by cases h⟩
theorem ent (t : Nat) : EntOK tab t (Ty t) (tab.den t) := by
  show EntOK tab t (Ty t) (den t)
  unfold den Ty
  by_cases hall : t ∈ [3, 4, 5, 22, 23, 25, 27, 29, 35, 45, 47, 51]
  · simp only [List.mem_cons, List.not_mem_nil, or_false] at hall
    rcases hall with h | h | h | h | h | h | h | h | h | h | h | h
    · subst h; exact ent3
    · subst h; exact ent4
    · subst h; exact ent5
    · subst h; exact ent22
    · subst h; exact ent23
    · subst h; exact ent25
    · subst h; exact ent27
    · subst h; exact ent29
    · subst h; exact ent35
    · subst h; exact ent45
    · subst h; exact ent47
    · subst h; exact ent51
  · have hf : ∀ u ∈ [3, 4, 5, 22, 23, 25, 27, 29, 35, 45, 47, 51], (t == u) = false := fun u hu => by simp only [beq_eq_false_iff_ne]; intro e; subst e; exact hall hu
    have hi : infoAt t info = ⟨.other, 1, 8⟩ := by
      rcases infoAt_spec info t with ⟨p, h1, h2, _⟩ | h
      · exfalso; apply hall; rw [← h2]; have : ∀ q ∈ info, q.1 ∈ [3, 4, 5, 22, 23, 25, 27, 29, 35, 45, 47, 51] := by decide
        exact this p h1
      · exact h
    have hs : tab.size t = 1 := by unfold Tab.size; show (infoAt t info).size = 1; rw [hi]
    have hk : tab.td t = .other := by unfold Tab.td; show (infoAt t info).td = .other; rw [hi]
    have hu : EntOK tab t Unit unitDen := ⟨fun _ => (by rw [hs]; rfl), fun _ h => (by rw [hk] at h; cases h), fun _ => rfl, fun _ => rfl, fun _ _ => rfl⟩
    have hQ : ∀ (u : Nat) (_ : u ∈ [3, 4, 5, 22, 23, 25, 27, 29, 35, 45, 47, 51]) {α β : Type} {x : Den Ty α} {y : Den Ty β}, EntOK tab t β y → EntOK tab t (cond (t == u) α β) (pickDen (t == u) x y) := fun u h α β x y hy => pick_all (Q := EntOK tab t) (fun e => by rw [hf u h] at e; cases e) fun _ => hy
    exact hQ 3 (by decide) (hQ 4 (by decide) (hQ 5 (by decide) (hQ 22 (by decide) (hQ 23 (by decide) (hQ 25 (by decide) (hQ 27 (by decide) (hQ 29 (by decide) (hQ 35 (by decide) (hQ 45 (by decide) (hQ 47 (by decide) (hQ 51 (by decide) (hu))))))))))))
theorem tabOK : TabOK Try.prog tab := TabOK.of (by kernel_rfl) ent (by kernel_rfl)
theorem eq3 : V.EqAt Try.prog tab 1 3 := V.eqAt_int Try.underlying3 rfl
theorem eq4 : V.EqAt Try.prog tab 1 4 := V.eqAt_bool Try.underlying4 rfl
theorem eq5 : V.EqAt Try.prog tab 1 5 := V.eqAt_int Try.underlying5 rfl
theorem eq22 : V.EqAt Try.prog tab 1 22 := V.eqAt_int Try.underlying22 rfl
theorem eq27 : V.EqAt Try.prog tab 2 27 := V.eqAt_arr (f0 := 1) tabOK Try.underlying27 rfl eq5 (fun _ => rfl) (f := fun (x y : Int) => x == y) (fun _ _ => rfl) eqInts
theorem eq29 : V.EqAt Try.prog tab 1 29 := V.eqAt_int Try.underlying29 rfl
theorem eq45 : V.EqAt Try.prog tab 1 45 := V.eqAt_int Try.underlying45 rfl
theorem eq47 : V.EqAt Try.prog tab 2 47 := V.eqAt_struct (m := 1) tabOK Try.underlying47 rfl rfl (by kernel_rfl) (by decide) (by
  simp only [List.forall_mem_cons]
  exact ⟨eq3, eq3, nofun⟩)
theorem cmpOK : CmpOK Try.prog tab := by
  intro t h
  have hm : t ∈ [3, 4, 5, 22, 27, 29, 45, 47] := by
    obtain ⟨u, h1, h2⟩ := List.any_eq_true.1 (show ([3, 4, 5, 22, 27, 29, 45, 47].any fun u => u == t) = true from h)
    have : u = t := by simpa using h2
    rw [← this]; exact h1
  simp only [List.mem_cons, List.not_mem_nil, or_false] at hm
  rcases hm with h | h | h | h | h | h | h | h
  · subst h; exact ⟨by kernel_rfl, 1, by decide, eq3⟩
  · subst h; exact ⟨by kernel_rfl, 1, by decide, eq4⟩
  · subst h; exact ⟨by kernel_rfl, 1, by decide, eq5⟩
  · subst h; exact ⟨by kernel_rfl, 1, by decide, eq22⟩
  · subst h; exact ⟨by kernel_rfl, 2, by decide, eq27⟩
  · subst h; exact ⟨by kernel_rfl, 1, by decide, eq29⟩
  · subst h; exact ⟨by kernel_rfl, 1, by decide, eq45⟩
  · subst h; exact ⟨by kernel_rfl, 2, by decide, eq47⟩
end Go.Proofs.Ytobienpnlaloeaa.W
