/-
  DeltaTwice: for every input that the statement lets in the law returns true; its tied card. No conditions.
-/
import Derived.Test.YtpnnmpdjgnbkhaaDoorVR
set_option linter.unusedVariables false
namespace Go.Proofs.YtpnnmpdjgnbkhaaDoor.W
open Go V
theorem beq_ne {a b : Int} (h : ¬ a = b) : (a == b) = false := beq_eq_false_iff_ne.2 h
def IsByte (x : Int) : Prop := 0 ≤ x ∧ x ≤ 255
def zpage : List Int := List.replicate 32 0
/-! ### bytes as a text, numbers of bytes -/
theorem bytesStr_data : ∀ (l : List Int) (r : ByteArray), (l.foldl (fun r n => r.push (UInt8.ofNat n.toNat)) r).data.toList = r.data.toList ++ l.map fun n => UInt8.ofNat n.toNat := by
  intro l
  induction l with
  | nil => intro r; simp
  | cons n l ih => intro r; rw [List.foldl_cons, ih]; simp [ByteArray.push]
theorem bytes_eq {a b : List Int} (ha : ∀ x ∈ a, IsByte x) (hb : ∀ x ∈ b, IsByte x) : ((bytesStr a).toList == (bytesStr b).toList) = decide (a = b) := by
  have h1 : ∀ l : List Int, (bytesStr l).toList = l.map fun n => UInt8.ofNat n.toNat := by
    intro l
    rw [ByteArray.toList_eq]
    unfold bytesStr
    rw [bytesStr_data]
    rfl
  rw [h1, h1]
  have key : ∀ (a b : List Int), (∀ x ∈ a, IsByte x) → (∀ x ∈ b, IsByte x) → (a.map (fun n => UInt8.ofNat n.toNat) = b.map (fun n => UInt8.ofNat n.toNat) ↔ a = b) := by
    intro a
    induction a with
    | nil => intro b _ _; cases b <;> simp
    | cons x a ih =>
      intro b ha hb
      cases b with
      | nil => simp
      | cons y b =>
        simp only [List.map_cons, List.cons.injEq]
        rw [ih b (fun z hz => ha z (by simp [hz])) (fun z hz => hb z (by simp [hz]))]
        have hx := ha x (by simp)
        have hy := hb y (by simp)
        unfold IsByte at hx hy
        have : (UInt8.ofNat x.toNat = UInt8.ofNat y.toNat) ↔ x = y := by
          constructor
          · intro e
            have := congrArg UInt8.toNat e
            simp only [UInt8.toNat_ofNat'] at this
            omega
          · intro e; rw [e]
        rw [this]
  by_cases e : a = b
  · subst e; simp
  · have : ¬ a.map (fun n => UInt8.ofNat n.toNat) = b.map (fun n => UInt8.ofNat n.toNat) := fun h => e ((key a b ha hb).1 h)
    simp only [decide_eq_false e]
    exact beq_eq_false_iff_ne.2 this
theorem keepBytes_eq {k : Nat} {a b : List Int} (ha : ∀ x ∈ a, IsByte x) (hb : ∀ x ∈ b, IsByte x) : F27 k (a, b, ()) = some (decide (a = b)) := by
  unfold F27
  simp only [List.map_id']
  rw [bytes_eq ha hb]
theorem roomMost_ge {n : Nat} (h : n ≤ 1000000) : decide (n ≤ roomMost) = true := decide_eq_true (show n ≤ 4294967296 by omega)
/-! ### what differs between two pages -/
def fl (a b : List Int) (l0 : Int) : Nat → Int × Int
  | 0 => (-1, l0)
  | j + 1 => if a.getD j 0 = b.getD j 0 then fl a b l0 j else (if (fl a b l0 j).1 < 0 then (j : Int) else (fl a b l0 j).1, (j : Int))
theorem fl_bounds (a b : List Int) (l0 : Int) : ∀ j, -1 ≤ (fl a b l0 j).1 ∧ (0 ≤ (fl a b l0 j).1 → (fl a b l0 j).1 ≤ (fl a b l0 j).2 ∧ (fl a b l0 j).2 < j) ∧ ((fl a b l0 j).1 < 0 → (fl a b l0 j).2 = l0) := by
  intro j
  induction j with
  | zero => exact ⟨by simp [fl], fun h => by simp [fl] at h, fun _ => rfl⟩
  | succ j ih =>
    obtain ⟨h1, h2, h3⟩ := ih
    unfold fl
    by_cases e : a.getD j 0 = b.getD j 0
    · rw [if_pos e]
      exact ⟨h1, fun h => ⟨(h2 h).1, by have := (h2 h).2; omega⟩, h3⟩
    · rw [if_neg e]
      by_cases hn : (fl a b l0 j).1 < 0
      · rw [if_pos hn]
        exact ⟨by omega, fun _ => ⟨Int.le_refl _, by omega⟩, fun h => by omega⟩
      · rw [if_neg hn]
        have := h2 (by omega)
        exact ⟨h1, fun _ => ⟨by simp only; omega, by simp only; omega⟩, fun h => absurd h hn⟩
theorem fl_same (a b : List Int) (p q : Int) : ∀ j, (fl a b p j).1 = (fl a b q j).1 ∧ (0 ≤ (fl a b p j).1 → (fl a b p j).2 = (fl a b q j).2) := by
  intro j
  induction j with
  | zero => exact ⟨rfl, fun h => by simp [fl] at h⟩
  | succ j ih =>
    obtain ⟨h1, h2⟩ := ih
    unfold fl
    by_cases e : a.getD j 0 = b.getD j 0
    · rw [if_pos e, if_pos e]; exact ⟨h1, h2⟩
    · rw [if_neg e, if_neg e]
      simp only [h1]
      exact ⟨trivial, fun _ => trivial⟩
/-- where, and which bytes; or that it is none, or too much -/
def dres (a b : List Int) : Option (Int × List Int) :=
  if (fl a b 0 32).1 < 0 then none
  else if (fl a b 0 32).2 - (fl a b 0 32).1 ≥ 16 then none
  else some ((fl a b 0 32).1, (b.drop (fl a b 0 32).1.toNat).take ((fl a b 0 32).2 + 1 - (fl a b 0 32).1).toNat)
theorem diff_loop {k n : Nat} {a b : List Int} (hn : 32 < n) : L23_3 k n (-1, 0, 0, a, b) = some ((fl a b 0 32).1, (fl a b 0 32).2, b) := by
  unfold L23_3
  refine iter_out (R := R23_3 k) (fun x : Int × Int × Int × List Int × List Int => ∃ j : Nat, j ≤ 32 ∧ x = ((fl a b 0 j).1, (fl a b 0 j).2, (j : Int), a, b)) (fun x => 32 - x.2.2.1.toNat) (fun _ => ((fl a b 0 32).1, (fl a b 0 32).2, b)) (fun x hx => ?_) ⟨0, by omega, rfl⟩ (by simpa using hn)
  obtain ⟨j, hj, rfl⟩ := hx
  by_cases hi : j < 32
  · right
    have e1 : IntKind.i64.wrap ((j : Int) + 1) = ((j + 1 : Nat) : Int) := by rw [wI_in (by omega)]; rfl
    have e8 : decide ((j : Int) < 32) = true := by simp; omega
    refine ⟨((fl a b 0 (j + 1)).1, (fl a b 0 (j + 1)).2, ((j + 1 : Nat) : Int), a, b), fun again => ?_, ⟨j + 1, by omega, rfl⟩, by simp only; omega, rfl⟩
    unfold R23_3
    simp only [e8, cond_true, inRange_true (i := (j : Int)) (n := 32) ⟨by omega, by omega⟩, Int.toNat_natCast, e1]
    rw [show fl a b 0 (j + 1) = if a.getD j 0 = b.getD j 0 then fl a b 0 j else (if (fl a b 0 j).1 < 0 then (j : Int) else (fl a b 0 j).1, (j : Int)) from rfl]
    generalize a.getD j 0 = u
    generalize b.getD j 0 = v
    by_cases e : u = v
    · simp [e]
    · rw [if_neg e, beq_ne e]
      by_cases hf : (fl a b 0 j).1 < 0
      · simp [hf]
      · simp [hf]
  · left
    intro again
    have : j = 32 := by omega
    subst this
    unfold R23_3
    rfl
theorem rdiff_loop {k n : Nat} {a b l : List Int} {p : Int} {q : Bool} (hn : 32 < n) : L24_3 k n (-1, -1, 0, a, b, p, q, l) = some ((fl a b (-1) 32).1, (fl a b (-1) 32).2, b, p, q, l) := by
  unfold L24_3
  refine iter_out (R := R24_3 k) (fun x : Int × Int × Int × List Int × List Int × Int × Bool × List Int => ∃ j : Nat, j ≤ 32 ∧ x = ((fl a b (-1) j).1, (fl a b (-1) j).2, (j : Int), a, b, p, q, l)) (fun x => 32 - x.2.2.1.toNat) (fun _ => ((fl a b (-1) 32).1, (fl a b (-1) 32).2, b, p, q, l)) (fun x hx => ?_) ⟨0, by omega, rfl⟩ (by simpa using hn)
  obtain ⟨j, hj, rfl⟩ := hx
  by_cases hi : j < 32
  · right
    have e1 : IntKind.i64.wrap ((j : Int) + 1) = ((j + 1 : Nat) : Int) := by rw [wI_in (by omega)]; rfl
    have e8 : decide ((j : Int) < 32) = true := by simp; omega
    refine ⟨((fl a b (-1) (j + 1)).1, (fl a b (-1) (j + 1)).2, ((j + 1 : Nat) : Int), a, b, p, q, l), fun again => ?_, ⟨j + 1, by omega, rfl⟩, by simp only; omega, rfl⟩
    unfold R24_3
    simp only [e8, cond_true, inRange_true (i := (j : Int)) (n := 32) ⟨by omega, by omega⟩, Int.toNat_natCast, e1]
    rw [show fl a b (-1) (j + 1) = if a.getD j 0 = b.getD j 0 then fl a b (-1) j else (if (fl a b (-1) j).1 < 0 then (j : Int) else (fl a b (-1) j).1, (j : Int)) from rfl]
    generalize a.getD j 0 = u
    generalize b.getD j 0 = v
    by_cases e : u = v
    · simp [e]
    · have : (u != v) = true := by simp [bne, beq_ne e]
      rw [if_neg e, this]
      by_cases hf : (fl a b (-1) j).1 < 0
      · simp [hf]
      · simp [hf]
  · left
    intro again
    have : j = 32 := by omega
    subst this
    unfold R24_3
    rfl
theorem diff_eq {k : Nat} {a b : List Int} (hk : 32 < k) : F23 k (a, b, ()) = some (match dres a b with | some (o, l) => (o, l, true, ()) | none => (0, [], false, ())) := by
  unfold F23
  simp only
  rw [diff_loop hk]
  simp only [Option.bind_some]
  unfold dres
  obtain ⟨h1, h2, h3⟩ := fl_bounds a b 0 32
  generalize fl a b 0 32 = r at h1 h2 h3
  obtain ⟨f, l⟩ := r
  simp only at h1 h2 h3 ⊢
  by_cases hf : f < 0
  · simp [hf]
  · have hb := h2 (by omega)
    have w1 : IntKind.i64.wrap (l - f) = l - f := wI_in (by omega)
    have w2 : IntKind.i64.wrap (l + 1) = l + 1 := wI_in (by omega)
    rw [w1, w2]
    by_cases h16 : l - f ≥ 16
    · simp [hf, h16]
    · have hd : (decide ((0 : Int) ≤ f) && decide (f ≤ l + 1) && decide (l + 1 ≤ ((32 : Nat) : Int))) = true := by simp; omega
      have hr : decide ((0 : Nat) + (List.take (l + 1 - f).toNat (List.drop f.toNat b)).length ≤ roomMost) = true := roomMost_ge (by rw [List.length_take]; omega)
      simp only [hf, h16, decide_false, cond_false, hd, hr, cond_true, if_false]
      rfl
theorem rdiff_eq {k : Nat} {a b : List Int} (hk : 32 < k) : F24 k (a, b, ()) = some (match dres a b with | some (o, l) => .mk o l true | none => .mk 0 [] false) := by
  unfold F24
  simp only
  rw [rdiff_loop hk]
  simp only [Option.bind_some]
  unfold dres
  obtain ⟨h1, h2, h3⟩ := fl_bounds a b 0 32
  obtain ⟨s1, s2⟩ := fl_same a b 0 (-1) 32
  generalize fl a b 0 32 = r at h1 h2 h3 s1 s2
  generalize fl a b (-1) 32 = r' at s1 s2
  obtain ⟨f, l⟩ := r
  obtain ⟨f', l'⟩ := r'
  simp only at h1 h2 h3 s1 s2 ⊢
  subst s1
  by_cases hf : f < 0
  · simp [hf]
  · have hb := h2 (by omega)
    have hl := s2 (by omega)
    subst hl
    have w1 : IntKind.i64.wrap (l - f) = l - f := wI_in (by omega)
    have w2 : IntKind.i64.wrap (l + 1) = l + 1 := wI_in (by omega)
    have w3 : IntKind.i64.wrap (l - f + 1) = l - f + 1 := wI_in (by omega)
    rw [w1, w2, w3]
    by_cases h16 : l - f ≥ 16
    · have : l - f + 1 > 16 := by omega
      simp [hf, h16, this]
    · have h16' : ¬ l - f + 1 > 16 := by omega
      have hd : (decide ((0 : Int) ≤ f) && decide (f ≤ l + 1) && decide (l + 1 ≤ ((32 : Nat) : Int))) = true := by simp; omega
      have hr : decide ((List.replicate (0 : Nat) (0 : Int)).length + (List.take (l + 1 - f).toNat (List.drop f.toNat b)).length ≤ roomMost) = true := roomMost_ge (by rw [List.length_take]; simp; omega)
      simp only [hf, h16, h16', decide_false, cond_false, hd, hr, cond_true, if_false]
      rfl
theorem dres_bytes {a b : List Int} (hb : ∀ x ∈ b, IsByte x) {o : Int} {l : List Int} (h : dres a b = some (o, l)) : ∀ x ∈ l, IsByte x := by
  unfold dres at h
  split at h
  · cases h
  split at h
  · cases h
  cases h
  exact fun x hx => hb x (List.mem_of_mem_drop (List.mem_of_mem_take hx))

/-! ### bytes laid over a page -/
theorem getD_at {l : List Int} {i : Nat} (h : i < l.length) : l.getD i 0 = l[i] := by rw [List.getD_eq_getElem?_getD, List.getElem?_eq_getElem h]; rfl
theorem ext_getD {a b : List Int} (hl : a.length = b.length) (h : ∀ i, i < a.length → a.getD i 0 = b.getD i 0) : a = b := by
  apply List.ext_getElem hl
  intro i h1 h2
  have := h i h1
  rwa [getD_at h1, getD_at h2] at this
def lay (p : List Int) (off : Nat) (l : List Int) : List Int := p.take off ++ (l ++ p.drop (off + l.length))
theorem lay_length {p l : List Int} {off : Nat} (h : off + l.length ≤ p.length) : (lay p off l).length = p.length := by
  unfold lay
  rw [List.length_append, List.length_append, List.length_take, List.length_drop]; omega
theorem lay_get {p l : List Int} {off : Nat} (h : off + l.length ≤ p.length) (i : Nat) : (lay p off l).getD i 0 = if off ≤ i ∧ i < off + l.length then l.getD (i - off) 0 else p.getD i 0 := by
  have ht : (p.take off).length = off := by rw [List.length_take]; omega
  unfold lay
  by_cases h1 : i < off
  · rw [if_neg (by omega), List.getD_eq_getElem?_getD, List.getElem?_append_left (by omega), List.getElem?_take_of_lt h1, ← List.getD_eq_getElem?_getD]
  · rw [List.getD_eq_getElem?_getD, List.getElem?_append_right (by omega), ht]
    by_cases h2 : i < off + l.length
    · rw [if_pos (by omega), List.getElem?_append_left (by omega), ← List.getD_eq_getElem?_getD]
    · rw [if_neg (by omega), List.getElem?_append_right (by omega), List.getElem?_drop, ← List.getD_eq_getElem?_getD]
      congr 1
      omega
def fitB (off : Int) (n : Nat) : Bool := decide (0 ≤ off ∧ 1 ≤ n ∧ n ≤ 32 ∧ off ≤ 32 - (n : Int))
def ares (p : List Int) (off : Int) (l : List Int) : List Int × Int × Unit := if fitB off l.length = true then (lay p off.toNat l, 0, ()) else (zpage, 1, ())
theorem splice_lay {p l : List Int} {off : Int} (h : fitB off l.length = true) : splice p l off.toNat (min l.length ((((32 : Nat) : Int) - off).toNat)) = lay p off.toNat l := by
  unfold fitB at h
  simp only [decide_eq_true_eq] at h
  unfold splice lay
  have : min l.length ((((32 : Nat) : Int) - off).toNat) = l.length := by omega
  rw [this, List.take_length, List.append_assoc]
theorem apply_eq {k : Nat} {p l : List Int} {off : Int} (hl : l.length ≤ 1000000) : F25 k (p, off, l, ()) = some (ares p off l) := by
  unfold F25 F60 F30 F34
  simp only
  have e1 : ((1 : Int) == 0) = false := rfl
  have hbad : ∀ a b : ByteArray, ((GErr.flt a (GErr.flt b (GErr.num 1) false) true).first) = some 1 := fun _ _ => rfl
  unfold ares
  by_cases h0 : off < 0
  · have : fitB off l.length = false := by unfold fitB; simp; omega
    simp only [h0, decide_true, cond_true, e1, cond_false, Option.bind_some, GErr.isNil, hbad, Option.isSome_some, this, Bool.false_eq_true, if_false, Option.getD_some]
    rfl
  by_cases h1 : (l.length : Int) < 1
  · have : fitB off l.length = false := by unfold fitB; simp; omega
    simp only [h0, h1, decide_true, decide_false, cond_true, e1, cond_false, Option.bind_some, GErr.isNil, hbad, Option.isSome_some, this, Bool.false_eq_true, if_false, Option.getD_some]
    rfl
  by_cases h2 : (l.length : Int) > 32
  · have : fitB off l.length = false := by unfold fitB; simp; omega
    simp only [h0, h1, h2, decide_true, decide_false, cond_true, e1, cond_false, Option.bind_some, GErr.isNil, hbad, Option.isSome_some, this, Bool.false_eq_true, if_false, Option.getD_some]
    rfl
  have w : IntKind.i64.wrap (32 - (l.length : Int)) = 32 - l.length := wI_in (by omega)
  by_cases h3 : off > 32 - (l.length : Int)
  · have : fitB off l.length = false := by unfold fitB; simp; omega
    simp only [h0, h1, h2, w, h3, decide_true, decide_false, cond_true, e1, cond_false, Option.bind_some, GErr.isNil, hbad, Option.isSome_some, this, Bool.false_eq_true, if_false, Option.getD_some]
    rfl
  · have hf : fitB off l.length = true := by unfold fitB; simp; omega
    have hd : (decide ((0 : Int) ≤ off) && decide (off ≤ ((32 : Nat) : Int)) && decide (((32 : Nat) : Int) ≤ ((32 : Nat) : Int))) = true := by simp; omega
    have hn : GErr.first GErr.nil = none := rfl
    simp only [h0, h1, h2, w, h3, decide_false, cond_false, Option.bind_some, hn, Option.isSome_none, hd, cond_true, splice_lay hf, hf, if_true]
theorem rapply_eq {k : Nat} {p l : List Int} {off : Int} (hl : l.length ≤ 1000000) : F26 k (p, off, l, ()) = some (.mk (ares p off l).1 (fitB off l.length)) := by
  unfold F26 ares
  simp only
  by_cases h0 : off < 0
  · have : fitB off l.length = false := by unfold fitB; simp; omega
    simp only [h0, decide_true, cond_true, this, Bool.false_eq_true, if_false]; rfl
  by_cases h1 : off > 32
  · have : fitB off l.length = false := by unfold fitB; simp; omega
    simp only [h0, h1, decide_true, decide_false, cond_true, cond_false, this, Bool.false_eq_true, if_false]; rfl
  by_cases h2 : (l.length : Int) < 1
  · have : fitB off l.length = false := by unfold fitB; simp; omega
    simp only [h0, h1, h2, decide_true, decide_false, cond_true, cond_false, this, Bool.false_eq_true, if_false]; rfl
  have w : IntKind.i64.wrap (32 - off) = 32 - off := wI_in (by omega)
  by_cases h3 : (l.length : Int) > 32 - off
  · have : fitB off l.length = false := by unfold fitB; simp; omega
    simp only [h0, h1, h2, w, h3, decide_true, decide_false, cond_true, cond_false, this, Bool.false_eq_true, if_false]; rfl
  · have hf : fitB off l.length = true := by unfold fitB; simp; omega
    have hd : (decide ((0 : Int) ≤ off) && decide (off ≤ ((32 : Nat) : Int)) && decide (((32 : Nat) : Int) ≤ ((32 : Nat) : Int))) = true := by simp; omega
    simp only [h0, h1, h2, w, h3, decide_false, cond_false, hd, cond_true, splice_lay hf, hf, if_true]
theorem fit_spec {off : Int} {n : Nat} (h : fitB off n = true) : 0 ≤ off ∧ 1 ≤ n ∧ off.toNat + n ≤ 32 := by
  unfold fitB at h
  simp only [decide_eq_true_eq] at h
  omega
/-- where the first and the last one differ, and that all else is alike -/
theorem fl_props (a b : List Int) (l0 : Int) : ∀ j, (∀ i : Nat, i < j → ((fl a b l0 j).1 < 0 ∨ (i : Int) < (fl a b l0 j).1 ∨ (fl a b l0 j).2 < i) → a.getD i 0 = b.getD i 0) ∧
    (0 ≤ (fl a b l0 j).1 → a.getD (fl a b l0 j).1.toNat 0 ≠ b.getD (fl a b l0 j).1.toNat 0 ∧ a.getD (fl a b l0 j).2.toNat 0 ≠ b.getD (fl a b l0 j).2.toNat 0) := by
  intro j
  induction j with
  | zero => exact ⟨fun i h => by omega, fun h => by simp [fl] at h⟩
  | succ j ih =>
    obtain ⟨i1, i2⟩ := ih
    have hb := fl_bounds a b l0 j
    obtain ⟨b1, b2, b3⟩ := hb
    rw [show fl a b l0 (j + 1) = if a.getD j 0 = b.getD j 0 then fl a b l0 j else (if (fl a b l0 j).1 < 0 then (j : Int) else (fl a b l0 j).1, (j : Int)) from rfl]
    generalize fl a b l0 j = r at i1 i2 b1 b2 b3
    obtain ⟨f, l⟩ := r
    simp only at i1 i2 b1 b2 b3
    by_cases e : a.getD j 0 = b.getD j 0
    · rw [if_pos e]
      refine ⟨fun i hi h => ?_, i2⟩
      by_cases hij : i = j
      · subst hij; exact e
      · exact i1 i (by omega) h
    · rw [if_neg e]
      by_cases hf : f < 0
      · rw [if_pos hf]
        simp only
        refine ⟨fun i hi h => ?_, fun _ => ⟨by rw [Int.toNat_natCast]; exact e, by rw [Int.toNat_natCast]; exact e⟩⟩
        have hij : i ≠ j := by rintro rfl; omega
        exact i1 i (by omega) (.inl hf)
      · rw [if_neg hf]
        simp only
        refine ⟨fun i hi h => ?_, fun h0 => ⟨(i2 h0).1, by rw [Int.toNat_natCast]; exact e⟩⟩
        have hij : i ≠ j := by
          rintro rfl
          have := b2 (by omega)
          omega
        have := b2 (by omega)
        exact i1 i (by omega) (by omega)
/-! ### the laws of delta -/
theorem wakes : F22 400 () = some true := by kernel_rfl
theorem wakes_tail : ((F22 400 ()).bind fun r => some r) = some true := by rw [wakes]; rfl
theorem deltaTells_plain (a0 a1 : List Int) (a2 : T25) (h1 : a1.length = 32 ∧ ∀ x ∈ a1, IsByte x) : ∃ k, F3 k (a0, a1, a2, ()) = some true := by
  refine ⟨400, ?_⟩
  obtain ⟨off, l⟩ := a2
  unfold F3
  simp only
  by_cases h300 : (l.length : Int) > 300
  · simp only [h300, decide_true, cond_true]
    exact wakes_tail
  have hr : decide ((List.replicate (0 : Nat) (0 : Int)).length + l.length ≤ roomMost) = true := roomMost_ge (by simp; omega)
  have e0 : List.replicate (0 : Nat) (0 : Int) ++ l = l := rfl
  have hu : (PUnit.unit : Unit) = () := rfl
  simp only [h300, decide_false, cond_false, hr, cond_true, e0]
  rw [diff_eq (by decide)]
  simp only [Option.bind_some]
  rw [rdiff_eq (by decide)]
  simp only [Option.bind_some]
  rw [apply_eq (by omega)]
  simp only [Option.bind_some]
  rw [rapply_eq (by omega)]
  simp only [Option.bind_some]
  have tail : (bif ((ares a0 off l).2.1 == (0 : Int)) == fitB off l.length then bif (ares a0 off l).2.1 == (0 : Int) then (F22 400 ()).bind fun r => some r else bif (ares a0 off l).2.1 == (1 : Int) then (F22 400 ()).bind fun r => some r else some false else some false) = some true := by
    unfold ares
    cases hf : fitB off l.length with
    | true =>
      simp only [if_true, beq_self_eq_true, cond_true]
      exact wakes_tail
    | false =>
      have e1 : ((1 : Int) == 0) = false := rfl
      simp only [Bool.false_eq_true, if_false, e1, beq_self_eq_true, cond_true, cond_false]
      exact wakes_tail
  cases hd : dres a0 a1 with
  | none =>
    simp only [beq_self_eq_true, cond_true]
    rw [keepBytes_eq (fun x hx => by cases hx) (fun x hx => by cases hx)]
    simp only [decide_true, Option.bind_some, cond_true]
    exact tail
  | some r =>
    obtain ⟨o, ls⟩ := r
    have hb := dres_bytes h1.2 hd
    simp only [beq_self_eq_true, cond_true]
    rw [keepBytes_eq hb hb]
    simp only [decide_true, Option.bind_some, cond_true]
    exact tail

theorem back_loop {a b ls : List Int} {o : Int} : L4_5 400 400 (o, ls, 32, -1, 0, a, b) = some (o, ls, (if (fl a b 0 32).1 < 0 then 32 else (fl a b 0 32).1), (if (fl a b 0 32).1 < 0 then -1 else (fl a b 0 32).2), a, b) := by
  unfold L4_5
  refine iter_out (R := R4_5 400) (fun x : Int × List Int × Int × Int × Int × List Int × List Int => ∃ j : Nat, j ≤ 32 ∧ x = (o, ls, (if (fl a b 0 j).1 < 0 then 32 else (fl a b 0 j).1), (if (fl a b 0 j).1 < 0 then -1 else (fl a b 0 j).2), (j : Int), a, b)) (fun x => 32 - x.2.2.2.2.1.toNat) (fun _ => _) (fun x hx => ?_) ⟨0, by omega, rfl⟩ (show 32 - (0 : Int).toNat < 400 by decide)
  obtain ⟨j, hj, rfl⟩ := hx
  by_cases hi : j < 32
  · right
    have e1 : IntKind.i64.wrap ((j : Int) + 1) = ((j + 1 : Nat) : Int) := by rw [wI_in (by omega)]; rfl
    have e8 : decide ((j : Int) < 32) = true := by simp; omega
    have hb := fl_bounds a b 0 j
    obtain ⟨b1, b2, b3⟩ := hb
    refine ⟨(o, ls, (if (fl a b 0 (j + 1)).1 < 0 then 32 else (fl a b 0 (j + 1)).1), (if (fl a b 0 (j + 1)).1 < 0 then -1 else (fl a b 0 (j + 1)).2), ((j + 1 : Nat) : Int), a, b), fun again => ?_, ⟨j + 1, by omega, rfl⟩, by simp only; omega, rfl⟩
    unfold R4_5
    simp only [e8, cond_true, inRange_true (i := (j : Int)) (n := 32) ⟨by omega, by omega⟩, Int.toNat_natCast, e1]
    rw [show fl a b 0 (j + 1) = if a.getD j 0 = b.getD j 0 then fl a b 0 j else (if (fl a b 0 j).1 < 0 then (j : Int) else (fl a b 0 j).1, (j : Int)) from rfl]
    generalize fl a b 0 j = r at b1 b2 b3
    obtain ⟨f, l⟩ := r
    simp only at b1 b2 b3 ⊢
    generalize a.getD j 0 = u
    generalize b.getD j 0 = v
    by_cases e : u = v
    · simp [e]
    · have hne : (u != v) = true := by simp [bne, beq_ne e]
      rw [if_neg e, hne, cond_true]
      by_cases hf : f < 0
      · have hj0 : ¬ (j : Int) < 0 := by omega
        have h32 : (j : Int) < 32 := by omega
        simp only [hf, if_true, hj0, if_false, h32]
      · have hlt : ¬ (j : Int) < f := by have := b2 (by omega); omega
        simp only [hf, if_false, hlt]
  · left
    intro again
    have : j = 32 := by omega
    subst this
    unfold R4_5
    rfl
theorem deltaBack_plain (a0 a1 : List Int) (h0 : a0.length = 32) (h1 : a1.length = 32) : ∃ k, F4 k (a0, a1, ()) = some true := by
  refine ⟨400, ?_⟩
  unfold F4
  simp only
  rw [diff_eq (by decide)]
  simp only [Option.bind_some]
  obtain ⟨b1, b2, b3⟩ := fl_bounds a0 a1 0 32
  obtain ⟨q1, q2⟩ := fl_props a0 a1 0 32
  have hloop := fun ls o => back_loop (a := a0) (b := a1) (ls := ls) (o := o)
  unfold dres
  generalize fl a0 a1 0 32 = r at b1 b2 b3 q1 q2 hloop
  obtain ⟨f, l⟩ := r
  simp only at b1 b2 b3 q1 q2 hloop ⊢
  have z0 : (((([] : List Int).length : Nat) : Int) == 0) = true := rfl
  by_cases hf : f < 0
  · have hab : a0 = a1 := ext_getD (by rw [h0, h1]) fun i hi => q1 i (by omega) (.inl hf)
    simp only [hf, if_true, Bool.not_false, cond_true]
    rw [hloop]
    simp only [Option.bind_some, hab, decide_true, cond_true, beq_self_eq_true, z0]
    exact wakes_tail
  by_cases h16 : l - f ≥ 16
  · have w : IntKind.i64.wrap (l - f) = l - f := wI_in (by have := b2 (by omega); omega)
    simp only [hf, if_false, h16, if_true, Bool.not_false, cond_true]
    rw [hloop]
    simp only [Option.bind_some, hf, if_false, w, h16, decide_true, cond_true, beq_self_eq_true, z0]
    cases decide (a0 = a1) <;> exact wakes_tail
  · have hb := b2 (by omega)
    obtain ⟨c1, c2⟩ := q2 (by omega)
    obtain ⟨m, rfl⟩ := Int.eq_ofNat_of_zero_le (show 0 ≤ f by omega)
    obtain ⟨q, rfl⟩ := Int.eq_ofNat_of_zero_le (show 0 ≤ l by omega)
    simp only [Int.toNat_natCast] at c1 c2
    have hn : ((q : Int) + 1 - (m : Int)).toNat = q + 1 - m := by omega
    simp only [hf, h16, if_false, Int.toNat_natCast, hn, Bool.not_true, cond_false]
    have hlen : (List.take (q + 1 - m) (List.drop m a1)).length = q + 1 - m := by rw [List.length_take, List.length_drop]; omega
    have hget : ∀ i, i < q + 1 - m → (List.take (q + 1 - m) (List.drop m a1)).getD i 0 = a1.getD (m + i) 0 := fun i hi => by
      rw [List.getD_eq_getElem?_getD, List.getElem?_take_of_lt hi, List.getElem?_drop, ← List.getD_eq_getElem?_getD]
    generalize hL : List.take (q + 1 - m) (List.drop m a1) = ls at hlen hget
    have d1 : decide ((ls.length : Int) < 1) = false := by simp; omega
    have d2 : decide ((ls.length : Int) > 16) = false := by simp; omega
    have d3 : decide ((m : Int) < 0) = false := by simp
    have w1 : IntKind.i64.wrap ((m : Int) + (ls.length : Int)) = ((q + 1 : Nat) : Int) := by rw [wI_in (by omega)]; omega
    have d4 : decide (((q + 1 : Nat) : Int) > 32) = false := by simp; omega
    have hfit : fitB (m : Int) ls.length = true := by unfold fitB; simp; omega
    have hfl : (m : Int).toNat + ls.length ≤ a0.length := by omega
    have hlay : lay a0 m ls = a1 := by
      refine ext_getD (by rw [lay_length (by omega), h0, h1]) fun i hi => ?_
      rw [lay_length (by omega), h0] at hi
      rw [lay_get (by omega)]
      by_cases hin : m ≤ i ∧ i < m + ls.length
      · rw [if_pos hin, hget _ (by omega)]
        congr 1
        omega
      · rw [if_neg hin]
        exact q1 i hi (by omega)
    have w2 : IntKind.i64.wrap (((q + 1 : Nat) : Int) - 1) = (q : Int) := by rw [wI_in (by omega)]; omega
    have w3 : IntKind.i64.wrap ((ls.length : Int) - 1) = ((q - m : Nat) : Int) := by rw [wI_in (by omega)]; omega
    simp only [d1, d2, w1, d4, cond_false]
    rw [apply_eq (by omega)]
    unfold ares
    have i0 : Int.toNat 0 = 0 := rfl
    simp only [hfit, if_true, Int.toNat_natCast, hlay, Option.bind_some, beq_self_eq_true, cond_true, decide_true, inRange_true (i := (m : Int)) (n := 32) ⟨by omega, by omega⟩, inRange_true (i := 0) (n := ls.length) ⟨by omega, by omega⟩, i0, w2, w3,
      inRange_true (i := (q : Int)) (n := 32) ⟨by omega, by omega⟩, inRange_true (i := ((q - m : Nat) : Int)) (n := ls.length) ⟨by omega, by omega⟩]
    have n1 : (a0.getD m 0 != ls.getD 0 0) = true := by rw [hget 0 (by omega)]; simpa [bne] using beq_ne c1
    have n2 : (a0.getD q 0 != ls.getD (q - m) 0) = true := by rw [hget (q - m) (by omega), show m + (q - m) = q by omega]; simpa [bne] using beq_ne c2
    rw [n1, n2]
    exact wakes_tail

theorem lays_loop {p l : List Int} {off : Int} (hp : p.length = 32) (hf : fitB off l.length = true) : L5_7 400 400 (0, p, off, l, lay p off.toNat l) = some (.inr ()) := by
  unfold L5_7
  obtain ⟨f1, f2, f3⟩ := fit_spec hf
  refine iter_out (R := R5_7 400) (fun x : Int × List Int × Int × List Int × List Int => ∃ j : Nat, j ≤ 32 ∧ x = ((j : Int), p, off, l, lay p off.toNat l)) (fun x => 32 - x.1.toNat) (fun _ => .inr ()) (fun x hx => ?_) ⟨0, by omega, rfl⟩ (show 32 - (0 : Int).toNat < 400 by decide)
  obtain ⟨j, hj, rfl⟩ := hx
  by_cases hi : j < 32
  · right
    have e1 : IntKind.i64.wrap ((j : Int) + 1) = ((j + 1 : Nat) : Int) := by rw [wI_in (by omega)]; rfl
    have e8 : decide ((j : Int) < 32) = true := by simp; omega
    have hg := lay_get (p := p) (l := l) (off := off.toNat) (by omega) j
    refine ⟨(((j + 1 : Nat) : Int), p, off, l, lay p off.toNat l), fun again => ?_, ⟨j + 1, by omega, rfl⟩, by simp only; omega, rfl⟩
    unfold R5_7
    have w : IntKind.i64.wrap ((j : Int) - off) = (j : Int) - off := wI_in (by omega)
    simp only [e8, cond_true, inRange_true (i := (j : Int)) (n := 32) ⟨by omega, by omega⟩, Int.toNat_natCast, e1, w, hg]
    by_cases hA : (j : Int) ≥ off
    · by_cases hB : (j : Int) - off < (l.length : Int)
      · have hin : off.toNat ≤ j ∧ j < off.toNat + l.length := by omega
        have ht : ((j : Int) - off).toNat = j - off.toNat := by omega
        simp only [hA, hB, decide_true, cond_true, inRange_true (i := (j : Int) - off) (n := l.length) ⟨by omega, by omega⟩, hin, and_self, if_true, ht, bne_self_eq_false, cond_false]
      · have hin : ¬ (off.toNat ≤ j ∧ j < off.toNat + l.length) := by omega
        simp only [hA, hB, decide_true, decide_false, cond_true, cond_false, hin, if_false, bne_self_eq_false]
    · have hin : ¬ (off.toNat ≤ j ∧ j < off.toNat + l.length) := by omega
      simp only [hA, decide_false, cond_false, hin, if_false, bne_self_eq_false]
  · left
    intro again
    have : j = 32 := by omega
    subst this
    unfold R5_7
    rfl
theorem deltaLays_plain (a0 : List Int) (a1 : T25) (h0 : a0.length = 32) : ∃ k, F5 k (a0, a1, ()) = some true := by
  refine ⟨400, ?_⟩
  obtain ⟨off, l⟩ := a1
  unfold F5
  simp only
  by_cases h300 : (l.length : Int) > 300
  · simp only [h300, decide_true, cond_true]
    exact wakes_tail
  have hu : (PUnit.unit : Unit) = () := rfl
  simp only [h300, decide_false, cond_false]
  rw [apply_eq (by omega)]
  unfold ares
  cases hf : fitB off l.length with
  | true =>
    simp only [if_true, Option.bind_some, bne_self_eq_false, cond_false]
    rw [lays_loop h0 hf]
    exact wakes_tail
  | false =>
    have e1 : ((1 : Int) != 0) = true := rfl
    have hz : decide (zpage = List.replicate 32 0) = true := decide_eq_true rfl
    simp only [Bool.false_eq_true, if_false, Option.bind_some, e1, cond_true, hz, beq_self_eq_true]
    have hnf : ¬ (0 ≤ off ∧ 1 ≤ l.length ∧ l.length ≤ 32 ∧ off ≤ 32 - (l.length : Int)) := by
      unfold fitB at hf
      exact of_decide_eq_false hf
    by_cases c1 : l.length = 0
    · have : ((l.length : Int) == 0) = true := by simp [c1]
      rw [this]; exact wakes_tail
    have d1 : ((l.length : Int) == 0) = false := beq_ne (by omega)
    by_cases c2 : off < 0
    · simp only [d1, c2, decide_true, cond_true, cond_false]; exact wakes_tail
    by_cases c3 : off ≥ 32
    · simp only [d1, c2, c3, decide_true, decide_false, cond_true, cond_false]; exact wakes_tail
    have w : IntKind.i64.wrap (32 - off) = 32 - off := wI_in (by omega)
    have c4 : (l.length : Int) > 32 - off := by omega
    simp only [d1, c2, c3, w, c4, decide_true, decide_false, cond_true, cond_false]; exact wakes_tail

theorem lay_twice {p l : List Int} {off : Nat} (h : off + l.length ≤ p.length) : lay (lay p off l) off l = lay p off l := by
  have h2 : off + l.length ≤ (lay p off l).length := by rw [lay_length h]; exact h
  refine ext_getD (lay_length h2) fun i _ => ?_
  rw [lay_get h2, lay_get h]
  split <;> rfl
theorem lay_apart {p x y : List Int} {o q : Nat} (hx : o + x.length ≤ p.length) (hy : q + y.length ≤ p.length) (h : o + x.length ≤ q ∨ q + y.length ≤ o) : lay (lay p q y) o x = lay (lay p o x) q y := by
  have h1 : o + x.length ≤ (lay p q y).length := by rw [lay_length hy]; exact hx
  have h2 : q + y.length ≤ (lay p o x).length := by rw [lay_length hx]; exact hy
  refine ext_getD (by rw [lay_length h1, lay_length h2, lay_length hx, lay_length hy]) fun i _ => ?_
  rw [lay_get h1, lay_get h2, lay_get hx, lay_get hy]
  by_cases c1 : o ≤ i ∧ i < o + x.length
  · rw [if_pos c1, if_pos c1, if_neg (by omega)]
  · rw [if_neg c1, if_neg c1]
theorem deltaTwice_plain (a0 : List Int) (a1 a2 : T25) (h0 : a0.length = 32) (w1 : -9223372036854775808 ≤ a1.Off ∧ a1.Off ≤ 9223372036854775807) (w2 : -9223372036854775808 ≤ a2.Off ∧ a2.Off ≤ 9223372036854775807) : ∃ k, F6 k (a0, a1, a2, ()) = some true := by
  refine ⟨400, ?_⟩
  obtain ⟨o, x⟩ := a1
  obtain ⟨q, y⟩ := a2
  unfold F6
  simp only at w1 w2 ⊢
  by_cases h1 : (x.length : Int) > 100
  · simp only [h1, decide_true, cond_true]
    exact wakes_tail
  by_cases h2 : (y.length : Int) > 100
  · simp only [h1, h2, decide_true, decide_false, cond_true, cond_false]
    exact wakes_tail
  have hu : (PUnit.unit : Unit) = () := rfl
  simp only [h1, h2, decide_false, cond_false]
  rw [apply_eq (by omega)]
  have e1 : ((1 : Int) != 0) = true := rfl
  cases hf : fitB o x.length with
  | false =>
    have : ares a0 o x = (zpage, 1, ()) := by unfold ares; rw [hf]; rfl
    rw [this]
    simp only [Option.bind_some, e1, cond_true]
    exact wakes_tail
  | true =>
    obtain ⟨f1, f2, f3⟩ := fit_spec hf
    have ha : ∀ p, ares p o x = (lay p o.toNat x, 0, ()) := fun p => by unfold ares; rw [hf]; rfl
    rw [ha]
    simp only [Option.bind_some, bne_self_eq_false, cond_false]
    rw [apply_eq (by omega), ha]
    simp only [Option.bind_some, bne_self_eq_false, cond_false, lay_twice (p := a0) (l := x) (off := o.toNat) (by omega), decide_true, Bool.not_true]
    rw [apply_eq (by omega)]
    simp only [Option.bind_some]
    rw [apply_eq (by omega)]
    simp only [Option.bind_some]
    cases hg : fitB q y.length with
    | false =>
      have : ∀ p, ares p q y = (zpage, 1, ()) := fun p => by unfold ares; rw [hg]; rfl
      simp only [this, bne_self_eq_false, cond_false, e1, cond_true]
      exact wakes_tail
    | true =>
      obtain ⟨g1, g2, g3⟩ := fit_spec hg
      have hb : ∀ p, ares p q y = (lay p q.toNat y, 0, ()) := fun p => by unfold ares; rw [hg]; rfl
      have u1 : IntKind.i64.wrap (o + (x.length : Int)) = o + x.length := wI_in (by omega)
      have u2 : IntKind.i64.wrap (q + (y.length : Int)) = q + y.length := wI_in (by omega)
      simp only [hb, bne_self_eq_false, cond_false, u1, u2]
      have fin : (o + (x.length : Int) ≤ q ∨ q + (y.length : Int) ≤ o) → ((F25 400 (lay a0 q.toNat y, o, x, ())).bind fun r_3 => bif r_3.snd.fst == (0 : Int) then bif decide (r_3.fst = lay (lay a0 o.toNat x) q.toNat y) then (F22 400 ()).bind fun r => some r else some false else some false) = some true := by
        intro hap
        rw [apply_eq (by omega), ha]
        simp only [Option.bind_some, beq_self_eq_true, cond_true]
        rw [lay_apart (by omega) (by omega) (by omega)]
        simp only [decide_true, cond_true]
        exact wakes_tail
      by_cases c1 : o + (x.length : Int) > q
      · by_cases c2 : q + (y.length : Int) > o
        · simp only [c1, c2, decide_true, cond_true]
          exact wakes_tail
        · simp only [c1, c2, decide_true, decide_false, cond_true, cond_false]
          exact fin (by omega)
      · simp only [c1, decide_false, cond_false]
        exact fin (by omega)
theorem deltaTwice : Rows.DeltaTwiceCardSaid := deltaTwice_card (deltaTwice_row fun a0 a1 a2 h0 h1 h2 => deltaTwice_plain a0 a1 a2 h0.1 h1.1 h2.1)
end Go.Proofs.YtpnnmpdjgnbkhaaDoor.W
