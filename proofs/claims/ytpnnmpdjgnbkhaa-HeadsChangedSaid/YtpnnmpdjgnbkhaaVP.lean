/-
  HeadsChanged: for every input that the statement lets in the law returns true. No conditions.
-/
import Derived.Test.YtpnnmpdjgnbkhaaVR
set_option linter.unusedVariables false
namespace Go.Proofs.Ytpnnmpdjgnbkhaa.W
open Go V
/-! ### heads: plain -/
theorem beq_ne {a b : Int} (h : ¬ a = b) : (a == b) = false := beq_eq_false_iff_ne.2 h
theorem roomMost_ge {n : Nat} (h : n ≤ 1000000) : decide (n ≤ roomMost) = true := decide_eq_true (show n ≤ 4294967296 by omega)
def cnt (l : List Int) : Nat := l.countP (fun x => x != 0)
def fz : List Int → Option Nat
  | [] => none
  | x :: r => if x = 0 then some 0 else (fz r).map (fun i => i + 1)
def least (l : List Int) (most : Int) : Int × Int × Unit :=
  if (cnt l : Int) < most then (match fz l with | some i => ((i : Int), 0, ()) | none => (0, 14, ())) else (0, 14, ())
theorem getD_at {l : List Int} {i : Nat} (h : i < l.length) : l.getD i 0 = l[i] := by rw [List.getD_eq_getElem?_getD, List.getElem?_eq_getElem h]; rfl
theorem fz_spec : ∀ l : List Int, match fz l with
    | some i => i < l.length ∧ l.getD i 0 = 0 ∧ ∀ j, j < i → l.getD j 0 ≠ 0
    | none => ∀ j, j < l.length → l.getD j 0 ≠ 0 := by
  intro l
  induction l with
  | nil => intro j h; simp at h
  | cons x r ih =>
    unfold fz
    by_cases hx : x = 0
    · rw [if_pos hx]
      exact ⟨by simp, by simpa using hx, fun j h => absurd h (Nat.not_lt_zero j)⟩
    · rw [if_neg hx]
      cases hr : fz r with
      | none =>
        rw [hr] at ih
        simp only at ih
        intro j hj
        cases j with
        | zero => simpa using hx
        | succ j => simpa using ih j (by simpa using hj)
      | some i =>
        rw [hr] at ih
        simp only at ih
        obtain ⟨h1, h2, h3⟩ := ih
        refine ⟨by simpa using h1, by simpa using h2, fun j hj => ?_⟩
        cases j with
        | zero => simpa using hx
        | succ j => simpa using h3 j (Nat.lt_of_succ_lt_succ hj)
theorem fz_some {l : List Int} {j : Nat} (h : j < l.length) (h0 : l.getD j 0 = 0) (hb : ∀ i, i < j → l.getD i 0 ≠ 0) : fz l = some j := by
  have := fz_spec l
  cases hf : fz l with
  | none => rw [hf] at this; exact absurd h0 (this j h)
  | some i =>
    rw [hf] at this
    obtain ⟨h1, h2, h3⟩ := this
    have a1 : ¬ i < j := fun e => hb i e h2
    have a2 : ¬ j < i := fun e => h3 j e h0
    congr 1
    omega
theorem fz_none {l : List Int} (hb : ∀ i, i < l.length → l.getD i 0 ≠ 0) : fz l = none := by
  have := fz_spec l
  cases hf : fz l with
  | none => rfl
  | some i => rw [hf] at this; exact absurd this.2.1 (hb i this.1)
theorem cnt_take {l : List Int} {j : Nat} (h : j < l.length) : cnt (l.take (j + 1)) = cnt (l.take j) + (if l.getD j 0 = 0 then 0 else 1) := by
  unfold cnt
  rw [List.take_add_one, List.countP_append, List.getElem?_eq_getElem h, getD_at h]
  by_cases e : l[j] = 0 <;> simp [e]
theorem cnt_le (l : List Int) : cnt l ≤ l.length := List.countP_le_length
theorem cnt_full {l : List Int} (hb : ∀ i, i < l.length → l.getD i 0 ≠ 0) : cnt l = l.length := by
  unfold cnt
  rw [List.countP_eq_length]
  intro x hx
  obtain ⟨i, hi, rfl⟩ := List.mem_iff_getElem.1 hx
  have := hb i hi
  rw [getD_at hi] at this
  simpa using this
theorem cnt_set {l : List Int} {i : Nat} (h : i < l.length) (h0 : l.getD i 0 = 0) : cnt (l.set i 1) = cnt l + 1 := by
  unfold cnt
  rw [getD_at h] at h0
  rw [List.countP_set h, h0]
  simp

theorem count_eq {k : Nat} {l : List Int} (hl : l.length ≤ 1000) (hk : l.length < k) : F14 k (l, ()) = some (cnt l : Int) := by
  have := iter_out (R := R14_3 k) (fun x : Int × List Int × Int × Int => ∃ j : Nat, j ≤ l.length ∧ x = ((cnt (l.take j) : Int), l, (l.length : Int), (j : Int)))
    (fun x => l.length - x.2.2.2.toNat) (fun _ => (cnt l : Int)) (fun x hx => by
      obtain ⟨j, hj, rfl⟩ := hx
      by_cases hi : j < l.length
      · right
        have e1 : IntKind.i64.wrap ((j : Int) + 1) = ((j + 1 : Nat) : Int) := by rw [wI_in (by omega)]; rfl
        have hc := cnt_le (l.take j)
        have hlt : (l.take j).length ≤ 1000 := by rw [List.length_take]; omega
        have e2 : IntKind.i64.wrap ((cnt (l.take j) : Int) + 1) = ((cnt (l.take j) + 1 : Nat) : Int) := by rw [wI_in (by omega)]; rfl
        have e8 : decide ((j : Int) < (l.length : Int)) = true := by simp; omega
        refine ⟨((cnt (l.take (j + 1)) : Int), l, (l.length : Int), ((j + 1 : Nat) : Int)), fun again => ?_, ⟨j + 1, by omega, rfl⟩, by simp only; omega, rfl⟩
        unfold R14_3
        simp only [e8, cond_true, inRange_true (i := (j : Int)) (n := l.length) ⟨by omega, by omega⟩, Int.toNat_natCast, e1, e2]
        rw [cnt_take hi]
        generalize l.getD j 0 = v
        by_cases e : v = 0
        · simp [e]
        · simp [e, bne, beq_ne e]
      · left
        intro again
        have hjl : j = l.length := by omega
        subst hjl
        unfold R14_3
        simp) (n := k) (x := (0, l, (l.length : Int), 0)) ⟨0, by omega, by simp [cnt]⟩ (by simpa using hk)
  unfold F14 L14_3
  simp only
  rw [this]
  rfl
theorem rcount_eq {k : Nat} {l : List Int} (hl : l.length ≤ 1000) (hk : l.length < k) : F15 k (l, ()) = some (cnt l : Int) := by
  have := iter_out (R := R15_3 k) (fun x : List Int × Int × Int => ∃ j : Nat, j ≤ l.length ∧ x = (l, (cnt (l.take j) : Int), (j : Int)))
    (fun x => l.length - x.2.2.toNat) (fun _ => (cnt l : Int)) (fun x hx => by
      obtain ⟨j, hj, rfl⟩ := hx
      by_cases hi : j < l.length
      · right
        have e1 : IntKind.i64.wrap ((j : Int) + 1) = ((j + 1 : Nat) : Int) := by rw [wI_in (by omega)]; rfl
        have hc := cnt_le (l.take j)
        have hlt : (l.take j).length ≤ 1000 := by rw [List.length_take]; omega
        have e2 : IntKind.i64.wrap ((cnt (l.take j) : Int) + 1) = ((cnt (l.take j) + 1 : Nat) : Int) := by rw [wI_in (by omega)]; rfl
        have e8 : decide ((j : Int) < (l.length : Int)) = true := by simp; omega
        refine ⟨(l, (cnt (l.take (j + 1)) : Int), ((j + 1 : Nat) : Int)), fun again => ?_, ⟨j + 1, by omega, rfl⟩, by simp only; omega, rfl⟩
        unfold R15_3
        simp only [e8, cond_true, inRange_true (i := (j : Int)) (n := l.length) ⟨by omega, by omega⟩, Int.toNat_natCast, e1, e2]
        rw [cnt_take hi]
        generalize l.getD j 0 = v
        by_cases e : v = 0
        · simp [e]
        · simp [e, bne, beq_ne e]
      · left
        intro again
        have hjl : j = l.length := by omega
        subst hjl
        unfold R15_3
        simp) (n := k) (x := (l, 0, 0)) ⟨0, by omega, by simp [cnt]⟩ (by simpa using hk)
  unfold F15 L15_3
  simp only
  rw [this]
  rfl
theorem index_eq {k : Nat} {l : List Int} (hl : l.length ≤ 1000) (hk : l.length < k) : F46 k (l, 0, ()) = some (match fz l with | some i => (i : Int) | none => -1) := by
  have := iter_out (R := R46_2 k) (fun x : List Int × Int × Int × Int => ∃ j : Nat, j ≤ l.length ∧ (∀ i, i < j → l.getD i 0 ≠ 0) ∧ x = (l, 0, (l.length : Int), (j : Int)))
    (fun x => l.length - x.2.2.2.toNat) (fun _ => match fz l with | some i => (.inl (i : Int) : Int ⊕ Unit) | none => .inr ()) (fun x hx => by
      obtain ⟨j, hj, hb, rfl⟩ := hx
      by_cases hi : j < l.length
      · have e1 : IntKind.i64.wrap ((j : Int) + 1) = ((j + 1 : Nat) : Int) := by rw [wI_in (by omega)]; rfl
        have e8 : decide ((j : Int) < (l.length : Int)) = true := by simp; omega
        have hR : ∀ again, R46_2 k again (l, 0, (l.length : Int), (j : Int)) = if l.getD j 0 = 0 then some (.inl (j : Int)) else again (l, 0, (l.length : Int), ((j + 1 : Nat) : Int)) := by
          intro again
          unfold R46_2
          simp only [e8, cond_true, inRange_true (i := (j : Int)) (n := l.length) ⟨by omega, by omega⟩, Int.toNat_natCast, e1]
          generalize l.getD j 0 = v
          by_cases e : v = 0
          · simp [e]
          · have : (0 == v) = false := beq_ne fun h => e h.symm
            rw [this, if_neg e]; rfl
        by_cases e : l.getD j 0 = 0
        · left
          intro again
          rw [hR, if_pos e, fz_some hi e hb]
        · right
          refine ⟨_, fun again => by rw [hR, if_neg e], ⟨j + 1, by omega, fun i h => ?_, rfl⟩, by simp only; omega, rfl⟩
          by_cases h2 : i < j
          · exact hb i h2
          · have : i = j := by omega
            rw [this]; exact e
      · left
        intro again
        have hjl : j = l.length := by omega
        subst hjl
        rw [fz_none hb]
        unfold R46_2
        simp) (n := k) (x := (l, 0, (l.length : Int), 0)) ⟨0, by omega, fun i h => by omega, rfl⟩ (by simpa using hk)
  unfold F46 L46_2
  simp only
  rw [this]
  cases fz l <;> rfl
theorem contains_eq {k : Nat} {l : List Int} (hl : l.length ≤ 1000) (hk : l.length < k) : F73 k (l, 0, ()) = some (fz l).isSome := by
  unfold F73
  simp only
  rw [index_eq hl hk]
  cases fz l with
  | none => rfl
  | some i => simp
theorem least_eq {k : Nat} {l : List Int} {most : Int} (hl : l.length ≤ 1000) (hk : l.length < k) : F12 k (l, most, ()) = some (least l most) := by
  unfold F12 F45 F72 F44
  simp only
  rw [count_eq hl hk, contains_eq hl hk, index_eq hl hk]
  simp only [Option.bind_some]
  have e14 : ((14 : Int) == 0) = false := rfl
  unfold least
  by_cases hc : (cnt l : Int) < most
  · have : decide ((cnt l : Int) ≥ most) = false := by simp; omega
    simp only [this, cond_false, hc, if_true]
    cases hf : fz l with
    | none => rfl
    | some i => rfl
  · have : decide ((cnt l : Int) ≥ most) = true := by simp; omega
    simp only [this, cond_true, hc, if_false]
    rfl
theorem rleast_eq {k : Nat} {l : List Int} {most : Int} (hl : l.length ≤ 1000) (hk : l.length < k) : F13 k (l, most, ()) = some (least l most) := by
  have := iter_out (R := R13_2 k) (fun x : List Int × Int × Int => ∃ j : Nat, j ≤ l.length ∧ (∀ i, i < j → l.getD i 0 ≠ 0) ∧ x = (l, most, (j : Int)))
    (fun x => l.length - x.2.2.toNat) (fun _ => if (cnt l : Int) < most then (match fz l with | some i => (.inl ((i : Int), 0) : (Int × Int) ⊕ Unit) | none => .inr ()) else .inr ()) (fun x hx => by
      obtain ⟨j, hj, hb, rfl⟩ := hx
      by_cases hi : j < l.length
      · have e1 : IntKind.i64.wrap ((j : Int) + 1) = ((j + 1 : Nat) : Int) := by rw [wI_in (by omega)]; rfl
        have e8 : decide ((j : Int) < (l.length : Int)) = true := by simp; omega
        have hR : ∀ again, R13_2 k again (l, most, (j : Int)) = if (cnt l : Int) < most then (if l.getD j 0 = 0 then some (.inl ((j : Int), 0)) else again (l, most, ((j + 1 : Nat) : Int))) else some (.inr ()) := by
          intro again
          unfold R13_2
          simp only [e8, cond_true, inRange_true (i := (j : Int)) (n := l.length) ⟨by omega, by omega⟩, Int.toNat_natCast, e1]
          rw [rcount_eq hl hk]
          simp only [Option.bind_some]
          generalize l.getD j 0 = v
          by_cases hc : (cnt l : Int) < most
          · by_cases e : v = 0
            · simp [hc, e]
            · rw [if_pos hc, if_neg e, beq_ne e]; simp [hc]
          · simp [hc]
        by_cases hc : (cnt l : Int) < most
        · by_cases e : l.getD j 0 = 0
          · left
            intro again
            rw [hR, if_pos hc, if_pos e, if_pos hc, fz_some hi e hb]
          · right
            refine ⟨_, fun again => by rw [hR, if_pos hc, if_neg e], ⟨j + 1, by omega, fun i h => ?_, rfl⟩, by simp only; omega, rfl⟩
            by_cases h2 : i < j
            · exact hb i h2
            · have : i = j := by omega
              rw [this]; exact e
        · left
          intro again
          rw [hR, if_neg hc, if_neg hc]
      · left
        intro again
        have hjl : j = l.length := by omega
        subst hjl
        rw [fz_none hb]
        unfold R13_2
        simp) (n := k) (x := (l, most, 0)) ⟨0, by omega, fun i h => by omega, rfl⟩ (by simpa using hk)
  unfold F13 L13_2
  simp only
  rw [this]
  unfold least
  by_cases hc : (cnt l : Int) < most
  · rw [if_pos hc, if_pos hc]
    cases fz l <;> rfl
  · rw [if_neg hc, if_neg hc]; rfl

/-! ### what differs -/
def dif (a b : List Int) (i : Nat) : Bool := a.getD i 0 != b.getD i 0
def chgTo (a b : List Int) (n : Nat) : List Int := ((List.range n).filter (dif a b)).map fun (i : Nat) => (i : Int)
def chg (a b : List Int) : List Int := chgTo a b (max a.length b.length)
theorem chgTo_next (a b : List Int) (n : Nat) : chgTo a b (n + 1) = chgTo a b n ++ (if dif a b n = true then [(n : Int)] else []) := by
  unfold chgTo
  rw [List.range_succ, List.filter_append, List.map_append]
  congr 1
  by_cases h : dif a b n = true <;> simp [h]
theorem chgTo_length (a b : List Int) (n : Nat) : (chgTo a b n).length ≤ n := by
  unfold chgTo
  rw [List.length_map]
  exact Nat.le_trans (List.length_filter_le _ _) (by simp)
theorem max_cast (a b : List Int) : (if (b.length : Int) > (a.length : Int) then (b.length : Int) else (a.length : Int)) = ((max a.length b.length : Nat) : Int) := by split <;> omega
theorem at_eq {k : Nat} {l : List Int} {i : Nat} : F47 k (l, (i : Int), ()) = some (l.getD i 0) := by
  unfold F47
  simp only
  by_cases h : i < l.length
  · have e : decide ((i : Int) < (l.length : Int)) = true := by simp; omega
    simp only [e, cond_true, inRange_true (i := (i : Int)) (n := l.length) ⟨by omega, by omega⟩, Int.toNat_natCast]
  · have e : decide ((i : Int) < (l.length : Int)) = false := by simp; omega
    have z : l.getD i 0 = 0 := by rw [List.getD_eq_getElem?_getD, List.getElem?_eq_none (by omega)]; rfl
    rw [z]
    simp only [e, cond_false]
theorem chg_eq {k : Nat} {a b : List Int} (ha : a.length ≤ 1000) (hb : b.length ≤ 1000) (hk : max a.length b.length < k) : F17 k (a, b, ()) = some (chg a b) := by
  have := iter_out (R := R17_3 k) (fun x : List Int × List Int × Int × Int × List Int => ∃ j : Nat, j ≤ max a.length b.length ∧ x = (a, b, ((max a.length b.length : Nat) : Int), (j : Int), chgTo a b j))
    (fun x => max a.length b.length - x.2.2.2.1.toNat) (fun _ => chg a b) (fun x hx => by
      obtain ⟨j, hj, rfl⟩ := hx
      by_cases hi : j < max a.length b.length
      · right
        have e1 : IntKind.i64.wrap ((j : Int) + 1) = ((j + 1 : Nat) : Int) := by rw [wI_in (by omega)]; rfl
        have e8 : decide ((j : Int) < ((max a.length b.length : Nat) : Int)) = true := by simp; omega
        have hl := chgTo_length a b j
        refine ⟨(a, b, ((max a.length b.length : Nat) : Int), ((j + 1 : Nat) : Int), chgTo a b (j + 1)), fun again => ?_, ⟨j + 1, by omega, rfl⟩, by simp only; omega, rfl⟩
        unfold R17_3
        simp only [e8, cond_true, at_eq, Option.bind_some, e1]
        have hr : decide ((chgTo a b j).length + ((List.replicate 1 (0 : Int)).set 0 (j : Int)).length ≤ roomMost) = true := roomMost_ge (by simp; omega)
        simp only [hr, cond_true]
        rw [chgTo_next]
        cases hd : dif a b j with
        | true =>
          have : (a.getD j 0 != b.getD j 0) = true := hd
          rw [this]; rfl
        | false =>
          have : (a.getD j 0 != b.getD j 0) = false := hd
          rw [this]; simp
      · left
        intro again
        have hjl : j = max a.length b.length := by omega
        subst hjl
        unfold R17_3
        simp [chg]) (n := k) (x := (a, b, ((max a.length b.length : Nat) : Int), 0, [])) ⟨0, by omega, rfl⟩ (by simpa using hk)
  unfold F17 L17_3
  simp only
  rw [max_cast, this]
  rfl
theorem rchg_eq {k : Nat} {a b : List Int} (ha : a.length ≤ 1000) (hb : b.length ≤ 1000) (hk : max a.length b.length < k) : F18 k (a, b, ()) = some (chg a b) := by
  have := iter_out (R := R18_3 k) (fun x : List Int × List Int × Int × List Int => ∃ j : Nat, j ≤ max a.length b.length ∧ x = (a, b, (j : Int), chgTo a b j))
    (fun x => max a.length b.length - x.2.2.1.toNat) (fun _ => chg a b) (fun x hx => by
      obtain ⟨j, hj, rfl⟩ := hx
      by_cases hi : j < max a.length b.length
      · right
        have e1 : IntKind.i64.wrap ((j : Int) + 1) = ((j + 1 : Nat) : Int) := by rw [wI_in (by omega)]; rfl
        have e8 : decide ((j : Int) < ((max a.length b.length : Nat) : Int)) = true := by simp; omega
        have hl := chgTo_length a b j
        refine ⟨(a, b, ((j + 1 : Nat) : Int), chgTo a b (j + 1)), fun again => ?_, ⟨j + 1, by omega, rfl⟩, by simp only; omega, rfl⟩
        unfold R18_3
        simp only [max_cast, e8, cond_true, e1]
        have hr : decide ((chgTo a b j).length + ((List.replicate 1 (0 : Int)).set 0 (j : Int)).length ≤ roomMost) = true := roomMost_ge (by simp; omega)
        simp only [hr, cond_true]
        rw [chgTo_next]
        have hd : dif a b j = (a.getD j 0 != b.getD j 0) := rfl
        have set1 : (List.replicate 1 (0 : Int)).set 0 (j : Int) = [(j : Int)] := rfl
        rw [set1]
        by_cases hA : j < a.length
        · have dA : decide ((j : Int) < (a.length : Int)) = true := by simp; omega
          simp only [dA, cond_true, inRange_true (i := (j : Int)) (n := a.length) ⟨by omega, by omega⟩, Int.toNat_natCast]
          by_cases hB : j < b.length
          · have dB : decide ((j : Int) < (b.length : Int)) = true := by simp; omega
            simp only [dB, cond_true, inRange_true (i := (j : Int)) (n := b.length) ⟨by omega, by omega⟩]
            rw [hd]
            cases (a.getD j 0 != b.getD j 0) <;> simp
          · have dB : decide ((j : Int) < (b.length : Int)) = false := by simp; omega
            have zB : b.getD j 0 = 0 := by rw [List.getD_eq_getElem?_getD, List.getElem?_eq_none (by omega)]; rfl
            simp only [dB, cond_false]
            rw [hd, zB]
            cases (a.getD j 0 != 0) <;> simp
        · have dA : decide ((j : Int) < (a.length : Int)) = false := by simp; omega
          have zA : a.getD j 0 = 0 := by rw [List.getD_eq_getElem?_getD, List.getElem?_eq_none (by omega)]; rfl
          have hB : j < b.length := by omega
          have dB : decide ((j : Int) < (b.length : Int)) = true := by simp; omega
          simp only [dA, dB, cond_true, cond_false, inRange_true (i := (j : Int)) (n := b.length) ⟨by omega, by omega⟩, Int.toNat_natCast]
          rw [hd, zA]
          cases (0 != b.getD j 0) <;> simp
      · left
        intro again
        have hjl : j = max a.length b.length := by omega
        subst hjl
        unfold R18_3
        simp only [max_cast]
        simp [chg]) (n := k) (x := (a, b, 0, [])) ⟨0, by omega, rfl⟩ (by simpa using hk)
  unfold F18 L18_3
  simp only
  rw [this]
  rfl
theorem ints_eq {k : Nat} {a b : List Int} (ha : a.length ≤ 1000) (hk : a.length < k) : F16 k (a, b, ()) = some (decide (a = b)) := by
  unfold F16
  simp only
  by_cases hl : a.length = b.length
  · have e0 : ((a.length : Int) != (b.length : Int)) = false := by rw [hl]; simp
    have := iter_out (R := R16_4 k) (fun x : List Int × List Int × Int => ∃ j : Nat, j ≤ a.length ∧ a.take j = b.take j ∧ x = (a, b, (j : Int)))
      (fun x => a.length - x.2.2.toNat) (fun _ => if a = b then (.inr () : Bool ⊕ Unit) else .inl false) (fun x hx => by
        obtain ⟨j, hj, ht, rfl⟩ := hx
        by_cases hi : j < a.length
        · have hib : j < b.length := by omega
          have e1 : IntKind.i64.wrap ((j : Int) + 1) = ((j + 1 : Nat) : Int) := by rw [wI_in (by omega)]; rfl
          have e8 : decide ((j : Int) < (a.length : Int)) = true := by simp; omega
          have hR : ∀ again, R16_4 k again (a, b, (j : Int)) = if a.getD j 0 = b.getD j 0 then again (a, b, ((j + 1 : Nat) : Int)) else some (.inl false) := by
            intro again
            unfold R16_4
            simp only [e8, cond_true, inRange_true (i := (j : Int)) (n := a.length) ⟨by omega, by omega⟩, inRange_true (i := (j : Int)) (n := b.length) ⟨by omega, by omega⟩, Int.toNat_natCast, e1]
            generalize a.getD j 0 = u
            generalize b.getD j 0 = v
            by_cases e : u = v
            · simp [e]
            · rw [if_neg e]; simp only [bne, beq_ne e]; rfl
          by_cases e : a.getD j 0 = b.getD j 0
          · right
            refine ⟨_, fun again => by rw [hR, if_pos e], ⟨j + 1, by omega, ?_, rfl⟩, by simp only; omega, rfl⟩
            rw [List.take_add_one, List.take_add_one, ht, List.getElem?_eq_getElem hi, List.getElem?_eq_getElem hib, ← getD_at hi, ← getD_at hib, e]
          · left
            intro again
            rw [hR, if_neg e, if_neg (fun h => e (by rw [h]))]
        · left
          intro again
          have hjl : j = a.length := by omega
          subst hjl
          have hab : a = b := by
            rw [List.take_length] at ht
            rw [hl, List.take_length] at ht
            exact ht
          unfold R16_4
          rw [if_pos hab]
          simp) (n := k) (x := (a, b, 0)) ⟨0, by omega, by simp, rfl⟩ (by simpa using hk)
    unfold L16_4
    rw [e0, cond_false, this]
    by_cases e : a = b
    · simp [e, sumK]
    · simp [e, sumK]
  · have e0 : ((a.length : Int) != (b.length : Int)) = true := by simp; omega
    have : ¬ a = b := fun e => hl (by rw [e])
    rw [e0, cond_true]
    simp [this]
theorem ints_same {k : Nat} {a : List Int} (ha : a.length ≤ 1000) (hk : a.length < k) : F16 k (a, a, ()) = some true := by rw [ints_eq ha hk]; simp
theorem chg_length (a b : List Int) : (chg a b).length ≤ max a.length b.length := chgTo_length _ _ _
theorem dif_comm (a b : List Int) : dif a b = dif b a := by
  funext i
  unfold dif
  rw [bne_comm]
theorem chg_comm (a b : List Int) : chg a b = chg b a := by unfold chg chgTo; rw [Nat.max_comm, dif_comm]
theorem chg_self (a : List Int) : chg a a = [] := by
  unfold chg chgTo
  have : (List.range (max a.length a.length)).filter (dif a a) = [] := by
    rw [List.filter_eq_nil_iff]
    intro i _
    simp [dif]
  rw [this]; rfl
theorem mem_chg {a b : List Int} {t : Int} : t ∈ chg a b ↔ ∃ i : Nat, a.getD i 0 ≠ b.getD i 0 ∧ t = i := by
  unfold chg chgTo
  simp only [List.mem_map, List.mem_filter, List.mem_range]
  constructor
  · rintro ⟨i, ⟨_, h⟩, rfl⟩
    exact ⟨i, by simpa [dif] using h, rfl⟩
  · rintro ⟨i, h, rfl⟩
    refine ⟨i, ⟨?_, by simpa [dif] using h⟩, rfl⟩
    by_cases hi : i < max a.length b.length
    · exact hi
    · exfalso
      apply h
      rw [List.getD_eq_getElem?_getD, List.getElem?_eq_none (by omega), List.getD_eq_getElem?_getD, List.getElem?_eq_none (by omega)]
theorem chg_sorted (a b : List Int) : (chg a b).Pairwise (fun x y => x < y) := by
  unfold chg chgTo
  rw [List.pairwise_map]
  exact List.Pairwise.imp (fun h => by omega) (List.Pairwise.filter _ List.pairwise_lt_range)
/-! ### the laws of heads -/
theorem wakes : F11 400 () = some true := by kernel_rfl
theorem wakes_tail : ((F11 400 ()).bind fun r => some r) = some true := by rw [wakes]; rfl
theorem headsTell_plain (a0 a1 : List Int) (a2 : Int) : ∃ k, F3 k (a0, a1, a2, ()) = some true := by
  refine ⟨400, ?_⟩
  unfold F3
  simp only
  by_cases h1 : (a0.length : Int) > 100
  · simp only [h1, decide_true, cond_true]
    exact wakes_tail
  by_cases h2 : (a1.length : Int) > 100
  · simp only [h1, h2, decide_true, decide_false, cond_true, cond_false]
    exact wakes_tail
  have hr1 : decide ((List.replicate (0 : Nat) (0 : Int)).length + a0.length ≤ roomMost) = true := roomMost_ge (by simp; omega)
  have hr2 : decide ((List.replicate (0 : Nat) (0 : Int)).length + a1.length ≤ roomMost) = true := roomMost_ge (by simp; omega)
  have e1 : List.replicate (0 : Nat) (0 : Int) ++ a0 = a0 := rfl
  have e2 : List.replicate (0 : Nat) (0 : Int) ++ a1 = a1 := rfl
  have hu : (PUnit.unit : Unit) = () := rfl
  simp only [h1, h2, decide_false, cond_false, hr1, hr2, cond_true, e1, e2]
  rw [least_eq (by omega) (by omega)]
  simp only [Option.bind_some]
  rw [rleast_eq (by omega) (by omega)]
  simp only [Option.bind_some]
  rw [count_eq (by omega) (by omega)]
  simp only [Option.bind_some]
  rw [rcount_eq (by omega) (by omega)]
  simp only [Option.bind_some, beq_self_eq_true, cond_true]
  rw [chg_eq (by omega) (by omega) (by omega)]
  simp only [Option.bind_some]
  rw [rchg_eq (by omega) (by omega) (by omega)]
  simp only [Option.bind_some]
  have hl := chg_length a0 a1
  rw [ints_same (by omega) (by omega)]
  simp only [Option.bind_some, cond_true]
  rw [ints_same (by omega) (by omega)]
  simp only [Option.bind_some, cond_true]
  rw [ints_same (by omega) (by omega)]
  simp only [Option.bind_some, cond_true]
  exact wakes_tail

theorem none_before {k n : Nat} {a b c d : Int} {l : List Int} (hl : l.length ≤ 100) (hd : d ≤ l.length) (h : ∀ j : Nat, (j : Int) < d → l.getD j 0 ≠ 0) (hn : d.toNat < n) :
    L4_23 k n (a, b, c, d, 0, l) = some (.inr (a, b, c, d, l)) := by
  unfold L4_23
  refine iter_out (R := R4_23 k) (fun x : Int × Int × Int × Int × Int × List Int => ∃ j : Nat, x = (a, b, c, d, (j : Int), l)) (fun x => d.toNat - x.2.2.2.2.1.toNat) (fun _ => .inr (a, b, c, d, l)) (fun x hx => ?_) ⟨0, rfl⟩ (by simpa using hn)
  obtain ⟨j, rfl⟩ := hx
  by_cases hi : (j : Int) < d
  · right
    have e1 : IntKind.i64.wrap ((j : Int) + 1) = ((j + 1 : Nat) : Int) := by rw [wI_in (by omega)]; rfl
    refine ⟨(a, b, c, d, ((j + 1 : Nat) : Int), l), fun again => ?_, ⟨j + 1, rfl⟩, by simp only; omega, rfl⟩
    unfold R4_23
    simp only [hi, decide_true, cond_true, inRange_true (i := (j : Int)) (n := l.length) ⟨by omega, by omega⟩, Int.toNat_natCast, beq_ne (h j hi), cond_false, e1]
  · left
    intro again
    unfold R4_23
    simp only [hi, decide_false, cond_false]
theorem least_build {k n : Nat} {l : List Bool} {m : Int} (hl : l.length ≤ 64) (hn : l.length < n) :
    ∃ h : List Int, h.length = l.length ∧ L4_6 k n (l, m, 0, 0, []) = some (m, (cnt h : Int), h) := by
  unfold L4_6
  obtain ⟨o, h1, h2⟩ := iter_post (R := R4_6 k) (fun x : List Bool × Int × Int × Int × List Int => ∃ (j : Nat) (h : List Int), j ≤ l.length ∧ h.length = j ∧ x = (l, m, (cnt h : Int), (j : Int), h))
    (fun x => l.length - x.2.2.2.1.toNat) (fun _ o => ∃ h : List Int, h.length = l.length ∧ o = (m, (cnt h : Int), h)) (fun x hx => by
      obtain ⟨j, h, hj, hh, rfl⟩ := hx
      have hc := cnt_le h
      by_cases hi : j < l.length
      · right
        have e1 : IntKind.i64.wrap ((j : Int) + 1) = ((j + 1 : Nat) : Int) := by rw [wI_in (by omega)]; rfl
        have e2 : IntKind.i64.wrap ((cnt h : Int) + 1) = ((cnt h + 1 : Nat) : Int) := by rw [wI_in (by omega)]; rfl
        have e8 : decide ((j : Int) < (l.length : Int)) = true := by simp; omega
        cases hb : l.getD j false with
        | true =>
          have hr : decide (h.length + ((List.replicate 1 (0 : Int)).set 0 1).length ≤ roomMost) = true := roomMost_ge (by simp; omega)
          have hcn : cnt (h ++ [1]) = cnt h + 1 := by simp [cnt]
          refine ⟨(l, m, (cnt (h ++ [1]) : Int), ((j + 1 : Nat) : Int), h ++ [1]), fun again => ?_, ⟨j + 1, h ++ [1], by omega, by simp [hh], rfl⟩, by simp only; omega, fun o h => h⟩
          unfold R4_6
          simp only [e8, cond_true, inRange_true (i := (j : Int)) (n := l.length) ⟨by omega, by omega⟩, Int.toNat_natCast, hb, hr, e1, e2, hcn]
          rfl
        | false =>
          have hr : decide (h.length + ((List.replicate 1 (0 : Int)).set 0 0).length ≤ roomMost) = true := roomMost_ge (by simp; omega)
          have hcn : cnt (h ++ [0]) = cnt h := by simp [cnt]
          refine ⟨(l, m, (cnt (h ++ [0]) : Int), ((j + 1 : Nat) : Int), h ++ [0]), fun again => ?_, ⟨j + 1, h ++ [0], by omega, by simp [hh], rfl⟩, by simp only; omega, fun o h => h⟩
          unfold R4_6
          simp only [e8, cond_true, cond_false, inRange_true (i := (j : Int)) (n := l.length) ⟨by omega, by omega⟩, Int.toNat_natCast, hb, hr, e1, hcn]
          rfl
      · left
        refine ⟨(m, (cnt h : Int), h), fun again => ?_, h, by omega, rfl⟩
        have e8 : decide ((j : Int) < (l.length : Int)) = false := by simp; omega
        unfold R4_6
        simp only [e8, cond_false]) n (l, m, 0, 0, []) ⟨0, [], by omega, rfl, rfl⟩ (by simpa using hn)
  obtain ⟨h, q1, q2⟩ := h2
  exact ⟨h, q1, by rw [h1, q2]⟩
theorem least_play {h : List Int} {m : Int} (hl : h.length ≤ 64) : L4_15 400 400 ((cnt h : Int), m, 0, h) = some (.inl true) := by
  unfold L4_15
  refine iter_out (R := R4_15 400) (fun x : Int × Int × Int × List Int => ∃ (j : Nat) (h : List Int), h.length ≤ 64 ∧ j ≤ cnt h ∧ x = ((cnt h : Int), m, (j : Int), h)) (fun x => 70 - x.2.2.1.toNat) (fun _ => .inl true) (fun x hx => ?_) ⟨0, h, hl, by omega, rfl⟩ (show 70 - (0 : Int).toNat < 400 by decide)
  clear hl h
  obtain ⟨j, h, hl, hj, rfl⟩ := hx
  have hc := cnt_le h
  have e8 : decide ((j : Int) < 70) = true := by simp; omega
  have w11 : F11 400 () = some true := wakes
  by_cases hm : (cnt h : Int) < m
  · cases hf : fz h with
    | none =>
      left
      intro again
      have hspec := fz_spec h
      rw [hf] at hspec
      have hfull := cnt_full hspec
      unfold R4_15
      have hge : decide ((cnt h : Int) ≥ m) = false := by simp; omega
      have hle : least h m = (0, 14, ()) := by unfold least; rw [if_pos hm, hf]
      simp only [e8, cond_true, least_eq (k := 400) (l := h) (most := m) (by omega) (by omega), Option.bind_some, hle, hfull]
      simp [w11]
    | some i =>
      right
      have hspec := fz_spec h
      rw [hf] at hspec
      obtain ⟨s1, s2, s3⟩ := hspec
      have hset := cnt_set s1 s2
      have e1 : IntKind.i64.wrap ((j : Int) + 1) = ((j + 1 : Nat) : Int) := by rw [wI_in (by omega)]; rfl
      have e2 : IntKind.i64.wrap ((cnt h : Int) + 1) = ((cnt h + 1 : Nat) : Int) := by rw [wI_in (by omega)]; rfl
      have hge : decide ((cnt h : Int) ≥ m) = false := by simp; omega
      have hle : least h m = ((i : Int), 0, ()) := by unfold least; rw [if_pos hm, hf]
      have d1 : decide ((i : Int) < 0) = false := by simp
      have d2 : decide ((i : Int) ≥ (h.length : Int)) = false := by simp; omega
      refine ⟨((cnt (h.set i 1) : Int), m, ((j + 1 : Nat) : Int), h.set i 1), fun again => ?_, ⟨j + 1, h.set i 1, by rw [List.length_set]; exact hl, by omega, rfl⟩, by simp only; omega, rfl⟩
      unfold R4_15
      simp only [e8, cond_true, least_eq (k := 400) (l := h) (most := m) (by omega) (by omega), Option.bind_some, hle, hge, cond_false, d1, d2, inRange_true (i := (i : Int)) (n := h.length) ⟨by omega, by omega⟩, Int.toNat_natCast, s2, bne_self_eq_false,
        none_before (k := 400) (n := 400) (a := (cnt h : Int)) (b := m) (c := (j : Int)) (d := (i : Int)) (l := h) (by omega) (by omega) (fun q hq => s3 q (by omega)) (by omega), sumK]
      rw [count_eq (by rw [List.length_set]; omega) (by rw [List.length_set]; omega), hset]
      simp only [Option.bind_some, e2, bne_self_eq_false, cond_false, e1]
  · left
    intro again
    unfold R4_15
    have hge : decide ((cnt h : Int) ≥ m) = true := by simp; omega
    have hle : least h m = (0, 14, ()) := by unfold least; rw [if_neg hm]
    simp only [e8, cond_true, least_eq (k := 400) (l := h) (most := m) (by omega) (by omega), Option.bind_some, hle, hge]
    simp [w11]
theorem headsLeast_plain (a0 : List Bool) (a1 : Int) : ∃ k, F4 k (a0, a1, ()) = some true := by
  refine ⟨400, ?_⟩
  unfold F4
  simp only
  by_cases h1 : (a0.length : Int) > 64
  · simp only [h1, decide_true, cond_true]
    exact wakes_tail
  obtain ⟨h, hl, hb⟩ := least_build (k := 400) (n := 400) (l := a0) (m := a1) (by omega) (by omega)
  simp only [h1, decide_false, cond_false, hb, Option.bind_some]
  rw [least_play (by omega)]
  rfl

theorem any_take {l : List Int} {j : Nat} (h : j < l.length) (t : Int) : ((l.take (j + 1)).any fun x => x == t) = (((l.take j).any fun x => x == t) || (l.getD j 0 == t)) := by
  rw [List.take_add_one, List.any_append, List.getElem?_eq_getElem h, getD_at h]
  simp
theorem in_first {k n : Nat} {x y z : List Int} {i : Nat} {b : Bool} (hx : x.length ≤ 1000) (hi : i < z.length) (hn : x.length < n) :
    L5_11 k n (x, y, z, (i : Int), b, 0) = some (x, y, z, (i : Int), (b || x.any fun t => t == z.getD i 0)) := by
  unfold L5_11
  refine iter_out (R := R5_11 k) (fun s : List Int × List Int × List Int × Int × Bool × Int => ∃ j : Nat, j ≤ x.length ∧ s = (x, y, z, (i : Int), (b || (x.take j).any fun t => t == z.getD i 0), (j : Int))) (fun s => x.length - s.2.2.2.2.2.toNat)
    (fun _ => (x, y, z, (i : Int), (b || x.any fun t => t == z.getD i 0))) (fun s hs => ?_) ⟨0, by omega, by simp⟩ (by simpa using hn)
  obtain ⟨j, hj, rfl⟩ := hs
  by_cases hlt : j < x.length
  · right
    have e1 : IntKind.i64.wrap ((j : Int) + 1) = ((j + 1 : Nat) : Int) := by rw [wI_in (by omega)]; rfl
    have e8 : decide ((j : Int) < (x.length : Int)) = true := by simp; omega
    refine ⟨(x, y, z, (i : Int), (b || (x.take (j + 1)).any fun t => t == z.getD i 0), ((j + 1 : Nat) : Int)), fun again => ?_, ⟨j + 1, by omega, rfl⟩, by simp only; omega, rfl⟩
    unfold R5_11
    simp only [e8, cond_true, inRange_true (i := (j : Int)) (n := x.length) ⟨by omega, by omega⟩, inRange_true (i := (i : Int)) (n := z.length) ⟨by omega, by omega⟩, Int.toNat_natCast, e1]
    rw [any_take hlt, ← Bool.or_assoc]
    cases (b || (x.take j).any fun t => t == z.getD i 0) <;> simp
  · left
    intro again
    have hjl : j = x.length := by omega
    subst hjl
    unfold R5_11
    simp
theorem in_second {k n : Nat} {x y z : List Int} {i : Nat} {b : Bool} (hy : y.length ≤ 1000) (hi : i < z.length) (hn : y.length < n) :
    L5_15 k n (x, y, z, (i : Int), b, 0) = some (x, y, z, (i : Int), (b || y.any fun t => t == z.getD i 0)) := by
  unfold L5_15
  refine iter_out (R := R5_15 k) (fun s : List Int × List Int × List Int × Int × Bool × Int => ∃ j : Nat, j ≤ y.length ∧ s = (x, y, z, (i : Int), (b || (y.take j).any fun t => t == z.getD i 0), (j : Int))) (fun s => y.length - s.2.2.2.2.2.toNat)
    (fun _ => (x, y, z, (i : Int), (b || y.any fun t => t == z.getD i 0))) (fun s hs => ?_) ⟨0, by omega, by simp⟩ (by simpa using hn)
  obtain ⟨j, hj, rfl⟩ := hs
  by_cases hlt : j < y.length
  · right
    have e1 : IntKind.i64.wrap ((j : Int) + 1) = ((j + 1 : Nat) : Int) := by rw [wI_in (by omega)]; rfl
    have e8 : decide ((j : Int) < (y.length : Int)) = true := by simp; omega
    refine ⟨(x, y, z, (i : Int), (b || (y.take (j + 1)).any fun t => t == z.getD i 0), ((j + 1 : Nat) : Int)), fun again => ?_, ⟨j + 1, by omega, rfl⟩, by simp only; omega, rfl⟩
    unfold R5_15
    simp only [e8, cond_true, inRange_true (i := (j : Int)) (n := y.length) ⟨by omega, by omega⟩, inRange_true (i := (i : Int)) (n := z.length) ⟨by omega, by omega⟩, Int.toNat_natCast, e1]
    rw [any_take hlt, ← Bool.or_assoc]
    cases (b || (y.take j).any fun t => t == z.getD i 0) <;> simp
  · left
    intro again
    have hjl : j = y.length := by omega
    subst hjl
    unfold R5_15
    simp
theorem changed_play {x y z : List Int} (hx : x.length ≤ 100) (hy : y.length ≤ 100) (hz : z.length ≤ 100) (hin : ∀ t ∈ z, t ∈ x ∨ t ∈ y) (hs : z.Pairwise (fun p q => p < q)) :
    L5_7 400 400 (x, y, z, 0) = some (.inr ()) := by
  unfold L5_7
  refine iter_out (R := R5_7 400) (fun s : List Int × List Int × List Int × Int => ∃ j : Nat, j ≤ z.length ∧ s = (x, y, z, (j : Int))) (fun s => z.length - s.2.2.2.toNat) (fun _ => .inr ()) (fun s hs' => ?_) ⟨0, by omega, rfl⟩ (show z.length - _ < 400 by omega)
  obtain ⟨j, hj, rfl⟩ := hs'
  by_cases hlt : j < z.length
  · right
    have e1 : IntKind.i64.wrap ((j : Int) + 1) = ((j + 1 : Nat) : Int) := by rw [wI_in (by omega)]; rfl
    have e8 : decide ((j : Int) < (z.length : Int)) = true := by simp; omega
    have hany : ((false || x.any fun t => t == z.getD j 0) || y.any fun t => t == z.getD j 0) = true := by
      have hm : z.getD j 0 ∈ z := by rw [getD_at hlt]; exact List.getElem_mem hlt
      rcases hin _ hm with h | h
      · have : (x.any fun t => t == z.getD j 0) = true := List.any_eq_true.2 ⟨_, h, by simp⟩
        rw [this]; rfl
      · have : (y.any fun t => t == z.getD j 0) = true := List.any_eq_true.2 ⟨_, h, by simp⟩
        rw [this, Bool.or_true]
    refine ⟨_, fun again => ?_, ⟨j + 1, by omega, rfl⟩, by simp only; omega, rfl⟩
    unfold R5_7
    simp only [e8, cond_true]
    rw [in_first (by omega) hlt (by omega)]
    simp only [Option.bind_some]
    rw [in_second (by omega) hlt (by omega)]
    simp only [Option.bind_some, hany, Bool.not_true, cond_false]
    by_cases h0 : j = 0
    · subst h0
      rfl
    · have d0 : decide ((j : Int) > 0) = true := by simp; omega
      have w1 : IntKind.i64.wrap ((j : Int) - 1) = ((j - 1 : Nat) : Int) := by rw [wI_in (by omega)]; omega
      have hlt' : j - 1 < z.length := by omega
      have hle : decide (z.getD j 0 ≤ z.getD (j - 1) 0) = false := by
        have := List.pairwise_iff_getElem.1 hs (j - 1) j hlt' hlt (by omega)
        rw [getD_at hlt, getD_at hlt']
        simp only [decide_eq_false_iff_not]
        omega
      simp only [d0, cond_true, inRange_true (i := (j : Int)) (n := z.length) ⟨by omega, by omega⟩, w1, inRange_true (i := ((j - 1 : Nat) : Int)) (n := z.length) ⟨by omega, by omega⟩, Int.toNat_natCast, hle, cond_false, e1]
  · left
    intro again
    have hjl : j = z.length := by omega
    subst hjl
    unfold R5_7
    simp
theorem headsChanged_plain (a0 a1 a2 : List Int) : ∃ k, F5 k (a0, a1, a2, ()) = some true := by
  refine ⟨400, ?_⟩
  unfold F5
  simp only
  by_cases h1 : (a0.length : Int) > 80
  · simp only [h1, decide_true, cond_true]
    exact wakes_tail
  by_cases h2 : (a1.length : Int) > 80
  · simp only [h1, h2, decide_true, decide_false, cond_true, cond_false]
    exact wakes_tail
  by_cases h3 : (a2.length : Int) > 80
  · simp only [h1, h2, h3, decide_true, decide_false, cond_true, cond_false]
    exact wakes_tail
  have hu : (PUnit.unit : Unit) = () := rfl
  simp only [h1, h2, h3, decide_false, cond_false]
  rw [chg_eq (by omega) (by omega) (by omega)]
  simp only [Option.bind_some]
  rw [chg_eq (by omega) (by omega) (by omega)]
  simp only [Option.bind_some]
  rw [chg_eq (by omega) (by omega) (by omega)]
  simp only [Option.bind_some]
  rw [chg_eq (by omega) (by omega) (by omega), chg_comm a1 a0]
  simp only [Option.bind_some]
  have l1 := chg_length a0 a1
  have l2 := chg_length a1 a2
  have l3 := chg_length a0 a2
  rw [ints_same (by omega) (by omega)]
  simp only [Option.bind_some, Bool.not_true, cond_false]
  rw [chg_eq (by omega) (by omega) (by omega), chg_self]
  have e0 : ((([] : List Int).length : Int) != 0) = false := rfl
  simp only [Option.bind_some, e0, cond_false]
  rw [changed_play (by omega) (by omega) (by omega) (fun t ht => by
    obtain ⟨i, h, rfl⟩ := mem_chg.1 ht
    by_cases e : a0.getD i 0 = a1.getD i 0
    · exact .inr (mem_chg.2 ⟨i, fun e2 => h (e.trans e2), rfl⟩)
    · exact .inl (mem_chg.2 ⟨i, e, rfl⟩)) (chg_sorted a0 a2)]
  exact wakes_tail
theorem headsChanged : Rows.HeadsChangedSaid := headsChanged_row fun a0 a1 a2 _ _ _ => headsChanged_plain a0 a1 a2
end Go.Proofs.Ytpnnmpdjgnbkhaa.W
