/-
  ModelReads: for every input that the statement lets in the law returns true. No conditions.
-/
import Derived.Test.YtofodkmokjhcoaaVR
set_option linter.unusedVariables false
namespace Go.Proofs.Ytofodkmokjhcoaa.W
open Go V
/-! ### heads: plain -/
theorem beq_ne {a b : Int} (h : ¬ a = b) : (a == b) = false := beq_eq_false_iff_ne.2 h
theorem roomMost_ge {n : Nat} (h : n ≤ 1000000) : decide (n ≤ roomMost) = true := decide_eq_true (show n ≤ 4294967296 by omega)
def cnt (l : List Int) : Nat := l.countP (fun x => x != 0)
def fz : List Int → Option Nat
  | [] => none
  | x :: r => if x = 0 then some 0 else (fz r).map (fun i => i + 1)
def least (l : List Int) (most : Int) : Int × Int × Unit :=
  if (cnt l : Int) < most then (match fz l with | some i => ((i : Int), 0, ()) | none => (0, 14, ())) else (0, 14, ())
theorem getD_at {l : List Int} {i : Nat} (h : i < l.length) : l.getD i 0 = l[i] := by rw [List.getD_eq_getElem?_getD, List.getElem?_eq_getElem h]; rfl
theorem fz_spec : ∀ l : List Int, match fz l with
    | some i => i < l.length ∧ l.getD i 0 = 0 ∧ ∀ j, j < i → l.getD j 0 ≠ 0
    | none => ∀ j, j < l.length → l.getD j 0 ≠ 0 := by
  intro l
  induction l with
  | nil => intro j h; simp at h
  | cons x r ih =>
    unfold fz
    by_cases hx : x = 0
    · rw [if_pos hx]
      exact ⟨by simp, by simpa using hx, fun j h => absurd h (Nat.not_lt_zero j)⟩
    · rw [if_neg hx]
      cases hr : fz r with
      | none =>
        rw [hr] at ih
        simp only at ih
        intro j hj
        cases j with
        | zero => simpa using hx
        | succ j => simpa using ih j (by simpa using hj)
      | some i =>
        rw [hr] at ih
        simp only at ih
        obtain ⟨h1, h2, h3⟩ := ih
        refine ⟨by simpa using h1, by simpa using h2, fun j hj => ?_⟩
        cases j with
        | zero => simpa using hx
        | succ j => simpa using h3 j (Nat.lt_of_succ_lt_succ hj)
theorem fz_some {l : List Int} {j : Nat} (h : j < l.length) (h0 : l.getD j 0 = 0) (hb : ∀ i, i < j → l.getD i 0 ≠ 0) : fz l = some j := by
  have := fz_spec l
  cases hf : fz l with
  | none => rw [hf] at this; exact absurd h0 (this j h)
  | some i =>
    rw [hf] at this
    obtain ⟨h1, h2, h3⟩ := this
    have a1 : ¬ i < j := fun e => hb i e h2
    have a2 : ¬ j < i := fun e => h3 j e h0
    congr 1
    omega
theorem fz_none {l : List Int} (hb : ∀ i, i < l.length → l.getD i 0 ≠ 0) : fz l = none := by
  have := fz_spec l
  cases hf : fz l with
  | none => rfl
  | some i => rw [hf] at this; exact absurd this.2.1 (hb i this.1)
theorem cnt_take {l : List Int} {j : Nat} (h : j < l.length) : cnt (l.take (j + 1)) = cnt (l.take j) + (if l.getD j 0 = 0 then 0 else 1) := by
  unfold cnt
  rw [List.take_add_one, List.countP_append, List.getElem?_eq_getElem h, getD_at h]
  by_cases e : l[j] = 0 <;> simp [e]
theorem cnt_le (l : List Int) : cnt l ≤ l.length := List.countP_le_length
theorem cnt_full {l : List Int} (hb : ∀ i, i < l.length → l.getD i 0 ≠ 0) : cnt l = l.length := by
  unfold cnt
  rw [List.countP_eq_length]
  intro x hx
  obtain ⟨i, hi, rfl⟩ := List.mem_iff_getElem.1 hx
  have := hb i hi
  rw [getD_at hi] at this
  simpa using this
theorem cnt_set {l : List Int} {i : Nat} (h : i < l.length) (h0 : l.getD i 0 = 0) : cnt (l.set i 1) = cnt l + 1 := by
  unfold cnt
  rw [getD_at h] at h0
  rw [List.countP_set h, h0]
  simp

theorem count_eq {k : Nat} {l : List Int} (hl : l.length ≤ 1000) (hk : l.length < k) : F58 k (l, ()) = some (cnt l : Int) := by
  have := iter_out (R := R58_3 k) (fun x : Int × List Int × Int × Int => ∃ j : Nat, j ≤ l.length ∧ x = ((cnt (l.take j) : Int), l, (l.length : Int), (j : Int)))
    (fun x => l.length - x.2.2.2.toNat) (fun _ => (cnt l : Int)) (fun x hx => by
      obtain ⟨j, hj, rfl⟩ := hx
      by_cases hi : j < l.length
      · right
        have e1 : IntKind.i64.wrap ((j : Int) + 1) = ((j + 1 : Nat) : Int) := by rw [wI_in (by omega)]; rfl
        have hc := cnt_le (l.take j)
        have hlt : (l.take j).length ≤ 1000 := by rw [List.length_take]; omega
        have e2 : IntKind.i64.wrap ((cnt (l.take j) : Int) + 1) = ((cnt (l.take j) + 1 : Nat) : Int) := by rw [wI_in (by omega)]; rfl
        have e8 : decide ((j : Int) < (l.length : Int)) = true := by simp; omega
        refine ⟨((cnt (l.take (j + 1)) : Int), l, (l.length : Int), ((j + 1 : Nat) : Int)), fun again => ?_, ⟨j + 1, by omega, rfl⟩, by simp only; omega, rfl⟩
        unfold R58_3
        simp only [e8, cond_true, inRange_true (i := (j : Int)) (n := l.length) ⟨by omega, by omega⟩, Int.toNat_natCast, e1, e2]
        rw [cnt_take hi]
        generalize l.getD j 0 = v
        by_cases e : v = 0
        · simp [e]
        · simp [e, bne, beq_ne e]
      · left
        intro again
        have hjl : j = l.length := by omega
        subst hjl
        unfold R58_3
        simp) (n := k) (x := (0, l, (l.length : Int), 0)) ⟨0, by omega, by simp [cnt]⟩ (by simpa using hk)
  unfold F58 L58_3
  simp only
  rw [this]
  rfl
theorem index_eq {k : Nat} {l : List Int} (hl : l.length ≤ 1000) (hk : l.length < k) : F53 k (l, 0, ()) = some (match fz l with | some i => (i : Int) | none => -1) := by
  have := iter_out (R := R53_2 k) (fun x : List Int × Int × Int × Int => ∃ j : Nat, j ≤ l.length ∧ (∀ i, i < j → l.getD i 0 ≠ 0) ∧ x = (l, 0, (l.length : Int), (j : Int)))
    (fun x => l.length - x.2.2.2.toNat) (fun _ => match fz l with | some i => (.inl (i : Int) : Int ⊕ Unit) | none => .inr ()) (fun x hx => by
      obtain ⟨j, hj, hb, rfl⟩ := hx
      by_cases hi : j < l.length
      · have e1 : IntKind.i64.wrap ((j : Int) + 1) = ((j + 1 : Nat) : Int) := by rw [wI_in (by omega)]; rfl
        have e8 : decide ((j : Int) < (l.length : Int)) = true := by simp; omega
        have hR : ∀ again, R53_2 k again (l, 0, (l.length : Int), (j : Int)) = if l.getD j 0 = 0 then some (.inl (j : Int)) else again (l, 0, (l.length : Int), ((j + 1 : Nat) : Int)) := by
          intro again
          unfold R53_2
          simp only [e8, cond_true, inRange_true (i := (j : Int)) (n := l.length) ⟨by omega, by omega⟩, Int.toNat_natCast, e1]
          generalize l.getD j 0 = v
          by_cases e : v = 0
          · simp [e]
          · have : (0 == v) = false := beq_ne fun h => e h.symm
            rw [this, if_neg e]; rfl
        by_cases e : l.getD j 0 = 0
        · left
          intro again
          rw [hR, if_pos e, fz_some hi e hb]
        · right
          refine ⟨_, fun again => by rw [hR, if_neg e], ⟨j + 1, by omega, fun i h => ?_, rfl⟩, by simp only; omega, rfl⟩
          by_cases h2 : i < j
          · exact hb i h2
          · have : i = j := by omega
            rw [this]; exact e
      · left
        intro again
        have hjl : j = l.length := by omega
        subst hjl
        rw [fz_none hb]
        unfold R53_2
        simp) (n := k) (x := (l, 0, (l.length : Int), 0)) ⟨0, by omega, fun i h => by omega, rfl⟩ (by simpa using hk)
  unfold F53 L53_2
  simp only
  rw [this]
  cases fz l <;> rfl
theorem contains_eq {k : Nat} {l : List Int} (hl : l.length ≤ 1000) (hk : l.length < k) : F60 k (l, 0, ()) = some (fz l).isSome := by
  unfold F60
  simp only
  rw [index_eq hl hk]
  cases fz l with
  | none => rfl
  | some i => simp
theorem least_eq {k : Nat} {l : List Int} {most : Int} (hl : l.length ≤ 1000) (hk : l.length < k) : F43 k (l, most, ()) = some (least l most) := by
  unfold F43 F52 F59 F51
  simp only
  rw [count_eq hl hk, contains_eq hl hk, index_eq hl hk]
  simp only [Option.bind_some]
  have e14 : ((14 : Int) == 0) = false := rfl
  unfold least
  by_cases hc : (cnt l : Int) < most
  · have : decide ((cnt l : Int) ≥ most) = false := by simp; omega
    simp only [this, cond_false, hc, if_true]
    cases hf : fz l with
    | none => rfl
    | some i => rfl
  · have : decide ((cnt l : Int) ≥ most) = true := by simp; omega
    simp only [this, cond_true, hc, if_false]
    rfl
/-! ### what differs -/
def dif (a b : List Int) (i : Nat) : Bool := a.getD i 0 != b.getD i 0
def chgTo (a b : List Int) (n : Nat) : List Int := ((List.range n).filter (dif a b)).map fun (i : Nat) => (i : Int)
def chg (a b : List Int) : List Int := chgTo a b (max a.length b.length)
theorem chgTo_next (a b : List Int) (n : Nat) : chgTo a b (n + 1) = chgTo a b n ++ (if dif a b n = true then [(n : Int)] else []) := by
  unfold chgTo
  rw [List.range_succ, List.filter_append, List.map_append]
  congr 1
  by_cases h : dif a b n = true <;> simp [h]
theorem chgTo_length (a b : List Int) (n : Nat) : (chgTo a b n).length ≤ n := by
  unfold chgTo
  rw [List.length_map]
  exact Nat.le_trans (List.length_filter_le _ _) (by simp)
theorem max_cast (a b : List Int) : (if (b.length : Int) > (a.length : Int) then (b.length : Int) else (a.length : Int)) = ((max a.length b.length : Nat) : Int) := by split <;> omega
theorem at_eq {k : Nat} {l : List Int} {i : Nat} : F50 k (l, (i : Int), ()) = some (l.getD i 0) := by
  unfold F50
  simp only
  by_cases h : i < l.length
  · have e : decide ((i : Int) < (l.length : Int)) = true := by simp; omega
    simp only [e, cond_true, inRange_true (i := (i : Int)) (n := l.length) ⟨by omega, by omega⟩, Int.toNat_natCast]
  · have e : decide ((i : Int) < (l.length : Int)) = false := by simp; omega
    have z : l.getD i 0 = 0 := by rw [List.getD_eq_getElem?_getD, List.getElem?_eq_none (by omega)]; rfl
    rw [z]
    simp only [e, cond_false]
theorem ints_eq {k : Nat} {a b : List Int} (ha : a.length ≤ 1000) (hk : a.length < k) : F25 k (a, b, ()) = some (decide (a = b)) := by
  unfold F25
  simp only
  by_cases hl : a.length = b.length
  · have e0 : ((a.length : Int) != (b.length : Int)) = false := by rw [hl]; simp
    have := iter_out (R := R25_4 k) (fun x : List Int × List Int × Int => ∃ j : Nat, j ≤ a.length ∧ a.take j = b.take j ∧ x = (a, b, (j : Int)))
      (fun x => a.length - x.2.2.toNat) (fun _ => if a = b then (.inr () : Bool ⊕ Unit) else .inl false) (fun x hx => by
        obtain ⟨j, hj, ht, rfl⟩ := hx
        by_cases hi : j < a.length
        · have hib : j < b.length := by omega
          have e1 : IntKind.i64.wrap ((j : Int) + 1) = ((j + 1 : Nat) : Int) := by rw [wI_in (by omega)]; rfl
          have e8 : decide ((j : Int) < (a.length : Int)) = true := by simp; omega
          have hR : ∀ again, R25_4 k again (a, b, (j : Int)) = if a.getD j 0 = b.getD j 0 then again (a, b, ((j + 1 : Nat) : Int)) else some (.inl false) := by
            intro again
            unfold R25_4
            simp only [e8, cond_true, inRange_true (i := (j : Int)) (n := a.length) ⟨by omega, by omega⟩, inRange_true (i := (j : Int)) (n := b.length) ⟨by omega, by omega⟩, Int.toNat_natCast, e1]
            generalize a.getD j 0 = u
            generalize b.getD j 0 = v
            by_cases e : u = v
            · simp [e]
            · rw [if_neg e]; simp only [bne, beq_ne e]; rfl
          by_cases e : a.getD j 0 = b.getD j 0
          · right
            refine ⟨_, fun again => by rw [hR, if_pos e], ⟨j + 1, by omega, ?_, rfl⟩, by simp only; omega, rfl⟩
            rw [List.take_add_one, List.take_add_one, ht, List.getElem?_eq_getElem hi, List.getElem?_eq_getElem hib, ← getD_at hi, ← getD_at hib, e]
          · left
            intro again
            rw [hR, if_neg e, if_neg (fun h => e (by rw [h]))]
        · left
          intro again
          have hjl : j = a.length := by omega
          subst hjl
          have hab : a = b := by
            rw [List.take_length] at ht
            rw [hl, List.take_length] at ht
            exact ht
          unfold R25_4
          rw [if_pos hab]
          simp) (n := k) (x := (a, b, 0)) ⟨0, by omega, by simp, rfl⟩ (by simpa using hk)
    unfold L25_4
    rw [e0, cond_false, this]
    by_cases e : a = b
    · simp [e, sumK]
    · simp [e, sumK]
  · have e0 : ((a.length : Int) != (b.length : Int)) = true := by simp; omega
    have : ¬ a = b := fun e => hl (by rw [e])
    rw [e0, cond_true]
    simp [this]
theorem ints_same {k : Nat} {a : List Int} (ha : a.length ≤ 1000) (hk : a.length < k) : F25 k (a, a, ()) = some true := by rw [ints_eq ha hk]; simp
theorem chg_length (a b : List Int) : (chg a b).length ≤ max a.length b.length := chgTo_length _ _ _
theorem dif_comm (a b : List Int) : dif a b = dif b a := by
  funext i
  unfold dif
  rw [bne_comm]
theorem chg_comm (a b : List Int) : chg a b = chg b a := by unfold chg chgTo; rw [Nat.max_comm, dif_comm]
theorem chg_self (a : List Int) : chg a a = [] := by
  unfold chg chgTo
  have : (List.range (max a.length a.length)).filter (dif a a) = [] := by
    rw [List.filter_eq_nil_iff]
    intro i _
    simp [dif]
  rw [this]; rfl
theorem mem_chg {a b : List Int} {t : Int} : t ∈ chg a b ↔ ∃ i : Nat, a.getD i 0 ≠ b.getD i 0 ∧ t = i := by
  unfold chg chgTo
  simp only [List.mem_map, List.mem_filter, List.mem_range]
  constructor
  · rintro ⟨i, ⟨_, h⟩, rfl⟩
    exact ⟨i, by simpa [dif] using h, rfl⟩
  · rintro ⟨i, h, rfl⟩
    refine ⟨i, ⟨?_, by simpa [dif] using h⟩, rfl⟩
    by_cases hi : i < max a.length b.length
    · exact hi
    · exfalso
      apply h
      rw [List.getD_eq_getElem?_getD, List.getElem?_eq_none (by omega), List.getD_eq_getElem?_getD, List.getElem?_eq_none (by omega)]
theorem chg_sorted (a b : List Int) : (chg a b).Pairwise (fun x y => x < y) := by
  unfold chg chgTo
  rw [List.pairwise_map]
  exact List.Pairwise.imp (fun h => by omega) (List.Pairwise.filter _ List.pairwise_lt_range)

theorem chg_eq {k : Nat} {a b : List Int} (ha : a.length ≤ 1000) (hb : b.length ≤ 1000) (hk : max a.length b.length < k) : F41 k (a, b) = some (chg a b) := by
  have := iter_out (R := R41_3 k) (fun x : List Int × List Int × Int × Int × List Int => ∃ j : Nat, j ≤ max a.length b.length ∧ x = (a, b, ((max a.length b.length : Nat) : Int), (j : Int), chgTo a b j))
    (fun x => max a.length b.length - x.2.2.2.1.toNat) (fun _ => chg a b) (fun x hx => by
      obtain ⟨j, hj, rfl⟩ := hx
      by_cases hi : j < max a.length b.length
      · right
        have e1 : IntKind.i64.wrap ((j : Int) + 1) = ((j + 1 : Nat) : Int) := by rw [wI_in (by omega)]; rfl
        have e8 : decide ((j : Int) < ((max a.length b.length : Nat) : Int)) = true := by simp; omega
        have hl := chgTo_length a b j
        refine ⟨(a, b, ((max a.length b.length : Nat) : Int), ((j + 1 : Nat) : Int), chgTo a b (j + 1)), fun again => ?_, ⟨j + 1, by omega, rfl⟩, by simp only; omega, rfl⟩
        unfold R41_3
        simp only [e8, cond_true, at_eq, Option.bind_some, e1]
        have hr : decide ((chgTo a b j).length + ((List.replicate 1 (0 : Int)).set 0 (j : Int)).length ≤ roomMost) = true := roomMost_ge (by simp; omega)
        simp only [hr, cond_true]
        rw [chgTo_next]
        cases hd : dif a b j with
        | true =>
          have : (a.getD j 0 != b.getD j 0) = true := hd
          rw [this]; rfl
        | false =>
          have : (a.getD j 0 != b.getD j 0) = false := hd
          rw [this]; simp
      · left
        intro again
        have hjl : j = max a.length b.length := by omega
        subst hjl
        unfold R41_3
        simp [chg]) (n := k) (x := (a, b, ((max a.length b.length : Nat) : Int), 0, [])) ⟨0, by omega, rfl⟩ (by simpa using hk)
  unfold F41 L41_3
  simp only
  rw [max_cast, this]
  rfl

def IsByte (x : Int) : Prop := 0 ≤ x ∧ x ≤ 255
def zpage : List Int := List.replicate 32 0

/-! ### geometries -/
abbrev Geo := T22
def gOk (g : Geo) : Bool := decide (g.1 ≥ 1) && (decide (g.1 ≤ 64) && (decide (g.2 ≥ 6) && (decide (g.2 ≤ 16) && (decide (g.3 ≥ 24) && (decide (g.3 ≤ 32) && (decide (g.4 ≥ 2) && decide (g.4 ≤ 16)))))))
theorem condF (a b : Bool) : (bif a then some b else some false) = some (a && b) := by cases a <;> rfl
theorem pgood_eq (k : Nat) (g : Geo) : F26 k (g, ()) = some (gOk g) := by
  unfold F26 gOk; simp only [condF]
theorem rgood3_eq (k : Nat) (g : Geo) : F18 k (g, ()) = some (gOk g) := by
  unfold F18 gOk; simp only [condF]
theorem gOk_spec {g : Geo} (h : gOk g = true) : 1 ≤ g.1 ∧ g.1 ≤ 64 ∧ 6 ≤ g.2 ∧ g.2 ≤ 16 ∧ 24 ≤ g.3 ∧ g.3 ≤ 32 ∧ 2 ≤ g.4 ∧ g.4 ≤ 16 := by
  unfold gOk at h; simpa only [Bool.and_eq_true, decide_eq_true_eq, ge_iff_le] using h
theorem area {g : Geo} (h : gOk g = true) : 0 ≤ g.2 * g.3 ∧ g.2 * g.3 ≤ 512 := by
  have := gOk_spec h
  refine ⟨Int.mul_nonneg (by omega) (by omega), ?_⟩
  have := Int.mul_le_mul (a := g.2) (b := g.3) (c := 16) (d := 32) (by omega) (by omega) (by omega) (by omega)
  omega
theorem maps_eq (k : Nat) {g : Geo} (hg : gOk g = true) : F42 k (g, ()) = some ((g.1 + 7) / 8) := by
  have hs := gOk_spec hg
  obtain ⟨g1, g2, g3, g4⟩ := g
  simp only at hs
  unfold F42
  simp only [pgood_eq, hg, Option.bind_some, Bool.not_true, cond_false]
  have w1 : IntKind.i64.wrap (g1 - 1) = g1 - 1 := wI_in (by omega)
  rw [w1, Int.tdiv_eq_ediv_of_nonneg (by omega), wI_in (x := (g1 - 1) / 8) (by omega), wI_in (by omega)]
  congr 1; omega
theorem rof_eq (k : Nat) {g : Geo} (hg : gOk g = true) : ∃ c, F23 k (g, ()) = some (.mk ((g.1 + 7) / 8) (4 + g.2 * g.3) c) := by
  have hs := gOk_spec hg
  have ha := area hg
  obtain ⟨g1, g2, g3, g4⟩ := g
  simp only at hs ha
  unfold F23
  have w0 : IntKind.i64.wrap (g2 * g3) = g2 * g3 := wI_in (by omega)
  have w2 : IntKind.i64.wrap (4 + g2 * g3) = 4 + g2 * g3 := wI_in (by omega)
  have w1 : IntKind.i64.wrap (g1 + 7) = g1 + 7 := wI_in (by omega)
  have w3 : IntKind.i64.wrap ((g1 + 7).tdiv 8) = (g1 + 7) / 8 := by rw [Int.tdiv_eq_ediv_of_nonneg (by omega), wI_in (by omega)]
  simp only [rgood3_eq, hg, Option.bind_some, Bool.not_true, cond_false, w0, w1, w2, w3]
  exact ⟨_, rfl⟩

/-! ### bytes laid over a page -/
theorem ext_getD {a b : List Int} (hl : a.length = b.length) (h : ∀ i, i < a.length → a.getD i 0 = b.getD i 0) : a = b := by
  apply List.ext_getElem hl
  intro i h1 h2
  have := h i h1
  rwa [getD_at h1, getD_at h2] at this
def lay (p : List Int) (off : Nat) (l : List Int) : List Int := p.take off ++ (l ++ p.drop (off + l.length))
theorem lay_length {p l : List Int} {off : Nat} (h : off + l.length ≤ p.length) : (lay p off l).length = p.length := by
  unfold lay
  rw [List.length_append, List.length_append, List.length_take, List.length_drop]; omega
theorem lay_get {p l : List Int} {off : Nat} (h : off + l.length ≤ p.length) (i : Nat) : (lay p off l).getD i 0 = if off ≤ i ∧ i < off + l.length then l.getD (i - off) 0 else p.getD i 0 := by
  have ht : (p.take off).length = off := by rw [List.length_take]; omega
  unfold lay
  by_cases h1 : i < off
  · rw [if_neg (by omega), List.getD_eq_getElem?_getD, List.getElem?_append_left (by omega), List.getElem?_take_of_lt h1, ← List.getD_eq_getElem?_getD]
  · rw [List.getD_eq_getElem?_getD, List.getElem?_append_right (by omega), ht]
    by_cases h2 : i < off + l.length
    · rw [if_pos (by omega), List.getElem?_append_left (by omega), ← List.getD_eq_getElem?_getD]
    · rw [if_neg (by omega), List.getElem?_append_right (by omega), List.getElem?_drop, ← List.getD_eq_getElem?_getD]
      congr 1
      omega
def fitB (off : Int) (n : Nat) : Bool := decide (0 ≤ off ∧ 1 ≤ n ∧ n ≤ 32 ∧ off ≤ 32 - (n : Int))
def ares (p : List Int) (off : Int) (l : List Int) : List Int × Int × Unit := if fitB off l.length = true then (lay p off.toNat l, 0, ()) else (zpage, 1, ())
theorem splice_lay {p l : List Int} {off : Int} (h : fitB off l.length = true) : splice p l off.toNat (min l.length ((((32 : Nat) : Int) - off).toNat)) = lay p off.toNat l := by
  unfold fitB at h
  simp only [decide_eq_true_eq] at h
  unfold splice lay
  have : min l.length ((((32 : Nat) : Int) - off).toNat) = l.length := by omega
  rw [this, List.take_length, List.append_assoc]
theorem fit_spec {off : Int} {n : Nat} (h : fitB off n = true) : 0 ≤ off ∧ 1 ≤ n ∧ off.toNat + n ≤ 32 := by
  unfold fitB at h
  simp only [decide_eq_true_eq] at h
  omega

/-! ### the model -/
def capF (g : Geo) : Int := max 0 (min g.1 ((4 * (g.2 - 4) - (g.1 + 7) / 8) / 3))
theorem capF_bd {g : Geo} (h : gOk g = true) : 0 ≤ capF g ∧ capF g ≤ g.1 := by
  have := gOk_spec h
  unfold capF
  omega
theorem ite_max {a : Int} : (if a > 0 then a else 0) = max 0 a := by rw [Int.max_def]; split <;> split <;> omega
theorem ite_min {a b : Int} : (if a < b then a else b) = min b a := by rw [Int.min_def]; split <;> split <;> omega
theorem pcap_eq (k : Nat) {g : Geo} (hg : gOk g = true) : F27 k (g, ()) = some (capF g) := by
  have hs := gOk_spec hg
  obtain ⟨g1, g2, g3, g4⟩ := g
  simp only at hs
  unfold F27
  have w1 : IntKind.i64.wrap (g2 - 4) = g2 - 4 := wI_in (by omega)
  have w2 : IntKind.i64.wrap (4 * (g2 - 4)) = 4 * (g2 - 4) := wI_in (by omega)
  have w3 : IntKind.i64.wrap (4 * (g2 - 4) - (g1 + 7) / 8) = 4 * (g2 - 4) - (g1 + 7) / 8 := wI_in (by omega)
  have w4 : IntKind.i64.wrap ((4 * (g2 - 4) - (g1 + 7) / 8).tdiv 3) = (4 * (g2 - 4) - (g1 + 7) / 8) / 3 := by rw [Int.tdiv_eq_ediv_of_nonneg (by omega), wI_in (by omega)]
  simp only [pgood_eq, hg, Option.bind_some, Bool.not_true, cond_false, maps_eq k hg, w1, w2, w3, w4, ite_max, ite_min]
  rfl
theorem rof2_eq (k : Nat) {g : Geo} (hg : gOk g = true) : F23 k (g, ()) = some (.mk ((g.1 + 7) / 8) (4 + g.2 * g.3) (capF g)) := by
  have hs := gOk_spec hg
  have ha := area hg
  obtain ⟨g1, g2, g3, g4⟩ := g
  simp only at hs ha
  unfold F23
  have w0 : IntKind.i64.wrap (g2 * g3) = g2 * g3 := wI_in (by omega)
  have w2 : IntKind.i64.wrap (4 + g2 * g3) = 4 + g2 * g3 := wI_in (by omega)
  have w1 : IntKind.i64.wrap (g1 + 7) = g1 + 7 := wI_in (by omega)
  have w3 : IntKind.i64.wrap ((g1 + 7).tdiv 8) = (g1 + 7) / 8 := by rw [Int.tdiv_eq_ediv_of_nonneg (by omega), wI_in (by omega)]
  have w4 : IntKind.i64.wrap (g2 - 4) = g2 - 4 := wI_in (by omega)
  have w5 : IntKind.i64.wrap (4 * (g2 - 4)) = 4 * (g2 - 4) := wI_in (by omega)
  have w6 : IntKind.i64.wrap (4 * (g2 - 4) - (g1 + 7) / 8) = 4 * (g2 - 4) - (g1 + 7) / 8 := wI_in (by omega)
  have w7 : IntKind.i64.wrap ((4 * (g2 - 4) - (g1 + 7) / 8).tdiv 3) = (4 * (g2 - 4) - (g1 + 7) / 8) / 3 := by rw [Int.tdiv_eq_ediv_of_nonneg (by omega), wI_in (by omega)]
  simp only [rgood3_eq, hg, Option.bind_some, Bool.not_true, cond_false, w0, w1, w2, w3, w4, w5, w6, w7, ite_max, ite_min]
  rfl

/-- the first place of a number -/
def fx (x : Int) : List Int → Option Nat
  | [] => none
  | y :: r => if y = x then some 0 else (fx x r).map (fun i => i + 1)
theorem fx_spec (x : Int) : ∀ l : List Int, match fx x l with
    | some i => i < l.length ∧ l.getD i 0 = x ∧ ∀ j, j < i → l.getD j 0 ≠ x
    | none => ∀ j, j < l.length → l.getD j 0 ≠ x := by
  intro l
  induction l with
  | nil => intro j h; simp at h
  | cons y r ih =>
    unfold fx
    by_cases hx : y = x
    · rw [if_pos hx]
      exact ⟨by simp, by simpa using hx, fun j h => absurd h (Nat.not_lt_zero j)⟩
    · rw [if_neg hx]
      cases hr : fx x r with
      | none =>
        rw [hr] at ih
        simp only at ih
        intro j hj
        cases j with
        | zero => simpa using hx
        | succ j => simpa using ih j (by simpa using hj)
      | some i =>
        rw [hr] at ih
        simp only at ih
        obtain ⟨h1, h2, h3⟩ := ih
        refine ⟨by simpa using h1, by simpa using h2, fun j hj => ?_⟩
        cases j with
        | zero => simpa using hx
        | succ j => simpa using h3 j (Nat.lt_of_succ_lt_succ hj)
theorem fx_some {x : Int} {l : List Int} {j : Nat} (h : j < l.length) (h0 : l.getD j 0 = x) (hb : ∀ i, i < j → l.getD i 0 ≠ x) : fx x l = some j := by
  have := fx_spec x l
  cases hf : fx x l with
  | none => rw [hf] at this; exact absurd h0 (this j h)
  | some i =>
    rw [hf] at this
    obtain ⟨h1, h2, h3⟩ := this
    have a1 : ¬ i < j := fun e => hb i e h2
    have a2 : ¬ j < i := fun e => h3 j e h0
    congr 1
    omega
theorem fx_none {x : Int} {l : List Int} (hb : ∀ i, i < l.length → l.getD i 0 ≠ x) : fx x l = none := by
  have := fx_spec x l
  cases hf : fx x l with
  | none => rfl
  | some i => rw [hf] at this; exact absurd this.2.1 (hb i this.1)
theorem fx_count (x : Int) : ∀ l : List Int, (fx x l).isSome = decide (0 < l.count x) := by
  intro l
  induction l with
  | nil => rfl
  | cons y r ih =>
    unfold fx
    by_cases hx : y = x
    · subst hx; simp
    · rw [if_neg hx, List.count_cons_of_ne (by simpa using hx), Option.isSome_map, ih]
theorem indexx_eq {k : Nat} {l : List Int} {x : Int} (hl : l.length ≤ 1000) (hk : l.length < k) : F53 k (l, x, ()) = some (match fx x l with | some i => (i : Int) | none => -1) := by
  have := iter_out (R := R53_2 k) (fun s : List Int × Int × Int × Int => ∃ j : Nat, j ≤ l.length ∧ (∀ i, i < j → l.getD i 0 ≠ x) ∧ s = (l, x, (l.length : Int), (j : Int)))
    (fun s => l.length - s.2.2.2.toNat) (fun _ => match fx x l with | some i => (.inl (i : Int) : Int ⊕ Unit) | none => .inr ()) (fun s hx => by
      obtain ⟨j, hj, hb, rfl⟩ := hx
      by_cases hi : j < l.length
      · have e1 : IntKind.i64.wrap ((j : Int) + 1) = ((j + 1 : Nat) : Int) := by rw [wI_in (by omega)]; rfl
        have e8 : decide ((j : Int) < (l.length : Int)) = true := by simp; omega
        have hR : ∀ again, R53_2 k again (l, x, (l.length : Int), (j : Int)) = if l.getD j 0 = x then some (.inl (j : Int)) else again (l, x, (l.length : Int), ((j + 1 : Nat) : Int)) := by
          intro again
          unfold R53_2
          simp only [e8, cond_true, inRange_true (i := (j : Int)) (n := l.length) ⟨by omega, by omega⟩, Int.toNat_natCast, e1]
          generalize l.getD j 0 = v
          by_cases e : v = x
          · subst e; simp
          · have : (x == v) = false := beq_ne fun h => e h.symm
            rw [this, if_neg e]; rfl
        by_cases e : l.getD j 0 = x
        · left
          intro again
          rw [hR, if_pos e, fx_some hi e hb]
        · right
          refine ⟨_, fun again => by rw [hR, if_neg e], ⟨j + 1, by omega, fun i hi' => ?_, rfl⟩, by simp only; omega, rfl⟩
          by_cases h : i = j
          · subst h; exact e
          · exact hb i (by omega)
      · left
        intro again
        have hjl : j = l.length := by omega
        subst hjl
        have hn : fx x l = none := fx_none hb
        unfold R53_2
        simp [hn]) (n := k) (x := (l, x, (l.length : Int), 0)) ⟨0, by omega, fun i h => absurd h (Nat.not_lt_zero i), rfl⟩ (by simpa using hk)
  unfold F53 L53_2
  simp only
  rw [this]
  cases fx x l <;> rfl
theorem containsx_eq {k : Nat} {l : List Int} {x : Int} (hl : l.length ≤ 1000) (hk : l.length < k) : F60 k (l, x, ()) = some (decide (0 < l.count x)) := by
  unfold F60
  simp only [indexx_eq hl hk, Option.bind_some]
  rw [← fx_count]
  cases fx x l with
  | none => rfl
  | some i => simp
theorem erase_len {l : List Int} {i : Nat} (h : i < l.length) : (l.eraseIdx i).length = l.length - 1 := by rw [List.length_eraseIdx_of_lt h]
theorem delete_eq {k : Nat} {l : List Int} {i : Nat} (hi : i < l.length) (hl : l.length ≤ 1000) : F55 k ((i : Int), ((i + 1 : Nat) : Int), l) = some (.inr (l.eraseIdx i)) := by
  unfold F55
  simp only
  have d1 : (decide ((0 : Int) ≤ (i : Int)) && decide ((i : Int) ≤ ((i + 1 : Nat) : Int)) && decide (((i + 1 : Nat) : Int) ≤ (l.length : Int)) && decide ((l.length : Int) ≤ (l.length : Int))) = true := by simp; omega
  have d2 : ((i : Int) == ((i + 1 : Nat) : Int)) = false := by simp; omega
  have d3 : (decide ((0 : Int) ≤ (0 : Int)) && decide ((0 : Int) ≤ (i : Int)) && decide ((i : Int) ≤ (l.length : Int))) = true := by simp; omega
  have d4 : (decide ((0 : Int) ≤ ((i + 1 : Nat) : Int)) && decide (((i + 1 : Nat) : Int) ≤ (l.length : Int)) && decide ((l.length : Int) ≤ (l.length : Int))) = true := by simp; omega
  have e1 : ((i : Int) - 0).toNat = i := by omega
  have e2 : ((l.length : Int) - ((i + 1 : Nat) : Int)).toNat = l.length - (i + 1) := by omega
  have e3 : (List.take (l.length - (i + 1)) (List.drop ((i + 1 : Nat) : Int).toNat l)) = l.drop (i + 1) := by
    rw [Int.toNat_natCast, List.take_of_length_le (by rw [List.length_drop]; exact Nat.le_refl _)]
  have e4 : (l.drop (i + 1)).length = l.length - (i + 1) := List.length_drop
  simp only [d1, d2, d3, d4, cond_true, cond_false, e1, e2, e3, e4]
  have e5 : i + (l.length - (i + 1)) = l.length - 1 := by omega
  have d5 : decide (l.length - 1 ≤ l.length) = true := by simp
  have hA : (l.drop (i + 1)).take (l.length - (i + 1)) = l.drop (i + 1) := List.take_of_length_le (by rw [e4]; exact Nat.le_refl _)
  have hs : splice l (l.drop (i + 1)) i (l.length - (i + 1)) = l.eraseIdx i ++ l.drop (l.length - 1) := by
    unfold splice
    rw [hA, e5, List.eraseIdx_eq_take_drop_succ]
  have hsl : (splice l (l.drop (i + 1)) i (l.length - (i + 1))).length = l.length := by
    rw [hs, List.length_append, erase_len hi, List.length_drop]; omega
  have d6 : (decide ((0 : Int) ≤ ((l.length - 1 : Nat) : Int)) && decide (((l.length - 1 : Nat) : Int) ≤ (l.length : Int)) && decide ((l.length : Int) ≤ (l.length : Int))) = true := by simp; try omega
  have e6 : ((l.length : Int) - ((l.length - 1 : Nat) : Int)).toNat = 1 := by omega
  simp only [e5, d5, cond_true, hsl, d6, e6]
  rw [hs]
  congr 2
  have hel : (l.eraseIdx i).length = l.length - 1 := erase_len hi
  have h1 : (l.eraseIdx i ++ l.drop (l.length - 1)).take (l.length - 1) = l.eraseIdx i := by
    rw [List.take_append_of_le_length (by omega), List.take_of_length_le (by omega)]
  unfold splice
  rw [Int.toNat_natCast, h1, List.append_assoc, List.take_append_of_le_length (by omega), List.take_of_length_le (by omega)]

/-! ### what an operation does to a model -/
structure MS where
  most : Int
  H : List Int
  P : List (List Int)
  p0 : List Int
  p1 : List Int
  p2 : List Int
  p3 : List Int
def MS.tup (m : MS) : Int × List Int × List (List Int) × List Int × List Int × List Int × List Int := (m.most, m.H, m.P, m.p0, m.p1, m.p2, m.p3)
def MS.pins (m : MS) (s : Int) : List Int := if s = 0 then m.p0 else if s = 1 then m.p1 else if s = 2 then m.p2 else m.p3
def MS.setPins (m : MS) (s : Int) (l : List Int) : MS := if s = 0 then { m with p0 := l } else if s = 1 then { m with p1 := l } else if s = 2 then { m with p2 := l } else { m with p3 := l }
def MS.held (m : MS) (p : Int) : Bool := decide (0 < m.p0.count p) || (decide (0 < m.p1.count p) || (decide (0 < m.p2.count p) || decide (0 < m.p3.count p)))
structure MOk (m : MS) : Prop where
  hp : m.H.length = m.P.length
  hn : m.H.length ≤ 64
  l0 : m.p0.length ≤ 16
  l1 : m.p1.length ≤ 16
  l2 : m.p2.length ≤ 16
  l3 : m.p3.length ≤ 16
def chkM (m : MS) (p : Int) : Int := if p < 0 then 16 else if p ≥ m.H.length then 16 else if m.H.getD p.toNat 0 = 0 then 17 else 0
def wrM (m : MS) (p off : Int) (d : List Int) : Int × MS := if fitB off d.length = true then (0, { m with P := m.P.set p.toNat (lay (m.P.getD p.toNat zpage) off.toNat d) }) else (18, m)
def frM (m : MS) (p : Int) : Int × MS := if m.held p = true then (19, m) else (0, { m with H := m.H.set p.toNat 0 })
def pinM (m : MS) (s p : Int) : Int × MS := if 16 ≤ (m.pins s).length then (19, m) else (0, m.setPins s (m.pins s ++ [p]))
def unM (m : MS) (s p : Int) : Int × MS := match fx p (m.pins s) with
  | none => (19, m)
  | some i => (0, m.setPins s ((m.pins s).eraseIdx i))
def alM (m : MS) : Int × Int × MS := match (if (cnt m.H : Int) < m.most then fz m.H else none) with
  | some i => (0, (i : Int), { m with H := m.H.set i 1, P := m.P.set i zpage })
  | none => (14, 0, m)
def pgM (m : MS) (s kd p off : Int) (d : List Int) : Int × List Int × MS :=
  if kd = 1 then (0, m.P.getD p.toNat zpage, m)
  else if kd = 2 then ((wrM m p off d).1, [], (wrM m p off d).2)
  else if kd = 4 then ((frM m p).1, [], (frM m p).2)
  else if kd = 6 then ((pinM m s p).1, [], (pinM m s p).2)
  else if kd = 7 then ((unM m s p).1, [], (unM m s p).2)
  else (0, [], m)
def isPg (kd : Int) : Bool := kd == 1 || (kd == 2 || (kd == 4 || (kd == 6 || kd == 7)))
def doM (m : MS) (s kd p off : Int) (d : List Int) : Int × Int × List Int × MS :=
  if s < 0 ∨ s ≥ 4 then (20, 0, [], m)
  else if kd = 3 then ((alM m).1, (alM m).2.1, [], (alM m).2.2)
  else if kd = 5 then (0, 0, [], m)
  else if isPg kd = true then (if chkM m p = 0 then ((pgM m s kd p off d).1, 0, (pgM m s kd p off d).2.1, (pgM m s kd p off d).2.2) else (chkM m p, 0, [], m))
  else (1, 0, [], m)
theorem chkM_ok {m : MS} {p : Int} (h : chkM m p = 0) : 0 ≤ p ∧ p < m.H.length ∧ m.H.getD p.toNat 0 ≠ 0 := by
  unfold chkM at h
  split at h; · omega
  split at h; · omega
  split at h; · omega
  rename_i a b c
  exact ⟨by omega, by omega, c⟩
theorem mcheck_eq (k : Nat) (m : MS) (p : Int) : F32 k (p, m.tup) = some (chkM m p) := by
  obtain ⟨most, H, P, p0, p1, p2, p3⟩ := m
  unfold F32 MS.tup chkM
  simp only
  by_cases h1 : p < 0
  · simp only [h1, decide_true, cond_true, if_true]
  by_cases h2 : p ≥ (H.length : Int)
  · simp only [h1, h2, decide_true, decide_false, cond_true, cond_false, if_false, if_true]
  simp only [h1, h2, decide_false, cond_false, if_false, inRange_true (i := p) (n := H.length) ⟨by omega, by omega⟩, cond_true]
  by_cases h3 : H.getD p.toNat 0 = 0
  · simp only [h3, beq_self_eq_true, cond_true, if_true]
  · simp only [h3, beq_ne h3, cond_false, if_false]
theorem mwrite_eq (k : Nat) (m : MS) {kd p off : Int} {d : List Int} (hp : 0 ≤ p ∧ p < m.P.length) (hd : d.length ≤ 1000000) : F44 k (kd, p, off, d, m.tup) = some ((wrM m p off d).1, (wrM m p off d).2.tup) := by
  obtain ⟨most, H, P, p0, p1, p2, p3⟩ := m
  simp only at hp
  unfold F44 MS.tup wrM
  simp only
  by_cases h1 : (d.length : Int) < 1
  · have : fitB off d.length = false := by unfold fitB; simp; omega
    simp only [h1, decide_true, cond_true, this, Bool.false_eq_true, if_false]
  by_cases h2 : (d.length : Int) > 32
  · have : fitB off d.length = false := by unfold fitB; simp; omega
    simp only [h1, h2, decide_true, decide_false, cond_true, cond_false, this, Bool.false_eq_true, if_false]
  by_cases h3 : off < 0
  · have : fitB off d.length = false := by unfold fitB; simp; omega
    simp only [h1, h2, h3, decide_true, decide_false, cond_true, cond_false, this, Bool.false_eq_true, if_false]
  have w : IntKind.i64.wrap (32 - (d.length : Int)) = 32 - d.length := wI_in (by omega)
  by_cases h4 : off > 32 - (d.length : Int)
  · have : fitB off d.length = false := by unfold fitB; simp; omega
    simp only [h1, h2, h3, w, h4, decide_true, decide_false, cond_true, cond_false, this, Bool.false_eq_true, if_false]
  have hf : fitB off d.length = true := by unfold fitB; simp; omega
  have hdd : (decide ((0 : Int) ≤ off) && decide (off ≤ ((32 : Nat) : Int)) && decide (((32 : Nat) : Int) ≤ ((32 : Nat) : Int))) = true := by simp; omega
  simp only [h1, h2, h3, w, h4, decide_false, cond_false, inRange_true (i := p) (n := P.length) hp, cond_true, hdd, hf, if_true]
  rw [splice_lay hf]
  rfl
theorem mpinned1_eq {k : Nat} {p : Int} {l : List Int} (hl : l.length ≤ 1000) (hk : 1000 < k) : F62 k (l, p) = some (decide (0 < l.count p)) := by
  unfold F62
  simp only [containsx_eq hl (by omega : l.length < k), Option.bind_some]
theorem mpinned_eq {k : Nat} (hk : 1000 < k) {m : MS} (h : MOk m) (p : Int) : F54 k (p, m.tup) = some (m.held p) := by
  obtain ⟨most, H, P, p0, p1, p2, p3⟩ := m
  obtain ⟨_, _, h0, h1, h2, h3⟩ := h
  simp only at h0 h1 h2 h3
  unfold F54 F61 F63 MS.tup MS.held
  have hb : Nat.ble 5 k = true := Nat.ble_eq_true_of_le (by omega)
  have w1 : IntKind.i64.wrap (0 + 1) = 1 := rfl
  have w2 : IntKind.i64.wrap (1 + 1) = 2 := rfl
  have w3 : IntKind.i64.wrap (2 + 1) = 3 := rfl
  simp only [hb, cond_true, mpinned1_eq (k := k) (p := p) (l := p0) (by omega) hk, mpinned1_eq (k := k) (p := p) (l := p1) (by omega) hk, mpinned1_eq (k := k) (p := p) (l := p2) (by omega) hk, mpinned1_eq (k := k) (p := p) (l := p3) (by omega) hk, Option.bind_some, w1, w2, w3]
  cases decide (0 < p0.count p) with
  | true => rfl
  | false =>
  cases decide (0 < p1.count p) with
  | true => rfl
  | false =>
  cases decide (0 < p2.count p) with
  | true => rfl
  | false =>
  cases decide (0 < p3.count p) <;> rfl
theorem mfree_eq {k : Nat} (hk : 1000 < k) {m : MS} (h : MOk m) {p : Int} (hp : 0 ≤ p ∧ p < m.H.length) : F45 k (p, m.tup) = some ((frM m p).1, (frM m p).2.tup) := by
  have h1 := mpinned_eq hk h p
  unfold MS.tup at h1
  unfold F45 frM
  show (match (p, m.most, m.H, m.P, m.p0, m.p1, m.p2, m.p3) with
    | (v0, v1, v2, v3, v4, v5, v6, v7) => _) = _
  simp only [h1, Option.bind_some]
  cases m.held p with
  | true => rfl
  | false => simp only [cond_false, inRange_true (i := p) (n := m.H.length) hp, cond_true, Bool.false_eq_true, if_false]; rfl
theorem room1 {l : List Int} (h : l.length ≤ 16) (p : Int) : decide (l.length + [p].length ≤ roomMost) = true := roomMost_ge (by simp; omega)
theorem mpin_eq (k : Nat) {m : MS} (h : MOk m) {s : Int} (hs : 0 ≤ s ∧ s < 4) (p : Int) : F46 k (s, p, m.tup) = some ((pinM m s p).1, (pinM m s p).2.tup) := by
  obtain ⟨most, H, P, p0, p1, p2, p3⟩ := m
  obtain ⟨_, _, h0, h1, h2, h3⟩ := h
  simp only at h0 h1 h2 h3
  unfold F46 MS.tup pinM
  have e : ∀ p : Int, (List.replicate (1 : Nat) (0 : Int)).set 0 p = [p] := fun _ => rfl
  have hc : s = 0 ∨ s = 1 ∨ s = 2 ∨ s = 3 := by omega
  rcases hc with rfl | rfl | rfl | rfl
  · show F46f0 k (p, most, H, P, p0, p1, p2, p3) = _
    unfold F46f0
    by_cases hl : (p0.length : Int) ≥ 16
    · simp only [hl, decide_true, cond_true, MS.pins, if_true, show 16 ≤ p0.length from by omega]
    · simp only [hl, decide_false, cond_false, room1 h0, cond_true, MS.pins, if_true, show ¬ 16 ≤ p0.length from by omega, if_false, MS.setPins, e]
  · show F46f1 k (p, most, H, P, p0, p1, p2, p3) = _
    unfold F46f1
    by_cases hl : (p1.length : Int) ≥ 16
    · simp only [hl, decide_true, cond_true, MS.pins, if_true, show 16 ≤ p1.length from by omega, show ¬ (1 : Int) = 0 from by decide, if_false]
    · simp only [hl, decide_false, cond_false, room1 h1, cond_true, MS.pins, if_true, show ¬ 16 ≤ p1.length from by omega, if_false, MS.setPins, e, show ¬ (1 : Int) = 0 from by decide]
  · show F46f2 k (p, most, H, P, p0, p1, p2, p3) = _
    unfold F46f2
    by_cases hl : (p2.length : Int) ≥ 16
    · simp only [hl, decide_true, cond_true, MS.pins, if_true, show 16 ≤ p2.length from by omega, show ¬ (2 : Int) = 0 from by decide, show ¬ (2 : Int) = 1 from by decide, if_false]
    · simp only [hl, decide_false, cond_false, room1 h2, cond_true, MS.pins, if_true, show ¬ 16 ≤ p2.length from by omega, if_false, MS.setPins, e, show ¬ (2 : Int) = 0 from by decide, show ¬ (2 : Int) = 1 from by decide]
  · show F46f3 k (p, most, H, P, p0, p1, p2, p3) = _
    unfold F46f3
    by_cases hl : (p3.length : Int) ≥ 16
    · simp only [hl, decide_true, cond_true, MS.pins, if_true, show 16 ≤ p3.length from by omega, show ¬ (3 : Int) = 0 from by decide, show ¬ (3 : Int) = 1 from by decide, show ¬ (3 : Int) = 2 from by decide, if_false]
    · simp only [hl, decide_false, cond_false, room1 h3, cond_true, MS.pins, show ¬ 16 ≤ p3.length from by omega, if_false, MS.setPins, e, show ¬ (3 : Int) = 0 from by decide, show ¬ (3 : Int) = 1 from by decide, show ¬ (3 : Int) = 2 from by decide]
theorem unp_step {k : Nat} {l : List Int} (hl : l.length ≤ 16) (hk : 1000 < k) (p : Int) {α : Type} (A : Option α) (B : List Int → Option α) :
    ((F53 k (l, p, ())).bind fun r => bif decide (r < (0 : Int)) then A else (F55 k (r, IntKind.i64.wrap (r + (1 : Int)), l)).bind fun r => sumK r (fun a => B a) fun b => B b) =
    (match fx p l with | none => A | some i => B (l.eraseIdx i)) := by
  rw [indexx_eq (by omega) (by omega : l.length < k)]
  have hs := fx_spec p l
  cases hf : fx p l with
  | none => rfl
  | some i =>
    rw [hf] at hs
    have hd : decide ((i : Int) < 0) = false := by simp
    have w : IntKind.i64.wrap ((i : Int) + 1) = ((i + 1 : Nat) : Int) := by rw [wI_in (by omega)]; rfl
    simp only [Option.bind_some, hd, cond_false, w, delete_eq hs.1 (by omega : l.length ≤ 1000), sumK]
theorem munpin_eq {k : Nat} (hk : 1000 < k) {m : MS} (h : MOk m) {s : Int} (hs : 0 ≤ s ∧ s < 4) (p : Int) : F47 k (s, p, m.tup) = some ((unM m s p).1, (unM m s p).2.tup) := by
  obtain ⟨most, H, P, p0, p1, p2, p3⟩ := m
  obtain ⟨_, _, h0, h1, h2, h3⟩ := h
  simp only at h0 h1 h2 h3
  unfold F47 MS.tup unM
  have hc : s = 0 ∨ s = 1 ∨ s = 2 ∨ s = 3 := by omega
  rcases hc with rfl | rfl | rfl | rfl
  · show F47f0 k (p, most, H, P, p0, p1, p2, p3) = _
    unfold F47f0
    simp only [unp_step h0 hk, MS.pins, MS.setPins, if_true]
    cases fx p p0 <;> rfl
  · show F47f1 k (p, most, H, P, p0, p1, p2, p3) = _
    unfold F47f1
    simp only [unp_step h1 hk, MS.pins, MS.setPins, show ¬ (1 : Int) = 0 from by decide, if_true, if_false]
    cases fx p p1 <;> rfl
  · show F47f2 k (p, most, H, P, p0, p1, p2, p3) = _
    unfold F47f2
    simp only [unp_step h2 hk, MS.pins, MS.setPins, show ¬ (2 : Int) = 0 from by decide, show ¬ (2 : Int) = 1 from by decide, if_true, if_false]
    cases fx p p2 <;> rfl
  · show F47f3 k (p, most, H, P, p0, p1, p2, p3) = _
    unfold F47f3
    simp only [unp_step h3 hk, MS.pins, MS.setPins, show ¬ (3 : Int) = 0 from by decide, show ¬ (3 : Int) = 1 from by decide, show ¬ (3 : Int) = 2 from by decide, if_false]
    cases fx p p3 <;> rfl
theorem malloc_eq {k : Nat} (hk : 1000 < k) {m : MS} (h : MOk m) : F31 k m.tup = some ((alM m).1, (alM m).2.1, (alM m).2.2.most, [], (alM m).2.2.H, (alM m).2.2.P, (alM m).2.2.p0, (alM m).2.2.p1, (alM m).2.2.p2, (alM m).2.2.p3) := by
  obtain ⟨most, H, P, p0, p1, p2, p3⟩ := m
  obtain ⟨hp, hn, _, _, _, _⟩ := h
  simp only at hp hn
  unfold F31 MS.tup alM
  simp only [least_eq (k := k) (l := H) (most := most) (by omega) (by omega), Option.bind_some, least]
  by_cases hc : (cnt H : Int) < most
  · simp only [hc, if_true]
    have hs := fz_spec H
    cases hf : fz H with
    | none => rfl
    | some i =>
      rw [hf] at hs
      simp only [bne_self_eq_false, cond_false, inRange_true (i := (i : Int)) (n := H.length) ⟨by omega, by omega⟩, inRange_true (i := (i : Int)) (n := P.length) ⟨by omega, by omega⟩, cond_true, Int.toNat_natCast]
      rfl
  · simp only [hc, if_false]
    rfl
theorem pg32 {l : List Int} (h : l.length = 32) : List.take (((32 : Nat) : Int) - 0).toNat (List.drop (Int.toNat 0) l) = l := by
  show List.take 32 (List.drop 0 l) = l
  rw [List.drop_zero, List.take_of_length_le (by omega)]
theorem mpage_eq {k : Nat} (hk : 1000 < k) {m : MS} (h : MOk m) (hz : ∀ x ∈ m.P, x.length = 32) {s : Int} (hs : 0 ≤ s ∧ s < 4) {kd p off : Int} {d : List Int} (hp : 0 ≤ p ∧ p < m.H.length) (hd : d.length ≤ 1000000) :
    F33 k (s, kd, p, off, d, m.tup) = some ((pgM m s kd p off d).1, 0, (pgM m s kd p off d).2.1, (pgM m s kd p off d).2.2.tup) := by
  have e1 := mwrite_eq k m (kd := kd) (off := off) (d := d) (p := p) (by rw [← h.hp]; exact hp) hd
  have e2 := mfree_eq hk h hp
  have e3 := mpin_eq k h hs p
  have e4 := munpin_eq hk h hs p
  have hP := h.hp
  obtain ⟨most, H, P, p0, p1, p2, p3⟩ := m
  simp only at hp hP hz
  unfold MS.tup at e1 e2 e3 e4
  simp only at e1 e2 e3 e4
  unfold F33 MS.tup pgM
  simp only [e1, e2, e3, e4, Option.bind_some]
  by_cases k1 : kd = 1
  · have hg : (P.getD p.toNat zpage).length = 32 := by
      apply hz
      rw [List.getD_eq_getElem?_getD, List.getElem?_eq_getElem (by omega)]
      exact List.getElem_mem _
    simp only [k1, beq_self_eq_true, cond_true, inRange_true (i := p) (n := P.length) ⟨by omega, by omega⟩, if_true]
    rw [show List.replicate (32 : Nat) (0 : Int) = zpage from rfl, pg32 hg]
  simp only [beq_ne k1, cond_false, k1, if_false]
  by_cases k2 : kd = 2
  · simp only [k2, beq_self_eq_true, cond_true, if_true]
  simp only [beq_ne k2, cond_false, k2, if_false]
  by_cases k4 : kd = 4
  · simp only [k4, beq_self_eq_true, cond_true, if_true]
  simp only [beq_ne k4, cond_false, k4, if_false]
  by_cases k6 : kd = 6
  · simp only [k6, beq_self_eq_true, cond_true, if_true]
  simp only [beq_ne k6, cond_false, k6, if_false]
  by_cases k7 : kd = 7
  · simp only [k7, beq_self_eq_true, cond_true, if_true]
  simp only [beq_ne k7, cond_false, k7, if_false]
theorem mdo_eq {k : Nat} (hk : 1000 < k) {m : MS} (h : MOk m) (hz : ∀ x ∈ m.P, x.length = 32) {s kd p off : Int} {d : List Int} (hd : d.length ≤ 1000000) :
    F14 k (s, kd, p, off, d, m.tup) = some ((doM m s kd p off d).1, (doM m s kd p off d).2.1, (doM m s kd p off d).2.2.1, (doM m s kd p off d).2.2.2.tup) := by
  have e1 := malloc_eq hk h
  have e2 := mcheck_eq k m p
  have e3 : ∀ hs : 0 ≤ s ∧ s < 4, chkM m p = 0 → _ := fun hs hc => mpage_eq hk h hz hs (kd := kd) (off := off) (d := d) ⟨(chkM_ok hc).1, (chkM_ok hc).2.1⟩ hd
  unfold F14
  obtain ⟨most, H, P, p0, p1, p2, p3⟩ := m
  unfold MS.tup at e1 e2 e3
  simp only at e1 e2 e3
  unfold MS.tup doM
  simp only [e1, e2, Option.bind_some]
  by_cases h1 : s < 0
  · simp only [h1, decide_true, cond_true, true_or, if_true]
  by_cases h2 : s ≥ 4
  · simp only [h1, h2, decide_true, decide_false, cond_true, cond_false, or_true, if_true]
  simp only [h1, h2, decide_false, cond_false, or_self, if_false]
  have e3 := e3 ⟨by omega, by omega⟩
  by_cases k3 : kd = 3
  · simp only [k3, beq_self_eq_true, cond_true, if_true]
  simp only [beq_ne k3, cond_false, k3, if_false]
  by_cases k5 : kd = 5
  · simp only [k5, beq_self_eq_true, cond_true, if_true]
  simp only [beq_ne k5, cond_false, k5, if_false]
  generalize hch : chkM ⟨most, H, P, p0, p1, p2, p3⟩ p = ch at e3 ⊢
  have one : ∀ (A : Option (Int × Int × List Int × Int × List Int × List (List Int) × List Int × List Int × List Int × List Int)) {B : Option (Int × Int × List Int × Int × List Int × List (List Int) × List Int × List Int × List Int × List Int)} {C : Int × Int × List Int × MS}, (ch = 0 → B = some (C.1, C.2.1, C.2.2.1, C.2.2.2.tup)) → A = some (ch, 0, [], (⟨most, H, P, p0, p1, p2, p3⟩ : MS).tup) →
      (bif ch != 0 then A else B) = some ((if ch = 0 then C else (ch, 0, [], ⟨most, H, P, p0, p1, p2, p3⟩)).1, (if ch = 0 then C else (ch, 0, [], ⟨most, H, P, p0, p1, p2, p3⟩)).2.1, (if ch = 0 then C else (ch, 0, [], ⟨most, H, P, p0, p1, p2, p3⟩)).2.2.1, (if ch = 0 then C else (ch, 0, [], ⟨most, H, P, p0, p1, p2, p3⟩)).2.2.2.tup) := by
    intro A B C hB hA
    by_cases hc : ch = 0
    · simp only [hc, bne_self_eq_false, cond_false, if_true]; exact hB hc
    · have : (ch != 0) = true := by simpa using hc
      simp only [this, cond_true, hc, if_false]; exact hA
  have go : ∀ (kk : Int), kd = kk → isPg kd = true → _ := fun kk e hp => one (some (ch, 0, [], most, H, P, p0, p1, p2, p3)) (B := (F33 k (s, kd, p, off, d, most, H, P, p0, p1, p2, p3)).bind fun r => some (r.fst, r.snd.fst, r.snd.snd.fst, r.snd.snd.snd.fst, r.snd.snd.snd.snd.fst, r.snd.snd.snd.snd.snd.fst, r.snd.snd.snd.snd.snd.snd.fst, r.snd.snd.snd.snd.snd.snd.snd.fst, r.snd.snd.snd.snd.snd.snd.snd.snd.fst, r.snd.snd.snd.snd.snd.snd.snd.snd.snd))
    (C := ((pgM ⟨most, H, P, p0, p1, p2, p3⟩ s kd p off d).1, 0, (pgM ⟨most, H, P, p0, p1, p2, p3⟩ s kd p off d).2.1, (pgM ⟨most, H, P, p0, p1, p2, p3⟩ s kd p off d).2.2)) (fun hc => by rw [e3 hc]; rfl) rfl
  by_cases k1 : kd = 1
  · have := go 1 k1 (by rw [k1]; rfl)
    simp only [k1, beq_self_eq_true, cond_true, show isPg 1 = true from rfl, if_true] at this ⊢
    exact this
  by_cases k2 : kd = 2
  · have := go 2 k2 (by rw [k2]; rfl)
    simp only [k2, beq_self_eq_true, cond_true, show isPg 2 = true from rfl, if_true, show ((2 : Int) == 1) = false from rfl, cond_false] at this ⊢
    exact this
  by_cases k4 : kd = 4
  · have := go 4 k4 (by rw [k4]; rfl)
    simp only [k4, beq_self_eq_true, cond_true, show isPg 4 = true from rfl, if_true, show ((4 : Int) == 1) = false from rfl, show ((4 : Int) == 2) = false from rfl, cond_false] at this ⊢
    exact this
  by_cases k6 : kd = 6
  · have := go 6 k6 (by rw [k6]; rfl)
    simp only [k6, beq_self_eq_true, cond_true, show isPg 6 = true from rfl, if_true, show ((6 : Int) == 1) = false from rfl, show ((6 : Int) == 2) = false from rfl, show ((6 : Int) == 4) = false from rfl, cond_false] at this ⊢
    exact this
  by_cases k7 : kd = 7
  · have := go 7 k7 (by rw [k7]; rfl)
    simp only [k7, beq_self_eq_true, cond_true, show isPg 7 = true from rfl, if_true, show ((7 : Int) == 1) = false from rfl, show ((7 : Int) == 2) = false from rfl, show ((7 : Int) == 4) = false from rfl, show ((7 : Int) == 6) = false from rfl, cond_false] at this ⊢
    exact this
  have hpg : isPg kd = false := by unfold isPg; simp only [beq_ne k1, beq_ne k2, beq_ne k4, beq_ne k6, beq_ne k7, Bool.or_false]
  simp only [beq_ne k1, beq_ne k2, beq_ne k4, beq_ne k6, beq_ne k7, cond_false, hpg, Bool.false_eq_true, if_false]

/-! ### the model's other functions -/
theorem mcopy_eq {k : Nat} (hk : 1000 < k) {m : MS} (h : MOk m) : F11 k m.tup = some (m.most, m.most, m.H, m.P, m.p0, m.p1, m.p2, m.p3, m.H, m.P, m.p0, m.p1, m.p2, m.p3) := by
  obtain ⟨most, H, P, p0, p1, p2, p3⟩ := m
  obtain ⟨hp, hn, h0, h1, h2, h3⟩ := h
  simp only at hp hn h0 h1 h2 h3
  unfold F11 MS.tup
  have hb : Nat.ble 5 k = true := Nat.ble_eq_true_of_le (by omega)
  simp only [hb, roomMost_ge (n := H.length) (by omega), roomMost_ge (n := P.length) (by omega), roomMost_ge (n := p0.length) (by omega), roomMost_ge (n := p1.length) (by omega), roomMost_ge (n := p2.length) (by omega), roomMost_ge (n := p3.length) (by omega), cond_true]
theorem mpages_eq {k : Nat} (hk : 1000 < k) {m : MS} (h : MOk m) : F22 k m.tup = some (chg m.H []) := by
  obtain ⟨most, H, P, p0, p1, p2, p3⟩ := m
  obtain ⟨hp, hn, h0, h1, h2, h3⟩ := h
  simp only at hp hn h0 h1 h2 h3
  unfold F22 MS.tup
  have hu : (PUnit.unit : Unit) = () := rfl
  simp only [chg_eq (k := k) (a := H) (b := []) (by omega) (by simp) (by simp; omega), Option.bind_some]
def pageM (m : MS) (p : Int) : List Int × Bool := if chkM m p = 0 then (m.P.getD p.toNat zpage, true) else (zpage, false)
theorem mpageq_eq (k : Nat) {m : MS} (h : MOk m) (p : Int) : F21 k (p, m.tup) = some ((pageM m p).1, (pageM m p).2) := by
  have e := mcheck_eq k m p
  obtain ⟨most, H, P, p0, p1, p2, p3⟩ := m
  have hP := h.hp
  simp only at hP
  unfold MS.tup at e
  simp only at e
  unfold F21 MS.tup pageM
  simp only [e, Option.bind_some]
  by_cases hc : chkM ⟨most, H, P, p0, p1, p2, p3⟩ p = 0
  · have := chkM_ok hc
    simp only at this
    simp only [hc, bne_self_eq_false, cond_false, inRange_true (i := p) (n := P.length) ⟨by omega, by omega⟩, cond_true, if_true]
    rfl
  · have : (chkM ⟨most, H, P, p0, p1, p2, p3⟩ p != 0) = true := by simpa using hc
    simp only [this, cond_true, hc, if_false]
    rfl
def newM (g : Geo) : MS := ⟨capF g, List.replicate g.1.toNat 0, List.replicate g.1.toNat zpage, [], [], [], []⟩
theorem newM_ok {g : Geo} (h : gOk g = true) : MOk (newM g) := by
  have := gOk_spec h
  refine ⟨by simp [newM], by simp [newM]; omega, by simp [newM], by simp [newM], by simp [newM], by simp [newM]⟩
theorem mnew_eq (k : Nat) (g : Geo) : F9 k (g.1, g.2, g.3, g.4) = some (if gOk g = true then .inr (newM g).tup else .inl ()) := by
  obtain ⟨g1, g2, g3, g4⟩ := g
  unfold F9
  simp only [pgood_eq, Option.bind_some]
  cases hg : gOk ⟨g1, g2, g3, g4⟩ with
  | false => rfl
  | true =>
    have hs := gOk_spec hg
    simp only at hs
    have d1 : decide ((0 : Int) ≤ g1) = true := decide_eq_true (by omega)
    have d2 : decide (g1 ≤ (roomMost : Int)) = true := decide_eq_true (show g1 ≤ ((4294967296 : Nat) : Int) by omega)
    simp only [Bool.not_true, cond_false, decide_true, d1, d2, Bool.and_self, cond_true, pcap_eq k hg, Option.bind_some, if_true]
    rfl
theorem chkM_bd (m : MS) (p : Int) : chkM m p = 0 ∨ chkM m p = 16 ∨ chkM m p = 17 := by
  unfold chkM
  split
  · exact .inr (.inl rfl)
  split
  · exact .inr (.inl rfl)
  split
  · exact .inr (.inr rfl)
  exact .inl rfl
theorem setPins_ok {m : MS} (h : MOk m) (s : Int) {l : List Int} (hl : l.length ≤ 16) : MOk (m.setPins s l) := by
  obtain ⟨hp, hn, h0, h1, h2, h3⟩ := h
  unfold MS.setPins
  split
  · exact ⟨hp, hn, hl, h1, h2, h3⟩
  split
  · exact ⟨hp, hn, h0, hl, h2, h3⟩
  split
  · exact ⟨hp, hn, h0, h1, hl, h3⟩
  exact ⟨hp, hn, h0, h1, h2, hl⟩
theorem pins_len {m : MS} (h : MOk m) (s : Int) : (m.pins s).length ≤ 16 := by
  obtain ⟨hp, hn, h0, h1, h2, h3⟩ := h
  unfold MS.pins
  split
  · exact h0
  split
  · exact h1
  split
  · exact h2
  exact h3
theorem setPins_HP (m : MS) (s : Int) (l : List Int) : (m.setPins s l).H = m.H ∧ (m.setPins s l).P = m.P ∧ (m.setPins s l).most = m.most := by
  unfold MS.setPins
  split
  · exact ⟨rfl, rfl, rfl⟩
  split
  · exact ⟨rfl, rfl, rfl⟩
  split <;> exact ⟨rfl, rfl, rfl⟩
/-- a model that is one, behind an operation -/
def Pg32 (m : MS) : Prop := ∀ x ∈ m.P, x.length = 32
theorem doM_ok {m : MS} (h : MOk m) (hz : Pg32 m) (s kd p off : Int) (d : List Int) : MOk (doM m s kd p off d).2.2.2 ∧ Pg32 (doM m s kd p off d).2.2.2 ∧ (doM m s kd p off d).2.2.2.H.length = m.H.length ∧ (doM m s kd p off d).2.2.2.most = m.most := by
  have same : MOk m ∧ Pg32 m ∧ m.H.length = m.H.length ∧ m.most = m.most := ⟨h, hz, rfl, rfl⟩
  have hH := h
  obtain ⟨hp, hn, h0, h1, h2, h3⟩ := h
  have setp : ∀ (i : Nat) (v : List Int), v.length = 32 → ∀ x ∈ m.P.set i v, x.length = 32 := by
    intro i v hv x hx
    rcases List.mem_or_eq_of_mem_set hx with h | h
    · exact hz x h
    · rw [h]; exact hv
  unfold doM
  split
  · exact same
  split
  · unfold alM
    split
    · exact ⟨⟨by simpa using hp, by simpa using hn, h0, h1, h2, h3⟩, setp _ _ rfl, by simp, rfl⟩
    · exact same
  split
  · exact same
  split
  · split
    · rename_i hc
      have hb := chkM_ok hc
      unfold pgM
      split
      · exact same
      split
      · unfold wrM
        split
        · rename_i hf
          refine ⟨⟨by simpa using hp, hn, h0, h1, h2, h3⟩, setp _ _ ?_, rfl, rfl⟩
          have hg : (m.P.getD p.toNat zpage).length = 32 := by
            apply hz
            rw [List.getD_eq_getElem?_getD, List.getElem?_eq_getElem (by omega)]
            exact List.getElem_mem _
          rw [lay_length (by have := fit_spec hf; omega)]; exact hg
        · exact same
      split
      · unfold frM
        split
        · exact same
        · exact ⟨⟨by simpa using hp, by simpa using hn, h0, h1, h2, h3⟩, hz, by simp, rfl⟩
      split
      · unfold pinM
        split
        · exact same
        · have e := setPins_HP m s (m.pins s ++ [p])
          refine ⟨setPins_ok hH s (by simp; omega), ?_, by rw [e.1], e.2.2⟩
          unfold Pg32
          simp only [e.2.1]
          exact hz
      split
      · unfold unM
        split
        · exact same
        · rename_i i _
          have e := setPins_HP m s ((m.pins s).eraseIdx i)
          refine ⟨setPins_ok hH s (Nat.le_trans (List.length_eraseIdx_le ..) (pins_len hH s)), ?_, by rw [e.1], e.2.2⟩
          unfold Pg32
          simp only [e.2.1]
          exact hz
      · exact same
    · exact same
  · exact same

/-! ### numbers of pins and pages -/
def sumC (l : List Int) (n : Nat) : Nat := ((List.range n).map fun (p : Nat) => l.count (p : Int)).sum
theorem sumC_succ (l : List Int) (n : Nat) : sumC l (n + 1) = sumC l n + l.count (n : Int) := by
  unfold sumC
  rw [List.range_succ, List.map_append, List.sum_append]
  simp
theorem sumC_nil (n : Nat) : sumC [] n = 0 := by
  induction n with
  | zero => rfl
  | succ n ih => rw [sumC_succ, ih]; rfl
theorem sumC_cons (a : Int) (l : List Int) (n : Nat) : sumC (a :: l) n = sumC l n + (if 0 ≤ a ∧ a < n then 1 else 0) := by
  induction n with
  | zero =>
    have h : ¬ (0 ≤ a ∧ a < ((0 : Nat) : Int)) := by omega
    rw [if_neg h]; rfl
  | succ n ih =>
    rw [sumC_succ, sumC_succ, ih, List.count_cons]
    by_cases h : a = (n : Int)
    · have hb : (a == (n : Int)) = true := by simpa using h
      rw [if_pos hb]
      split <;> split <;> omega
    · have hb : ¬ (a == (n : Int)) = true := by simpa using h
      rw [if_neg hb]
      split <;> split <;> omega
theorem sumC_len {l : List Int} {n : Nat} (h : ∀ x ∈ l, 0 ≤ x ∧ x < n) : sumC l n = l.length := by
  induction l with
  | nil => rw [sumC_nil]; rfl
  | cons a l ih =>
    rw [sumC_cons, ih fun x hx => h x (List.mem_cons_of_mem _ hx), if_pos (h a (by simp))]
    rfl
theorem chgTo_cnt (l : List Int) : ∀ n, n ≤ l.length → (chgTo l [] n).length = cnt (l.take n) := by
  intro n
  induction n with
  | zero => intro _; rfl
  | succ n ih =>
    intro h
    rw [chgTo_next, List.length_append, ih (by omega), cnt_take (by omega)]
    unfold dif
    by_cases e : l.getD n 0 = 0
    · have : (l.getD n 0 != ([] : List Int).getD n 0) = false := by rw [e]; rfl
      rw [this, if_pos e]; rfl
    · have : (l.getD n 0 != ([] : List Int).getD n 0) = true := by
        rw [show ([] : List Int).getD n 0 = 0 from rfl]; simpa using e
      rw [this, if_neg e]; rfl
theorem chg_cnt (l : List Int) : (chg l []).length = cnt l := by
  unfold chg
  rw [show max l.length ([] : List Int).length = l.length by simp, chgTo_cnt l _ (Nat.le_refl _), List.take_length]
/-- the places of what is there -/
def thTo (t : List Bool) (n : Nat) : List Int := ((List.range n).filter fun i => t.getD i false).map fun (i : Nat) => (i : Int)
theorem thTo_next (t : List Bool) (n : Nat) : thTo t (n + 1) = thTo t n ++ (if t.getD n false = true then [(n : Int)] else []) := by
  unfold thTo
  rw [List.range_succ, List.filter_append, List.map_append]
  congr 1
  cases e : t.getD n false with
  | true => rw [List.filter_cons_of_pos (by exact e), if_pos rfl]; rfl
  | false => rw [List.filter_cons_of_neg (by rw [e]; decide), if_neg (by decide)]; rfl
theorem thTo_more {t : List Bool} {n : Nat} (h : ∀ i, n ≤ i → t.getD i false = false) : ∀ m, thTo t (n + m) = thTo t n := by
  intro m
  induction m with
  | zero => rfl
  | succ m ih => rw [← Nat.add_assoc, thTo_next, ih, h (n + m) (by omega), if_neg (by decide), List.append_nil]
theorem thTo_chg {t : List Bool} {l : List Int} : ∀ n, (∀ i, i < n → l.getD i 0 = if t.getD i false = true then 1 else 0) → thTo t n = chgTo l [] n := by
  intro n
  induction n with
  | zero => intro _; rfl
  | succ n ih =>
    intro h
    rw [thTo_next, chgTo_next, ih fun i hi => h i (by omega)]
    congr 1
    unfold dif
    rw [h n (by omega), show ([] : List Int).getD n 0 = 0 from rfl]
    cases t.getD n false <;> rfl

/-! ### the reference -/
def zrow : List Int := List.replicate 64 0
def chkR (g : Geo) (t : List Bool) (p : Int) : Int := if p < 0 then 16 else if p ≥ g.1 then 16 else if t.getD p.toNat false = true then 0 else 17
/-- the pins of a session, and how often each page is among them -/
structure PinRel (l nn : List Int) : Prop where
  len : nn.length = 64
  cnt : ∀ p : Nat, p < 64 → nn.getD p 0 = (l.count (p : Int) : Int)
  mem : ∀ x ∈ l, 0 ≤ x ∧ x < 64
theorem count_le16 {l : List Int} (h : l.length ≤ 16) (x : Int) : l.count x ≤ 16 := Nat.le_trans List.count_le_length h
def cs (l : Int → List Int) (p : Int) : Nat → Nat
  | 0 => 0
  | j + 1 => cs l p j + (l (j : Int)).count p
theorem cs_le {l : Int → List Int} {p : Int} (h : ∀ s : Nat, s < 4 → (l s).length ≤ 16) : ∀ j, j ≤ 4 → cs l p j ≤ 16 * j := by
  intro j
  induction j with
  | zero => intro _; exact Nat.le_refl _
  | succ j ih =>
    intro hj
    have := ih (by omega)
    have := count_le16 (h j (by omega)) p
    unfold cs
    omega
/-! ### a model, and its reference -/
structure Rel (g : Geo) (m : MS) (t : List Bool) (P N : List (List Int)) : Prop where
  ok : MOk m
  pg : Pg32 m
  hn : (m.H.length : Int) = g.1
  most : m.most = capF g
  tl : t.length = 64
  pl : P.length = 64
  p32 : ∀ x ∈ P, x.length = 32
  nl : N.length = 4
  h01 : ∀ i : Nat, i < m.H.length → m.H.getD i 0 = if t.getD i false = true then 1 else 0
  bey : ∀ i : Nat, m.H.length ≤ i → t.getD i false = false
  pag : ∀ i : Nat, i < m.H.length → m.P.getD i zpage = P.getD i zpage
  pin : ∀ s : Nat, s < 4 → PinRel (m.pins (s : Int)) (N.getD s zrow)
theorem getD_setB {t : List Bool} {i j : Nat} {b : Bool} (h : i < t.length) : (t.set i b).getD j false = if j = i then b else t.getD j false := by
  rw [List.getD_eq_getElem?_getD, List.getD_eq_getElem?_getD, List.getElem?_set]
  by_cases e : i = j
  · subst e; simp [h]
  · rw [if_neg e, if_neg (fun x => e x.symm)]
theorem getD_setI {t : List Int} {i j : Nat} {b : Int} (h : i < t.length) : (t.set i b).getD j 0 = if j = i then b else t.getD j 0 := by
  rw [List.getD_eq_getElem?_getD, List.getD_eq_getElem?_getD, List.getElem?_set]
  by_cases e : i = j
  · subst e; simp [h]
  · rw [if_neg e, if_neg (fun x => e x.symm)]
theorem getD_setL {t : List (List Int)} {i j : Nat} {b d : List Int} (h : i < t.length) : (t.set i b).getD j d = if j = i then b else t.getD j d := by
  rw [List.getD_eq_getElem?_getD, List.getD_eq_getElem?_getD, List.getElem?_set]
  by_cases e : i = j
  · subst e; simp [h]
  · rw [if_neg e, if_neg (fun x => e x.symm)]
theorem set32 {P : List (List Int)} (h : ∀ x ∈ P, x.length = 32) {i : Nat} {v : List Int} (hv : v.length = 32) : ∀ x ∈ P.set i v, x.length = 32 := by
  intro x hx
  rcases List.mem_or_eq_of_mem_set hx with e | e
  · exact h x e
  · rw [e]; exact hv
theorem get32 {P : List (List Int)} (h : ∀ x ∈ P, x.length = 32) {i : Nat} (hi : i < P.length) : (P.getD i zpage).length = 32 := by
  apply h
  rw [List.getD_eq_getElem?_getD, List.getElem?_eq_getElem hi]
  exact List.getElem_mem _
theorem pins_set (m : MS) {s u : Int} (hs : 0 ≤ s ∧ s < 4) (hu : 0 ≤ u ∧ u < 4) (l : List Int) : (m.setPins s l).pins u = if u = s then l else m.pins u := by
  have h1 : s = 0 ∨ s = 1 ∨ s = 2 ∨ s = 3 := by omega
  have h2 : u = 0 ∨ u = 1 ∨ u = 2 ∨ u = 3 := by omega
  rcases h1 with rfl | rfl | rfl | rfl <;> rcases h2 with rfl | rfl | rfl | rfl <;> rfl
theorem held_cs (m : MS) (p : Int) : m.held p = decide (0 < cs m.pins p 4) := by
  have e : cs m.pins p 4 = m.p0.count p + m.p1.count p + m.p2.count p + m.p3.count p := by
    show 0 + m.p0.count p + m.p1.count p + m.p2.count p + m.p3.count p = _
    omega
  rw [e]
  unfold MS.held
  rw [Bool.eq_iff_iff]
  simp only [Bool.or_eq_true, decide_eq_true_eq]
  omega
theorem fx_erase {p : Int} : ∀ {l : List Int} {i : Nat}, fx p l = some i → ∀ x, l.count x = (l.eraseIdx i).count x + (if x = p then 1 else 0) := by
  intro l
  induction l with
  | nil => intro i h; cases h
  | cons y r ih =>
    intro i h x
    unfold fx at h
    by_cases hy : y = p
    · rw [if_pos hy] at h
      cases h
      subst hy
      rw [List.count_cons, List.eraseIdx_cons_zero]
      by_cases hx : x = y
      · subst hx; simp
      · rw [if_neg hx]
        have : (y == x) = false := by simpa using fun e => hx e.symm
        rw [this]; rfl
    · rw [if_neg hy] at h
      cases hr : fx p r with
      | none => rw [hr] at h; cases h
      | some j =>
        rw [hr] at h
        cases h
        rw [List.eraseIdx_cons_succ, List.count_cons, List.count_cons, ih hr x]
        omega
theorem fx_none0 {p : Int} {l : List Int} : fx p l = none ↔ l.count p = 0 := by
  have := fx_count p l
  cases hf : fx p l with
  | none =>
    rw [hf] at this
    have h2 : decide (0 < l.count p) = false := this.symm
    have := of_decide_eq_false h2
    exact ⟨fun _ => (by omega), fun _ => rfl⟩
  | some i =>
    rw [hf] at this
    have h2 : decide (0 < l.count p) = true := this.symm
    have := of_decide_eq_true h2
    exact ⟨fun h => (by cases h), fun h => (by omega)⟩
theorem PinRel.add {l nn : List Int} (h : PinRel l nn) {p : Int} (hp : 0 ≤ p ∧ p < 64) : PinRel (l ++ [p]) (nn.set p.toNat ((l.count p : Int) + 1)) := by
  refine ⟨by rw [List.length_set]; exact h.len, fun q hq => ?_, fun x hx => ?_⟩
  · rw [getD_setI (by rw [h.len]; omega), List.count_append]
    by_cases e : q = p.toNat
    · have e2 : (q : Int) = p := by omega
      rw [if_pos e, e2]
      simp
    · rw [if_neg e, h.cnt q hq]
      have : ¬ p = (q : Int) := by omega
      simp [this]
  · rcases List.mem_append.1 hx with h1 | h1
    · exact h.mem x h1
    · have : x = p := by simpa using h1
      rw [this]; exact hp
theorem PinRel.drop {l nn : List Int} (h : PinRel l nn) {p : Int} {i : Nat} (hp : 0 ≤ p ∧ p < 64) (hf : fx p l = some i) : PinRel (l.eraseIdx i) (nn.set p.toNat ((l.count p : Int) - 1)) := by
  have hc := fx_erase hf
  refine ⟨by rw [List.length_set]; exact h.len, fun q hq => ?_, fun x hx => h.mem x (List.mem_of_mem_eraseIdx hx)⟩
  rw [getD_setI (by rw [h.len]; omega)]
  have := hc (q : Int)
  by_cases e : q = p.toNat
  · have e2 : (q : Int) = p := by omega
    rw [if_pos e, e2]
    rw [e2, if_pos rfl] at this
    omega
  · rw [if_neg e, h.cnt q hq]
    rw [if_neg (by omega)] at this
    omega
theorem chk_same {g : Geo} {m : MS} {t : List Bool} {P N : List (List Int)} (R : Rel g m t P N) (p : Int) : chkR g t p = chkM m p := by
  unfold chkR chkM
  by_cases h1 : p < 0
  · rw [if_pos h1, if_pos h1]
  by_cases h2 : p ≥ g.1
  · rw [if_neg h1, if_neg h1, if_pos h2, if_pos (show p ≥ (m.H.length : Int) by rw [R.hn]; exact h2)]
  rw [if_neg h1, if_neg h1, if_neg h2, if_neg (show ¬ p ≥ (m.H.length : Int) by rw [R.hn]; exact h2)]
  have := R.h01 p.toNat (by have := R.hn; omega)
  rw [this]
  cases t.getD p.toNat false <;> rfl
theorem pages_same {g : Geo} (hg : gOk g = true) {m : MS} {t : List Bool} {P N : List (List Int)} (R : Rel g m t P N) : thTo t 64 = chg m.H [] := by
  have hs := gOk_spec hg
  have hn := R.hn
  have h1 : 64 = m.H.length + (64 - m.H.length) := by have := R.ok.hn; omega
  rw [h1, thTo_more R.bey, thTo_chg m.H.length R.h01]
  unfold chg
  rw [show max m.H.length ([] : List Int).length = m.H.length by simp]
/-- the same, pins aside, at what sets a page -/
theorem Rel.same {g : Geo} {m : MS} {t : List Bool} {P N : List (List Int)} (R : Rel g m t P N) : Rel g m t P N := R
theorem Rel.set {g : Geo} {m m' : MS} {t : List Bool} {P N : List (List Int)} (R : Rel g m t P N) {p : Nat} (hp : p < m.H.length) {b : Bool} {v : List Int} (hv : v.length = 32)
    (hm : m' = { m with H := m.H.set p (if b = true then 1 else 0), P := m.P.set p v }) : Rel g m' (t.set p b) (P.set p v) N := by
  have hok := R.ok
  have hP := hok.hp
  subst hm
  refine ⟨⟨by simpa using hP, by simpa using hok.hn, hok.l0, hok.l1, hok.l2, hok.l3⟩, set32 R.pg hv, by simpa using R.hn, R.most, by rw [List.length_set]; exact R.tl, by rw [List.length_set]; exact R.pl, set32 R.p32 hv, R.nl, ?_, ?_, ?_, R.pin⟩
  · intro i hi
    simp only [List.length_set] at hi
    show (m.H.set p (if b = true then 1 else 0)).getD i 0 = _
    rw [getD_setI hp, getD_setB (by rw [R.tl]; have := hok.hn; omega)]
    by_cases e : i = p
    · rw [if_pos e, if_pos e]
    · rw [if_neg e, if_neg e]; exact R.h01 i hi
  · intro i hi
    simp only [List.length_set] at hi
    rw [getD_setB (by rw [R.tl]; have := hok.hn; omega), if_neg (by omega)]
    exact R.bey i hi
  · intro i hi
    simp only [List.length_set] at hi
    show (m.P.set p v).getD i zpage = _
    rw [getD_setL (by omega), getD_setL (by rw [R.pl]; have := hok.hn; omega)]
    by_cases e : i = p
    · rw [if_pos e, if_pos e]
    · rw [if_neg e, if_neg e]; exact R.pag i hi
theorem set_self {l : List Int} {i : Nat} (h : i < l.length) {v : Int} (hv : l.getD i 0 = v) : l.set i v = l := by
  apply ext_getD (by simp)
  intro j _
  rw [getD_setI h]
  by_cases e : j = i
  · rw [if_pos e, e, hv]
  · rw [if_neg e]
theorem set_selfB {l : List Bool} {i : Nat} (h : i < l.length) {v : Bool} (hv : l.getD i false = v) : l.set i v = l := by
  apply List.ext_getElem (by simp)
  intro j h1 h2
  have := getD_setB (j := j) (b := v) h
  rw [List.getD_eq_getElem?_getD, List.getElem?_eq_getElem h1, List.getD_eq_getElem?_getD, List.getElem?_eq_getElem h2] at this
  simp only [Option.getD_some] at this
  rw [this]
  by_cases e : j = i
  · subst e; rw [if_pos rfl, ← hv, List.getD_eq_getElem?_getD, List.getElem?_eq_getElem h]; rfl
  · rw [if_neg e]
theorem set_selfL {l : List (List Int)} {i : Nat} (h : i < l.length) {v : List Int} (hv : l.getD i zpage = v) : l.set i v = l := by
  apply List.ext_getElem (by simp)
  intro j h1 h2
  have := getD_setL (j := j) (b := v) (d := zpage) h
  rw [List.getD_eq_getElem?_getD, List.getElem?_eq_getElem h1, List.getD_eq_getElem?_getD, List.getElem?_eq_getElem h2] at this
  simp only [Option.getD_some] at this
  rw [this]
  by_cases e : j = i
  · subst e; rw [if_pos rfl, ← hv, List.getD_eq_getElem?_getD, List.getElem?_eq_getElem h]; rfl
  · rw [if_neg e]
theorem Rel.setPins {g : Geo} {m : MS} {t : List Bool} {P N : List (List Int)} (R : Rel g m t P N) {s : Int} (hs : 0 ≤ s ∧ s < 4) {l nn : List Int} (hl : PinRel l nn) (h16 : l.length ≤ 16) : Rel g (m.setPins s l) t P (N.set s.toNat nn) := by
  have e := setPins_HP m s l
  refine ⟨setPins_ok R.ok s h16, ?_, by rw [e.1]; exact R.hn, by rw [e.2.2]; exact R.most, R.tl, R.pl, R.p32, by rw [List.length_set]; exact R.nl, ?_, ?_, ?_, ?_⟩
  · unfold Pg32; rw [e.2.1]; exact R.pg
  · rw [e.1]; exact R.h01
  · rw [e.1]; exact R.bey
  · rw [e.1, e.2.1]; exact R.pag
  · intro u hu
    rw [pins_set m hs ⟨by omega, by omega⟩, getD_setL (by rw [R.nl]; omega)]
    by_cases h : (u : Int) = s
    · rw [if_pos h, if_pos (by omega)]; exact hl
    · rw [if_neg h, if_neg (by omega)]; exact R.pin u hu

/-! ### an operation: the same of both -/
theorem fz_first {g : Geo} {m : MS} {t : List Bool} {P N : List (List Int)} (R : Rel g m t P N) (j : Nat) (hj : j < m.H.length) : m.H.getD j 0 = 0 ↔ t.getD j false = false := by
  rw [R.h01 j hj]
  cases t.getD j false <;> simp
/-! ### plays -/
abbrev Ask := T43
abbrev Opx := T41
def a0 : Ask := .mk 0 (.mk 0 0 0 []) false
def fairB (l : List Ask) : Bool := (l.all fun x => decide (x.2.4.length ≤ 100)) && decide (l.length ≤ 150)
theorem fair_eq {k : Nat} {l : List Ask} (hk : l.length + 1000 < k) (hM : l.length ≤ 9223372036854775807) : F7 k (l, ()) = some (decide (∀ x ∈ l, x.2.4.length ≤ 100) && decide ((l.length : Int) ≤ 150)) := by
  have := iter_out (R := R7_2 k) (fun x : List Ask × Int => ∃ j : Nat, j ≤ l.length ∧ (∀ i, i < j → (l.getD i a0).2.4.length ≤ 100) ∧ x = (l, (j : Int)))
    (fun x => l.length - x.2.toNat) (fun _ => if (∀ x ∈ l, x.2.4.length ≤ 100) then (.inr l : (List Ask × Bool) ⊕ List Ask) else .inl (l, false)) (fun x hx => by
      obtain ⟨j, hj, hb, rfl⟩ := hx
      by_cases hi : j < l.length
      · have e8 : decide ((j : Int) < (l.length : Int)) = true := by simp; omega
        have r1 := inRange_true (i := (j : Int)) (n := l.length) ⟨by omega, by omega⟩
        by_cases hl : (l.getD j a0).2.4.length ≤ 100
        · right
          · have e1 : IntKind.i64.wrap ((j : Int) + 1) = ((j + 1 : Nat) : Int) := by rw [wI_in (by omega)]; rfl
            have d1 : decide (((l.getD j a0).2.4.length : Int) > 100) = false := decide_eq_false (by omega)
            refine ⟨(l, ((j + 1 : Nat) : Int)), fun again => ?_, ⟨j + 1, by omega, fun i hi' => ?_, rfl⟩, by simp only; omega, rfl⟩
            · unfold R7_2
              simp only [e8, cond_true, r1, Int.toNat_natCast, e1]
              show (bif decide (((l.getD j a0).2.4.length : Int) > 100) then _ else _) = _
              rw [d1]; rfl
            · by_cases h : i = j
              · subst h; exact hl
              · exact hb i (by omega)
        · left
          intro again
          have d1 : decide (((l.getD j a0).2.4.length : Int) > 100) = true := decide_eq_true (by omega)
          have hn : ¬ ∀ x ∈ l, x.2.4.length ≤ 100 := fun h => hl (by
            apply h
            rw [List.getD_eq_getElem?_getD, List.getElem?_eq_getElem hi]
            exact List.getElem_mem _)
          rw [if_neg hn]
          unfold R7_2
          simp only [e8, cond_true, r1, Int.toNat_natCast]
          show (bif decide (((l.getD j a0).2.4.length : Int) > 100) then _ else _) = _
          rw [d1]; rfl
      · left
        intro again
        have hjl : j = l.length := by omega
        subst hjl
        have hall : ∀ x ∈ l, x.2.4.length ≤ 100 := fun x hx => by
          obtain ⟨i, hi, rfl⟩ := List.mem_iff_getElem.1 hx
          have := hb i hi
          rw [List.getD_eq_getElem?_getD, List.getElem?_eq_getElem hi] at this
          exact this
        have e8 : decide ((l.length : Int) < (l.length : Int)) = false := by simp
        rw [if_pos hall]
        unfold R7_2
        simp only [e8, cond_false]) (n := k) (x := (l, 0)) ⟨0, by omega, fun i h => absurd h (Nat.not_lt_zero i), rfl⟩ (by simp; omega)
  unfold F7 L7_2
  simp only
  rw [this]
  by_cases h : ∀ x ∈ l, x.2.4.length ≤ 100
  · rw [if_pos h, decide_eq_true h]; simp only [Option.bind_some, sumK, Bool.true_and]
  · rw [if_neg h, decide_eq_false h]; simp only [Option.bind_some, sumK, Bool.false_and]

/-- a model's and its reference's state, as they go through the law -/
abbrev RS := List Bool × List (List Int) × List (List Int)
theorem mdo_c {k : Nat} (hk : 1000 < k) {m : MS} (h : MOk m) (hz : ∀ x ∈ m.P, x.length = 32) {s kd p off : Int} {d : List Int} (hd : d.length ≤ 1000000) :
    F14 k (s, kd, p, off, d, m.most, m.H, m.P, m.p0, m.p1, m.p2, m.p3) = some ((doM m s kd p off d).1, (doM m s kd p off d).2.1, (doM m s kd p off d).2.2.1, (doM m s kd p off d).2.2.2.most, (doM m s kd p off d).2.2.2.H, (doM m s kd p off d).2.2.2.P, (doM m s kd p off d).2.2.2.p0, (doM m s kd p off d).2.2.2.p1, (doM m s kd p off d).2.2.2.p2, (doM m s kd p off d).2.2.2.p3) := mdo_eq hk h hz hd
theorem mcopy_c {k : Nat} (hk : 1000 < k) {m : MS} (h : MOk m) : F11 k (m.most, m.H, m.P, m.p0, m.p1, m.p2, m.p3) = some (m.most, m.most, m.H, m.P, m.p0, m.p1, m.p2, m.p3, m.H, m.P, m.p0, m.p1, m.p2, m.p3) := mcopy_eq hk h
theorem own_c (k : Nat) {x : Ask} (h : x.2.4.length ≤ 100) : F15 k (.mk x.2.1 x.2.2 x.2.3 x.2.4, ()) = some (.mk x.2.1 x.2.2 x.2.3 x.2.4) := by
  unfold F15
  have hr : decide ((List.replicate (0 : Nat) (0 : Int)).length + x.2.4.length ≤ roomMost) = true := roomMost_ge (by simp; omega)
  simp only [hr, cond_true]
  rfl
theorem wakes_k {k : Nat} (hk : 400 ≤ k) : F8 k () = some true := by
  obtain ⟨n, rfl⟩ : ∃ n, k = n + 400 := ⟨k - 400, by omega⟩
  kernel_rfl

/-! ### ModelPlays -/
/-- both loops: the state of the one model and its reference, of the other one and its own -/
abbrev st12 (l : List Ask) (cut i : Int) (g : Geo) (m : MS) (t : List Bool) (P N : List (List Int)) (n : MS) (t' : List Bool) (P' N' : List (List Int)) :=
  (l, cut, i, m.most, g.1, g.2, g.3, g.4, t, P, n.most, g.1, g.2, g.3, g.4, t', P', m.H, m.P, m.p0, m.p1, m.p2, m.p3, n.H, n.P, n.p0, n.p1, n.p2, n.p3, N, N')
abbrev en12 (l : List Ask) (g : Geo) (m : MS) (t : List Bool) (P N : List (List Int)) (n : MS) (t' : List Bool) (P' N' : List (List Int)) :=
  (l, m.most, g.1, g.2, g.3, g.4, t, P, n.most, g.1, g.2, g.3, g.4, t', P', m.H, m.P, m.p0, m.p1, m.p2, m.p3, n.H, n.P, n.p0, n.p1, n.p2, n.p3, N, N')
abbrev st21 (l : List Ask) (i : Int) (g : Geo) (m : MS) (t : List Bool) (P N : List (List Int)) (n : MS) (t' : List Bool) (P' N' : List (List Int)) :=
  (l, i, m.most, g.1, g.2, g.3, g.4, t, P, n.most, g.1, g.2, g.3, g.4, t', P', m.H, m.P, m.p0, m.p1, m.p2, m.p3, n.H, n.P, n.p0, n.p1, n.p2, n.p3, N, N')
abbrev en21 (g : Geo) (m : MS) (t : List Bool) (P N : List (List Int)) (n : MS) (t' : List Bool) (P' N' : List (List Int)) :=
  (m.most, g.1, g.2, g.3, g.4, t, P, n.most, g.1, g.2, g.3, g.4, t', P', m.H, m.P, m.p0, m.p1, m.p2, m.p3, n.H, n.P, n.p0, n.p1, n.p2, n.p3, N, N')
theorem rel_new {g : Geo} (hg : gOk g = true) : Rel g (newM g) (List.replicate 64 false) (List.replicate 64 zpage) (List.replicate 4 zrow) := by
  have hs := gOk_spec hg
  have gb : ∀ i, (List.replicate 64 false).getD i false = false := fun i => by
    rw [List.getD_eq_getElem?_getD, List.getElem?_replicate]; split <;> rfl
  have gz : ∀ (n i : Nat), (List.replicate n (0 : Int)).getD i 0 = 0 := fun n i => by
    rw [List.getD_eq_getElem?_getD, List.getElem?_replicate]; split <;> rfl
  have gp : ∀ (n i : Nat), (List.replicate n zpage).getD i zpage = zpage := fun n i => by
    rw [List.getD_eq_getElem?_getD, List.getElem?_replicate]; split <;> rfl
  have z32 : ∀ (n : Nat), ∀ x ∈ List.replicate n zpage, x.length = 32 := fun n x hx => by
    rw [List.eq_of_mem_replicate hx]; rfl
  refine ⟨newM_ok hg, z32 _, by simp [newM]; omega, rfl, rfl, rfl, z32 _, rfl, fun i _ => ?_, fun i _ => gb i, fun i _ => ?_, fun s hs => ?_⟩
  · show (List.replicate g.1.toNat (0 : Int)).getD i 0 = _
    rw [gz, gb]; rfl
  · show (List.replicate g.1.toNat zpage).getD i zpage = _
    rw [gp, gp]
  · have hp : (newM g).pins (s : Int) = [] := by
      unfold MS.pins newM
      split
      · rfl
      split
      · rfl
      split <;> rfl
    have hz : (List.replicate 4 zrow).getD s zrow = zrow := by
      rw [List.getD_eq_getElem?_getD, List.getElem?_replicate]; split <;> rfl
    rw [hp, hz]
    exact ⟨rfl, fun p _ => gz 64 p, fun x hx => by cases hx⟩
/-! ### ModelReads -/
structure RL (g : Geo) (m : MS) (t : List Bool) (P : List (List Int)) : Prop where
  ok : MOk m
  pg : Pg32 m
  hn : (m.H.length : Int) = g.1
  most : m.most = capF g
  tl : t.length = 64
  pl : P.length = 64
  p32 : ∀ x ∈ P, x.length = 32
  h01 : ∀ i : Nat, i < m.H.length → m.H.getD i 0 = if t.getD i false = true then 1 else 0
  bey : ∀ i : Nat, m.H.length ≤ i → t.getD i false = false
  pag : ∀ i : Nat, i < m.H.length → m.P.getD i zpage = P.getD i zpage
  cap : (cnt m.H : Int) ≤ m.most
theorem cnt_set0 {l : List Int} {i : Nat} (h : i < l.length) : cnt (l.set i 0) ≤ cnt l := by
  unfold cnt
  rw [List.countP_set h]
  simp
theorem RL.set {g : Geo} {m m' : MS} {t : List Bool} {P : List (List Int)} (R : RL g m t P) {p : Nat} (hp : p < m.H.length) {b : Bool} {v : List Int} (hv : v.length = 32)
    (ok : MOk m') (pg : Pg32 m') (hH : m'.H = m.H.set p (if b = true then 1 else 0)) (hP : m'.P = m.P.set p v) (hm : m'.most = m.most) (hc : (cnt m'.H : Int) ≤ m.most) : RL g m' (t.set p b) (P.set p v) := by
  have hok := R.ok
  have hPl := hok.hp
  refine ⟨ok, pg, by rw [hH]; simpa using R.hn, by rw [hm]; exact R.most, by rw [List.length_set]; exact R.tl, by rw [List.length_set]; exact R.pl, set32 R.p32 hv, ?_, ?_, ?_, by rw [hm]; exact hc⟩
  · intro i hi
    rw [hH] at hi ⊢
    simp only [List.length_set] at hi
    rw [getD_setI hp, getD_setB (by rw [R.tl]; have := hok.hn; omega)]
    by_cases e : i = p
    · rw [if_pos e, if_pos e]
    · rw [if_neg e, if_neg e]; exact R.h01 i hi
  · intro i hi
    rw [hH] at hi
    simp only [List.length_set] at hi
    rw [getD_setB (by rw [R.tl]; have := hok.hn; omega), if_neg (by omega)]
    exact R.bey i hi
  · intro i hi
    rw [hH] at hi
    rw [hP]
    simp only [List.length_set] at hi
    rw [getD_setL (by omega), getD_setL (by rw [R.pl]; have := hok.hn; omega)]
    by_cases e : i = p
    · rw [if_pos e, if_pos e]
    · rw [if_neg e, if_neg e]; exact R.pag i hi
theorem RL.keep {g : Geo} {m m' : MS} {t : List Bool} {P : List (List Int)} (R : RL g m t P) (ok : MOk m') (pg : Pg32 m') (hH : m'.H = m.H) (hP : m'.P = m.P) (hm : m'.most = m.most) : RL g m' t P := by
  refine ⟨ok, pg, by rw [hH]; exact R.hn, by rw [hm]; exact R.most, R.tl, R.pl, R.p32, by rw [hH]; exact R.h01, by rw [hH]; exact R.bey, by rw [hH, hP]; exact R.pag, by rw [hH, hm]; exact R.cap⟩
/-- what an answer without a code says of the pages that are there and their contents -/
def Good12 (g : Geo) (m : MS) (t : List Bool) (P : List (List Int)) (kd p off : Int) (d : List Int) (r : Int × Int × List Int × MS) : Prop :=
  (r.1 ≠ 0 ∧ r.2.1 = 0 ∧ r.2.2.1 = [] ∧ r.2.2.2 = m) ∨
  (r.1 = 0 ∧ kd = 3 ∧ ∃ i : Nat, r.2.1 = (i : Int) ∧ i < m.H.length ∧ t.getD i false = false ∧ RL g r.2.2.2 (t.set i true) (P.set i zpage)) ∨
  (r.1 = 0 ∧ kd = 5 ∧ r.2.2.2 = m) ∨
  (r.1 = 0 ∧ (0 ≤ p ∧ p < m.H.length) ∧ t.getD p.toNat false = true ∧ (
    (kd = 1 ∧ r.2.2.1 = P.getD p.toNat zpage ∧ r.2.2.2 = m) ∨
    (kd = 2 ∧ fitB off d.length = true ∧ RL g r.2.2.2 t (P.set p.toNat (lay (P.getD p.toNat zpage) off.toNat d))) ∨
    (kd = 4 ∧ RL g r.2.2.2 (t.set p.toNat false) P) ∨
    ((kd = 6 ∨ kd = 7) ∧ RL g r.2.2.2 t P)))
theorem RL.step {g : Geo} {m : MS} {t : List Bool} {P : List (List Int)} (R : RL g m t P) (s kd p off : Int) (d : List Int) : Good12 g m t P kd p off d (doM m s kd p off d) := by
  have hdo := doM_ok R.ok R.pg s kd p off d
  have hok := R.ok
  have hPl := hok.hp
  have hcap := R.cap
  have hH64 := hok.hn
  unfold Good12
  unfold doM at hdo ⊢
  by_cases hs : s < 0 ∨ s ≥ 4
  · rw [if_pos hs]; exact .inl ⟨by show (20 : Int) ≠ 0; decide, rfl, rfl, rfl⟩
  rw [if_neg hs] at hdo ⊢
  by_cases k3 : kd = 3
  · rw [if_pos k3] at hdo ⊢
    unfold alM at hdo ⊢
    cases hf : (if (cnt m.H : Int) < m.most then fz m.H else none) with
    | none => exact .inl ⟨by show (14 : Int) ≠ 0; decide, rfl, rfl, rfl⟩
    | some i =>
      rw [hf] at hdo
      have hsp := fz_spec m.H
      have hi : i < m.H.length ∧ m.H.getD i 0 = 0 ∧ (cnt m.H : Int) < m.most := by
        split at hf
        · rw [hf] at hsp; exact ⟨hsp.1, hsp.2.1, by assumption⟩
        · cases hf
      refine .inr (.inl ⟨rfl, k3, i, rfl, hi.1, ?_, ?_⟩)
      · cases hx : t.getD i false with
        | false => rfl
        | true => have := R.h01 i hi.1; rw [hx, hi.2.1] at this; exact absurd this (by decide)
      · refine R.set hi.1 (b := true) rfl hdo.1 hdo.2.1 rfl rfl rfl ?_
        show (cnt (m.H.set i 1) : Int) ≤ _
        rw [cnt_set hi.1 hi.2.1]; have := hi.2.2; omega
  rw [if_neg k3] at hdo ⊢
  by_cases k5 : kd = 5
  · rw [if_pos k5]; exact .inr (.inr (.inl ⟨rfl, k5, rfl⟩))
  rw [if_neg k5] at hdo ⊢
  by_cases hpg : isPg kd = true
  · rw [if_pos hpg] at hdo ⊢
    by_cases hch : chkM m p = 0
    · rw [if_pos hch] at hdo ⊢
      have hb := chkM_ok hch
      have hpn : p.toNat < m.H.length := by omega
      have htp : t.getD p.toNat false = true := by
        cases hx : t.getD p.toNat false with
        | true => rfl
        | false => have := R.h01 p.toNat hpn; rw [hx] at this; exact absurd this hb.2.2
      have hH1 : m.H.getD p.toNat 0 = 1 := by rw [R.h01 p.toNat hpn, htp]; rfl
      have hpag := R.pag p.toNat hpn
      have hk' : kd = 1 ∨ kd = 2 ∨ kd = 4 ∨ kd = 6 ∨ kd = 7 := by
        unfold isPg at hpg
        simpa only [Bool.or_eq_true, beq_iff_eq] using hpg
      rcases hk' with rfl | rfl | rfl | rfl | rfl
      · exact .inr (.inr (.inr ⟨rfl, ⟨hb.1, hb.2.1⟩, htp, .inl ⟨rfl, hpag, rfl⟩⟩))
      · unfold pgM at hdo ⊢
        rw [if_neg (by decide), if_pos rfl] at hdo ⊢
        unfold wrM at hdo ⊢
        by_cases hf : fitB off d.length = true
        · rw [if_pos hf] at hdo ⊢
          refine .inr (.inr (.inr ⟨rfl, ⟨hb.1, hb.2.1⟩, htp, .inr (.inl ⟨rfl, hf, ?_⟩)⟩))
          have hft := fit_spec hf
          have h32 : (P.getD p.toNat zpage).length = 32 := get32 R.p32 (by rw [R.pl]; omega)
          have := R.set (m' := { m with P := m.P.set p.toNat (lay (m.P.getD p.toNat zpage) off.toNat d) }) hpn (b := true) (v := lay (P.getD p.toNat zpage) off.toNat d) (by rw [lay_length (by omega)]; exact h32) hdo.1 hdo.2.1 (set_self hpn hH1).symm (by rw [hpag]) rfl hcap
          rwa [set_selfB (by rw [R.tl]; omega) htp] at this
        · rw [if_neg hf]; exact .inl ⟨by show (18 : Int) ≠ 0; decide, rfl, rfl, rfl⟩
      · unfold pgM at hdo ⊢
        rw [if_neg (by decide), if_neg (by decide), if_pos rfl] at hdo ⊢
        unfold frM at hdo ⊢
        by_cases hf : m.held p = true
        · rw [if_pos hf]; exact .inl ⟨by show (19 : Int) ≠ 0; decide, rfl, rfl, rfl⟩
        · rw [if_neg hf] at hdo ⊢
          refine .inr (.inr (.inr ⟨rfl, ⟨hb.1, hb.2.1⟩, htp, .inr (.inr (.inl ⟨rfl, ?_⟩))⟩))
          have h32 : (P.getD p.toNat zpage).length = 32 := get32 R.p32 (by rw [R.pl]; omega)
          have := R.set (m' := { m with H := m.H.set p.toNat 0 }) hpn (b := false) (v := P.getD p.toNat zpage) h32 hdo.1 hdo.2.1 rfl (set_selfL (by omega) hpag).symm rfl (by have := cnt_set0 hpn; show (cnt (m.H.set p.toNat 0) : Int) ≤ _; omega)
          rwa [set_selfL (by rw [R.pl]; omega) rfl] at this
      · unfold pgM at hdo ⊢
        rw [if_neg (by decide), if_neg (by decide), if_neg (by decide), if_pos rfl] at hdo ⊢
        unfold pinM at hdo ⊢
        by_cases hf : 16 ≤ (m.pins s).length
        · rw [if_pos hf]; exact .inl ⟨by show (19 : Int) ≠ 0; decide, rfl, rfl, rfl⟩
        · rw [if_neg hf] at hdo ⊢
          have e := setPins_HP m s (m.pins s ++ [p])
          exact .inr (.inr (.inr ⟨rfl, ⟨hb.1, hb.2.1⟩, htp, .inr (.inr (.inr ⟨.inl rfl, R.keep hdo.1 hdo.2.1 e.1 e.2.1 e.2.2⟩))⟩))
      · unfold pgM at hdo ⊢
        rw [if_neg (by decide), if_neg (by decide), if_neg (by decide), if_neg (by decide), if_pos rfl] at hdo ⊢
        unfold unM at hdo ⊢
        cases hf : fx p (m.pins s) with
        | none => exact .inl ⟨by show (19 : Int) ≠ 0; decide, rfl, rfl, rfl⟩
        | some i =>
          rw [hf] at hdo
          have e := setPins_HP m s ((m.pins s).eraseIdx i)
          exact .inr (.inr (.inr ⟨rfl, ⟨hb.1, hb.2.1⟩, htp, .inr (.inr (.inr ⟨.inr rfl, R.keep hdo.1 hdo.2.1 e.1 e.2.1 e.2.2⟩))⟩))
    · rw [if_neg hch]; exact .inl ⟨hch, rfl, rfl, rfl⟩
  · rw [if_neg hpg]; exact .inl ⟨by show (1 : Int) ≠ 0; decide, rfl, rfl, rfl⟩
theorem mod4_eq (k : Nat) (x : Int) : F19 k (x, 4, ()) = some ((IntKind.i64.wrap (x.tmod 4 + 4)).tmod 4) := by
  unfold F19
  rfl
theorem bytes_c (k : Nat) (a : List Int) : F20 k (a, a, ()) = some true := by
  unfold F20
  simp

/-! ### ModelReads, the loops -/
abbrev stR (l : List Ask) (i : Int) (g : Geo) (m : MS) (P : List (List Int)) (t : List Bool) :=
  (l, i, g.1, g.2, g.3, g.4, m.most, P, t, m.H, m.P, m.p0, m.p1, m.p2, m.p3)
abbrev enR (g : Geo) (m : MS) (P : List (List Int)) (t : List Bool) :=
  (g.1, g.2, g.3, g.4, m.most, P, t, m.H, m.P, m.p0, m.p1, m.p2, m.p3)
theorem loopR {k : Nat} (hk : 1000 < k) {g : Geo} (hg : gOk g = true) {l : List Ask} (hl : l.length ≤ 150) (hd : ∀ x ∈ l, x.2.4.length ≤ 100) {m : MS} {t : List Bool} {P : List (List Int)} (R : RL g m t P) :
    ∃ o, L4_9 k k (stR l 0 g m P t) = some o ∧ ∃ m t P, o = .inr (enR g m P t) ∧ RL g m t P := by
  have hgs := gOk_spec hg
  unfold L4_9
  refine iter_post (R := R4_9 k) (fun x => ∃ (i : Nat) (m : MS) (t : List Bool) (P : List (List Int)), i ≤ l.length ∧ x = stR l (i : Int) g m P t ∧ RL g m t P)
    (fun x => l.length - x.2.1.toNat) (fun _ o => ∃ m t P, o = .inr (enR g m P t) ∧ RL g m t P) (fun x hx => ?_) k _ ⟨0, m, t, P, by omega, rfl, R⟩ (by simp only; omega)
  clear R m t P
  obtain ⟨i, m, t, P, hi, rfl, R⟩ := hx
  by_cases hlt : i < l.length
  · right
    have e1 : IntKind.i64.wrap ((i : Int) + 1) = ((i + 1 : Nat) : Int) := by rw [wI_in (by omega)]; rfl
    have e8 : decide ((i : Int) < (l.length : Int)) = true := decide_eq_true (by omega)
    have r1 := inRange_true (i := (i : Int)) (n := l.length) ⟨by omega, by omega⟩
    generalize hx : l.getD i a0 = x
    have hx2 : x.2.4.length ≤ 100 := by
      rw [← hx, List.getD_eq_getElem?_getD, List.getElem?_eq_getElem hlt]
      exact hd _ (List.getElem_mem _)
    have hx' : l.getD i (T43.mk 0 (T41.mk 0 0 0 []) false) = x := hx
    have hxd : x.2.4.length ≤ 1000000 := by omega
    have hm4 := mod4_eq k x.1
    generalize (IntKind.i64.wrap (x.1.tmod 4 + 4)).tmod 4 = s at hm4
    have hdo := mdo_c hk R.ok R.pg (s := s) (kd := x.2.1) (p := x.2.2) (off := x.2.3) hxd
    have hst := R.step s x.2.1 x.2.2 x.2.3 x.2.4
    have hHl := R.ok.hn
    have hhn := R.hn
    generalize doM m s x.2.1 x.2.2 x.2.3 x.2.4 = r at hdo hst
    obtain ⟨e, pg, da, m1⟩ := r
    unfold Good12 at hst
    simp only at hdo hst
    have fin : ∀ (m' : MS) (t' : List Bool) (P' : List (List Int)), RL g m' t' P' → (∀ again, R4_9 k again (stR l (i : Int) g m P t) = again (stR l ((i + 1 : Nat) : Int) g m' P' t')) → ∃ y, (∀ again, R4_9 k again (stR l (i : Int) g m P t) = again y) ∧ (∃ (i : Nat) (m : MS) (t : List Bool) (P : List (List Int)), i ≤ l.length ∧ y = stR l (i : Int) g m P t ∧ RL g m t P) ∧ l.length - y.2.1.toNat < l.length - (stR l (i : Int) g m P t).2.1.toNat ∧ ∀ o, (∃ m t P, o = (.inr (enR g m P t) : _ ⊕ _) ∧ RL g m t P) → ∃ m t P, o = (.inr (enR g m P t) : (Bool × Int × Int × Int × Int × Int × List (List Int) × List Bool × List Int × List (List Int) × List Int × List Int × List Int × List Int) ⊕ _) ∧ RL g m t P :=
      fun m' t' P' R' h => ⟨_, h, ⟨i + 1, m', t', P', by omega, rfl, R'⟩, by simp only; omega, fun o h => h⟩
    have pgs : ∀ {p : Int}, 0 ≤ p ∧ p < m.H.length → decide (p < 0) = false ∧ decide (p ≥ g.1) = false ∧ inRange p 64 = true := fun h => ⟨decide_eq_false (by omega), decide_eq_false (by omega), inRange_true ⟨h.1, by omega⟩⟩
    rcases hst with ⟨he, rfl, rfl, rfl⟩ | ⟨rfl, hkd, q, rfl, hq, htq, R'⟩ | ⟨rfl, hkd, rfl⟩ | ⟨rfl, hp, htp, ⟨hkd, rfl, rfl⟩ | ⟨hkd, hf, R'⟩ | ⟨hkd, R'⟩ | ⟨hkd, R'⟩⟩
    · refine fin m1 t P R fun again => ?_
      have hb : (e != 0) = true := by simpa using he
      unfold R4_9
      simp only [stR, cond_true, cond_false, Option.bind_some, r1, Int.toNat_natCast, hx', hm4, own_c k hx2, hdo, hb, e1, show ((0 : Int) != 0) = false from rfl, show ((([] : List Int).length : Int) != 0) = false from rfl]
      rw [e8]; rfl
    · refine fin m1 _ _ R' fun again => ?_
      obtain ⟨p1, p2, p3⟩ := pgs (p := (q : Int)) ⟨by omega, by omega⟩
      unfold R4_9
      simp only [stR, cond_true, Option.bind_some, r1, Int.toNat_natCast, hx', hm4, own_c k hx2, hdo, e1]
      simp only [cond_true, cond_false, hkd, p1, p2, p3, htq, Int.reduceBEq, Int.reduceBNe]
      rw [e8]; rfl
    · refine fin m1 t P R fun again => ?_
      unfold R4_9
      simp only [stR, cond_true, Option.bind_some, r1, Int.toNat_natCast, hx', hm4, own_c k hx2, hdo, e1]
      simp only [cond_true, cond_false, hkd, Int.reduceBEq, Int.reduceBNe]
      rw [e8]; rfl
    · refine fin m1 t P R fun again => ?_
      obtain ⟨p1, p2, p3⟩ := pgs hp
      have h32 : (P.getD x.2.2.toNat zpage).length = 32 := get32 R.p32 (by rw [R.pl]; omega)
      have hb' : List.take (((32 : Nat) : Int) - 0).toNat (List.drop (Int.toNat 0) (P.getD x.2.2.toNat (List.replicate (32 : Nat) (0 : Int)))) = P.getD x.2.2.toNat zpage := pg32 h32
      unfold R4_9
      simp only [stR, cond_true, Option.bind_some, r1, Int.toNat_natCast, hx', hm4, own_c k hx2, hdo, e1]
      simp only [cond_true, cond_false, Option.bind_some, hkd, p1, p2, p3, htp, Bool.not_true, hb', bytes_c, Int.reduceBEq, Int.reduceBNe]
      rw [e8]; rfl
    · refine fin m1 t _ R' fun again => ?_
      obtain ⟨p1, p2, p3⟩ := pgs hp
      have hft := fit_spec hf
      have o1 : decide (x.2.3 < 0) = false := decide_eq_false (by omega)
      have o2 : decide (IntKind.i64.wrap (x.2.3 + (x.2.4.length : Int)) > 32) = false := by rw [wI_in (by omega)]; exact decide_eq_false (by omega)
      have o3 : ((x.2.4.length : Int) == 0) = false := beq_ne (by omega)
      have o4 : (decide ((0 : Int) ≤ x.2.3) && decide (x.2.3 ≤ ((32 : Nat) : Int)) && decide (((32 : Nat) : Int) ≤ ((32 : Nat) : Int))) = true := by
        rw [decide_eq_true (by omega : (0 : Int) ≤ x.2.3), decide_eq_true (by omega : x.2.3 ≤ ((32 : Nat) : Int))]; rfl
      have o5 := splice_lay (p := P.getD x.2.2.toNat (List.replicate (32 : Nat) (0 : Int))) hf
      unfold R4_9
      simp only [stR, cond_true, Option.bind_some, r1, Int.toNat_natCast, hx', hm4, own_c k hx2, hdo, e1]
      simp only [cond_true, cond_false, hkd, p1, p2, p3, htp, o1, o2, o3, o4, o5, Bool.not_true, Int.reduceBEq, Int.reduceBNe]
      rw [e8]; rfl
    · refine fin m1 _ P R' fun again => ?_
      obtain ⟨p1, p2, p3⟩ := pgs hp
      unfold R4_9
      simp only [stR, cond_true, Option.bind_some, r1, Int.toNat_natCast, hx', hm4, own_c k hx2, hdo, e1]
      simp only [cond_true, cond_false, hkd, p1, p2, p3, htp, Bool.not_true, Int.reduceBEq, Int.reduceBNe]
      rw [e8]; rfl
    · refine fin m1 t P R' fun again => ?_
      obtain ⟨p1, p2, p3⟩ := pgs hp
      unfold R4_9
      rcases hkd with hkd | hkd
      · simp only [stR, cond_true, Option.bind_some, r1, Int.toNat_natCast, hx', hm4, own_c k hx2, hdo, e1]
        simp only [cond_true, cond_false, hkd, p1, p2, p3, htp, Bool.not_true, Int.reduceBEq, Int.reduceBNe]
        rw [e8]; rfl
      · simp only [stR, cond_true, Option.bind_some, r1, Int.toNat_natCast, hx', hm4, own_c k hx2, hdo, e1]
        simp only [cond_true, cond_false, hkd, p1, p2, p3, htp, Bool.not_true, Int.reduceBEq, Int.reduceBNe]
        rw [e8]; rfl
  · left
    have e8 : decide ((i : Int) < (l.length : Int)) = false := decide_eq_false (by omega)
    refine ⟨.inr (enR g m P t), fun again => ?_, m, t, P, rfl, R⟩
    unfold R4_9
    simp only [enR]
    rw [e8]; rfl
abbrev stQ (i : Int) (g : Geo) (m : MS) (P : List (List Int)) (t : List Bool) :=
  (i, g.1, g.2, g.3, g.4, m.most, P, t, m.H, m.P, m.p0, m.p1, m.p2, m.p3)
theorem loopQ {k : Nat} (hk : 1000 < k) {g : Geo} {m : MS} {t : List Bool} {P : List (List Int)} (R : RL g m t P) :
    L4_33 k k (stQ 0 g m P t) = some (.inr (g.1, g.2, g.3, g.4, m.most, m.H, m.P, m.p0, m.p1, m.p2, m.p3)) := by
  unfold L4_33
  exact iter_out (R := R4_33 k) (fun x => ∃ j : Nat, j ≤ 64 ∧ x = stQ (j : Int) g m P t)
    (fun x => 64 - x.1.toNat) (fun _ => (.inr (g.1, g.2, g.3, g.4, m.most, m.H, m.P, m.p0, m.p1, m.p2, m.p3) : _ ⊕ _)) (fun x hx => by
      obtain ⟨j, hj, rfl⟩ := hx
      have hpage : ∀ i, F21 k (i, m.most, m.H, m.P, m.p0, m.p1, m.p2, m.p3) = some ((pageM m i).1, (pageM m i).2) := fun i => mpageq_eq k R.ok i
      by_cases hi : j < 64
      · right
        have e1 : IntKind.i64.wrap ((j : Int) + 1) = ((j + 1 : Nat) : Int) := by rw [wI_in (by omega)]; rfl
        have e8 : decide ((j : Int) < 64) = true := decide_eq_true (by omega)
        refine ⟨stQ ((j + 1 : Nat) : Int) g m P t, fun again => ?_, ⟨j + 1, by omega, rfl⟩, by simp only; omega, rfl⟩
        have rq := inRange_true (i := (j : Int)) (n := 64) ⟨by omega, by omega⟩
        have hpg : (pageM m (j : Int)).2 = t.getD j false ∧ (t.getD j false = true → (pageM m (j : Int)).1 = P.getD j (List.replicate (32 : Nat) (0 : Int))) := by
          unfold pageM
          by_cases hc : chkM m (j : Int) = 0
          · have hb := chkM_ok hc
            have hjn : j < m.H.length := by omega
            have ht : t.getD j false = true := by
              cases hx : t.getD j false with
              | true => rfl
              | false => have h0 := R.h01 j hjn; rw [hx] at h0; have h1 := hb.2.2; rw [Int.toNat_natCast] at h1; exact absurd h0 h1
            rw [if_pos hc]
            exact ⟨ht.symm, fun _ => by have := R.pag j hjn; rw [Int.toNat_natCast]; exact this⟩
          · rw [if_neg hc]
            have ht : t.getD j false = false := by
              by_cases hjn : j < m.H.length
              · cases hx : t.getD j false with
                | false => rfl
                | true =>
                  have h0 := R.h01 j hjn
                  rw [hx, if_pos rfl] at h0
                  unfold chkM at hc
                  rw [if_neg (by omega), if_neg (by omega), Int.toNat_natCast, h0, if_neg (by decide)] at hc
                  exact absurd rfl hc
              · exact R.bey j (by omega)
            exact ⟨ht.symm, fun h => by rw [ht] at h; cases h⟩
        unfold R4_33
        simp only [stQ, e8, cond_true, hpage, Option.bind_some, rq, hpg.1, Int.toNat_natCast, e1]
        cases ht : t.getD j false with
        | false => rfl
        | true =>
          rw [hpg.2 ht]
          simp
      · left
        intro again
        have hj64 : j = 64 := by omega
        subst hj64
        unfold R4_33
        rfl) (n := k) (x := stQ 0 g m P t) ⟨0, by omega, rfl⟩ (by simp; omega)
theorem rl_new {g : Geo} (hg : gOk g = true) : RL g (newM g) (List.replicate 64 zpage |>.map fun _ => false) (List.replicate 64 zpage) := by
  have R := rel_new hg
  have hc := capF_bd hg
  have e : (List.replicate 64 zpage |>.map fun _ => false) = List.replicate 64 false := by simp
  rw [e]
  refine ⟨R.ok, R.pg, R.hn, R.most, R.tl, R.pl, R.p32, R.h01, R.bey, R.pag, ?_⟩
  show (cnt (List.replicate g.1.toNat (0 : Int)) : Int) ≤ capF g
  have : cnt (List.replicate g.1.toNat (0 : Int)) = 0 := by unfold cnt; rw [List.countP_eq_zero]; intro x hx; rw [List.eq_of_mem_replicate hx]; decide
  rw [this]; exact hc.1
theorem modelReads_plain (g : Geo) (l : List Ask) (hl : l.length ≤ 9223372036854775807) : ∃ k, F4 k (g, l, ()) = some true := by
  refine ⟨l.length + 5000, ?_⟩
  generalize hK : l.length + 5000 = k
  have hk : 1000 < k := by omega
  unfold F4
  simp only [fair_eq (k := k) (l := l) (by omega) hl, Option.bind_some]
  have hw : F8 k () = some true := wakes_k (by omega)
  by_cases hd0 : ¬ ((∀ x ∈ l, x.2.4.length ≤ 100) ∧ (l.length : Int) ≤ 150)
  · have hb : (decide (∀ x ∈ l, x.2.4.length ≤ 100) && decide ((l.length : Int) ≤ 150)) = false := by
      rw [Bool.and_eq_false_iff, decide_eq_false_iff_not, decide_eq_false_iff_not]
      exact Decidable.not_and_iff_or_not.1 hd0
    simp only [hb, Bool.not_false, cond_true, hw, Option.bind_some]
  obtain ⟨hd, hl2⟩ := Classical.not_not.1 hd0
  rw [decide_eq_true hd, decide_eq_true hl2]
  have eg : T22.mk g.1 g.2 g.3 g.4 = g := rfl
  simp only [Bool.and_self, Bool.not_true, cond_false, eg, rgood3_eq, mnew_eq, Option.bind_some]
  cases hg : gOk g with
  | false =>
    simp only [Bool.not_false, cond_true, Option.bind_some, hw]
  | true =>
    simp only [Bool.not_true, cond_false, if_true, sumK]
    have R0 := rl_new hg
    have e : (List.replicate 64 zpage |>.map fun _ => false) = List.replicate 64 false := by simp
    rw [e] at R0
    obtain ⟨o, h1, m, t, P, rfl, R⟩ := loopR hk hg (l := l) (by omega) hd R0
    have h1' : L4_9 k k (l, 0, g.1, g.2, g.3, g.4, (newM g).tup.1, List.replicate (64 : Nat) (List.replicate (32 : Nat) (0 : Int)), List.replicate 64 false, (newM g).tup.2.1, (newM g).tup.2.2.1, (newM g).tup.2.2.2.1, (newM g).tup.2.2.2.2.1, (newM g).tup.2.2.2.2.2.1, (newM g).tup.2.2.2.2.2.2) = some (.inr (enR g m P t)) := h1
    simp only [h1', Option.bind_some, enR]
    have h2 : L4_33 k k (0, g.1, g.2, g.3, g.4, m.most, P, t, m.H, m.P, m.p0, m.p1, m.p2, m.p3) = some (.inr (g.1, g.2, g.3, g.4, m.most, m.H, m.P, m.p0, m.p1, m.p2, m.p3)) := loopQ hk R
    simp only [h2, Option.bind_some]
    have hp : F22 k (m.most, m.H, m.P, m.p0, m.p1, m.p2, m.p3) = some (chg m.H []) := mpages_eq hk R.ok
    have hof := rof2_eq k hg
    simp only [hp, eg, hof, Option.bind_some]
    have hle : ((chg m.H []).length : Int) ≤ capF g := by rw [chg_cnt]; have := R.cap; rw [R.most] at this; exact this
    rw [show decide (((chg m.H []).length : Int) ≤ capF g) = true from decide_eq_true hle]
    simp only [cond_true, hw, Option.bind_some]
theorem modelReads : Rows.ModelReadsSaid := modelReads_row fun a0 a1 _ h1 => modelReads_plain a0 a1 h1.1

end Go.Proofs.Ytofodkmokjhcoaa.W
