/-
  ModelNone: for every input that the statement lets in the law returns true. No conditions.
-/
import Derived.Test.YtofodkmokjhcoaaVR
set_option linter.unusedVariables false
namespace Go.Proofs.Ytofodkmokjhcoaa.W
open Go V
/-! ### heads: plain -/
theorem beq_ne {a b : Int} (h : ¬ a = b) : (a == b) = false := beq_eq_false_iff_ne.2 h
theorem roomMost_ge {n : Nat} (h : n ≤ 1000000) : decide (n ≤ roomMost) = true := decide_eq_true (show n ≤ 4294967296 by omega)
def cnt (l : List Int) : Nat := l.countP (fun x => x != 0)
def fz : List Int → Option Nat
  | [] => none
  | x :: r => if x = 0 then some 0 else (fz r).map (fun i => i + 1)
def least (l : List Int) (most : Int) : Int × Int × Unit :=
  if (cnt l : Int) < most then (match fz l with | some i => ((i : Int), 0, ()) | none => (0, 14, ())) else (0, 14, ())
theorem getD_at {l : List Int} {i : Nat} (h : i < l.length) : l.getD i 0 = l[i] := by rw [List.getD_eq_getElem?_getD, List.getElem?_eq_getElem h]; rfl
theorem fz_spec : ∀ l : List Int, match fz l with
    | some i => i < l.length ∧ l.getD i 0 = 0 ∧ ∀ j, j < i → l.getD j 0 ≠ 0
    | none => ∀ j, j < l.length → l.getD j 0 ≠ 0 := by
  intro l
  induction l with
  | nil => intro j h; simp at h
  | cons x r ih =>
    unfold fz
    by_cases hx : x = 0
    · rw [if_pos hx]
      exact ⟨by simp, by simpa using hx, fun j h => absurd h (Nat.not_lt_zero j)⟩
    · rw [if_neg hx]
      cases hr : fz r with
      | none =>
        rw [hr] at ih
        simp only at ih
        intro j hj
        cases j with
        | zero => simpa using hx
        | succ j => simpa using ih j (by simpa using hj)
      | some i =>
        rw [hr] at ih
        simp only at ih
        obtain ⟨h1, h2, h3⟩ := ih
        refine ⟨by simpa using h1, by simpa using h2, fun j hj => ?_⟩
        cases j with
        | zero => simpa using hx
        | succ j => simpa using h3 j (Nat.lt_of_succ_lt_succ hj)
theorem fz_some {l : List Int} {j : Nat} (h : j < l.length) (h0 : l.getD j 0 = 0) (hb : ∀ i, i < j → l.getD i 0 ≠ 0) : fz l = some j := by
  have := fz_spec l
  cases hf : fz l with
  | none => rw [hf] at this; exact absurd h0 (this j h)
  | some i =>
    rw [hf] at this
    obtain ⟨h1, h2, h3⟩ := this
    have a1 : ¬ i < j := fun e => hb i e h2
    have a2 : ¬ j < i := fun e => h3 j e h0
    congr 1
    omega
theorem fz_none {l : List Int} (hb : ∀ i, i < l.length → l.getD i 0 ≠ 0) : fz l = none := by
  have := fz_spec l
  cases hf : fz l with
  | none => rfl
  | some i => rw [hf] at this; exact absurd this.2.1 (hb i this.1)
theorem cnt_take {l : List Int} {j : Nat} (h : j < l.length) : cnt (l.take (j + 1)) = cnt (l.take j) + (if l.getD j 0 = 0 then 0 else 1) := by
  unfold cnt
  rw [List.take_add_one, List.countP_append, List.getElem?_eq_getElem h, getD_at h]
  by_cases e : l[j] = 0 <;> simp [e]
theorem cnt_le (l : List Int) : cnt l ≤ l.length := List.countP_le_length
theorem cnt_full {l : List Int} (hb : ∀ i, i < l.length → l.getD i 0 ≠ 0) : cnt l = l.length := by
  unfold cnt
  rw [List.countP_eq_length]
  intro x hx
  obtain ⟨i, hi, rfl⟩ := List.mem_iff_getElem.1 hx
  have := hb i hi
  rw [getD_at hi] at this
  simpa using this
theorem cnt_set {l : List Int} {i : Nat} (h : i < l.length) (h0 : l.getD i 0 = 0) : cnt (l.set i 1) = cnt l + 1 := by
  unfold cnt
  rw [getD_at h] at h0
  rw [List.countP_set h, h0]
  simp

theorem count_eq {k : Nat} {l : List Int} (hl : l.length ≤ 1000) (hk : l.length < k) : F58 k (l, ()) = some (cnt l : Int) := by
  have := iter_out (R := R58_3 k) (fun x : Int × List Int × Int × Int => ∃ j : Nat, j ≤ l.length ∧ x = ((cnt (l.take j) : Int), l, (l.length : Int), (j : Int)))
    (fun x => l.length - x.2.2.2.toNat) (fun _ => (cnt l : Int)) (fun x hx => by
      obtain ⟨j, hj, rfl⟩ := hx
      by_cases hi : j < l.length
      · right
        have e1 : IntKind.i64.wrap ((j : Int) + 1) = ((j + 1 : Nat) : Int) := by rw [wI_in (by omega)]; rfl
        have hc := cnt_le (l.take j)
        have hlt : (l.take j).length ≤ 1000 := by rw [List.length_take]; omega
        have e2 : IntKind.i64.wrap ((cnt (l.take j) : Int) + 1) = ((cnt (l.take j) + 1 : Nat) : Int) := by rw [wI_in (by omega)]; rfl
        have e8 : decide ((j : Int) < (l.length : Int)) = true := by simp; omega
        refine ⟨((cnt (l.take (j + 1)) : Int), l, (l.length : Int), ((j + 1 : Nat) : Int)), fun again => ?_, ⟨j + 1, by omega, rfl⟩, by simp only; omega, rfl⟩
        unfold R58_3
        simp only [e8, cond_true, inRange_true (i := (j : Int)) (n := l.length) ⟨by omega, by omega⟩, Int.toNat_natCast, e1, e2]
        rw [cnt_take hi]
        generalize l.getD j 0 = v
        by_cases e : v = 0
        · simp [e]
        · simp [e, bne, beq_ne e]
      · left
        intro again
        have hjl : j = l.length := by omega
        subst hjl
        unfold R58_3
        simp) (n := k) (x := (0, l, (l.length : Int), 0)) ⟨0, by omega, by simp [cnt]⟩ (by simpa using hk)
  unfold F58 L58_3
  simp only
  rw [this]
  rfl
theorem index_eq {k : Nat} {l : List Int} (hl : l.length ≤ 1000) (hk : l.length < k) : F53 k (l, 0, ()) = some (match fz l with | some i => (i : Int) | none => -1) := by
  have := iter_out (R := R53_2 k) (fun x : List Int × Int × Int × Int => ∃ j : Nat, j ≤ l.length ∧ (∀ i, i < j → l.getD i 0 ≠ 0) ∧ x = (l, 0, (l.length : Int), (j : Int)))
    (fun x => l.length - x.2.2.2.toNat) (fun _ => match fz l with | some i => (.inl (i : Int) : Int ⊕ Unit) | none => .inr ()) (fun x hx => by
      obtain ⟨j, hj, hb, rfl⟩ := hx
      by_cases hi : j < l.length
      · have e1 : IntKind.i64.wrap ((j : Int) + 1) = ((j + 1 : Nat) : Int) := by rw [wI_in (by omega)]; rfl
        have e8 : decide ((j : Int) < (l.length : Int)) = true := by simp; omega
        have hR : ∀ again, R53_2 k again (l, 0, (l.length : Int), (j : Int)) = if l.getD j 0 = 0 then some (.inl (j : Int)) else again (l, 0, (l.length : Int), ((j + 1 : Nat) : Int)) := by
          intro again
          unfold R53_2
          simp only [e8, cond_true, inRange_true (i := (j : Int)) (n := l.length) ⟨by omega, by omega⟩, Int.toNat_natCast, e1]
          generalize l.getD j 0 = v
          by_cases e : v = 0
          · simp [e]
          · have : (0 == v) = false := beq_ne fun h => e h.symm
            rw [this, if_neg e]; rfl
        by_cases e : l.getD j 0 = 0
        · left
          intro again
          rw [hR, if_pos e, fz_some hi e hb]
        · right
          refine ⟨_, fun again => by rw [hR, if_neg e], ⟨j + 1, by omega, fun i h => ?_, rfl⟩, by simp only; omega, rfl⟩
          by_cases h2 : i < j
          · exact hb i h2
          · have : i = j := by omega
            rw [this]; exact e
      · left
        intro again
        have hjl : j = l.length := by omega
        subst hjl
        rw [fz_none hb]
        unfold R53_2
        simp) (n := k) (x := (l, 0, (l.length : Int), 0)) ⟨0, by omega, fun i h => by omega, rfl⟩ (by simpa using hk)
  unfold F53 L53_2
  simp only
  rw [this]
  cases fz l <;> rfl
theorem contains_eq {k : Nat} {l : List Int} (hl : l.length ≤ 1000) (hk : l.length < k) : F60 k (l, 0, ()) = some (fz l).isSome := by
  unfold F60
  simp only
  rw [index_eq hl hk]
  cases fz l with
  | none => rfl
  | some i => simp
theorem least_eq {k : Nat} {l : List Int} {most : Int} (hl : l.length ≤ 1000) (hk : l.length < k) : F43 k (l, most, ()) = some (least l most) := by
  unfold F43 F52 F59 F51
  simp only
  rw [count_eq hl hk, contains_eq hl hk, index_eq hl hk]
  simp only [Option.bind_some]
  have e14 : ((14 : Int) == 0) = false := rfl
  unfold least
  by_cases hc : (cnt l : Int) < most
  · have : decide ((cnt l : Int) ≥ most) = false := by simp; omega
    simp only [this, cond_false, hc, if_true]
    cases hf : fz l with
    | none => rfl
    | some i => rfl
  · have : decide ((cnt l : Int) ≥ most) = true := by simp; omega
    simp only [this, cond_true, hc, if_false]
    rfl
/-! ### what differs -/
def dif (a b : List Int) (i : Nat) : Bool := a.getD i 0 != b.getD i 0
def chgTo (a b : List Int) (n : Nat) : List Int := ((List.range n).filter (dif a b)).map fun (i : Nat) => (i : Int)
def chg (a b : List Int) : List Int := chgTo a b (max a.length b.length)
theorem chgTo_next (a b : List Int) (n : Nat) : chgTo a b (n + 1) = chgTo a b n ++ (if dif a b n = true then [(n : Int)] else []) := by
  unfold chgTo
  rw [List.range_succ, List.filter_append, List.map_append]
  congr 1
  by_cases h : dif a b n = true <;> simp [h]
theorem chgTo_length (a b : List Int) (n : Nat) : (chgTo a b n).length ≤ n := by
  unfold chgTo
  rw [List.length_map]
  exact Nat.le_trans (List.length_filter_le _ _) (by simp)
theorem max_cast (a b : List Int) : (if (b.length : Int) > (a.length : Int) then (b.length : Int) else (a.length : Int)) = ((max a.length b.length : Nat) : Int) := by split <;> omega
theorem at_eq {k : Nat} {l : List Int} {i : Nat} : F50 k (l, (i : Int), ()) = some (l.getD i 0) := by
  unfold F50
  simp only
  by_cases h : i < l.length
  · have e : decide ((i : Int) < (l.length : Int)) = true := by simp; omega
    simp only [e, cond_true, inRange_true (i := (i : Int)) (n := l.length) ⟨by omega, by omega⟩, Int.toNat_natCast]
  · have e : decide ((i : Int) < (l.length : Int)) = false := by simp; omega
    have z : l.getD i 0 = 0 := by rw [List.getD_eq_getElem?_getD, List.getElem?_eq_none (by omega)]; rfl
    rw [z]
    simp only [e, cond_false]
theorem ints_eq {k : Nat} {a b : List Int} (ha : a.length ≤ 1000) (hk : a.length < k) : F25 k (a, b, ()) = some (decide (a = b)) := by
  unfold F25
  simp only
  by_cases hl : a.length = b.length
  · have e0 : ((a.length : Int) != (b.length : Int)) = false := by rw [hl]; simp
    have := iter_out (R := R25_4 k) (fun x : List Int × List Int × Int => ∃ j : Nat, j ≤ a.length ∧ a.take j = b.take j ∧ x = (a, b, (j : Int)))
      (fun x => a.length - x.2.2.toNat) (fun _ => if a = b then (.inr () : Bool ⊕ Unit) else .inl false) (fun x hx => by
        obtain ⟨j, hj, ht, rfl⟩ := hx
        by_cases hi : j < a.length
        · have hib : j < b.length := by omega
          have e1 : IntKind.i64.wrap ((j : Int) + 1) = ((j + 1 : Nat) : Int) := by rw [wI_in (by omega)]; rfl
          have e8 : decide ((j : Int) < (a.length : Int)) = true := by simp; omega
          have hR : ∀ again, R25_4 k again (a, b, (j : Int)) = if a.getD j 0 = b.getD j 0 then again (a, b, ((j + 1 : Nat) : Int)) else some (.inl false) := by
            intro again
            unfold R25_4
            simp only [e8, cond_true, inRange_true (i := (j : Int)) (n := a.length) ⟨by omega, by omega⟩, inRange_true (i := (j : Int)) (n := b.length) ⟨by omega, by omega⟩, Int.toNat_natCast, e1]
            generalize a.getD j 0 = u
            generalize b.getD j 0 = v
            by_cases e : u = v
            · simp [e]
            · rw [if_neg e]; simp only [bne, beq_ne e]; rfl
          by_cases e : a.getD j 0 = b.getD j 0
          · right
            refine ⟨_, fun again => by rw [hR, if_pos e], ⟨j + 1, by omega, ?_, rfl⟩, by simp only; omega, rfl⟩
            rw [List.take_add_one, List.take_add_one, ht, List.getElem?_eq_getElem hi, List.getElem?_eq_getElem hib, ← getD_at hi, ← getD_at hib, e]
          · left
            intro again
            rw [hR, if_neg e, if_neg (fun h => e (by rw [h]))]
        · left
          intro again
          have hjl : j = a.length := by omega
          subst hjl
          have hab : a = b := by
            rw [List.take_length] at ht
            rw [hl, List.take_length] at ht
            exact ht
          unfold R25_4
          rw [if_pos hab]
          simp) (n := k) (x := (a, b, 0)) ⟨0, by omega, by simp, rfl⟩ (by simpa using hk)
    unfold L25_4
    rw [e0, cond_false, this]
    by_cases e : a = b
    · simp [e, sumK]
    · simp [e, sumK]
  · have e0 : ((a.length : Int) != (b.length : Int)) = true := by simp; omega
    have : ¬ a = b := fun e => hl (by rw [e])
    rw [e0, cond_true]
    simp [this]
theorem ints_same {k : Nat} {a : List Int} (ha : a.length ≤ 1000) (hk : a.length < k) : F25 k (a, a, ()) = some true := by rw [ints_eq ha hk]; simp
theorem chg_length (a b : List Int) : (chg a b).length ≤ max a.length b.length := chgTo_length _ _ _
theorem dif_comm (a b : List Int) : dif a b = dif b a := by
  funext i
  unfold dif
  rw [bne_comm]
theorem chg_comm (a b : List Int) : chg a b = chg b a := by unfold chg chgTo; rw [Nat.max_comm, dif_comm]
theorem chg_self (a : List Int) : chg a a = [] := by
  unfold chg chgTo
  have : (List.range (max a.length a.length)).filter (dif a a) = [] := by
    rw [List.filter_eq_nil_iff]
    intro i _
    simp [dif]
  rw [this]; rfl
theorem mem_chg {a b : List Int} {t : Int} : t ∈ chg a b ↔ ∃ i : Nat, a.getD i 0 ≠ b.getD i 0 ∧ t = i := by
  unfold chg chgTo
  simp only [List.mem_map, List.mem_filter, List.mem_range]
  constructor
  · rintro ⟨i, ⟨_, h⟩, rfl⟩
    exact ⟨i, by simpa [dif] using h, rfl⟩
  · rintro ⟨i, h, rfl⟩
    refine ⟨i, ⟨?_, by simpa [dif] using h⟩, rfl⟩
    by_cases hi : i < max a.length b.length
    · exact hi
    · exfalso
      apply h
      rw [List.getD_eq_getElem?_getD, List.getElem?_eq_none (by omega), List.getD_eq_getElem?_getD, List.getElem?_eq_none (by omega)]
theorem chg_sorted (a b : List Int) : (chg a b).Pairwise (fun x y => x < y) := by
  unfold chg chgTo
  rw [List.pairwise_map]
  exact List.Pairwise.imp (fun h => by omega) (List.Pairwise.filter _ List.pairwise_lt_range)

theorem chg_eq {k : Nat} {a b : List Int} (ha : a.length ≤ 1000) (hb : b.length ≤ 1000) (hk : max a.length b.length < k) : F41 k (a, b) = some (chg a b) := by
  have := iter_out (R := R41_3 k) (fun x : List Int × List Int × Int × Int × List Int => ∃ j : Nat, j ≤ max a.length b.length ∧ x = (a, b, ((max a.length b.length : Nat) : Int), (j : Int), chgTo a b j))
    (fun x => max a.length b.length - x.2.2.2.1.toNat) (fun _ => chg a b) (fun x hx => by
      obtain ⟨j, hj, rfl⟩ := hx
      by_cases hi : j < max a.length b.length
      · right
        have e1 : IntKind.i64.wrap ((j : Int) + 1) = ((j + 1 : Nat) : Int) := by rw [wI_in (by omega)]; rfl
        have e8 : decide ((j : Int) < ((max a.length b.length : Nat) : Int)) = true := by simp; omega
        have hl := chgTo_length a b j
        refine ⟨(a, b, ((max a.length b.length : Nat) : Int), ((j + 1 : Nat) : Int), chgTo a b (j + 1)), fun again => ?_, ⟨j + 1, by omega, rfl⟩, by simp only; omega, rfl⟩
        unfold R41_3
        simp only [e8, cond_true, at_eq, Option.bind_some, e1]
        have hr : decide ((chgTo a b j).length + ((List.replicate 1 (0 : Int)).set 0 (j : Int)).length ≤ roomMost) = true := roomMost_ge (by simp; omega)
        simp only [hr, cond_true]
        rw [chgTo_next]
        cases hd : dif a b j with
        | true =>
          have : (a.getD j 0 != b.getD j 0) = true := hd
          rw [this]; rfl
        | false =>
          have : (a.getD j 0 != b.getD j 0) = false := hd
          rw [this]; simp
      · left
        intro again
        have hjl : j = max a.length b.length := by omega
        subst hjl
        unfold R41_3
        simp [chg]) (n := k) (x := (a, b, ((max a.length b.length : Nat) : Int), 0, [])) ⟨0, by omega, rfl⟩ (by simpa using hk)
  unfold F41 L41_3
  simp only
  rw [max_cast, this]
  rfl

def IsByte (x : Int) : Prop := 0 ≤ x ∧ x ≤ 255
def zpage : List Int := List.replicate 32 0

/-! ### geometries -/
abbrev Geo := T22
def gOk (g : Geo) : Bool := decide (g.1 ≥ 1) && (decide (g.1 ≤ 64) && (decide (g.2 ≥ 6) && (decide (g.2 ≤ 16) && (decide (g.3 ≥ 24) && (decide (g.3 ≤ 32) && (decide (g.4 ≥ 2) && decide (g.4 ≤ 16)))))))
theorem condF (a b : Bool) : (bif a then some b else some false) = some (a && b) := by cases a <;> rfl
theorem pgood_eq (k : Nat) (g : Geo) : F26 k (g, ()) = some (gOk g) := by
  unfold F26 gOk; simp only [condF]
theorem gOk_spec {g : Geo} (h : gOk g = true) : 1 ≤ g.1 ∧ g.1 ≤ 64 ∧ 6 ≤ g.2 ∧ g.2 ≤ 16 ∧ 24 ≤ g.3 ∧ g.3 ≤ 32 ∧ 2 ≤ g.4 ∧ g.4 ≤ 16 := by
  unfold gOk at h; simpa only [Bool.and_eq_true, decide_eq_true_eq, ge_iff_le] using h
theorem area {g : Geo} (h : gOk g = true) : 0 ≤ g.2 * g.3 ∧ g.2 * g.3 ≤ 512 := by
  have := gOk_spec h
  refine ⟨Int.mul_nonneg (by omega) (by omega), ?_⟩
  have := Int.mul_le_mul (a := g.2) (b := g.3) (c := 16) (d := 32) (by omega) (by omega) (by omega) (by omega)
  omega
theorem maps_eq (k : Nat) {g : Geo} (hg : gOk g = true) : F42 k (g, ()) = some ((g.1 + 7) / 8) := by
  have hs := gOk_spec hg
  obtain ⟨g1, g2, g3, g4⟩ := g
  simp only at hs
  unfold F42
  simp only [pgood_eq, hg, Option.bind_some, Bool.not_true, cond_false]
  have w1 : IntKind.i64.wrap (g1 - 1) = g1 - 1 := wI_in (by omega)
  rw [w1, Int.tdiv_eq_ediv_of_nonneg (by omega), wI_in (x := (g1 - 1) / 8) (by omega), wI_in (by omega)]
  congr 1; omega
/-! ### bytes laid over a page -/
theorem ext_getD {a b : List Int} (hl : a.length = b.length) (h : ∀ i, i < a.length → a.getD i 0 = b.getD i 0) : a = b := by
  apply List.ext_getElem hl
  intro i h1 h2
  have := h i h1
  rwa [getD_at h1, getD_at h2] at this
def lay (p : List Int) (off : Nat) (l : List Int) : List Int := p.take off ++ (l ++ p.drop (off + l.length))
theorem lay_length {p l : List Int} {off : Nat} (h : off + l.length ≤ p.length) : (lay p off l).length = p.length := by
  unfold lay
  rw [List.length_append, List.length_append, List.length_take, List.length_drop]; omega
theorem lay_get {p l : List Int} {off : Nat} (h : off + l.length ≤ p.length) (i : Nat) : (lay p off l).getD i 0 = if off ≤ i ∧ i < off + l.length then l.getD (i - off) 0 else p.getD i 0 := by
  have ht : (p.take off).length = off := by rw [List.length_take]; omega
  unfold lay
  by_cases h1 : i < off
  · rw [if_neg (by omega), List.getD_eq_getElem?_getD, List.getElem?_append_left (by omega), List.getElem?_take_of_lt h1, ← List.getD_eq_getElem?_getD]
  · rw [List.getD_eq_getElem?_getD, List.getElem?_append_right (by omega), ht]
    by_cases h2 : i < off + l.length
    · rw [if_pos (by omega), List.getElem?_append_left (by omega), ← List.getD_eq_getElem?_getD]
    · rw [if_neg (by omega), List.getElem?_append_right (by omega), List.getElem?_drop, ← List.getD_eq_getElem?_getD]
      congr 1
      omega
def fitB (off : Int) (n : Nat) : Bool := decide (0 ≤ off ∧ 1 ≤ n ∧ n ≤ 32 ∧ off ≤ 32 - (n : Int))
def ares (p : List Int) (off : Int) (l : List Int) : List Int × Int × Unit := if fitB off l.length = true then (lay p off.toNat l, 0, ()) else (zpage, 1, ())
theorem splice_lay {p l : List Int} {off : Int} (h : fitB off l.length = true) : splice p l off.toNat (min l.length ((((32 : Nat) : Int) - off).toNat)) = lay p off.toNat l := by
  unfold fitB at h
  simp only [decide_eq_true_eq] at h
  unfold splice lay
  have : min l.length ((((32 : Nat) : Int) - off).toNat) = l.length := by omega
  rw [this, List.take_length, List.append_assoc]
theorem fit_spec {off : Int} {n : Nat} (h : fitB off n = true) : 0 ≤ off ∧ 1 ≤ n ∧ off.toNat + n ≤ 32 := by
  unfold fitB at h
  simp only [decide_eq_true_eq] at h
  omega

/-! ### the model -/
def capF (g : Geo) : Int := max 0 (min g.1 ((4 * (g.2 - 4) - (g.1 + 7) / 8) / 3))
theorem capF_bd {g : Geo} (h : gOk g = true) : 0 ≤ capF g ∧ capF g ≤ g.1 := by
  have := gOk_spec h
  unfold capF
  omega
theorem ite_max {a : Int} : (if a > 0 then a else 0) = max 0 a := by rw [Int.max_def]; split <;> split <;> omega
theorem ite_min {a b : Int} : (if a < b then a else b) = min b a := by rw [Int.min_def]; split <;> split <;> omega
theorem pcap_eq (k : Nat) {g : Geo} (hg : gOk g = true) : F27 k (g, ()) = some (capF g) := by
  have hs := gOk_spec hg
  obtain ⟨g1, g2, g3, g4⟩ := g
  simp only at hs
  unfold F27
  have w1 : IntKind.i64.wrap (g2 - 4) = g2 - 4 := wI_in (by omega)
  have w2 : IntKind.i64.wrap (4 * (g2 - 4)) = 4 * (g2 - 4) := wI_in (by omega)
  have w3 : IntKind.i64.wrap (4 * (g2 - 4) - (g1 + 7) / 8) = 4 * (g2 - 4) - (g1 + 7) / 8 := wI_in (by omega)
  have w4 : IntKind.i64.wrap ((4 * (g2 - 4) - (g1 + 7) / 8).tdiv 3) = (4 * (g2 - 4) - (g1 + 7) / 8) / 3 := by rw [Int.tdiv_eq_ediv_of_nonneg (by omega), wI_in (by omega)]
  simp only [pgood_eq, hg, Option.bind_some, Bool.not_true, cond_false, maps_eq k hg, w1, w2, w3, w4, ite_max, ite_min]
  rfl
/-- the first place of a number -/
def fx (x : Int) : List Int → Option Nat
  | [] => none
  | y :: r => if y = x then some 0 else (fx x r).map (fun i => i + 1)
theorem fx_spec (x : Int) : ∀ l : List Int, match fx x l with
    | some i => i < l.length ∧ l.getD i 0 = x ∧ ∀ j, j < i → l.getD j 0 ≠ x
    | none => ∀ j, j < l.length → l.getD j 0 ≠ x := by
  intro l
  induction l with
  | nil => intro j h; simp at h
  | cons y r ih =>
    unfold fx
    by_cases hx : y = x
    · rw [if_pos hx]
      exact ⟨by simp, by simpa using hx, fun j h => absurd h (Nat.not_lt_zero j)⟩
    · rw [if_neg hx]
      cases hr : fx x r with
      | none =>
        rw [hr] at ih
        simp only at ih
        intro j hj
        cases j with
        | zero => simpa using hx
        | succ j => simpa using ih j (by simpa using hj)
      | some i =>
        rw [hr] at ih
        simp only at ih
        obtain ⟨h1, h2, h3⟩ := ih
        refine ⟨by simpa using h1, by simpa using h2, fun j hj => ?_⟩
        cases j with
        | zero => simpa using hx
        | succ j => simpa using h3 j (Nat.lt_of_succ_lt_succ hj)
theorem fx_some {x : Int} {l : List Int} {j : Nat} (h : j < l.length) (h0 : l.getD j 0 = x) (hb : ∀ i, i < j → l.getD i 0 ≠ x) : fx x l = some j := by
  have := fx_spec x l
  cases hf : fx x l with
  | none => rw [hf] at this; exact absurd h0 (this j h)
  | some i =>
    rw [hf] at this
    obtain ⟨h1, h2, h3⟩ := this
    have a1 : ¬ i < j := fun e => hb i e h2
    have a2 : ¬ j < i := fun e => h3 j e h0
    congr 1
    omega
theorem fx_none {x : Int} {l : List Int} (hb : ∀ i, i < l.length → l.getD i 0 ≠ x) : fx x l = none := by
  have := fx_spec x l
  cases hf : fx x l with
  | none => rfl
  | some i => rw [hf] at this; exact absurd this.2.1 (hb i this.1)
theorem fx_count (x : Int) : ∀ l : List Int, (fx x l).isSome = decide (0 < l.count x) := by
  intro l
  induction l with
  | nil => rfl
  | cons y r ih =>
    unfold fx
    by_cases hx : y = x
    · subst hx; simp
    · rw [if_neg hx, List.count_cons_of_ne (by simpa using hx), Option.isSome_map, ih]
theorem indexx_eq {k : Nat} {l : List Int} {x : Int} (hl : l.length ≤ 1000) (hk : l.length < k) : F53 k (l, x, ()) = some (match fx x l with | some i => (i : Int) | none => -1) := by
  have := iter_out (R := R53_2 k) (fun s : List Int × Int × Int × Int => ∃ j : Nat, j ≤ l.length ∧ (∀ i, i < j → l.getD i 0 ≠ x) ∧ s = (l, x, (l.length : Int), (j : Int)))
    (fun s => l.length - s.2.2.2.toNat) (fun _ => match fx x l with | some i => (.inl (i : Int) : Int ⊕ Unit) | none => .inr ()) (fun s hx => by
      obtain ⟨j, hj, hb, rfl⟩ := hx
      by_cases hi : j < l.length
      · have e1 : IntKind.i64.wrap ((j : Int) + 1) = ((j + 1 : Nat) : Int) := by rw [wI_in (by omega)]; rfl
        have e8 : decide ((j : Int) < (l.length : Int)) = true := by simp; omega
        have hR : ∀ again, R53_2 k again (l, x, (l.length : Int), (j : Int)) = if l.getD j 0 = x then some (.inl (j : Int)) else again (l, x, (l.length : Int), ((j + 1 : Nat) : Int)) := by
          intro again
          unfold R53_2
          simp only [e8, cond_true, inRange_true (i := (j : Int)) (n := l.length) ⟨by omega, by omega⟩, Int.toNat_natCast, e1]
          generalize l.getD j 0 = v
          by_cases e : v = x
          · subst e; simp
          · have : (x == v) = false := beq_ne fun h => e h.symm
            rw [this, if_neg e]; rfl
        by_cases e : l.getD j 0 = x
        · left
          intro again
          rw [hR, if_pos e, fx_some hi e hb]
        · right
          refine ⟨_, fun again => by rw [hR, if_neg e], ⟨j + 1, by omega, fun i hi' => ?_, rfl⟩, by simp only; omega, rfl⟩
          by_cases h : i = j
          · subst h; exact e
          · exact hb i (by omega)
      · left
        intro again
        have hjl : j = l.length := by omega
        subst hjl
        have hn : fx x l = none := fx_none hb
        unfold R53_2
        simp [hn]) (n := k) (x := (l, x, (l.length : Int), 0)) ⟨0, by omega, fun i h => absurd h (Nat.not_lt_zero i), rfl⟩ (by simpa using hk)
  unfold F53 L53_2
  simp only
  rw [this]
  cases fx x l <;> rfl
theorem containsx_eq {k : Nat} {l : List Int} {x : Int} (hl : l.length ≤ 1000) (hk : l.length < k) : F60 k (l, x, ()) = some (decide (0 < l.count x)) := by
  unfold F60
  simp only [indexx_eq hl hk, Option.bind_some]
  rw [← fx_count]
  cases fx x l with
  | none => rfl
  | some i => simp
theorem erase_len {l : List Int} {i : Nat} (h : i < l.length) : (l.eraseIdx i).length = l.length - 1 := by rw [List.length_eraseIdx_of_lt h]
theorem delete_eq {k : Nat} {l : List Int} {i : Nat} (hi : i < l.length) (hl : l.length ≤ 1000) : F55 k ((i : Int), ((i + 1 : Nat) : Int), l) = some (.inr (l.eraseIdx i)) := by
  unfold F55
  simp only
  have d1 : (decide ((0 : Int) ≤ (i : Int)) && decide ((i : Int) ≤ ((i + 1 : Nat) : Int)) && decide (((i + 1 : Nat) : Int) ≤ (l.length : Int)) && decide ((l.length : Int) ≤ (l.length : Int))) = true := by simp; omega
  have d2 : ((i : Int) == ((i + 1 : Nat) : Int)) = false := by simp; omega
  have d3 : (decide ((0 : Int) ≤ (0 : Int)) && decide ((0 : Int) ≤ (i : Int)) && decide ((i : Int) ≤ (l.length : Int))) = true := by simp; omega
  have d4 : (decide ((0 : Int) ≤ ((i + 1 : Nat) : Int)) && decide (((i + 1 : Nat) : Int) ≤ (l.length : Int)) && decide ((l.length : Int) ≤ (l.length : Int))) = true := by simp; omega
  have e1 : ((i : Int) - 0).toNat = i := by omega
  have e2 : ((l.length : Int) - ((i + 1 : Nat) : Int)).toNat = l.length - (i + 1) := by omega
  have e3 : (List.take (l.length - (i + 1)) (List.drop ((i + 1 : Nat) : Int).toNat l)) = l.drop (i + 1) := by
    rw [Int.toNat_natCast, List.take_of_length_le (by rw [List.length_drop]; exact Nat.le_refl _)]
  have e4 : (l.drop (i + 1)).length = l.length - (i + 1) := List.length_drop
  simp only [d1, d2, d3, d4, cond_true, cond_false, e1, e2, e3, e4]
  have e5 : i + (l.length - (i + 1)) = l.length - 1 := by omega
  have d5 : decide (l.length - 1 ≤ l.length) = true := by simp
  have hA : (l.drop (i + 1)).take (l.length - (i + 1)) = l.drop (i + 1) := List.take_of_length_le (by rw [e4]; exact Nat.le_refl _)
  have hs : splice l (l.drop (i + 1)) i (l.length - (i + 1)) = l.eraseIdx i ++ l.drop (l.length - 1) := by
    unfold splice
    rw [hA, e5, List.eraseIdx_eq_take_drop_succ]
  have hsl : (splice l (l.drop (i + 1)) i (l.length - (i + 1))).length = l.length := by
    rw [hs, List.length_append, erase_len hi, List.length_drop]; omega
  have d6 : (decide ((0 : Int) ≤ ((l.length - 1 : Nat) : Int)) && decide (((l.length - 1 : Nat) : Int) ≤ (l.length : Int)) && decide ((l.length : Int) ≤ (l.length : Int))) = true := by simp; try omega
  have e6 : ((l.length : Int) - ((l.length - 1 : Nat) : Int)).toNat = 1 := by omega
  simp only [e5, d5, cond_true, hsl, d6, e6]
  rw [hs]
  congr 2
  have hel : (l.eraseIdx i).length = l.length - 1 := erase_len hi
  have h1 : (l.eraseIdx i ++ l.drop (l.length - 1)).take (l.length - 1) = l.eraseIdx i := by
    rw [List.take_append_of_le_length (by omega), List.take_of_length_le (by omega)]
  unfold splice
  rw [Int.toNat_natCast, h1, List.append_assoc, List.take_append_of_le_length (by omega), List.take_of_length_le (by omega)]

/-! ### plays -/
abbrev Ask := T43
abbrev Opx := T41
def a0 : Ask := .mk 0 (.mk 0 0 0 []) false
def fairB (l : List Ask) : Bool := (l.all fun x => decide (x.2.4.length ≤ 100)) && decide (l.length ≤ 150)
theorem fair_eq {k : Nat} {l : List Ask} (hk : l.length + 1000 < k) (hM : l.length ≤ 9223372036854775807) : F7 k (l, ()) = some (decide (∀ x ∈ l, x.2.4.length ≤ 100) && decide ((l.length : Int) ≤ 150)) := by
  have := iter_out (R := R7_2 k) (fun x : List Ask × Int => ∃ j : Nat, j ≤ l.length ∧ (∀ i, i < j → (l.getD i a0).2.4.length ≤ 100) ∧ x = (l, (j : Int)))
    (fun x => l.length - x.2.toNat) (fun _ => if (∀ x ∈ l, x.2.4.length ≤ 100) then (.inr l : (List Ask × Bool) ⊕ List Ask) else .inl (l, false)) (fun x hx => by
      obtain ⟨j, hj, hb, rfl⟩ := hx
      by_cases hi : j < l.length
      · have e8 : decide ((j : Int) < (l.length : Int)) = true := by simp; omega
        have r1 := inRange_true (i := (j : Int)) (n := l.length) ⟨by omega, by omega⟩
        by_cases hl : (l.getD j a0).2.4.length ≤ 100
        · right
          · have e1 : IntKind.i64.wrap ((j : Int) + 1) = ((j + 1 : Nat) : Int) := by rw [wI_in (by omega)]; rfl
            have d1 : decide (((l.getD j a0).2.4.length : Int) > 100) = false := decide_eq_false (by omega)
            refine ⟨(l, ((j + 1 : Nat) : Int)), fun again => ?_, ⟨j + 1, by omega, fun i hi' => ?_, rfl⟩, by simp only; omega, rfl⟩
            · unfold R7_2
              simp only [e8, cond_true, r1, Int.toNat_natCast, e1]
              show (bif decide (((l.getD j a0).2.4.length : Int) > 100) then _ else _) = _
              rw [d1]; rfl
            · by_cases h : i = j
              · subst h; exact hl
              · exact hb i (by omega)
        · left
          intro again
          have d1 : decide (((l.getD j a0).2.4.length : Int) > 100) = true := decide_eq_true (by omega)
          have hn : ¬ ∀ x ∈ l, x.2.4.length ≤ 100 := fun h => hl (by
            apply h
            rw [List.getD_eq_getElem?_getD, List.getElem?_eq_getElem hi]
            exact List.getElem_mem _)
          rw [if_neg hn]
          unfold R7_2
          simp only [e8, cond_true, r1, Int.toNat_natCast]
          show (bif decide (((l.getD j a0).2.4.length : Int) > 100) then _ else _) = _
          rw [d1]; rfl
      · left
        intro again
        have hjl : j = l.length := by omega
        subst hjl
        have hall : ∀ x ∈ l, x.2.4.length ≤ 100 := fun x hx => by
          obtain ⟨i, hi, rfl⟩ := List.mem_iff_getElem.1 hx
          have := hb i hi
          rw [List.getD_eq_getElem?_getD, List.getElem?_eq_getElem hi] at this
          exact this
        have e8 : decide ((l.length : Int) < (l.length : Int)) = false := by simp
        rw [if_pos hall]
        unfold R7_2
        simp only [e8, cond_false]) (n := k) (x := (l, 0)) ⟨0, by omega, fun i h => absurd h (Nat.not_lt_zero i), rfl⟩ (by simp; omega)
  unfold F7 L7_2
  simp only
  rw [this]
  by_cases h : ∀ x ∈ l, x.2.4.length ≤ 100
  · rw [if_pos h, decide_eq_true h]; simp only [Option.bind_some, sumK, Bool.true_and]
  · rw [if_neg h, decide_eq_false h]; simp only [Option.bind_some, sumK, Bool.false_and]

theorem wakes_k {k : Nat} (hk : 400 ≤ k) : F8 k () = some true := by
  obtain ⟨n, rfl⟩ : ∃ n, k = n + 400 := ⟨k - 400, by omega⟩
  kernel_rfl

/-! ### ModelNone -/
theorem fair_one {k : Nat} (hk : 2000 < k) (x : Ask) : F7 k ((List.replicate (1 : Nat) (T43.mk (0 : Int) (T41.mk (0 : Int) (0 : Int) (0 : Int) []) false)).set 0 (T43.mk x.1 (T41.mk x.2.1 x.2.2 x.2.3 x.2.4) x.3), ()) = some (decide (∀ y ∈ [x], y.2.4.length ≤ 100) && decide ((([x] : List Ask).length : Int) ≤ 150)) :=
  fair_eq (k := k) (l := [x]) (by simp; omega) (by simp)
theorem modelNone_plain (x : Ask) (id : Int) : ∃ k, F5 k (x, id, ()) = some true := by
  refine ⟨3000, ?_⟩
  have hw : F8 3000 () = some true := wakes_k (by decide)
  unfold F5
  simp only
  rw [fair_one (by decide)]
  simp only [Option.bind_some]
  cases hb : (decide (∀ y ∈ [x], y.2.4.length ≤ 100) && decide ((([x] : List Ask).length : Int) ≤ 150)) with
  | false => simp only [Bool.not_false, cond_true, hw, Option.bind_some]
  | true =>
    have hn : F9 3000 ((0 : Int), (0 : Int), (0 : Int), (0 : Int)) = some (.inl ()) := rfl
    simp only [Bool.not_true, cond_false, hn, Option.bind_some, sumK]
    unfold F21s1 F14s1 F22s1 F11s1
    simp only [Option.bind_some, hw]
    rfl
theorem modelNone : Rows.ModelNoneSaid := modelNone_row fun a0 a1 _ _ => modelNone_plain a0 a1

end Go.Proofs.Ytofodkmokjhcoaa.W
