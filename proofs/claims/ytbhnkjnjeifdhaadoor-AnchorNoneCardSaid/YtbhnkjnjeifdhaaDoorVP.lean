/-
  AnchorNone: for every input that the statement lets in the law returns true; its tied card. No conditions.
-/
import Derived.Test.YtbhnkjnjeifdhaaDoorVR
set_option linter.unusedVariables false
namespace Go.Proofs.YtbhnkjnjeifdhaaDoor.W
open Go V
def two (n : Int) : List Int := [IntKind.u8.wrap n, IntKind.u8.wrap (n.fdiv 256)]
def four (n : Int) : List Int := [IntKind.u8.wrap n, IntKind.u8.wrap (n.fdiv 256), IntKind.u8.wrap (n.fdiv 65536), IntKind.u8.wrap (n.fdiv 16777216)]
theorem list8 {l : List Int} (h : l.length = 8) : ∃ a b c d e f g i, l = [a, b, c, d, e, f, g, i] := by
  match l, h with
  | [a, b, c, d, e, f, g, i], _ => exact ⟨a, b, c, d, e, f, g, i, rfl⟩
/-! ### regions -/
abbrev Geo := T23
abbrev Reg := T26
def gOk (g : Geo) : Bool := decide (g.1 ≥ 1) && (decide (g.1 ≤ 64) && (decide (g.2 ≥ 6) && (decide (g.2 ≤ 16) && (decide (g.3 ≥ 24) && (decide (g.3 ≤ 32) && (decide (g.4 ≥ 2) && decide (g.4 ≤ 16)))))))
theorem condF (a b : Bool) : (bif a then some b else some false) = some (a && b) := by cases a <;> rfl
theorem good_eq (k : Nat) (g : Geo) : F57 k (g, ()) = some (gOk g) := by
  unfold F57 gOk; simp only [condF]
theorem gOk_spec {g : Geo} (h : gOk g = true) : 1 ≤ g.1 ∧ g.1 ≤ 64 ∧ 6 ≤ g.2 ∧ g.2 ≤ 16 ∧ 24 ≤ g.3 ∧ g.3 ≤ 32 ∧ 2 ≤ g.4 ∧ g.4 ≤ 16 := by
  unfold gOk at h; simpa only [Bool.and_eq_true, decide_eq_true_eq, ge_iff_le] using h
theorem area {g : Geo} (h : gOk g = true) : 0 ≤ g.2 * g.3 ∧ g.2 * g.3 ≤ 512 := by
  have := gOk_spec h
  refine ⟨Int.mul_nonneg (by omega) (by omega), ?_⟩
  have := Int.mul_le_mul (a := g.2) (b := g.3) (c := 16) (d := 32) (by omega) (by omega) (by omega) (by omega)
  omega
def placeOk (g : Geo) (p : Int) : Bool := decide (4 ≤ p) && decide (p < 4 + g.2 * g.3)
def rootOk (g : Geo) (i p : Int) : Bool := decide (p = 0) || (placeOk g p && decide (i < (g.1 + 7) / 8))
def rootsOk (g : Geo) (l : List Int) : Bool := (List.range 8).all fun i => rootOk g i (l.getD i 0)
def regOk (r : Reg) : Bool := gOk r.Geom && (decide (0 ≤ r.Seg) && (decide (r.Seg < r.Geom.Segs) && (decide (0 ≤ r.Off) && (decide (r.Off ≤ r.Geom.SegLen) && rootsOk r.Geom r.Roots))))
theorem of_eq (k : Nat) {g : Geo} (hg : gOk g = true) {p : Int} (hp : -9223372036854775808 ≤ p ∧ p ≤ 9223372036854775807) : ∃ a b, F94 k (g, p, ()) = some (a, b, placeOk g p, ()) := by
  have hs := gOk_spec hg
  have ha := area hg
  obtain ⟨g1, g2, g3, g4⟩ := g
  simp only at hs ha
  have w1 : IntKind.i64.wrap (g2 * g3) = g2 * g3 := wI_in (by omega)
  have w2 : IntKind.i64.wrap (4 + g2 * g3) = 4 + g2 * g3 := wI_in (by omega)
  have n0 : (g3 != 0) = true := bne_iff_ne.2 (by omega)
  unfold F94 F103 F48 placeOk
  simp only [good_eq, hg, Option.bind_some, Bool.not_true, cond_false, w1, w2, n0, cond_true]
  by_cases h1 : p < 4
  · have h1' : decide (4 ≤ p) = false := decide_eq_false (by omega)
    simp only [h1, decide_true, cond_true, Option.bind_some, beq_self_eq_true, h1', Bool.false_and]
    exact ⟨_, _, rfl⟩
  · have h1' : decide (4 ≤ p) = true := decide_eq_true (by omega)
    by_cases h2 : p ≥ 4 + g2 * g3
    · have h2' : decide (p < 4 + g2 * g3) = false := decide_eq_false (by omega)
      have e : ((2 : Int) == 0) = false := rfl
      simp only [h1, decide_false, cond_false, h2, decide_true, cond_true, Option.bind_some, beq_self_eq_true, h1', h2', Bool.and_false, e]
      exact ⟨_, _, rfl⟩
    · have h2' : decide (p < 4 + g2 * g3) = true := decide_eq_true (by omega)
      have e : ((1 : Int) == 0) = false := rfl
      have e2 : ((1 : Int) == 2) = false := rfl
      simp only [h1, decide_false, cond_false, h2, Option.bind_some, h1', h2', Bool.and_true, e, e2]
      exact ⟨_, _, rfl⟩
theorem maps_eq (k : Nat) {g : Geo} (hg : gOk g = true) : F95 k (g, ()) = some ((g.1 + 7) / 8) := by
  have hs := gOk_spec hg
  obtain ⟨g1, g2, g3, g4⟩ := g
  simp only at hs
  unfold F95
  simp only [good_eq, hg, Option.bind_some, Bool.not_true, cond_false]
  have w1 : IntKind.i64.wrap (g1 - 1) = g1 - 1 := wI_in (by omega)
  rw [w1, Int.tdiv_eq_ediv_of_nonneg (by omega), wI_in (x := (g1 - 1) / 8) (by omega), wI_in (by omega)]
  congr 1; omega
def txRoot : ByteArray := ByteArray.mk (Array.mk [(114 : UInt8), (111 : UInt8), (111 : UInt8), (116 : UInt8)])
def rootE : GErr := .flt txRoot (.num 11) false
theorem ne0 {p : Int} (h : ¬ p = 0) : (p != 0) = true := bne_iff_ne.2 h
theorem range_split {f : Nat → Bool} : (List.range 8).all f = true ↔ ∀ i, i < 8 → f i = true := by
  rw [List.all_eq_true]
  exact ⟨fun h i hi => h i (List.mem_range.2 hi), fun h i hi => h i (List.mem_range.1 hi)⟩
theorem roots_loop {k n : Nat} {g : Geo} (hg : gOk g = true) {a b c d : Int} {l : List Int} (hl : l.length = 8 ∧ ∀ x ∈ l, -9223372036854775808 ≤ x ∧ x ≤ 9223372036854775807) (hn : 8 < n) :
    L87_2 k n (l, 0, a, g.1, g.2, g.3, g.4, b, c, d, l) = some (if rootsOk g l = true then .inr () else .inl rootE) := by
  have := iter_out (R := R87_2 k) (fun x => ∃ j : Nat, j ≤ 8 ∧ x = (l, (j : Int), a, g.1, g.2, g.3, g.4, b, c, d, l) ∧ ∀ i, i < j → rootOk g i (l.getD i 0) = true)
    (fun x => 8 - x.2.1.toNat) (fun _ => if rootsOk g l = true then .inr () else .inl rootE) (fun x hx => by
      obtain ⟨j, hj, rfl, hall⟩ := hx
      by_cases hi : j < 8
      · have e1 : IntKind.i64.wrap ((j : Int) + 1) = ((j + 1 : Nat) : Int) := by rw [wI_in (by omega)]; rfl
        have e8 : decide ((j : Int) < 8) = true := by simp; omega
        have hmem : -9223372036854775808 ≤ l.getD j 0 ∧ l.getD j 0 ≤ 9223372036854775807 := by
          rw [List.getD_eq_getElem?_getD, List.getElem?_eq_getElem (by omega)]
          exact hl.2 _ (List.getElem_mem _)
        obtain ⟨u, v, hof⟩ := of_eq k hg (p := l.getD j 0) hmem
        have hof' : F94 k (T23.mk g.1 g.2 g.3 g.4, l.getD j 0, ()) = some (u, v, placeOk g (l.getD j 0), ()) := hof
        have hmp : F95 k (T23.mk g.1 g.2 g.3 g.4, ()) = some ((g.1 + 7) / 8) := maps_eq k hg
        have hnew : F65 k (11, txRoot, ()) = some rootE := rfl
        have hbad : ∀ again, R87_2 k again (l, (j : Int), a, g.1, g.2, g.3, g.4, b, c, d, l) =
            if rootOk g j (l.getD j 0) = true then again (l, ((j + 1 : Nat) : Int), a, g.1, g.2, g.3, g.4, b, c, d, l) else some (.inl rootE) := by
          intro again
          unfold R87_2 rootOk
          simp only [e8, cond_true, inRange_true (i := (j : Int)) (n := 8) ⟨by omega, by omega⟩, Int.toNat_natCast, hof', Option.bind_some, hmp, e1]
          by_cases h0 : l.getD j 0 = 0
          · simp only [h0, bne_self_eq_false, cond_false, decide_true, Bool.true_or, if_true]
          · simp only [ne0 h0, cond_true, h0, decide_false, Bool.false_or]
            cases placeOk g (l.getD j 0) with
            | false =>
              simp only [Bool.not_false, cond_true, Bool.false_and, Bool.false_eq_true, if_false]
              exact congrArg (fun o => Option.bind o fun r => some (Sum.inl r)) hnew
            | true =>
              simp only [Bool.not_true, cond_false, Bool.true_and]
              by_cases hm : (j : Int) ≥ (g.1 + 7) / 8
              · have hm' : ¬ ((j : Int) < (g.1 + 7) / 8) := by omega
                simp only [hm, decide_true, cond_true, hm', decide_false, Bool.false_eq_true, if_false]
                exact congrArg (fun o => Option.bind o fun r => some (Sum.inl r)) hnew
              · have hm' : (j : Int) < (g.1 + 7) / 8 := by omega
                simp only [hm, decide_false, cond_false, hm', decide_true, if_true]
        cases hr : rootOk g j (l.getD j 0) with
        | true =>
          right
          refine ⟨_, fun again => by rw [hbad again, hr]; rfl, ⟨j + 1, by omega, rfl, fun i h => ?_⟩, by simp only; omega, rfl⟩
          by_cases hij : i = j
          · subst hij; exact hr
          · exact hall i (by omega)
        | false =>
          left
          intro again
          rw [hbad again, hr]
          have : ¬ rootsOk g l = true := fun h => by
            have := range_split.1 h j hi
            rw [hr] at this; cases this
          simp only [Bool.false_eq_true, if_false, this]
      · left
        intro again
        have : j = 8 := by omega
        subst this
        have : rootsOk g l = true := range_split.2 hall
        simp only [this, if_true]
        rfl) (n := n) (x := (l, 0, a, g.1, g.2, g.3, g.4, b, c, d, l)) ⟨0, by omega, rfl, fun i h => by omega⟩ (by simpa using hn)
  simpa [L87_2] using this
structure IsReg (r : Reg) : Prop where
  gen : 0 ≤ r.Gen ∧ r.Gen < 4294967296
  seq : 0 ≤ r.Seq ∧ r.Seq < 4294967296
  roots : r.Roots.length = 8 ∧ ∀ x ∈ r.Roots, -9223372036854775808 ≤ x ∧ x ≤ 9223372036854775807
theorem wrong_eq {k : Nat} {r : Reg} (w : IsReg r) (hk : 8 < k) : ∃ e, F70 k (r, ()) = some e ∧ F69 k (e, ()) = some (if regOk r = true then 0 else 11) := by
  obtain ⟨gen, ⟨g1, g2, g3, g4⟩, seg, off, seq, roots⟩ := r
  have hr := w.roots
  simp only at hr
  unfold F70 regOk
  simp only [good_eq, Option.bind_some]
  cases hg : gOk (T23.mk g1 g2 g3 g4) with
  | false => exact ⟨_, rfl, rfl⟩
  | true =>
    simp only [Bool.not_true, cond_false, Bool.true_and]
    by_cases h1 : seg < 0
    · have h1' : decide (0 ≤ seg) = false := decide_eq_false (by omega)
      simp only [h1, decide_true, cond_true, h1', Bool.false_and]
      exact ⟨_, rfl, rfl⟩
    have h1' : decide (0 ≤ seg) = true := decide_eq_true (by omega)
    by_cases h2 : seg ≥ g2
    · have h2' : decide (seg < g2) = false := decide_eq_false (by omega)
      simp only [h1, h2, decide_true, decide_false, cond_false, cond_true, h1', h2', Bool.false_and, Bool.and_false]
      exact ⟨_, rfl, rfl⟩
    have h2' : decide (seg < g2) = true := decide_eq_true (by omega)
    by_cases h3 : off < 0
    · have h3' : decide (0 ≤ off) = false := decide_eq_false (by omega)
      simp only [h1, h2, h3, decide_true, decide_false, cond_false, cond_true, h1', h2', h3', Bool.false_and, Bool.and_false]
      exact ⟨_, rfl, rfl⟩
    have h3' : decide (0 ≤ off) = true := decide_eq_true (by omega)
    by_cases h4 : off > g3
    · have h4' : decide (off ≤ g3) = false := decide_eq_false (by omega)
      simp only [h1, h2, h3, h4, decide_true, decide_false, cond_false, cond_true, h1', h2', h3', h4', Bool.false_and, Bool.and_false]
      exact ⟨_, rfl, rfl⟩
    have h4' : decide (off ≤ g3) = true := decide_eq_true (by omega)
    have hl := roots_loop (k := k) (n := k) (g := .mk g1 g2 g3 g4) (a := gen) (b := seg) (c := off) (d := seq) (l := roots) hg hr hk
    simp only at hl
    simp only [h1, h2, h3, h4, decide_false, cond_false, h1', h2', h3', h4', Bool.true_and]
    unfold F87
    simp only [hl, Option.bind_some]
    cases rootsOk (T23.mk g1 g2 g3 g4) roots with
    | false => exact ⟨_, rfl, rfl⟩
    | true => exact ⟨_, rfl, rfl⟩
def s0 (r : Reg) : List Int := 82 :: 0 :: (four r.Gen ++ (IntKind.u8.wrap r.Geom.1 :: IntKind.u8.wrap r.Geom.2 :: IntKind.u8.wrap r.Geom.3 :: IntKind.u8.wrap r.Geom.4 :: IntKind.u8.wrap r.Seg :: IntKind.u8.wrap r.Off :: (four r.Seq ++ List.replicate 48 0)))
def s1 (r : Reg) : List Int := 82 :: 1 :: (four r.Gen ++ (r.Roots.flatMap two ++ List.replicate 42 0))
def zsec : List Int := List.replicate 64 0
def zsecs : List (List Int) := List.replicate 2 (List.replicate 64 0)
theorem enc_eq {k : Nat} {r : Reg} (w : IsReg r) (hk : 8 < k) : F46 k (r, ()) = some (if regOk r = true then ([s0 r, s1 r], 0, ()) else (zsecs, 11, ())) := by
  obtain ⟨e, h1, h2⟩ := wrong_eq w hk
  unfold F46
  simp only
  rw [show (T26.mk r.1 (T23.mk r.2.1 r.2.2 r.2.3 r.2.4) r.3 r.4 r.5 r.6, PUnit.unit) = (r, ()) from rfl, h1]
  simp only [Option.bind_some]
  rw [show (e, PUnit.unit) = (e, ()) from rfl, h2]
  simp only [Option.bind_some]
  cases hr : regOk r with
  | false => rfl
  | true =>
    obtain ⟨gen, ⟨g1, g2, g3, g4⟩, seg, off, seq, roots⟩ := r
    obtain ⟨a, b, c, d, e, f, g, i, rfl⟩ := list8 (l := roots) w.roots.1
    obtain ⟨m, rfl⟩ : ∃ m, k = m + 9 := ⟨k - 9, by omega⟩
    simp only [if_true]
    rw [show ((0 : Int) != 0) = false from rfl]
    simp only [cond_false]
    kernel_rfl
/-! ### AnchorNone -/
theorem wakes19 : F16 400 () = some true := by kernel_rfl
theorem total_eq (k : Nat) {g : Geo} (hg : gOk g = true) : F48 k (g, ()) = some (4 + g.2 * g.3) := by
  have hs := gOk_spec hg
  have ha := area hg
  obtain ⟨g1, g2, g3, g4⟩ := g
  simp only at hs ha
  unfold F48
  simp only [good_eq, hg, Option.bind_some, Bool.not_true, cond_false]
  rw [wI_in (x := g2 * g3) (by omega), wI_in (by omega)]
theorem area_min {g : Geo} (h : gOk g = true) : 100 ≤ g.2 * g.3 := by
  have hs := gOk_spec h
  have h1 : 6 * 24 ≤ g.2 * g.3 := Int.mul_le_mul hs.2.2.1 hs.2.2.2.2.1 (by decide) (by omega)
  omega
def dev3 : List (List Int) := List.replicate 3 (List.replicate 64 0)
theorem newest3 : F14 400 (-1, 0, dev3, []) = some (0, 0, 0, 0, 0, 0, 0, 0, List.replicate 8 0, 13, -1, 0, dev3, []) := by kernel_rfl
theorem regOk_geom {r : Reg} (h : regOk r = true) : gOk r.Geom = true := by
  unfold regOk at h
  simp only [Bool.and_eq_true] at h
  exact h.1
theorem write_nil {r : Reg} (w : IsReg r) : F15hn 400 (r.1, r.2.1, r.2.2, r.2.3, r.2.4, r.3, r.4, r.5, r.6) = some 1 := by
  have he := enc_eq (k := 400) w (by omega)
  have he' : F46 400 (T26.mk r.1 (T23.mk r.2.1 r.2.2 r.2.3 r.2.4) r.3 r.4 r.5 r.6, ()) = _ := he
  unfold F15hn
  simp only [he', Option.bind_some]
  cases hr : regOk r with
  | false => rfl
  | true =>
    have ht : F48 400 (T23.mk r.2.1 r.2.2 r.2.3 r.2.4, ()) = _ := total_eq 400 (regOk_geom hr)
    have hm := area_min (regOk_geom hr)
    simp only [if_true, bne_self_eq_false, cond_false, ht, Option.bind_some, show F47hn 400 () = some 0 from rfl]
    rw [show decide ((0 : Int) < 4 + r.Geom.2 * r.Geom.3) = true by simp; omega, cond_true]
theorem write_small {r : Reg} (w : IsReg r) : ∃ x, F15 400 (r.1, r.2.1, r.2.2, r.2.3, r.2.4, r.3, r.4, r.5, r.6, -1, 0, dev3, []) = some (1, x) := by
  have he := enc_eq (k := 400) w (by omega)
  have he' : F46 400 (T26.mk r.1 (T23.mk r.2.1 r.2.2 r.2.3 r.2.4) r.3 r.4 r.5 r.6, ()) = _ := he
  unfold F15
  simp only [he', Option.bind_some]
  cases hr : regOk r with
  | false => exact ⟨_, rfl⟩
  | true =>
    have ht : F48 400 (T23.mk r.2.1 r.2.2 r.2.3 r.2.4, ()) = _ := total_eq 400 (regOk_geom hr)
    have hm := area_min (regOk_geom hr)
    simp only [if_true, bne_self_eq_false, cond_false, ht, Option.bind_some, show F47 400 (-1, 0, dev3, []) = some (3, -1, 0, dev3, []) by kernel_rfl]
    rw [show decide ((3 : Int) < 4 + r.Geom.2 * r.Geom.3) = true by simp; omega, cond_true]
    exact ⟨_, rfl⟩
theorem anchorNone_core (r : Reg) (w : IsReg r) : ∃ k, F3 k (r, ()) = some true := by
  refine ⟨400, ?_⟩
  obtain ⟨x, hx⟩ := write_small w
  unfold F3
  simp only
  rw [show F13 400 3 = some (.inr (0, -1, 0, dev3, [])) by kernel_rfl]
  simp only [Option.bind_some, sumK]
  rw [show F14hn 400 () = some (0, 0, 0, 0, 0, 0, 0, 0, List.replicate 8 0, 1) from rfl, newest3]
  simp only [Option.bind_some, write_nil w, hx, beq_self_eq_true, decide_true, Bool.and_self, cond_true, wakes19]
theorem anchorNone_plain (r : Reg) (h : WT26 r) : ∃ k, F3 k (r, ()) = some true := by
  obtain ⟨h1, h2, h3, h4, h5, h6, _⟩ := h
  unfold WI_u32 at h1 h5
  exact anchorNone_core r ⟨⟨h1.1, by omega⟩, ⟨h5.1, by omega⟩, h6.1, h6.2⟩
theorem anchorNone : Rows.AnchorNoneCardSaid := anchorNone_card (anchorNone_row anchorNone_plain)
end Go.Proofs.YtbhnkjnjeifdhaaDoor.W
