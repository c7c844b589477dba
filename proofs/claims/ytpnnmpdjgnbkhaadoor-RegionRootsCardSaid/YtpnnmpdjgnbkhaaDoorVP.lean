/-
  RegionRoots: for every input that the statement lets in the law returns true; its tied card. No conditions.
-/
import Derived.Test.YtpnnmpdjgnbkhaaDoorVR
set_option linter.unusedVariables false
namespace Go.Proofs.YtpnnmpdjgnbkhaaDoor.W
open Go V
theorem beq_ne {a b : Int} (h : ¬ a = b) : (a == b) = false := beq_eq_false_iff_ne.2 h
def IsByte (x : Int) : Prop := 0 ≤ x ∧ x ≤ 255
def zpage : List Int := List.replicate 32 0
def two (n : Int) : List Int := [IntKind.u8.wrap n, IntKind.u8.wrap (n.fdiv 256)]
def four (n : Int) : List Int := [IntKind.u8.wrap n, IntKind.u8.wrap (n.fdiv 256), IntKind.u8.wrap (n.fdiv 65536), IntKind.u8.wrap (n.fdiv 16777216)]
def val4 (a b c d : Int) : Int := a + 256 * b + 65536 * c + 16777216 * d
structure IsSec (x : List Int) : Prop where
  len : x.length = 64
  byte : ∀ y ∈ x, IsByte y
theorem IsSec.get {x : List Int} (h : IsSec x) (i : Nat) : 0 ≤ x.getD i 0 ∧ x.getD i 0 ≤ 255 := by
  rw [List.getD_eq_getElem?_getD]
  cases e : x[i]? with
  | none => simp
  | some y => exact h.byte y (List.mem_of_getElem? e)
theorem IsSec.mem_drop {x : List Int} (h : IsSec x) {n : Nat} : ∀ y ∈ x.drop n, IsByte y := fun y hy => h.byte y (List.mem_of_mem_drop hy)
theorem w8_in {x : Int} (h : 0 ≤ x ∧ x ≤ 255) : IntKind.u8.wrap x = x := by rw [w8_eq]; omega
theorem w8_byte (x : Int) : IsByte (IntKind.u8.wrap x) := by rw [w8_eq]; unfold IsByte; omega
theorem fdiv256 (n : Int) : n.fdiv 256 = n / 256 := Int.fdiv_eq_ediv_of_nonneg _ (by decide)
theorem fdiv65536 (n : Int) : n.fdiv 65536 = n / 65536 := Int.fdiv_eq_ediv_of_nonneg _ (by decide)
theorem fdiv16777216 (n : Int) : n.fdiv 16777216 = n / 16777216 := Int.fdiv_eq_ediv_of_nonneg _ (by decide)
theorem two_val {n : Int} (h : 0 ≤ n ∧ n ≤ 65535) : IntKind.u8.wrap n + 256 * IntKind.u8.wrap (n.fdiv 256) = n := by
  rw [w8_eq, w8_eq, fdiv256]; omega
theorem four_val {n : Int} (h : 0 ≤ n ∧ n < 4294967296) : val4 (IntKind.u8.wrap n) (IntKind.u8.wrap (n.fdiv 256)) (IntKind.u8.wrap (n.fdiv 65536)) (IntKind.u8.wrap (n.fdiv 16777216)) = n := by
  unfold val4
  rw [w8_eq, w8_eq, w8_eq, w8_eq, fdiv256, fdiv65536, fdiv16777216]; omega
theorem list8 {l : List Int} (h : l.length = 8) : ∃ a b c d e f g i, l = [a, b, c, d, e, f, g, i] := by
  match l, h with
  | [a, b, c, d, e, f, g, i], _ => exact ⟨a, b, c, d, e, f, g, i, rfl⟩
theorem val4_in {a b c d : Int} (ha : 0 ≤ a ∧ a ≤ 255) (hb : 0 ≤ b ∧ b ≤ 255) (hc : 0 ≤ c ∧ c ≤ 255) (hd : 0 ≤ d ∧ d ≤ 255) : 0 ≤ val4 a b c d ∧ val4 a b c d < 4294967296 := by unfold val4; omega
theorem splice_zeros {h l : List Int} {n : Nat} (hl : l.length ≤ n) : splice (h ++ List.replicate n 0) l h.length (min l.length n) = h ++ (l ++ List.replicate (n - l.length) 0) := by
  unfold splice
  have e1 : min l.length n = l.length := by omega
  rw [e1, List.take_left, List.take_length, List.drop_append, List.drop_eq_nil_of_le (by omega)]
  simp
theorem pow8 : (2 : Int) ^ min (Int.toNat 8) IntKind.u32.bits = 256 := by decide
theorem pow16 : (2 : Int) ^ min (Int.toNat 16) IntKind.u32.bits = 65536 := by decide
theorem pow24 : (2 : Int) ^ min (Int.toNat 24) IntKind.u32.bits = 16777216 := by decide
theorem pow8i : (2 : Int) ^ min (Int.toNat 8) IntKind.i64.bits = 256 := by decide
theorem roomMost_ge {n : Nat} (h : n ≤ 1000000) : decide (n ≤ roomMost) = true := decide_eq_true (show n ≤ 4294967296 by omega)
theorem or_val {w n : Nat} {x c : Int} (hx : 0 ≤ x ∧ x < 2 ^ n) (hc : 0 ≤ c) (hw : x + c * 2 ^ n < 2 ^ w) : ((BitVec.ofInt w x ||| BitVec.ofInt w (c * 2 ^ n)).toNat : Int) = x + c * 2 ^ n := by
  obtain ⟨a, rfl⟩ := Int.eq_ofNat_of_zero_le hx.1
  obtain ⟨b, rfl⟩ := Int.eq_ofNat_of_zero_le hc
  have hx2 : a < 2 ^ n := by have := hx.2; exact_mod_cast this
  have hw2 : a + b * 2 ^ n < 2 ^ w := by exact_mod_cast hw
  have e1 : (b : Int) * 2 ^ n = ((b * 2 ^ n : Nat) : Int) := by simp
  rw [e1, BitVec.toNat_or, BitVec.toNat_ofInt, BitVec.toNat_ofInt]
  have m1 : ((a : Int) % ((2 ^ w : Nat) : Int)).toNat = a := by
    rw [← Int.natCast_emod, Int.toNat_natCast, Nat.mod_eq_of_lt (by omega)]
  have m2 : (((b * 2 ^ n : Nat) : Int) % ((2 ^ w : Nat) : Int)).toNat = b * 2 ^ n := by
    rw [← Int.natCast_emod, Int.toNat_natCast, Nat.mod_eq_of_lt (by omega)]
  rw [m1, m2, Nat.or_comm, Nat.mul_comm b, ← Nat.two_pow_add_eq_or_of_lt hx2]
  push_cast
  omega
theorem getD_drop' (x : List Int) (n i : Nat) : (x.drop n).getD i 0 = x.getD (n + i) 0 := by
  rw [List.getD_eq_getElem?_getD, List.getElem?_drop, ← List.getD_eq_getElem?_getD]
theorem byteI {x : List Int} (h : IsSec x) (i : Nat) : IntKind.i64.wrap (x.getD i 0) = x.getD i 0 := wI_in (by have := h.get i; omega)
theorem byte_nat {x : List Int} (h : IsSec x) (i : Nat) : 0 ≤ x.getD i 0 + 256 * x.getD (i + 1) 0 ∧ x.getD i 0 + 256 * x.getD (i + 1) 0 < 65536 := by
  have h0 := h.get i
  have h1 := h.get (i + 1)
  omega
def headsUpto (x : List Int) (n : Nat) : List Int := (List.range n).map (fun i => x.getD (6 + 2 * i) 0 + 256 * x.getD (7 + 2 * i) 0) ++ List.replicate (8 - n) 0
theorem headsUpto_next (x : List Int) (n : Nat) (h : n < 8) : (headsUpto x n).set n (x.getD (6 + 2 * n) 0 + 256 * x.getD (7 + 2 * n) 0) = headsUpto x (n + 1) := by
  have : n = 0 ∨ n = 1 ∨ n = 2 ∨ n = 3 ∨ n = 4 ∨ n = 5 ∨ n = 6 ∨ n = 7 := by omega
  rcases this with rfl | rfl | rfl | rfl | rfl | rfl | rfl | rfl <;> rfl
theorem put4_eq {k : Nat} {v : Int} (hk : 8 < k) : F65 k (v, 4, ()) = some (four v) := by
  obtain ⟨m, rfl⟩ : ∃ m, k = m + 9 := ⟨k - 9, by omega⟩
  have : F65 (m + 9) (v, 4, ()) = some [IntKind.u8.wrap (v.fdiv 1), IntKind.u8.wrap (v.fdiv 256), IntKind.u8.wrap (v.fdiv 65536), IntKind.u8.wrap (v.fdiv 16777216)] := by kernel_rfl
  rw [this, Int.fdiv_one]; rfl
theorem put2_eq {k : Nat} {v : Int} (hk : 8 < k) : F65 k (v, 2, ()) = some (two v) := by
  obtain ⟨m, rfl⟩ : ∃ m, k = m + 9 := ⟨k - 9, by omega⟩
  have : F65 (m + 9) (v, 2, ()) = some [IntKind.u8.wrap (v.fdiv 1), IntKind.u8.wrap (v.fdiv 256)] := by kernel_rfl
  rw [this, Int.fdiv_one]; rfl
theorem rsector_eq {k : Nat} {l : List Int} (h : l.length ≤ 64) : F66 k (l, ()) = some (l ++ List.replicate (64 - l.length) 0) := by
  have := splice_zeros (h := []) (l := l) (n := 64) h
  simp only [List.nil_append, List.length_nil] at this
  unfold F66
  simp only
  rw [show ((((64 : Nat) : Int) - (0 : Int)).toNat) = 64 from rfl, show Int.toNat (0 : Int) = 0 from rfl, this]
theorem w32_in {x : Int} (h : 0 ≤ x ∧ x < 4294967296) : IntKind.u32.wrap x = x := by rw [w32_eq]; omega
theorem num4_eq {k : Nat} {a b c d : Int} (ha : 0 ≤ a ∧ a ≤ 255) (hb : 0 ≤ b ∧ b ≤ 255) (hc : 0 ≤ c ∧ c ≤ 255) (hd : 0 ≤ d ∧ d ≤ 255) (hk : 8 < k) : F68 k ([a, b, c, d], ()) = some (val4 a b c d) := by
  obtain ⟨m, rfl⟩ : ∃ m, k = m + 9 := ⟨k - 9, by omega⟩
  have : F68 (m + 9) ([a, b, c, d], ()) = some (IntKind.u32.wrap (IntKind.u32.wrap (IntKind.u32.wrap (IntKind.u32.wrap (IntKind.u32.wrap (IntKind.u32.wrap (IntKind.u32.wrap (IntKind.u32.wrap (0 * 256) + IntKind.u32.wrap d) * 256) + IntKind.u32.wrap c) * 256) + IntKind.u32.wrap b) * 256) + IntKind.u32.wrap a)) := by kernel_rfl
  rw [this]
  simp only [w32_eq]
  unfold val4
  congr 1
  omega
theorem num2_eq {k : Nat} {a b : Int} (ha : 0 ≤ a ∧ a ≤ 255) (hb : 0 ≤ b ∧ b ≤ 255) (hk : 8 < k) : F68 k ([a, b], ()) = some (a + 256 * b) := by
  obtain ⟨m, rfl⟩ : ∃ m, k = m + 9 := ⟨k - 9, by omega⟩
  have : F68 (m + 9) ([a, b], ()) = some (IntKind.u32.wrap (IntKind.u32.wrap (IntKind.u32.wrap (IntKind.u32.wrap (0 * 256) + IntKind.u32.wrap b) * 256) + IntKind.u32.wrap a)) := by kernel_rfl
  rw [this]
  simp only [w32_eq]
  congr 1
  omega
theorem take2 {x : List Int} {i : Nat} (h : i + 2 ≤ x.length) : List.take 2 (List.drop i x) = [x.getD i 0, x.getD (i + 1) 0] := by
  rw [drop_cons (i := i) (0 : Int) (by omega), drop_cons (i := i + 1) (0 : Int) (by omega)]
  rfl
/-! ### regions -/
abbrev Geo := T64
abbrev Reg := T67
def gOk (g : Geo) : Bool := decide (g.1 ≥ 1) && (decide (g.1 ≤ 64) && (decide (g.2 ≥ 6) && (decide (g.2 ≤ 16) && (decide (g.3 ≥ 24) && (decide (g.3 ≤ 32) && (decide (g.4 ≥ 2) && decide (g.4 ≤ 16)))))))
theorem condF (a b : Bool) : (bif a then some b else some false) = some (a && b) := by cases a <;> rfl
theorem good_eq (k : Nat) (g : Geo) : F82 k (g, ()) = some (gOk g) := by
  unfold F82 gOk; simp only [condF]
theorem rgood_eq (k : Nat) (g : Geo) : F69 k (g, ()) = some (gOk g) := by
  unfold F69 gOk; simp only [condF]
theorem gOk_spec {g : Geo} (h : gOk g = true) : 1 ≤ g.1 ∧ g.1 ≤ 64 ∧ 6 ≤ g.2 ∧ g.2 ≤ 16 ∧ 24 ≤ g.3 ∧ g.3 ≤ 32 ∧ 2 ≤ g.4 ∧ g.4 ≤ 16 := by
  unfold gOk at h; simpa only [Bool.and_eq_true, decide_eq_true_eq, ge_iff_le] using h
theorem area {g : Geo} (h : gOk g = true) : 0 ≤ g.2 * g.3 ∧ g.2 * g.3 ≤ 512 := by
  have := gOk_spec h
  refine ⟨Int.mul_nonneg (by omega) (by omega), ?_⟩
  have := Int.mul_le_mul (a := g.2) (b := g.3) (c := 16) (d := 32) (by omega) (by omega) (by omega) (by omega)
  omega
def placeOk (g : Geo) (p : Int) : Bool := decide (4 ≤ p) && decide (p < 4 + g.2 * g.3)
def rootOk (g : Geo) (i p : Int) : Bool := decide (p = 0) || (placeOk g p && decide (i < (g.1 + 7) / 8))
def rootsOk (g : Geo) (l : List Int) : Bool := (List.range 8).all fun i => rootOk g i (l.getD i 0)
def regOk (r : Reg) : Bool := gOk r.Geom && (decide (0 ≤ r.Seg) && (decide (r.Seg < r.Geom.Segs) && (decide (0 ≤ r.Off) && (decide (r.Off ≤ r.Geom.SegLen) && rootsOk r.Geom r.Roots))))
theorem of_eq (k : Nat) {g : Geo} (hg : gOk g = true) {p : Int} (hp : -9223372036854775808 ≤ p ∧ p ≤ 9223372036854775807) : ∃ a b, F101 k (g, p, ()) = some (a, b, placeOk g p, ()) := by
  have hs := gOk_spec hg
  have ha := area hg
  obtain ⟨g1, g2, g3, g4⟩ := g
  simp only at hs ha
  have w1 : IntKind.i64.wrap (g2 * g3) = g2 * g3 := wI_in (by omega)
  have w2 : IntKind.i64.wrap (4 + g2 * g3) = 4 + g2 * g3 := wI_in (by omega)
  have n0 : (g3 != 0) = true := bne_iff_ne.2 (by omega)
  unfold F101 F102 F103 placeOk
  simp only [good_eq, hg, Option.bind_some, Bool.not_true, cond_false, w1, w2, n0, cond_true]
  by_cases h1 : p < 4
  · have h1' : decide (4 ≤ p) = false := decide_eq_false (by omega)
    simp only [h1, decide_true, cond_true, Option.bind_some, beq_self_eq_true, h1', Bool.false_and]
    exact ⟨_, _, rfl⟩
  · have h1' : decide (4 ≤ p) = true := decide_eq_true (by omega)
    by_cases h2 : p ≥ 4 + g2 * g3
    · have h2' : decide (p < 4 + g2 * g3) = false := decide_eq_false (by omega)
      have e : ((2 : Int) == 0) = false := rfl
      simp only [h1, decide_false, cond_false, h2, decide_true, cond_true, Option.bind_some, beq_self_eq_true, h1', h2', Bool.and_false, e]
      exact ⟨_, _, rfl⟩
    · have h2' : decide (p < 4 + g2 * g3) = true := decide_eq_true (by omega)
      have e : ((1 : Int) == 0) = false := rfl
      have e2 : ((1 : Int) == 2) = false := rfl
      simp only [h1, decide_false, cond_false, h2, Option.bind_some, h1', h2', Bool.and_true, e, e2]
      exact ⟨_, _, rfl⟩
theorem maps_eq (k : Nat) {g : Geo} (hg : gOk g = true) : F83 k (g, ()) = some ((g.1 + 7) / 8) := by
  have hs := gOk_spec hg
  obtain ⟨g1, g2, g3, g4⟩ := g
  simp only at hs
  unfold F83
  simp only [good_eq, hg, Option.bind_some, Bool.not_true, cond_false]
  have w1 : IntKind.i64.wrap (g1 - 1) = g1 - 1 := wI_in (by omega)
  rw [w1, Int.tdiv_eq_ediv_of_nonneg (by omega), wI_in (x := (g1 - 1) / 8) (by omega), wI_in (by omega)]
  congr 1; omega
theorem rof_eq (k : Nat) {g : Geo} (hg : gOk g = true) : ∃ c, F53 k (g, ()) = some (.mk ((g.1 + 7) / 8) (4 + g.2 * g.3) c) := by
  have hs := gOk_spec hg
  have ha := area hg
  obtain ⟨g1, g2, g3, g4⟩ := g
  simp only at hs ha
  unfold F53
  have w0 : IntKind.i64.wrap (g2 * g3) = g2 * g3 := wI_in (by omega)
  have w2 : IntKind.i64.wrap (4 + g2 * g3) = 4 + g2 * g3 := wI_in (by omega)
  have w1 : IntKind.i64.wrap (g1 + 7) = g1 + 7 := wI_in (by omega)
  have w3 : IntKind.i64.wrap ((g1 + 7).tdiv 8) = (g1 + 7) / 8 := by rw [Int.tdiv_eq_ediv_of_nonneg (by omega), wI_in (by omega)]
  simp only [rgood_eq, hg, Option.bind_some, Bool.not_true, cond_false, w0, w1, w2, w3]
  exact ⟨_, rfl⟩
theorem where_eq (k : Nat) {g : Geo} (hg : gOk g = true) (p : Int) : ∃ a b, F70 k (g, p, ()) = some (.mk a b (placeOk g p)) := by
  obtain ⟨c, hc⟩ := rof_eq k hg
  have hs := gOk_spec hg
  obtain ⟨g1, g2, g3, g4⟩ := g
  simp only at hs hc
  have n0 : (g3 != 0) = true := bne_iff_ne.2 (by omega)
  unfold F70 placeOk
  simp only [rgood_eq, hg, Option.bind_some, Bool.not_true, cond_false, hc, n0, cond_true]
  by_cases h1 : p < 4
  · have h1' : decide (4 ≤ p) = false := decide_eq_false (by omega)
    simp only [h1, decide_true, cond_true, h1', Bool.false_and]
    exact ⟨_, _, rfl⟩
  · have h1' : decide (4 ≤ p) = true := decide_eq_true (by omega)
    by_cases h2 : p ≥ 4 + g2 * g3
    · have h2' : decide (p < 4 + g2 * g3) = false := decide_eq_false (by omega)
      simp only [h1, decide_false, cond_false, h2, decide_true, cond_true, h1', h2', Bool.and_false]
      exact ⟨_, _, rfl⟩
    · have h2' : decide (p < 4 + g2 * g3) = true := decide_eq_true (by omega)
      simp only [h1, decide_false, cond_false, h2, h1', h2', Bool.and_true]
      exact ⟨_, _, rfl⟩
def txRoot : ByteArray := ByteArray.mk (Array.mk [(114 : UInt8), (111 : UInt8), (111 : UInt8), (116 : UInt8)])
def rootE : GErr := .flt txRoot (.num 11) false
theorem ne0 {p : Int} (h : ¬ p = 0) : (p != 0) = true := bne_iff_ne.2 h
theorem range_split {f : Nat → Bool} : (List.range 8).all f = true ↔ ∀ i, i < 8 → f i = true := by
  rw [List.all_eq_true]
  exact ⟨fun h i hi => h i (List.mem_range.2 hi), fun h i hi => h i (List.mem_range.1 hi)⟩
theorem roots_loop {k n : Nat} {g : Geo} (hg : gOk g = true) {a b c d : Int} {l : List Int} (hl : l.length = 8 ∧ ∀ x ∈ l, -9223372036854775808 ≤ x ∧ x ≤ 9223372036854775807) (hn : 8 < n) :
    L94_2 k n (l, 0, a, g.1, g.2, g.3, g.4, b, c, d, l) = some (if rootsOk g l = true then .inr () else .inl rootE) := by
  have := iter_out (R := R94_2 k) (fun x => ∃ j : Nat, j ≤ 8 ∧ x = (l, (j : Int), a, g.1, g.2, g.3, g.4, b, c, d, l) ∧ ∀ i, i < j → rootOk g i (l.getD i 0) = true)
    (fun x => 8 - x.2.1.toNat) (fun _ => if rootsOk g l = true then .inr () else .inl rootE) (fun x hx => by
      obtain ⟨j, hj, rfl, hall⟩ := hx
      by_cases hi : j < 8
      · have e1 : IntKind.i64.wrap ((j : Int) + 1) = ((j + 1 : Nat) : Int) := by rw [wI_in (by omega)]; rfl
        have e8 : decide ((j : Int) < 8) = true := by simp; omega
        have hmem : -9223372036854775808 ≤ l.getD j 0 ∧ l.getD j 0 ≤ 9223372036854775807 := by
          rw [List.getD_eq_getElem?_getD, List.getElem?_eq_getElem (by omega)]
          exact hl.2 _ (List.getElem_mem _)
        obtain ⟨u, v, hof⟩ := of_eq k hg (p := l.getD j 0) hmem
        have hof' : F101 k (T64.mk g.1 g.2 g.3 g.4, l.getD j 0, ()) = some (u, v, placeOk g (l.getD j 0), ()) := hof
        have hmp : F83 k (T64.mk g.1 g.2 g.3 g.4, ()) = some ((g.1 + 7) / 8) := maps_eq k hg
        have hnew : F30 k (11, txRoot, ()) = some rootE := rfl
        have hbad : ∀ again, R94_2 k again (l, (j : Int), a, g.1, g.2, g.3, g.4, b, c, d, l) =
            if rootOk g j (l.getD j 0) = true then again (l, ((j + 1 : Nat) : Int), a, g.1, g.2, g.3, g.4, b, c, d, l) else some (.inl rootE) := by
          intro again
          unfold R94_2 rootOk
          simp only [e8, cond_true, inRange_true (i := (j : Int)) (n := 8) ⟨by omega, by omega⟩, Int.toNat_natCast, hof', Option.bind_some, hmp, e1]
          by_cases h0 : l.getD j 0 = 0
          · simp only [h0, bne_self_eq_false, cond_false, decide_true, Bool.true_or, if_true]
          · simp only [ne0 h0, cond_true, h0, decide_false, Bool.false_or]
            cases placeOk g (l.getD j 0) with
            | false =>
              simp only [Bool.not_false, cond_true, Bool.false_and, Bool.false_eq_true, if_false]
              exact congrArg (fun o => Option.bind o fun r => some (Sum.inl r)) hnew
            | true =>
              simp only [Bool.not_true, cond_false, Bool.true_and]
              by_cases hm : (j : Int) ≥ (g.1 + 7) / 8
              · have hm' : ¬ ((j : Int) < (g.1 + 7) / 8) := by omega
                simp only [hm, decide_true, cond_true, hm', decide_false, Bool.false_eq_true, if_false]
                exact congrArg (fun o => Option.bind o fun r => some (Sum.inl r)) hnew
              · have hm' : (j : Int) < (g.1 + 7) / 8 := by omega
                simp only [hm, decide_false, cond_false, hm', decide_true, if_true]
        cases hr : rootOk g j (l.getD j 0) with
        | true =>
          right
          refine ⟨_, fun again => by rw [hbad again, hr]; rfl, ⟨j + 1, by omega, rfl, fun i h => ?_⟩, by simp only; omega, rfl⟩
          by_cases hij : i = j
          · subst hij; exact hr
          · exact hall i (by omega)
        | false =>
          left
          intro again
          rw [hbad again, hr]
          have : ¬ rootsOk g l = true := fun h => by
            have := range_split.1 h j hi
            rw [hr] at this; cases this
          simp only [Bool.false_eq_true, if_false, this]
      · left
        intro again
        have : j = 8 := by omega
        subst this
        have : rootsOk g l = true := range_split.2 hall
        simp only [this, if_true]
        rfl) (n := n) (x := (l, 0, a, g.1, g.2, g.3, g.4, b, c, d, l)) ⟨0, by omega, rfl, fun i h => by omega⟩ (by simpa using hn)
  simpa [L94_2] using this
theorem rroots_loop {k n : Nat} {g : Geo} (hg : gOk g = true) {a b c d : Int} {l : List Int} (hn : 8 < n) :
    L43_4 k n (0, a, g.1, g.2, g.3, g.4, b, c, d, l) = some (if rootsOk g l = true then .inr () else .inl false) := by
  have := iter_out (R := R43_4 k) (fun x => ∃ j : Nat, j ≤ 8 ∧ x = ((j : Int), a, g.1, g.2, g.3, g.4, b, c, d, l) ∧ ∀ i, i < j → rootOk g i (l.getD i 0) = true)
    (fun x => 8 - x.1.toNat) (fun _ => if rootsOk g l = true then .inr () else .inl false) (fun x hx => by
      obtain ⟨j, hj, rfl, hall⟩ := hx
      by_cases hi : j < 8
      · have e1 : IntKind.i64.wrap ((j : Int) + 1) = ((j + 1 : Nat) : Int) := by rw [wI_in (by omega)]; rfl
        have e8 : decide ((j : Int) < 8) = true := by simp; omega
        obtain ⟨u, v, hof⟩ := where_eq k hg (l.getD j 0)
        have hof' : F70 k (T64.mk g.1 g.2 g.3 g.4, l.getD j 0, ()) = some (.mk u v (placeOk g (l.getD j 0))) := hof
        obtain ⟨w, hmp⟩ := rof_eq k hg
        have hmp' : F53 k (T64.mk g.1 g.2 g.3 g.4, ()) = some (.mk ((g.1 + 7) / 8) (4 + g.2 * g.3) w) := hmp
        have hbad : ∀ again, R43_4 k again ((j : Int), a, g.1, g.2, g.3, g.4, b, c, d, l) =
            if rootOk g j (l.getD j 0) = true then again (((j + 1 : Nat) : Int), a, g.1, g.2, g.3, g.4, b, c, d, l) else some (.inl false) := by
          intro again
          unfold R43_4 rootOk
          simp only [e8, cond_true, inRange_true (i := (j : Int)) (n := 8) ⟨by omega, by omega⟩, Int.toNat_natCast, hof', Option.bind_some, hmp', e1]
          by_cases h0 : l.getD j 0 = 0
          · simp only [h0, bne_self_eq_false, cond_false, decide_true, Bool.true_or, if_true]
          · simp only [ne0 h0, cond_true, h0, decide_false, Bool.false_or]
            by_cases hm : (j : Int) ≥ (g.1 + 7) / 8
            · have hm' : ¬ ((j : Int) < (g.1 + 7) / 8) := by omega
              simp only [hm, decide_true, cond_true, hm', decide_false, Bool.and_false, Bool.false_eq_true, if_false]
            · have hm' : (j : Int) < (g.1 + 7) / 8 := by omega
              simp only [hm, decide_false, cond_false, hm', decide_true, Bool.and_true]
              cases placeOk g (l.getD j 0) <;> rfl
        cases hr : rootOk g j (l.getD j 0) with
        | true =>
          right
          refine ⟨_, fun again => by rw [hbad again, hr]; rfl, ⟨j + 1, by omega, rfl, fun i h => ?_⟩, by simp only; omega, rfl⟩
          by_cases hij : i = j
          · subst hij; exact hr
          · exact hall i (by omega)
        | false =>
          left
          intro again
          rw [hbad again, hr]
          have : ¬ rootsOk g l = true := fun h => by
            have := range_split.1 h j hi
            rw [hr] at this; cases this
          simp only [Bool.false_eq_true, if_false, this]
      · left
        intro again
        have : j = 8 := by omega
        subst this
        have : rootsOk g l = true := range_split.2 hall
        simp only [this, if_true]
        rfl) (n := n) (x := (0, a, g.1, g.2, g.3, g.4, b, c, d, l)) ⟨0, by omega, rfl, fun i h => by omega⟩ (by simpa using hn)
  simpa [L43_4] using this
structure IsReg (r : Reg) : Prop where
  gen : 0 ≤ r.Gen ∧ r.Gen < 4294967296
  seq : 0 ≤ r.Seq ∧ r.Seq < 4294967296
  roots : r.Roots.length = 8 ∧ ∀ x ∈ r.Roots, -9223372036854775808 ≤ x ∧ x ≤ 9223372036854775807
theorem wrong_eq {k : Nat} {r : Reg} (w : IsReg r) (hk : 8 < k) : ∃ e, F63 k (r, ()) = some e ∧ F62 k (e, ()) = some (if regOk r = true then 0 else 11) := by
  obtain ⟨gen, ⟨g1, g2, g3, g4⟩, seg, off, seq, roots⟩ := r
  have hr := w.roots
  simp only at hr
  unfold F63 regOk
  simp only [good_eq, Option.bind_some]
  cases hg : gOk (T64.mk g1 g2 g3 g4) with
  | false => exact ⟨_, rfl, rfl⟩
  | true =>
    simp only [Bool.not_true, cond_false, Bool.true_and]
    by_cases h1 : seg < 0
    · have h1' : decide (0 ≤ seg) = false := decide_eq_false (by omega)
      simp only [h1, decide_true, cond_true, h1', Bool.false_and]
      exact ⟨_, rfl, rfl⟩
    have h1' : decide (0 ≤ seg) = true := decide_eq_true (by omega)
    by_cases h2 : seg ≥ g2
    · have h2' : decide (seg < g2) = false := decide_eq_false (by omega)
      simp only [h1, h2, decide_true, decide_false, cond_false, cond_true, h1', h2', Bool.false_and, Bool.and_false]
      exact ⟨_, rfl, rfl⟩
    have h2' : decide (seg < g2) = true := decide_eq_true (by omega)
    by_cases h3 : off < 0
    · have h3' : decide (0 ≤ off) = false := decide_eq_false (by omega)
      simp only [h1, h2, h3, decide_true, decide_false, cond_false, cond_true, h1', h2', h3', Bool.false_and, Bool.and_false]
      exact ⟨_, rfl, rfl⟩
    have h3' : decide (0 ≤ off) = true := decide_eq_true (by omega)
    by_cases h4 : off > g3
    · have h4' : decide (off ≤ g3) = false := decide_eq_false (by omega)
      simp only [h1, h2, h3, h4, decide_true, decide_false, cond_false, cond_true, h1', h2', h3', h4', Bool.false_and, Bool.and_false]
      exact ⟨_, rfl, rfl⟩
    have h4' : decide (off ≤ g3) = true := decide_eq_true (by omega)
    have hl := roots_loop (k := k) (n := k) (g := .mk g1 g2 g3 g4) (a := gen) (b := seg) (c := off) (d := seq) (l := roots) hg hr hk
    simp only at hl
    simp only [h1, h2, h3, h4, decide_false, cond_false, h1', h2', h3', h4', Bool.true_and]
    unfold F94
    simp only [hl, Option.bind_some]
    cases rootsOk (T64.mk g1 g2 g3 g4) roots with
    | false => exact ⟨_, rfl, rfl⟩
    | true => exact ⟨_, rfl, rfl⟩
theorem rgoodR_eq {k : Nat} (r : Reg) (hk : 8 < k) : F43 k (r, ()) = some (regOk r) := by
  obtain ⟨gen, ⟨g1, g2, g3, g4⟩, seg, off, seq, roots⟩ := r
  unfold F43 regOk
  simp only [rgood_eq, Option.bind_some]
  cases hg : gOk (T64.mk g1 g2 g3 g4) with
  | false => rfl
  | true =>
    simp only [Bool.not_true, cond_false, Bool.true_and]
    by_cases h1 : seg < 0
    · have h1' : decide (0 ≤ seg) = false := decide_eq_false (by omega)
      simp only [h1, decide_true, cond_true, h1', Bool.false_and]
    have h1' : decide (0 ≤ seg) = true := decide_eq_true (by omega)
    by_cases h2 : seg ≥ g2
    · have h2' : decide (seg < g2) = false := decide_eq_false (by omega)
      simp only [h1, h2, decide_true, decide_false, cond_false, cond_true, h2', Bool.false_and, Bool.and_false]
    have h2' : decide (seg < g2) = true := decide_eq_true (by omega)
    by_cases h3 : off < 0
    · have h3' : decide (0 ≤ off) = false := decide_eq_false (by omega)
      simp only [h1, h2, h3, decide_true, decide_false, cond_false, cond_true, h3', Bool.false_and, Bool.and_false]
    have h3' : decide (0 ≤ off) = true := decide_eq_true (by omega)
    by_cases h4 : off > g3
    · have h4' : decide (off ≤ g3) = false := decide_eq_false (by omega)
      simp only [h1, h2, h3, h4, decide_true, decide_false, cond_false, cond_true, h4', Bool.false_and, Bool.and_false]
    have h4' : decide (off ≤ g3) = true := decide_eq_true (by omega)
    have hl := rroots_loop (k := k) (n := k) (g := .mk g1 g2 g3 g4) (a := gen) (b := seg) (c := off) (d := seq) (l := roots) hg hk
    simp only at hl
    simp only [h1, h2, h3, h4, decide_false, cond_false, h1', h2', h3', h4', Bool.true_and]
    simp only [hl, Option.bind_some]
    cases rootsOk (T64.mk g1 g2 g3 g4) roots <;> rfl
theorem pgood_eq {k : Nat} {r : Reg} (w : IsReg r) (hk : 8 < k) : F42 k (r, ()) = some (regOk r) := by
  obtain ⟨e, h1, h2⟩ := wrong_eq w hk
  unfold F42
  simp only
  rw [show (T67.mk r.1 (T64.mk r.2.1 r.2.2 r.2.3 r.2.4) r.3 r.4 r.5 r.6, PUnit.unit) = (r, ()) from rfl, h1]
  simp only [Option.bind_some]
  rw [show (e, PUnit.unit) = (e, ()) from rfl, h2]
  cases regOk r <;> rfl
def s0 (r : Reg) : List Int := 82 :: 0 :: (four r.Gen ++ (IntKind.u8.wrap r.Geom.1 :: IntKind.u8.wrap r.Geom.2 :: IntKind.u8.wrap r.Geom.3 :: IntKind.u8.wrap r.Geom.4 :: IntKind.u8.wrap r.Seg :: IntKind.u8.wrap r.Off :: (four r.Seq ++ List.replicate 48 0)))
def s1 (r : Reg) : List Int := 82 :: 1 :: (four r.Gen ++ (r.Roots.flatMap two ++ List.replicate 42 0))
def zsec : List Int := List.replicate 64 0
def zsecs : List (List Int) := List.replicate 2 (List.replicate 64 0)
theorem enc_eq {k : Nat} {r : Reg} (w : IsReg r) (hk : 8 < k) : F38 k (r, ()) = some (if regOk r = true then ([s0 r, s1 r], 0, ()) else (zsecs, 11, ())) := by
  obtain ⟨e, h1, h2⟩ := wrong_eq w hk
  unfold F38
  simp only
  rw [show (T67.mk r.1 (T64.mk r.2.1 r.2.2 r.2.3 r.2.4) r.3 r.4 r.5 r.6, PUnit.unit) = (r, ()) from rfl, h1]
  simp only [Option.bind_some]
  rw [show (e, PUnit.unit) = (e, ()) from rfl, h2]
  simp only [Option.bind_some]
  cases hr : regOk r with
  | false => rfl
  | true =>
    obtain ⟨gen, ⟨g1, g2, g3, g4⟩, seg, off, seq, roots⟩ := r
    obtain ⟨a, b, c, d, e, f, g, i, rfl⟩ := list8 (l := roots) w.roots.1
    obtain ⟨m, rfl⟩ : ∃ m, k = m + 9 := ⟨k - 9, by omega⟩
    simp only [if_true]
    rw [show ((0 : Int) != 0) = false from rfl]
    simp only [cond_false]
    kernel_rfl
theorem rootOk_in {g : Geo} (hg : gOk g = true) {i p : Int} (h : rootOk g i p = true) : 0 ≤ p ∧ p < 516 := by
  have := area hg
  unfold rootOk placeOk at h
  simp only [Bool.or_eq_true, Bool.and_eq_true, decide_eq_true_eq] at h
  omega
theorem roots_in {g : Geo} (hg : gOk g = true) {l : List Int} (hl : l.length = 8) (h : rootsOk g l = true) : ∀ j, j < 8 → 0 ≤ l.getD j 0 ∧ l.getD j 0 < 516 :=
  fun j hj => rootOk_in hg (range_split.1 h j hj)
theorem regOk_g {r : Reg} (h : regOk r = true) : gOk r.Geom = true ∧ 0 ≤ r.Seg ∧ r.Seg < r.Geom.Segs ∧ 0 ≤ r.Off ∧ r.Off ≤ r.Geom.SegLen ∧ rootsOk r.Geom r.Roots = true := by
  unfold regOk at h; simpa only [Bool.and_eq_true, decide_eq_true_eq] using h
theorem rencs_loop {k n : Nat} {v1 v2 v3 v4 v5 v6 v7 v8 : Int} {l h h' : List Int} {z : List (List Int)} (hl : l.length = 8) (hall : ∀ j, j < 8 → 0 ≤ l.getD j 0 ∧ l.getD j 0 < 516) (hh : h.length ≤ 100) (hk : 8 < k) (hn : 8 < n) :
    L39_8 k n (0, v1, v2, v3, v4, v5, v6, v7, v8, l, z, h', h) = some (z, h', h ++ l.flatMap two) := by
  have := iter_out (R := R39_8 k) (fun x => ∃ j : Nat, j ≤ 8 ∧ x = ((j : Int), v1, v2, v3, v4, v5, v6, v7, v8, l, z, h', h ++ (l.take j).flatMap two))
    (fun x => 8 - x.1.toNat) (fun _ => (z, h', h ++ l.flatMap two)) (fun x hx => by
      obtain ⟨j, hj, rfl⟩ := hx
      by_cases hi : j < 8
      · right
        have e1 : IntKind.i64.wrap ((j : Int) + 1) = ((j + 1 : Nat) : Int) := by rw [wI_in (by omega)]; rfl
        have e8 : decide ((j : Int) < 8) = true := by simp; omega
        have hlt : j < l.length := by omega
        have hget : l.getD j 0 = l[j] := by rw [List.getD_eq_getElem?_getD, List.getElem?_eq_getElem hlt]; rfl
        have hr := hall j hi
        have hlen : (h ++ (l.take j).flatMap two).length + (two (l.getD j 0)).length ≤ 1000000 := by
          have : ((l.take j).flatMap two).length ≤ 16 := by
            have : ∀ q : List Int, (q.flatMap two).length = 2 * q.length := by
              intro q
              induction q with
              | nil => rfl
              | cons y q ih => rw [List.flatMap_cons, List.length_append, ih, List.length_cons]; show 2 + 2 * q.length = _; omega
            rw [this, List.length_take]; omega
          rw [List.length_append]
          show _ + 2 ≤ _
          omega
        have hnext : (h ++ (l.take j).flatMap two) ++ two (l.getD j 0) = h ++ (l.take (j + 1)).flatMap two := by
          rw [List.take_add_one, List.flatMap_append, List.append_assoc, List.getElem?_eq_getElem hlt, hget]
          simp
        refine ⟨_, fun again => ?_, ⟨j + 1, by omega, rfl⟩, by simp only; omega, rfl⟩
        unfold R39_8
        simp only [e8, cond_true, inRange_true (i := (j : Int)) (n := 8) ⟨by omega, by omega⟩, Int.toNat_natCast, w32_in (x := l.getD j 0) (by omega)]
        rw [put2_eq hk]
        simp only [Option.bind_some, roomMost_ge hlen, cond_true, e1, hnext]
      · left
        intro again
        have : j = 8 := by omega
        subst this
        unfold R39_8
        rw [show l.take 8 = l from List.take_of_length_le (by omega)]
        rfl) (n := n) (x := (0, v1, v2, v3, v4, v5, v6, v7, v8, l, z, h', h)) ⟨0, by omega, by simp⟩ (by simpa using hn)
  simpa [L39_8] using this
theorem renc_eq {k : Nat} {r : Reg} (w : IsReg r) (hk : 8 < k) : F39 k (r, ()) = some (if regOk r = true then ([s0 r, s1 r], 0, ()) else (zsecs, 11, ())) := by
  unfold F39
  simp only
  rw [show (T67.mk r.1 (T64.mk r.2.1 r.2.2 r.2.3 r.2.4) r.3 r.4 r.5 r.6, PUnit.unit) = (r, ()) from rfl, rgoodR_eq r hk]
  simp only [Option.bind_some]
  cases hr : regOk r with
  | false => rfl
  | true =>
    obtain ⟨q1, q2, q3, q4, q5, q6⟩ := regOk_g hr
    have hin := roots_in q1 w.roots.1 q6
    obtain ⟨gen, ⟨g1, g2, g3, g4⟩, seg, off, seq, roots⟩ := r
    have hl : roots.length = 8 := w.roots.1
    simp only at q1 q2 q3 q4 q5 q6 hin
    simp only [if_true, Bool.not_true, cond_false]
    rw [put4_eq hk]
    simp only [Option.bind_some]
    have c1 : ∀ {n : Nat}, n ≤ 1000000 → decide (n ≤ roomMost) = true := fun h => roomMost_ge h
    rw [c1 (by show 2 + 4 ≤ _; omega)]
    simp only [cond_true]
    rw [c1 (by show 6 + 6 ≤ _; omega)]
    simp only [cond_true]
    rw [put4_eq hk]
    simp only [Option.bind_some]
    rw [c1 (by show 12 + 4 ≤ _; omega)]
    simp only [cond_true]
    rw [c1 (by show 2 + 4 ≤ _; omega)]
    simp only [cond_true]
    rw [rencs_loop hl hin (by show 6 ≤ 100; omega) hk hk]
    simp only [Option.bind_some]
    obtain ⟨a, b, c, d, e, f, g, i, rfl⟩ := list8 (l := roots) hl
    rw [rsector_eq (by show 16 ≤ 64; omega)]
    simp only [Option.bind_some]
    rw [rsector_eq (by show 22 ≤ 64; omega)]
    rfl
def regOf (x y : List Int) : Reg :=
  .mk (val4 (x.getD 2 0) (x.getD 3 0) (x.getD 4 0) (x.getD 5 0)) (.mk (x.getD 6 0) (x.getD 7 0) (x.getD 8 0) (x.getD 9 0)) (x.getD 10 0) (x.getD 11 0) (val4 (x.getD 12 0) (x.getD 13 0) (x.getD 14 0) (x.getD 15 0)) (headsUpto y 8)
def zreg : Reg := .mk 0 (.mk 0 0 0 0) 0 0 0 (List.replicate 8 0)
def secsOk (x y : List Int) : Bool := regOk (regOf x y) && decide (s0 (regOf x y) = x ∧ s1 (regOf x y) = y)
theorem get_eq {k : Nat} {l : List Int} (hb : ∀ i, 0 ≤ l.getD i 0 ∧ l.getD i 0 ≤ 255) (hl : 4 ≤ l.length) : F67 k (l, ()) = some (val4 (l.getD 0 0) (l.getD 1 0) (l.getD 2 0) (l.getD 3 0)) := by
  have h0 := hb 0; have h1 := hb 1; have h2 := hb 2; have h3 := hb 3
  unfold F67
  simp only [inRange_true (i := 0) (n := l.length) ⟨by omega, by omega⟩, inRange_true (i := 1) (n := l.length) ⟨by omega, by omega⟩, inRange_true (i := 2) (n := l.length) ⟨by omega, by omega⟩, inRange_true (i := 3) (n := l.length) ⟨by omega, by omega⟩, cond_true, pow8, pow16, pow24]
  rw [show Int.toNat 0 = 0 from rfl, show Int.toNat 1 = 1 from rfl, show Int.toNat 2 = 2 from rfl, show Int.toNat 3 = 3 from rfl]
  generalize l.getD 0 0 = a at h0
  generalize l.getD 1 0 = b at h1
  generalize l.getD 2 0 = c at h2
  generalize l.getD 3 0 = d at h3
  rw [w32_in (x := a) (by omega), w32_in (x := b) (by omega), w32_in (x := c) (by omega), w32_in (x := d) (by omega), w32_in (x := b * 256) (by omega), w32_in (x := c * 65536) (by omega), w32_in (x := d * 16777216) (by omega)]
  have o1 := or_val (w := IntKind.u32.bits) (n := 8) (x := a) (c := b) (by omega) h1.1 (by show a + b * 256 < 4294967296; omega)
  rw [show (2 : Int) ^ 8 = 256 from rfl] at o1
  rw [o1, w32_in (x := a + b * 256) (by omega)]
  have o2 := or_val (w := IntKind.u32.bits) (n := 16) (x := a + b * 256) (c := c) (by omega) h2.1 (by show a + b * 256 + c * 65536 < 4294967296; omega)
  rw [show (2 : Int) ^ 16 = 65536 from rfl] at o2
  rw [o2, w32_in (x := a + b * 256 + c * 65536) (by omega)]
  have o3 := or_val (w := IntKind.u32.bits) (n := 24) (x := a + b * 256 + c * 65536) (c := d) (by omega) h3.1 (by show a + b * 256 + c * 65536 + d * 16777216 < 4294967296; omega)
  rw [show (2 : Int) ^ 24 = 16777216 from rfl] at o3
  rw [o3, w32_in (by omega)]
  unfold val4
  congr 1; omega
theorem getD_take' {x : List Int} {n i : Nat} (h : i < n) : (x.take n).getD i 0 = x.getD i 0 := by
  rw [List.getD_eq_getElem?_getD, List.getElem?_take_of_lt h, ← List.getD_eq_getElem?_getD]
theorem get_at {k : Nat} {x : List Int} (h : IsSec x) {a : Nat} (ha : a ≤ 60) : F67 k (List.take (64 - a) (List.drop a x), ()) = some (val4 (x.getD a 0) (x.getD (a + 1) 0) (x.getD (a + 2) 0) (x.getD (a + 3) 0)) := by
  have hlen : (x.drop a).length = 64 - a := by rw [List.length_drop, h.len]
  rw [List.take_of_length_le (by omega)]
  rw [get_eq (fun i => by rw [getD_drop']; exact h.get _) (by omega)]
  simp only [getD_drop', Nat.add_zero]
theorem take4 {x : List Int} {i : Nat} (h : i + 4 ≤ x.length) : List.take 4 (List.drop i x) = [x.getD i 0, x.getD (i + 1) 0, x.getD (i + 2) 0, x.getD (i + 3) 0] := by
  rw [drop_cons (i := i) (0 : Int) (by omega), drop_cons (i := i + 1) (0 : Int) (by omega), drop_cons (i := i + 1 + 1) (0 : Int) (by omega), drop_cons (i := i + 1 + 1 + 1) (0 : Int) (by omega)]
  rfl
theorem or_two {a b : Int} (h0 : 0 ≤ a ∧ a ≤ 255) (h1 : 0 ≤ b ∧ b ≤ 255) :
    IntKind.i64.wrap (((BitVec.ofInt IntKind.i64.bits (IntKind.i64.wrap a) ||| BitVec.ofInt IntKind.i64.bits (IntKind.i64.wrap (IntKind.i64.wrap b * 2 ^ min (Int.toNat 8) IntKind.i64.bits))).toNat : Nat) : Int) = a + 256 * b := by
  rw [pow8i, wI_in (x := a) (by omega), wI_in (x := b) (by omega), wI_in (x := b * 256) (by omega)]
  have := or_val (w := IntKind.i64.bits) (n := 8) (x := a) (c := b) (by omega) h1.1 (by show a + b * 256 < 18446744073709551616; omega)
  rw [show (2 : Int) ^ 8 = 256 from rfl] at this
  rw [this, wI_in (by omega)]
  omega
theorem dec_loop {k n : Nat} {x y : List Int} {v2 v3 v4 v5 v6 v7 v8 v9 v11 v12 v13 v14 v15 v16 v17 v18 : Int} {v10 : List Int} (hy : IsSec y) (hn : 8 < n) :
    L40_4 k n (0, [x, y], v2, v3, v4, v5, v6, v7, v8, v9, v10, v11, v12, v13, v14, v15, v16, v17, v18, headsUpto y 0) = some ([x, y], v2, v3, v4, v5, v6, v7, v8, v9, v10, v11, v12, v13, v14, v15, v16, v17, v18, headsUpto y 8) := by
  have := iter_out (R := R40_4 k) (fun q => ∃ j : Nat, j ≤ 8 ∧ q = ((j : Int), [x, y], v2, v3, v4, v5, v6, v7, v8, v9, v10, v11, v12, v13, v14, v15, v16, v17, v18, headsUpto y j))
    (fun q => 8 - q.1.toNat) (fun _ => ([x, y], v2, v3, v4, v5, v6, v7, v8, v9, v10, v11, v12, v13, v14, v15, v16, v17, v18, headsUpto y 8)) (fun q hq => by
      obtain ⟨j, hj, rfl⟩ := hq
      by_cases hi : j < 8
      · right
        have e1 : IntKind.i64.wrap ((j : Int) + 1) = ((j + 1 : Nat) : Int) := by rw [wI_in (by omega)]; rfl
        have e2 : IntKind.i64.wrap (2 * (j : Int)) = 2 * (j : Int) := wI_in (by omega)
        have e3 : IntKind.i64.wrap (6 + 2 * (j : Int)) = 6 + 2 * (j : Int) := wI_in (by omega)
        have e4 : IntKind.i64.wrap (6 + 2 * (j : Int) + 1) = 6 + 2 * (j : Int) + 1 := wI_in (by omega)
        have e5 : (6 + 2 * (j : Int)).toNat = 6 + 2 * j := by omega
        have e6 : (6 + 2 * (j : Int) + 1).toNat = 7 + 2 * j := by omega
        have e8 : decide ((j : Int) < 8) = true := by simp; omega
        have ey : ∀ d, ([x, y] : List (List Int)).getD (Int.toNat 1) d = y := fun d => rfl
        refine ⟨_, fun again => ?_, ⟨j + 1, by omega, rfl⟩, by simp only; omega, rfl⟩
        unfold R40_4
        simp only [e8, cond_true, inRange_true (i := (j : Int)) (n := 8) ⟨by omega, by omega⟩, e1, e2, e3, e4, inRange_true (i := 6 + 2 * (j : Int)) (n := 64) ⟨by omega, by omega⟩, inRange_true (i := 6 + 2 * (j : Int) + 1) (n := 64) ⟨by omega, by omega⟩, e5, e6, Int.toNat_natCast, ey]
        rw [or_two (hy.get (6 + 2 * j)) (hy.get (7 + 2 * j)), headsUpto_next y j hi]
      · left
        intro again
        have : j = 8 := by omega
        subst this
        rfl) (n := n) (x := (0, [x, y], v2, v3, v4, v5, v6, v7, v8, v9, v10, v11, v12, v13, v14, v15, v16, v17, v18, headsUpto y 0)) ⟨0, by omega, rfl⟩ (by simpa using hn)
  simpa [L40_4] using this
theorem rdec_loop {k n : Nat} {q y : List Int} {a : List (List Int)} {v2 v3 v4 v5 v6 v7 v8 v9 v11 v12 v13 v14 v15 v16 v17 v18 : Int} {v10 : List Int} (hy : IsSec y) (hk : 8 < k) (hn : 8 < n) :
    L41_5 k n (0, a, v2, v3, v4, v5, v6, v7, v8, v9, v10, y, v11, v12, v13, v14, v15, v16, v17, v18, headsUpto y 0) = some (a, v2, v3, v4, v5, v6, v7, v8, v9, v10, v11, v12, v13, v14, v15, v16, v17, v18, headsUpto y 8) := by
  have := iter_out (R := R41_5 k) (fun q => ∃ j : Nat, j ≤ 8 ∧ q = ((j : Int), a, v2, v3, v4, v5, v6, v7, v8, v9, v10, y, v11, v12, v13, v14, v15, v16, v17, v18, headsUpto y j))
    (fun q => 8 - q.1.toNat) (fun _ => (a, v2, v3, v4, v5, v6, v7, v8, v9, v10, v11, v12, v13, v14, v15, v16, v17, v18, headsUpto y 8)) (fun q hq => by
      obtain ⟨j, hj, rfl⟩ := hq
      by_cases hi : j < 8
      · right
        have e1 : IntKind.i64.wrap ((j : Int) + 1) = ((j + 1 : Nat) : Int) := by rw [wI_in (by omega)]; rfl
        have e2 : IntKind.i64.wrap (2 * (j : Int)) = 2 * (j : Int) := wI_in (by omega)
        have e3 : IntKind.i64.wrap (6 + 2 * (j : Int)) = 6 + 2 * (j : Int) := wI_in (by omega)
        have e4 : IntKind.i64.wrap (8 + 2 * (j : Int)) = 8 + 2 * (j : Int) := wI_in (by omega)
        have e5 : (6 + 2 * (j : Int)).toNat = 6 + 2 * j := by omega
        have e6 : (8 + 2 * (j : Int) - (6 + 2 * (j : Int))).toNat = 2 := by omega
        have e8 : decide ((j : Int) < 8) = true := by simp; omega
        have d1 : decide ((0 : Int) ≤ 6 + 2 * (j : Int)) = true := decide_eq_true (by omega)
        have d2 : decide (6 + 2 * (j : Int) ≤ 8 + 2 * (j : Int)) = true := decide_eq_true (by omega)
        have d3 : decide (8 + 2 * (j : Int) ≤ ((64 : Nat) : Int)) = true := decide_eq_true (by omega)
        refine ⟨_, fun again => ?_, ⟨j + 1, by omega, rfl⟩, by simp only; omega, rfl⟩
        unfold R41_5
        simp only [e8, cond_true, inRange_true (i := (j : Int)) (n := 8) ⟨by omega, by omega⟩, e1, e2, e3, e4, d1, d2, d3, Bool.and_true, e5, e6, Int.toNat_natCast]
        rw [take2 (by rw [hy.len]; omega), num2_eq (hy.get _) (hy.get _) hk]
        simp only [Option.bind_some]
        rw [wI_in (by have := byte_nat hy (6 + 2 * j); omega), show 6 + 2 * j + 1 = 7 + 2 * j by omega, headsUpto_next y j hi]
      · left
        intro again
        have : j = 8 := by omega
        subst this
        rfl) (n := n) (x := (0, a, v2, v3, v4, v5, v6, v7, v8, v9, v10, y, v11, v12, v13, v14, v15, v16, v17, v18, headsUpto y 0)) ⟨0, by omega, rfl⟩ (by simpa using hn)
  simpa [L41_5] using this
theorem regOf_is {x y : List Int} (hx : IsSec x) (hy : IsSec y) : IsReg (regOf x y) := by
  refine ⟨val4_in (hx.get _) (hx.get _) (hx.get _) (hx.get _), val4_in (hx.get _) (hx.get _) (hx.get _) (hx.get _), rfl, fun z hz => ?_⟩
  have : z ∈ headsUpto y 8 := hz
  unfold headsUpto at this
  simp only [Nat.sub_self, List.replicate_zero, List.append_nil, List.mem_map, List.mem_range] at this
  obtain ⟨i, hi, rfl⟩ := this
  have := byte_nat hy (6 + 2 * i)
  rw [show 6 + 2 * i + 1 = 7 + 2 * i by omega] at this
  omega
theorem secs_dec {x y u v : List Int} : decide ([u, v] = [x, y]) = decide (u = x ∧ v = y) := by
  apply decide_eq_decide.2
  constructor
  · intro h; injection h with h1 h2; injection h2 with h2 _; exact ⟨h1, h2⟩
  · rintro ⟨rfl, rfl⟩; rfl
theorem dec_eq {k : Nat} {x y : List Int} (hx : IsSec x) (hy : IsSec y) (hk : 8 < k) : F40 k ([x, y], ()) = some (if secsOk x y = true then (regOf x y, 0, ()) else (zreg, 11, ())) := by
  unfold F40
  have ex : ∀ d, ([x, y] : List (List Int)).getD (Int.toNat 0) d = x := fun d => rfl
  simp only [ex]
  have t2 : (((64 : Nat) : Int) - 2).toNat = 64 - 2 := rfl
  have t12 : (((64 : Nat) : Int) - 12).toNat = 64 - 12 := rfl
  rw [t2, t12, show Int.toNat 2 = 2 from rfl, show Int.toNat 12 = 12 from rfl, get_at hx (by omega)]
  simp only [Option.bind_some]
  rw [get_at hx (by omega)]
  simp only [Option.bind_some, byteI hx]
  have hl := dec_loop (k := k) (n := k) (x := x) (y := y) (v2 := 0) (v3 := 0) (v4 := 0) (v5 := 0) (v6 := 0) (v7 := 0) (v8 := 0) (v9 := 0) (v10 := List.replicate 8 0)
    (v11 := val4 (x.getD 2 0) (x.getD (2 + 1) 0) (x.getD (2 + 2) 0) (x.getD (2 + 3) 0)) (v12 := x.getD (Int.toNat 6 + Int.toNat 0) 0) (v13 := x.getD (Int.toNat 6 + Int.toNat 1) 0) (v14 := x.getD (Int.toNat 6 + 2) 0) (v15 := x.getD (Int.toNat 6 + Int.toNat 3) 0) (v16 := x.getD (Int.toNat 6 + Int.toNat 4) 0) (v17 := x.getD (Int.toNat 6 + Int.toNat 5) 0)
    (v18 := val4 (x.getD 12 0) (x.getD (12 + 1) 0) (x.getD (12 + 2) 0) (x.getD (12 + 3) 0)) hy hk
  rw [show headsUpto y 0 = List.replicate 8 0 from rfl] at hl
  rw [hl]
  simp only [Option.bind_some]
  have he := enc_eq (k := k) (regOf_is hx hy) hk
  have he' : F38 k (T67.mk (val4 (x.getD 2 0) (x.getD (2 + 1) 0) (x.getD (2 + 2) 0) (x.getD (2 + 3) 0)) (T64.mk (x.getD (Int.toNat 6 + Int.toNat 0) 0) (x.getD (Int.toNat 6 + Int.toNat 1) 0) (x.getD (Int.toNat 6 + 2) 0) (x.getD (Int.toNat 6 + Int.toNat 3) 0)) (x.getD (Int.toNat 6 + Int.toNat 4) 0) (x.getD (Int.toNat 6 + Int.toNat 5) 0) (val4 (x.getD 12 0) (x.getD (12 + 1) 0) (x.getD (12 + 2) 0) (x.getD (12 + 3) 0)) (headsUpto y 8), PUnit.unit) =
      some (if regOk (regOf x y) = true then ([s0 (regOf x y), s1 (regOf x y)], 0, ()) else (zsecs, 11, ())) := he
  rw [he']
  simp only [Option.bind_some]
  unfold secsOk
  cases hr : regOk (regOf x y) with
  | false => rfl
  | true =>
    have e0 : ((0 : Int) != 0) = false := rfl
    simp only [if_true, e0, cond_false, Bool.true_and, secs_dec]
    cases decide (s0 (regOf x y) = x ∧ s1 (regOf x y) = y) <;> rfl
theorem rdec_eq {k : Nat} {x y : List Int} (hx : IsSec x) (hy : IsSec y) (hk : 8 < k) : F41 k ([x, y], ()) = some (if secsOk x y = true then (regOf x y, 0, ()) else (zreg, 11, ())) := by
  unfold F41
  have ex : ∀ d, ([x, y] : List (List Int)).getD (Int.toNat 0) d = x := fun d => rfl
  have ey : ∀ d, ([x, y] : List (List Int)).getD (Int.toNat 1) d = y := fun d => rfl
  simp only [ex, ey]
  rw [show ((6 : Int) - 2).toNat = 4 from rfl, show ((16 : Int) - 12).toNat = 4 from rfl, show Int.toNat 2 = 2 from rfl, show Int.toNat 12 = 12 from rfl, take4 (by rw [hx.len]; omega), take4 (by rw [hx.len]; omega), num4_eq (hx.get _) (hx.get _) (hx.get _) (hx.get _) hk, num4_eq (hx.get _) (hx.get _) (hx.get _) (hx.get _) hk]
  simp only [Option.bind_some, byteI hx]
  have hl := rdec_loop (k := k) (n := k) (q := []) (a := [x, y]) (y := y) (v2 := 0) (v3 := 0) (v4 := 0) (v5 := 0) (v6 := 0) (v7 := 0) (v8 := 0) (v9 := 0) (v10 := List.replicate 8 0)
    (v11 := val4 (x.getD 2 0) (x.getD (2 + 1) 0) (x.getD (2 + 1 + 1) 0) (x.getD (2 + 1 + 1 + 1) 0)) (v12 := x.getD (Int.toNat 6) 0) (v13 := x.getD (Int.toNat 7) 0) (v14 := x.getD (Int.toNat 8) 0) (v15 := x.getD (Int.toNat 9) 0) (v16 := x.getD (Int.toNat 10) 0) (v17 := x.getD (Int.toNat 11) 0)
    (v18 := val4 (x.getD 12 0) (x.getD (12 + 1) 0) (x.getD (12 + 1 + 1) 0) (x.getD (12 + 1 + 1 + 1) 0)) hy hk hk
  rw [show headsUpto y 0 = List.replicate 8 0 from rfl] at hl
  rw [hl]
  simp only [Option.bind_some]
  have he := renc_eq (k := k) (regOf_is hx hy) hk
  have he' : F39 k (T67.mk (val4 (x.getD 2 0) (x.getD (2 + 1) 0) (x.getD (2 + 1 + 1) 0) (x.getD (2 + 1 + 1 + 1) 0)) (T64.mk (x.getD (Int.toNat 6) 0) (x.getD (Int.toNat 7) 0) (x.getD (Int.toNat 8) 0) (x.getD (Int.toNat 9) 0)) (x.getD (Int.toNat 10) 0) (x.getD (Int.toNat 11) 0) (val4 (x.getD 12 0) (x.getD (12 + 1) 0) (x.getD (12 + 1 + 1) 0) (x.getD (12 + 1 + 1 + 1) 0)) (headsUpto y 8), PUnit.unit) =
      some (if regOk (regOf x y) = true then ([s0 (regOf x y), s1 (regOf x y)], 0, ()) else (zsecs, 11, ())) := he
  rw [he']
  simp only [Option.bind_some]
  unfold secsOk
  cases hr : regOk (regOf x y) with
  | false => rfl
  | true =>
    have e0 : ((0 : Int) != 0) = false := rfl
    simp only [if_true, e0, cond_false, Bool.true_and, secs_dec]
    cases decide (s0 (regOf x y) = x ∧ s1 (regOf x y) = y) <;> rfl
set_option maxRecDepth 100000 in
theorem wakes : F44 400 () = some true := by kernel_rfl
theorem wakes_tail : ((F44 400 ()).bind fun r => some r) = some true := by rw [wakes]; rfl
theorem codes_plain (r : Reg) (x y : List Int) (w : IsReg r) (hx : IsSec x) (hy : IsSec y) : ∃ k, F11 k (r, [x, y], ()) = some true := by
  refine ⟨400, ?_⟩
  have hk : 8 < 400 := by decide
  have e : (T67.mk r.1 (T64.mk r.2.1 r.2.2 r.2.3 r.2.4) r.3 r.4 r.5 r.6, PUnit.unit) = (r, ()) := rfl
  have e1 := enc_eq w hk
  have e2 := renc_eq w hk
  have e3 := dec_eq hx hy hk
  have e4 := rdec_eq hx hy hk
  have e5 := pgood_eq w hk
  have e6 := rgoodR_eq r hk
  have hu : (PUnit.unit : Unit) = () := rfl
  unfold F11
  simp only [e, e1, e2, Option.bind_some, e3, e4, e5, e6, beq_self_eq_true, cond_true, decide_true, Bool.and_true]
  exact wakes_tail
theorem s_sec {r : Reg} (w : IsReg r) : IsSec (s0 r) ∧ IsSec (s1 r) := by
  obtain ⟨gen, ⟨g1, g2, g3, g4⟩, seg, off, seq, roots⟩ := r
  obtain ⟨a, b, c, d, e, f, g, i, rfl⟩ := list8 (l := roots) w.roots.1
  have h0 : IsByte 0 := ⟨by decide, by decide⟩
  refine ⟨⟨rfl, fun y hy => ?_⟩, ⟨rfl, fun y hy => ?_⟩⟩
  · simp only [s0, four, List.mem_cons, List.mem_append, List.mem_replicate, List.not_mem_nil, or_false] at hy
    rcases hy with rfl | rfl | (rfl | rfl | rfl | rfl) | rfl | rfl | rfl | rfl | rfl | rfl | (rfl | rfl | rfl | rfl) | ⟨_, rfl⟩
    all_goals first | exact w8_byte _ | exact ⟨by decide, by decide⟩
  · have : y = 82 ∨ y = 1 ∨ y = 0 ∨ ∃ z, y = IntKind.u8.wrap z := by
      simp only [s1, four, two, List.flatMap_cons, List.flatMap_nil, List.mem_cons, List.mem_append, List.mem_replicate, List.not_mem_nil, or_false] at hy
      rcases hy with h | h | (h | h | h | h) | ((h | h) | (h | h) | (h | h) | (h | h) | (h | h) | (h | h) | (h | h) | (h | h)) | ⟨_, h⟩
      all_goals first | exact .inl h | exact .inr (.inl h) | exact .inr (.inr (.inl h)) | exact .inr (.inr (.inr ⟨_, h⟩))
    rcases this with rfl | rfl | rfl | ⟨z, rfl⟩
    all_goals first | exact w8_byte _ | exact ⟨by decide, by decide⟩
theorem regOf_s {r : Reg} (w : IsReg r) (h : regOk r = true) : regOf (s0 r) (s1 r) = r := by
  obtain ⟨q1, q2, q3, q4, q5, q6⟩ := regOk_g h
  have hin := roots_in q1 w.roots.1 q6
  have hs := gOk_spec q1
  have hgen := four_val w.gen
  have hseq := four_val w.seq
  obtain ⟨gen, ⟨g1, g2, g3, g4⟩, seg, off, seq, roots⟩ := r
  simp only at q2 q3 q4 q5 hs hgen hseq hin
  obtain ⟨a, b, c, d, e, f, g, i, rfl⟩ := list8 (l := roots) w.roots.1
  have i0 : 0 ≤ a ∧ a < 516 := hin 0 (by decide)
  have i1 : 0 ≤ b ∧ b < 516 := hin 1 (by decide)
  have i2 : 0 ≤ c ∧ c < 516 := hin 2 (by decide)
  have i3 : 0 ≤ d ∧ d < 516 := hin 3 (by decide)
  have i4 : 0 ≤ e ∧ e < 516 := hin 4 (by decide)
  have i5 : 0 ≤ f ∧ f < 516 := hin 5 (by decide)
  have i6 : 0 ≤ g ∧ g < 516 := hin 6 (by decide)
  have i7 : 0 ≤ i ∧ i < 516 := hin 7 (by decide)
  have : regOf (s0 (.mk gen (.mk g1 g2 g3 g4) seg off seq [a, b, c, d, e, f, g, i])) (s1 (.mk gen (.mk g1 g2 g3 g4) seg off seq [a, b, c, d, e, f, g, i])) =
    .mk (val4 (IntKind.u8.wrap gen) (IntKind.u8.wrap (gen.fdiv 256)) (IntKind.u8.wrap (gen.fdiv 65536)) (IntKind.u8.wrap (gen.fdiv 16777216)))
      (.mk (IntKind.u8.wrap g1) (IntKind.u8.wrap g2) (IntKind.u8.wrap g3) (IntKind.u8.wrap g4)) (IntKind.u8.wrap seg) (IntKind.u8.wrap off)
      (val4 (IntKind.u8.wrap seq) (IntKind.u8.wrap (seq.fdiv 256)) (IntKind.u8.wrap (seq.fdiv 65536)) (IntKind.u8.wrap (seq.fdiv 16777216)))
      [IntKind.u8.wrap a + 256 * IntKind.u8.wrap (a.fdiv 256), IntKind.u8.wrap b + 256 * IntKind.u8.wrap (b.fdiv 256), IntKind.u8.wrap c + 256 * IntKind.u8.wrap (c.fdiv 256), IntKind.u8.wrap d + 256 * IntKind.u8.wrap (d.fdiv 256),
       IntKind.u8.wrap e + 256 * IntKind.u8.wrap (e.fdiv 256), IntKind.u8.wrap f + 256 * IntKind.u8.wrap (f.fdiv 256), IntKind.u8.wrap g + 256 * IntKind.u8.wrap (g.fdiv 256), IntKind.u8.wrap i + 256 * IntKind.u8.wrap (i.fdiv 256)] := rfl
  rw [this, hgen, hseq, two_val (by omega), two_val (by omega), two_val (by omega), two_val (by omega), two_val (by omega), two_val (by omega), two_val (by omega), two_val (by omega),
    w8_in (x := g1) (by omega), w8_in (x := g2) (by omega), w8_in (x := g3) (by omega), w8_in (x := g4) (by omega), w8_in (x := seg) (by omega), w8_in (x := off) (by omega)]
theorem secsOk_s {r : Reg} (w : IsReg r) (h : regOk r = true) : secsOk (s0 r) (s1 r) = true := by
  unfold secsOk
  rw [regOf_s w h, h]
  simp
theorem secsOk_spec {x y : List Int} (h : secsOk x y = true) : s0 (regOf x y) = x ∧ s1 (regOf x y) = y := by
  unfold secsOk at h
  simp only [Bool.and_eq_true, decide_eq_true_eq] at h
  exact h.2
theorem gen_of0 {r q : Reg} (w : IsReg r) (v : IsReg q) (h : s0 r = s0 q) : r.Gen = q.Gen := by
  have : val4 ((s0 r).getD 2 0) ((s0 r).getD 3 0) ((s0 r).getD 4 0) ((s0 r).getD 5 0) = val4 ((s0 q).getD 2 0) ((s0 q).getD 3 0) ((s0 q).getD 4 0) ((s0 q).getD 5 0) := by rw [h]
  have e1 : val4 ((s0 r).getD 2 0) ((s0 r).getD 3 0) ((s0 r).getD 4 0) ((s0 r).getD 5 0) = r.Gen := four_val w.gen
  have e2 : val4 ((s0 q).getD 2 0) ((s0 q).getD 3 0) ((s0 q).getD 4 0) ((s0 q).getD 5 0) = q.Gen := four_val v.gen
  rw [← e1, this, e2]
theorem gen_of1 {r q : Reg} (w : IsReg r) (v : IsReg q) (h : s1 r = s1 q) : r.Gen = q.Gen := by
  have : val4 ((s1 r).getD 2 0) ((s1 r).getD 3 0) ((s1 r).getD 4 0) ((s1 r).getD 5 0) = val4 ((s1 q).getD 2 0) ((s1 q).getD 3 0) ((s1 q).getD 4 0) ((s1 q).getD 5 0) := by rw [h]
  have e1 : val4 ((s1 r).getD 2 0) ((s1 r).getD 3 0) ((s1 r).getD 4 0) ((s1 r).getD 5 0) = r.Gen := four_val w.gen
  have e2 : val4 ((s1 q).getD 2 0) ((s1 q).getD 3 0) ((s1 q).getD 4 0) ((s1 q).getD 5 0) = q.Gen := four_val v.gen
  rw [← e1, this, e2]
theorem torn_no {r q : Reg} (w : IsReg r) (v : IsReg q) (h : ¬ q.Gen = r.Gen) : secsOk (s0 r) (s1 q) = false := by
  cases hs : secsOk (s0 r) (s1 q) with
  | false => rfl
  | true =>
    obtain ⟨h1, h2⟩ := secsOk_spec hs
    have hi := regOf_is (s_sec w).1 (s_sec v).2
    exact absurd ((gen_of1 hi v h2).symm.trans (gen_of0 hi w h1)) h
theorem turned_no {r : Reg} : secsOk (s1 r) (s0 r) = false := by
  cases hs : secsOk (s1 r) (s0 r) with
  | false => rfl
  | true =>
    obtain ⟨h1, h2⟩ := secsOk_spec hs
    have : (s0 (regOf (s1 r) (s0 r))).getD 1 0 = (s1 r).getD 1 0 := by rw [h1]
    exact absurd this (by show ¬ ((0 : Int) = 1); decide)
theorem torn_plain (r q : Reg) (w : IsReg r) (v : IsReg q) : ∃ k, F12 k (r, q, ()) = some true := by
  refine ⟨400, ?_⟩
  have hk : 8 < 400 := by decide
  have e : (T67.mk r.1 (T64.mk r.2.1 r.2.2 r.2.3 r.2.4) r.3 r.4 r.5 r.6, PUnit.unit) = (r, ()) := rfl
  have e' : (T67.mk q.1 (T64.mk q.2.1 q.2.2 q.2.3 q.2.4) q.3 q.4 q.5 q.6, PUnit.unit) = (q, ()) := rfl
  have e1 := enc_eq w hk
  have e2 := enc_eq v hk
  unfold F12
  simp only [e, e', e1, e2, Option.bind_some]
  cases hr : regOk r with
  | false =>
    have d1 : ((11 : Int) != 0) = true := rfl
    simp only [Bool.false_eq_true, if_false, d1, cond_true, beq_self_eq_true]
    exact wakes_tail
  | true =>
    have d0 : ((0 : Int) != 0) = false := rfl
    have hz : ∀ a b : List Int, (((List.replicate 2 (List.replicate 64 (0 : Int))).set 0 a).set 1 b) = [a, b] := fun a b => rfl
    have g0 : ∀ (a b d : List Int), [a, b].getD (Int.toNat 0) d = a := fun a b d => rfl
    have g1 : ∀ (a b d : List Int), [a, b].getD (Int.toNat 1) d = b := fun a b d => rfl
    have e3 := dec_eq (s_sec w).1 (s_sec w).2 hk
    have e4 := dec_eq (s_sec w).2 (s_sec w).1 hk
    rw [secsOk_s w hr, regOf_s w hr] at e3
    rw [turned_no] at e4
    have d11 : ((11 : Int) != 11) = false := rfl
    have d11' : ((11 : Int) == 11) = true := rfl
    simp only [if_true, d0, cond_false, hz, g0, g1]
    have hu : ∀ a : List (List Int), (a, PUnit.unit) = (a, ()) := fun _ => rfl
    simp only [e3, e4, Option.bind_some, if_true, d0, cond_false, beq_self_eq_true, Bool.and_true, decide_true, Bool.not_true, Bool.false_eq_true, if_false, d11]
    cases hq : regOk q with
    | false =>
      have d1 : ((11 : Int) != 0) = true := rfl
      simp only [Bool.false_eq_true, if_false, d1, cond_true]
      exact wakes_tail
    | true =>
      simp only [if_true, d0, cond_false]
      by_cases hg : q.Gen = r.Gen
      · simp only [hg, beq_self_eq_true, cond_true]
        exact wakes_tail
      · have e5 := dec_eq (s_sec w).1 (s_sec v).2 hk
        have e6 := dec_eq (s_sec v).1 (s_sec w).2 hk
        rw [torn_no w v hg] at e5
        rw [torn_no v w (fun h => hg h.symm)] at e6
        simp only [beq_ne hg, cond_false, g0, g1, e5, e6, Option.bind_some, Bool.false_eq_true, if_false, d11', cond_true]
        exact wakes_tail
theorem places_loop {k n : Nat} {r : Reg} {v2 v3 v4 v5 v6 v7 : Int} {v9 : List Int} (hn : 4 < n) :
    L13_6 k n (0, r.Gen, v2, v3, v4, v5, v6, v7, r.Seq, v9, s0 r, s1 r) = some (.inr (r.Gen, v2, v3, v4, v5, v6, v7, r.Seq, v9, s0 r, s1 r)) := by
  have := iter_out (R := R13_6 k) (fun x => ∃ j : Nat, j ≤ 4 ∧ x = ((j : Int), r.Gen, v2, v3, v4, v5, v6, v7, r.Seq, v9, s0 r, s1 r))
    (fun x => 4 - x.1.toNat) (fun _ => .inr (r.Gen, v2, v3, v4, v5, v6, v7, r.Seq, v9, s0 r, s1 r)) (fun x hx => by
      obtain ⟨j, hj, rfl⟩ := hx
      by_cases hi : j < 4
      · right
        have hq : (s0 r).getD (2 + j) 0 = IntKind.u8.wrap (r.Gen.fdiv (2 ^ min (8 * j) IntKind.u32.bits)) ∧ (s1 r).getD (2 + j) 0 = IntKind.u8.wrap (r.Gen.fdiv (2 ^ min (8 * j) IntKind.u32.bits)) ∧ (s0 r).getD (12 + j) 0 = IntKind.u8.wrap (r.Seq.fdiv (2 ^ min (8 * j) IntKind.u32.bits)) := by
          have : j = 0 ∨ j = 1 ∨ j = 2 ∨ j = 3 := by omega
          rcases this with rfl | rfl | rfl | rfl
          · have hf : ∀ z : Int, z.fdiv (2 ^ min (8 * 0) IntKind.u32.bits) = z := fun z => Int.fdiv_one z
            simp only [hf]
            exact ⟨rfl, rfl, rfl⟩
          · exact ⟨rfl, rfl, rfl⟩
          · exact ⟨rfl, rfl, rfl⟩
          · exact ⟨rfl, rfl, rfl⟩
        have e1 : IntKind.i64.wrap ((j : Int) + 1) = ((j + 1 : Nat) : Int) := by rw [wI_in (by omega)]; rfl
        have e2 : IntKind.u64.wrap (IntKind.i64.wrap (8 * (j : Int))) = 8 * (j : Int) := by rw [wI_in (by omega), w64_in (by omega)]
        have e3 : IntKind.i64.wrap (2 + (j : Int)) = 2 + (j : Int) := wI_in (by omega)
        have e4 : IntKind.i64.wrap (12 + (j : Int)) = 12 + (j : Int) := wI_in (by omega)
        have e5 : (2 + (j : Int)).toNat = 2 + j := by omega
        have e6 : (12 + (j : Int)).toNat = 12 + j := by omega
        have e7 : (8 * (j : Int)).toNat = 8 * j := by omega
        have e8 : decide ((j : Int) < 4) = true := by simp; omega
        have e9 : decide (0 ≤ 8 * (j : Int)) = true := decide_eq_true (by omega)
        refine ⟨_, fun again => ?_, ⟨j + 1, by omega, rfl⟩, by simp only; omega, rfl⟩
        unfold R13_6
        simp only [e8, e2, e3, e4, e5, e6, e7, e9, cond_true, inRange_true (i := 2 + (j : Int)) (n := 64) ⟨by omega, by omega⟩, inRange_true (i := 12 + (j : Int)) (n := 64) ⟨by omega, by omega⟩, hq.1, hq.2.1, hq.2.2, bne_self_eq_false, cond_false, e1]
      · left
        intro again
        have : j = 4 := by omega
        subst this
        rfl) (n := n) (x := (0, r.Gen, v2, v3, v4, v5, v6, v7, r.Seq, v9, s0 r, s1 r)) ⟨0, by omega, rfl⟩ (by simpa using hn)
  simpa [L13_6] using this
theorem places_loop2 {k n : Nat} {r : Reg} {v1 v2 v3 v4 v5 v6 v7 v8 : Int} {v10 : List Int} (hl : r.Roots.length = 8) (hin : ∀ j, j < 8 → 0 ≤ r.Roots.getD j 0 ∧ r.Roots.getD j 0 < 516) (hn : 8 < n) :
    L13_12 k n (0, v1, v2, v3, v4, v5, v6, v7, v8, r.Roots, v10, s1 r) = some (.inr (v1, v2, v3, v4, v5, v6, v7, v8, r.Roots, v10, s1 r)) := by
  have := iter_out (R := R13_12 k) (fun x => ∃ j : Nat, j ≤ 8 ∧ x = ((j : Int), v1, v2, v3, v4, v5, v6, v7, v8, r.Roots, v10, s1 r))
    (fun x => 8 - x.1.toNat) (fun _ => .inr (v1, v2, v3, v4, v5, v6, v7, v8, r.Roots, v10, s1 r)) (fun x hx => by
      obtain ⟨j, hj, rfl⟩ := hx
      by_cases hi : j < 8
      · right
        have hq : (s1 r).getD (6 + 2 * j) 0 = IntKind.u8.wrap (r.Roots.getD j 0) ∧ (s1 r).getD (7 + 2 * j) 0 = IntKind.u8.wrap ((r.Roots.getD j 0).fdiv 256) := by
          unfold s1
          obtain ⟨a, b, c, d, e, f, g, i, hr⟩ := list8 hl
          rw [hr]
          have : j = 0 ∨ j = 1 ∨ j = 2 ∨ j = 3 ∨ j = 4 ∨ j = 5 ∨ j = 6 ∨ j = 7 := by omega
          rcases this with rfl | rfl | rfl | rfl | rfl | rfl | rfl | rfl <;> exact ⟨rfl, rfl⟩
        have hv := hin j hi
        have b0 := w8_byte (r.Roots.getD j 0)
        have b1 := w8_byte ((r.Roots.getD j 0).fdiv 256)
        have hsum : IntKind.i64.wrap (IntKind.i64.wrap (IntKind.u8.wrap (r.Roots.getD j 0)) + IntKind.i64.wrap (256 * IntKind.i64.wrap (IntKind.u8.wrap ((r.Roots.getD j 0).fdiv 256)))) = r.Roots.getD j 0 := by
          have := two_val (n := r.Roots.getD j 0) (by omega)
          unfold IsByte at b0 b1
          rw [wI_in (x := IntKind.u8.wrap (r.Roots.getD j 0)) (by omega), wI_in (x := IntKind.u8.wrap ((r.Roots.getD j 0).fdiv 256)) (by omega), wI_in (x := 256 * _) (by omega), this, wI_in (by omega)]
        have e1 : IntKind.i64.wrap ((j : Int) + 1) = ((j + 1 : Nat) : Int) := by rw [wI_in (by omega)]; rfl
        have e2 : IntKind.i64.wrap (2 * (j : Int)) = 2 * (j : Int) := wI_in (by omega)
        have e3 : IntKind.i64.wrap (6 + 2 * (j : Int)) = 6 + 2 * (j : Int) := wI_in (by omega)
        have e4 : IntKind.i64.wrap (7 + 2 * (j : Int)) = 7 + 2 * (j : Int) := wI_in (by omega)
        have e5 : (6 + 2 * (j : Int)).toNat = 6 + 2 * j := by omega
        have e6 : (7 + 2 * (j : Int)).toNat = 7 + 2 * j := by omega
        have e8 : decide ((j : Int) < 8) = true := by simp; omega
        refine ⟨_, fun again => ?_, ⟨j + 1, by omega, rfl⟩, by simp only; omega, rfl⟩
        unfold R13_12
        simp only [e8, e2, e3, e4, e5, e6, cond_true, inRange_true (i := (j : Int)) (n := 8) ⟨by omega, by omega⟩, inRange_true (i := 6 + 2 * (j : Int)) (n := 64) ⟨by omega, by omega⟩, inRange_true (i := 7 + 2 * (j : Int)) (n := 64) ⟨by omega, by omega⟩, hq.1, hq.2, hsum, Int.toNat_natCast, bne_self_eq_false, cond_false, e1]
      · left
        intro again
        have : j = 8 := by omega
        subst this
        rfl) (n := n) (x := (0, v1, v2, v3, v4, v5, v6, v7, v8, r.Roots, v10, s1 r)) ⟨0, by omega, rfl⟩ (by simpa using hn)
  simpa [L13_12] using this
theorem places_plain (r : Reg) (w : IsReg r) : ∃ k, F13 k (r, ()) = some true := by
  refine ⟨400, ?_⟩
  have hk : 8 < 400 := by decide
  have e : (T67.mk r.1 (T64.mk r.2.1 r.2.2 r.2.3 r.2.4) r.3 r.4 r.5 r.6, PUnit.unit) = (r, ()) := rfl
  have e1 := enc_eq w hk
  have e2 := pgood_eq w hk
  unfold F13
  simp only [e, e1, Option.bind_some]
  cases hr : regOk r with
  | false =>
    have d1 : ((11 : Int) != 0) = true := rfl
    have hz : decide (zsecs = List.replicate 2 (List.replicate 64 0)) = true := decide_eq_true rfl
    simp only [Bool.false_eq_true, if_false, d1, cond_true, hz, e2, hr, Option.bind_some, Bool.not_false]
    exact wakes_tail
  | true =>
    obtain ⟨q1, q2, q3, q4, q5, q6⟩ := regOk_g hr
    have hin := roots_in q1 w.roots.1 q6
    have hs := gOk_spec q1
    have d0 : ((0 : Int) != 0) = false := rfl
    have g0 : ∀ (a b d : List Int), [a, b].getD (Int.toNat 0) d = a := fun a b d => rfl
    have g1 : ∀ (a b d : List Int), [a, b].getD (Int.toNat 1) d = b := fun a b d => rfl
    simp only [if_true, d0, cond_false, g0, g1]
    rw [places_loop (by decide)]
    simp only [Option.bind_some, sumK]
    rw [places_loop2 w.roots.1 hin (by decide)]
    have b : ∀ z : Int, 0 ≤ z ∧ z ≤ 255 → IntKind.i64.wrap (IntKind.u8.wrap z) = z := fun z h => by rw [w8_in h, wI_in (by omega)]
    have f1 : IntKind.i64.wrap ((s0 r).getD (Int.toNat 6) 0) = r.Geom.Pages := b _ (by omega)
    have f2 : IntKind.i64.wrap ((s0 r).getD (Int.toNat 7) 0) = r.Geom.Segs := b _ (by omega)
    have f3 : IntKind.i64.wrap ((s0 r).getD (Int.toNat 8) 0) = r.Geom.SegLen := b _ (by omega)
    have f4 : IntKind.i64.wrap ((s0 r).getD (Int.toNat 9) 0) = r.Geom.Frames := b _ (by omega)
    have f5 : IntKind.i64.wrap ((s0 r).getD (Int.toNat 10) 0) = r.Seg := b _ (by omega)
    have f6 : IntKind.i64.wrap ((s0 r).getD (Int.toNat 11) 0) = r.Off := b _ (by omega)
    have k1 : (s0 r).getD (Int.toNat 0) 0 = 82 := rfl
    have k2 : (s1 r).getD (Int.toNat 0) 0 = 82 := rfl
    have k3 : (s0 r).getD (Int.toNat 1) 0 = 0 := rfl
    have k4 : (s1 r).getD (Int.toNat 1) 0 = 1 := rfl
    have k5 : (s0 r).getD (Int.toNat 16) 0 = 0 := rfl
    have k6 : (s1 r).getD (Int.toNat 22) 0 = 0 := by
      unfold s1
      obtain ⟨a, b, c, d, e, f, g, i, hr⟩ := list8 w.roots.1
      rw [hr]; rfl
    simp only [Option.bind_some, f1, f2, f3, f4, f5, f6, k1, k2, k3, k4, k5, k6, beq_self_eq_true, cond_true, e, e2, hr]
    exact wakes_tail
theorem rootsOk_set {g : Geo} {l : List Int} (hl : l.length = 8) (h : rootsOk g l = true) {j : Nat} (hj : j < 8) (p : Int) : rootsOk g (l.set j p) = rootOk g j p := by
  have hget : ∀ i, i < 8 → (l.set j p).getD i 0 = if j = i then p else l.getD i 0 := by
    intro i hi
    rw [List.getD_eq_getElem?_getD, List.getElem?_set, List.getD_eq_getElem?_getD]
    by_cases h : j = i
    · subst h; simp [show j < l.length by omega]
    · simp [h]
  cases hr : rootOk g j p with
  | true =>
    refine range_split.2 fun i hi => ?_
    rw [hget i hi]
    by_cases h' : j = i
    · subst h'; simpa using hr
    · simp only [h', if_false]; exact range_split.1 h i hi
  | false =>
    cases hc : rootsOk g (l.set j p) with
    | false => rfl
    | true =>
      have := range_split.1 hc j hj
      rw [hget j hj, if_pos rfl, hr] at this
      cases this
theorem roots_plain (r : Reg) (id p : Int) (w : IsReg r) (hid : 0 ≤ id ∧ id ≤ 255) (hp : -9223372036854775808 ≤ p ∧ p ≤ 9223372036854775807) : ∃ k, F14 k (r, id, p, ()) = some true := by
  refine ⟨400, ?_⟩
  have hk : 8 < 400 := by decide
  have e : (T67.mk r.1 (T64.mk r.2.1 r.2.2 r.2.3 r.2.4) r.3 r.4 r.5 r.6, PUnit.unit) = (r, ()) := rfl
  have e1 := pgood_eq w hk
  have e2 := rgoodR_eq r hk
  unfold F14
  simp only [e, e2, Option.bind_some]
  cases hr : regOk r with
  | false =>
    simp only [Bool.not_false, cond_true, e1, hr, Option.bind_some]
    exact wakes_tail
  | true =>
    obtain ⟨q1, q2, q3, q4, q5, q6⟩ := regOk_g hr
    have hs := gOk_spec q1
    have ha := area q1
    have hj : ∃ j : Nat, j < 8 ∧ (IntKind.i64.wrap id).tmod 8 = (j : Int) := by
      rw [wI_in (by omega), Int.tmod_eq_emod_of_nonneg hid.1]
      exact ⟨(id % 8).toNat, by omega, by omega⟩
    obtain ⟨j, hj8, hje⟩ := hj
    have wq : IsReg (T67.mk r.1 (T64.mk r.2.1 r.2.2 r.2.3 r.2.4) r.3 r.4 r.5 (r.6.set j p)) := by
      refine ⟨w.gen, w.seq, by rw [List.length_set]; exact w.roots.1, fun x hx => ?_⟩
      rcases List.mem_or_eq_of_mem_set hx with h | rfl
      · exact w.roots.2 x h
      · exact hp
    have hq : regOk (T67.mk r.1 (T64.mk r.2.1 r.2.2 r.2.3 r.2.4) r.3 r.4 r.5 (r.6.set j p)) = rootOk r.Geom j p := by
      have : regOk (T67.mk r.1 (T64.mk r.2.1 r.2.2 r.2.3 r.2.4) r.3 r.4 r.5 (r.6.set j p)) = (gOk r.Geom && (decide (0 ≤ r.Seg) && (decide (r.Seg < r.Geom.Segs) && (decide (0 ≤ r.Off) && (decide (r.Off ≤ r.Geom.SegLen) && rootsOk r.Geom (r.Roots.set j p)))))) := rfl
      rw [this, q1, decide_eq_true q2, decide_eq_true q3, decide_eq_true q4, decide_eq_true q5, rootsOk_set w.roots.1 q6 hj8]
      simp only [Bool.true_and]
    have f1 := enc_eq wq hk
    have f2 := pgood_eq wq hk
    have hu : (PUnit.unit : Unit) = () := rfl
    have wm : IntKind.i64.wrap ((IntKind.i64.wrap (IntKind.i64.wrap (r.2.1 + 8) - 1)).tdiv 8) = (r.2.1 + 7) / 8 := by
      rw [wI_in (x := r.2.1 + 8) (by omega), wI_in (x := r.2.1 + 8 - 1) (by omega), Int.tdiv_eq_ediv_of_nonneg (by omega), wI_in (by omega)]
      congr 1; omega
    have wa : IntKind.i64.wrap (4 + IntKind.i64.wrap (r.2.2 * r.2.3)) = 4 + r.2.2 * r.2.3 := by
      rw [wI_in (x := r.2.2 * r.2.3) (by omega), wI_in (by omega)]
    simp only [Bool.not_true, cond_false, hje, inRange_true (i := (j : Int)) (n := 8) ⟨by omega, by omega⟩, cond_true, Int.toNat_natCast, wm, wa]
    rw [hq] at f1 f2
    have d11 : ((11 : Int) == 0) = false := rfl
    have fin : ∀ want : Bool, rootOk r.Geom j p = want →
        ((F38 400 (T67.mk r.1 (T64.mk r.2.1 r.2.2 r.2.3 r.2.4) r.3 r.4 r.5 (r.6.set j p), ())).bind fun u => (F42 400 (T67.mk r.1 (T64.mk r.2.1 r.2.2 r.2.3 r.2.4) r.3 r.4 r.5 (r.6.set j p), ())).bind fun v => bif v == want then bif (u.snd.fst == 0) == want then (F44 400 ()).bind fun r => some r else some false else some false) = some true := by
      intro want h
      rw [f1, f2, h]
      simp only [Option.bind_some, beq_self_eq_true, cond_true]
      cases want
      · simp only [Bool.false_eq_true, if_false, d11, beq_self_eq_true, cond_true]; exact wakes_tail
      · simp only [if_true, beq_self_eq_true, cond_true]; exact wakes_tail
    unfold rootOk placeOk at fin
    by_cases h0 : p = 0
    · have := fin true (by simp [h0])
      simp only [h0, beq_self_eq_true, cond_true] at this ⊢
      exact this
    · simp only [beq_ne h0, cond_false]
      by_cases hm : (j : Int) < (r.2.1 + 7) / 8
      · simp only [hm, decide_true, cond_true]
        by_cases h4 : p ≥ 4
        · simp only [h4, decide_true, cond_true]
          exact fin _ (by simp [h0, hm, h4])
        · simp only [h4, decide_false, cond_false]
          exact fin _ (by simp [h0]; omega)
      · simp only [hm, decide_false, cond_false]
        exact fin _ (by simp [h0]; omega)
theorem list2 {l : List (List Int)} (h : l.length = 2) : ∃ x y, l = [x, y] := by
  match l, h with
  | [x, y], _ => exact ⟨x, y, rfl⟩
theorem isReg_of {r : Reg} (h0 : WT67 r) : IsReg r := ⟨⟨h0.1.1, by have := h0.1.2; omega⟩, ⟨h0.2.2.2.2.1.1, by have := h0.2.2.2.2.1.2; omega⟩, h0.2.2.2.2.2.1⟩
theorem codes_two (r : Reg) (l : List (List Int)) (w : IsReg r) (h : l.length = 2 ∧ ∀ y ∈ l, y.length = 64 ∧ ∀ z ∈ y, 0 ≤ z ∧ z ≤ 255) : ∃ k, F11 k (r, l, ()) = some true := by
  obtain ⟨x, y, rfl⟩ := list2 h.1
  exact codes_plain r x y w ⟨(h.2 x (by simp)).1, (h.2 x (by simp)).2⟩ ⟨(h.2 y (by simp)).1, (h.2 y (by simp)).2⟩
theorem regionRoots : Rows.RegionRootsCardSaid := regionRoots_card (regionRoots_row fun a0 a1 a2 h0 h1 h2 => roots_plain a0 a1 a2 (isReg_of h0) h1 h2)
end Go.Proofs.YtpnnmpdjgnbkhaaDoor.W
