/-
  SummaryMarks: for every input that the statement lets in the law returns true. No conditions.
-/
import Derived.Test.YtbhnkjnjeifdhaaVR
set_option linter.unusedVariables false
namespace Go.Proofs.Ytbhnkjnjeifdhaa.W
open Go V
/-! ### marks, summaries: what the functions come to -/
abbrev Mark := T46
def zmark : Mark := T46.mk 0 0
/-- a mark that may be -/
def markOk (m : Mark) : Bool := decide (1 ≤ m.Kind) && decide (m.Kind ≤ 5) && decide (0 ≤ m.Id) && (if m.Kind = 3 then decide (m.Id < 8) else decide (m.Id < 64))
def byte (x : Int) : Int := x % 256
def markBytes (l : List Mark) : List Int := l.flatMap fun m => [byte m.Kind, byte m.Id]

theorem good_eq (k : Nat) (m : Mark) : F78 k (m, ()) = some (markOk m) := by
  obtain ⟨a, b⟩ := m
  unfold F78 markOk
  simp only
  by_cases h3 : a = 3
  · subst h3
    by_cases hb : b ≥ 0 <;> simp [hb] <;> omega
  by_cases h1 : a = 1
  · subst h1
    by_cases hb : b ≥ 0 <;> simp [hb] <;> omega
  by_cases h2 : a = 2
  · subst h2
    by_cases hb : b ≥ 0 <;> simp [hb] <;> omega
  by_cases h4 : a = 4
  · subst h4
    by_cases hb : b ≥ 0 <;> simp [hb] <;> omega
  by_cases h5 : a = 5
  · subst h5
    by_cases hb : b ≥ 0 <;> simp [hb] <;> omega
  have e : (decide (1 ≤ a) && decide (a ≤ 5)) = false := by
    simp only [Bool.and_eq_false_iff, decide_eq_false_iff_not]; omega
  simp [beq_eq_false_iff_ne.2 h1, beq_eq_false_iff_ne.2 h2, beq_eq_false_iff_ne.2 h3, beq_eq_false_iff_ne.2 h4, beq_eq_false_iff_ne.2 h5, e]

theorem mark_eq (k : Nat) (m : Mark) : F80 k (m, ()) = some (markOk m) := by
  obtain ⟨a, b⟩ := m
  unfold F80 markOk
  simp only
  by_cases h1 : a < 1
  · simp [h1]; omega
  by_cases h5 : a > 5
  · simp [h1, h5]; omega
  by_cases h0 : b < 0
  · simp [h1, h5, h0]; omega
  by_cases h8 : b < 8
  · simp [h1, h5, h0, h8]
    refine ⟨⟨⟨by omega, by omega⟩, by omega⟩, by omega⟩
  by_cases h3 : a = 3
  · subst h3; simp [h0, h8]
  · have e1 : decide (1 ≤ a) = true := by simp; omega
    have e2 : decide (a ≤ 5) = true := by simp; omega
    have e3 : decide (0 ≤ b) = true := by simp; omega
    have e4 : (a == 3) = false := beq_eq_false_iff_ne.2 h3
    simp [h1, h5, h0, h8, e1, e2, e3, bne, e4, h3]

/-- what a list's length is, as a number of the machine -/
def Short {α : Type} (l : List α) : Prop := l.length ≤ 1000000

def isBlock (m : Mark) : Bool := decide (1 ≤ m.Kind) && decide (m.Kind ≤ 3)

theorem blocks_loop {k n : Nat} {l : List Mark} (hl : Short l) (hn : l.length < n) : L32_3 k n (0, l, l.length, 0) = some (l.countP isBlock : Int) := by
  have := iter_out (R := R32_3 k) (fun x : Int × List Mark × Int × Int => x.2.2.1 = x.2.1.length ∧ Short x.2.1 ∧ 0 ≤ x.2.2.2 ∧ x.2.2.2 ≤ x.2.1.length ∧ 0 ≤ x.1 ∧ x.1 ≤ x.2.2.2)
    (fun x => x.2.1.length - x.2.2.2.toNat) (fun x => x.1 + ((x.2.1.drop x.2.2.2.toNat).countP isBlock : Int)) (fun x h => by
      obtain ⟨c, l, len, i⟩ := x
      obtain ⟨h1, h2, h3, h4, h5, h6⟩ := h
      simp only at h1 h2 h3 h4 h5 h6
      subst h1
      unfold Short at h2
      by_cases hi : i < l.length
      · right
        have hnat : i.toNat < l.length := by omega
        have e1 : IntKind.i64.wrap (i + 1) = i + 1 := wI_in (by omega)
        have e2 : IntKind.i64.wrap (c + 1) = c + 1 := wI_in (by omega)
        have e3 : (i + 1).toNat = i.toNat + 1 := by omega
        have hd := drop_cons zmark hnat
        generalize hm : l.getD i.toNat zmark = m at hd
        have hm' : l.getD i.toNat (T46.mk 0 0) = m := hm
        have rest : ∀ c', 0 ≤ c' → c' ≤ i + 1 → c' = c + (if isBlock m then 1 else 0) → 
            (fun x : Int × List Mark × Int × Int => x.2.2.1 = x.2.1.length ∧ Short x.2.1 ∧ 0 ≤ x.2.2.2 ∧ x.2.2.2 ≤ x.2.1.length ∧ 0 ≤ x.1 ∧ x.1 ≤ x.2.2.2) (c', l, l.length, i + 1) ∧ l.length - (i + 1).toNat < l.length - i.toNat ∧ c' + ((l.drop (i + 1).toNat).countP isBlock : Int) = c + ((l.drop i.toNat).countP isBlock : Int) := by
          intro c' a1 a2 a3
          refine ⟨⟨rfl, h2, by simp only; omega, by simp only; omega, a1, a2⟩, by omega, ?_⟩
          rw [e3, hd, List.countP_cons, a3]
          split <;> simp <;> omega
        by_cases hb : isBlock m = true
        · refine ⟨(c + 1, l, l.length, i + 1), fun again => ?_, rest (c + 1) (by omega) (by omega) (by simp [hb])⟩
          unfold R32_3
          simp only [hi, decide_true, cond_true, inRange_true ⟨h3, hi⟩, hm', e1, e2]
          unfold isBlock at hb
          simp only [Bool.and_eq_true, decide_eq_true_eq] at hb
          have : m.Kind = 1 ∨ m.Kind = 2 ∨ m.Kind = 3 := by omega
          rcases this with h | h | h <;> simp [h]
        · refine ⟨(c, l, l.length, i + 1), fun again => ?_, rest c (by omega) (by omega) (by simp [hb])⟩
          unfold R32_3
          simp only [hi, decide_true, cond_true, inRange_true ⟨h3, hi⟩, hm', e1, e2]
          unfold isBlock at hb
          simp only [Bool.and_eq_true, decide_eq_true_eq] at hb
          have k1 : m.Kind ≠ 1 := by omega
          have k2 : m.Kind ≠ 2 := by omega
          have k3 : m.Kind ≠ 3 := by omega
          simp [beq_eq_false_iff_ne.2 k1, beq_eq_false_iff_ne.2 k2, beq_eq_false_iff_ne.2 k3]
      · left
        intro again
        unfold R32_3
        simp only [hi, decide_false, cond_false]
        rw [List.drop_eq_nil_of_le (by omega)]
        simp) (n := n) (x := (0, l, l.length, 0)) ⟨rfl, hl, by simp, by simp, by simp, by simp⟩ (by simpa using hn)
  unfold L32_3
  rw [this]
  simp

theorem blocks_eq {k : Nat} {l : List Mark} (hl : Short l) (hk : l.length < k) : F32 k (l, ()) = some (l.countP isBlock : Int) := by
  unfold F32
  simp only
  rw [blocks_loop hl hk]; rfl

theorem rblocks_loop {k n : Nat} {l : List Mark} (hl : Short l) (hn : l.length < n) : L33_3 k n (l, 0, 0) = some (l.countP isBlock : Int) := by
  have := iter_out (R := R33_3 k) (fun x : List Mark × Int × Int => Short x.1 ∧ 0 ≤ x.2.2 ∧ x.2.2 ≤ x.1.length ∧ 0 ≤ x.2.1 ∧ x.2.1 ≤ x.2.2)
    (fun x => x.1.length - x.2.2.toNat) (fun x => x.2.1 + ((x.1.drop x.2.2.toNat).countP isBlock : Int)) (fun x h => by
      obtain ⟨l, c, i⟩ := x
      obtain ⟨h2, h3, h4, h5, h6⟩ := h
      simp only at h2 h3 h4 h5 h6
      unfold Short at h2
      by_cases hi : i < l.length
      · right
        have hnat : i.toNat < l.length := by omega
        have e1 : IntKind.i64.wrap (i + 1) = i + 1 := wI_in (by omega)
        have e2 : IntKind.i64.wrap (c + 1) = c + 1 := wI_in (by omega)
        have e3 : (i + 1).toNat = i.toNat + 1 := by omega
        have hd := drop_cons zmark hnat
        generalize hm : l.getD i.toNat zmark = m at hd
        have hm' : l.getD i.toNat (T46.mk 0 0) = m := hm
        have rest : ∀ c', 0 ≤ c' → c' ≤ i + 1 → c' = c + (if isBlock m then 1 else 0) → 
            (fun x : List Mark × Int × Int => Short x.1 ∧ 0 ≤ x.2.2 ∧ x.2.2 ≤ x.1.length ∧ 0 ≤ x.2.1 ∧ x.2.1 ≤ x.2.2) (l, c', i + 1) ∧ l.length - (i + 1).toNat < l.length - i.toNat ∧ c' + ((l.drop (i + 1).toNat).countP isBlock : Int) = c + ((l.drop i.toNat).countP isBlock : Int) := by
          intro c' a1 a2 a3
          refine ⟨⟨h2, by simp only; omega, by simp only; omega, a1, a2⟩, by omega, ?_⟩
          rw [e3, hd, List.countP_cons, a3]
          split <;> simp <;> omega
        by_cases hb : isBlock m = true
        · refine ⟨(l, c + 1, i + 1), fun again => ?_, rest (c + 1) (by omega) (by omega) (by simp [hb])⟩
          unfold R33_3
          simp only [hi, decide_true, cond_true, inRange_true ⟨h3, hi⟩, hm', e1, e2]
          unfold isBlock at hb
          simp only [Bool.and_eq_true, decide_eq_true_eq] at hb
          simp [show m.Kind ≥ 1 from hb.1, hb.2]
        · refine ⟨(l, c, i + 1), fun again => ?_, rest c (by omega) (by omega) (by simp [hb])⟩
          unfold R33_3
          simp only [hi, decide_true, cond_true, inRange_true ⟨h3, hi⟩, hm', e1, e2]
          unfold isBlock at hb
          simp only [Bool.and_eq_true, decide_eq_true_eq] at hb
          by_cases h1 : m.Kind ≥ 1
          · have : ¬ m.Kind ≤ 3 := fun h => hb ⟨h1, h⟩
            simp [h1, this]
          · simp [h1]
      · left
        intro again
        unfold R33_3
        simp only [hi, decide_false, cond_false]
        rw [List.drop_eq_nil_of_le (by omega)]
        simp) (n := n) (x := (l, 0, 0)) ⟨hl, by simp, by simp, by simp, by simp⟩ (by simpa using hn)
  unfold L33_3
  rw [this]
  simp
theorem rblocks_eq {k : Nat} {l : List Mark} (hl : Short l) (hk : l.length < k) : F33 k (l, ()) = some (l.countP isBlock : Int) := by
  unfold F33
  simp only
  rw [rblocks_loop hl hk]; rfl

theorem marks_loop {k n : Nat} {a b : List Mark} (ha : Short a) (hl : a.length = b.length) (hn : a.length < n) : L34_4 k n (a, b, 0) = some (if a = b then .inr () else .inl false) := by
  have := iter_out (R := R34_4 k) (fun x : List Mark × List Mark × Int => Short x.1 ∧ x.1.length = x.2.1.length ∧ 0 ≤ x.2.2 ∧ x.2.2 ≤ x.1.length)
    (fun x => x.1.length - x.2.2.toNat) (fun x => if x.1.drop x.2.2.toNat = x.2.1.drop x.2.2.toNat then (.inr () : Bool ⊕ Unit) else .inl false) (fun x h => by
      obtain ⟨a, b, i⟩ := x
      obtain ⟨h1, h2, h3, h4⟩ := h
      simp only at h1 h2 h3 h4
      unfold Short at h1
      by_cases hi : i < a.length
      · have hna : i.toNat < a.length := by omega
        have hnb : i.toNat < b.length := by omega
        have e1 : IntKind.i64.wrap (i + 1) = i + 1 := wI_in (by omega)
        have e3 : (i + 1).toNat = i.toNat + 1 := by omega
        have hda := drop_cons zmark hna
        have hdb := drop_cons zmark hnb
        generalize hma : a.getD i.toNat zmark = ma at hda
        generalize hmb : b.getD i.toNat zmark = mb at hdb
        have hma' : a.getD i.toNat (T46.mk 0 0) = ma := hma
        have hmb' : b.getD i.toNat (T46.mk 0 0) = mb := hmb
        have hR : ∀ again, R34_4 k again (a, b, i) = if ma = mb then again (a, b, i + 1) else some (.inl false) := by
          intro again
          unfold R34_4
          simp only [hi, decide_true, cond_true, inRange_true ⟨h3, hi⟩, inRange_true (i := i) (n := b.length) ⟨h3, by omega⟩, hma', hmb', e1, Bool.and_true]
          obtain ⟨k1, d1⟩ := ma
          obtain ⟨k2, d2⟩ := mb
          by_cases ek : k1 = k2
          · by_cases ed : d1 = d2
            · subst ek; subst ed; simp
            · simp [beq_eq_false_iff_ne.2 ed]
              intro _ h; exact absurd h ed
          · simp [beq_eq_false_iff_ne.2 ek]
            intro h; exact absurd h ek
        by_cases he : ma = mb
        · right
          refine ⟨(a, b, i + 1), fun again => by rw [hR, if_pos he], ⟨h1, h2, by simp only; omega, by simp only; omega⟩, by simp only; omega, ?_⟩
          simp only [e3, hda, hdb, he, List.cons.injEq, true_and]
        · left
          intro again
          rw [hR, if_neg he]
          simp only [hda, hdb, List.cons.injEq, he, false_and, if_false]
      · left
        intro again
        unfold R34_4
        simp only [hi, decide_false, cond_false]
        rw [List.drop_eq_nil_of_le (by omega), List.drop_eq_nil_of_le (by omega)]
        simp) (n := n) (x := (a, b, 0)) ⟨ha, hl, by simp, by simp⟩ (by simpa using hn)
  unfold L34_4
  rw [this]
  simp
theorem marks_eq {k : Nat} {a b : List Mark} (ha : Short a) (hk : a.length < k) : F34 k (a, b, ()) = some (decide (a = b)) := by
  unfold F34
  simp only
  by_cases hl : a.length = b.length
  · have : ((a.length : Int) != (b.length : Int)) = false := by rw [hl]; simp
    rw [this, cond_false, marks_loop ha hl hk]
    by_cases e : a = b <;> simp [e, sumK]
  · have : ((a.length : Int) != (b.length : Int)) = true := by simp; omega
    rw [this, cond_true]
    have : a ≠ b := fun e => hl (by rw [e])
    simp [this]

/-! ### the sector of a summary -/
def zeros : List Int := List.replicate 64 0
def seqByte (seq : Int) (j : Nat) : Int := IntKind.u8.wrap (seq.fdiv (2 ^ (8 * j)))
def hdr (seq : Int) (more : Bool) (n : Nat) : List Int := [83, bif more then 1 else 0, IntKind.u8.wrap seq, seqByte seq 1, seqByte seq 2, seqByte seq 3, IntKind.u8.wrap n]
def fits (l : List Mark) : Bool := decide (1 ≤ l.length) && decide (l.length ≤ 24) && l.all markOk
def wb (l : List Mark) : List Int := l.flatMap fun m => [IntKind.u8.wrap m.Kind, IntKind.u8.wrap m.Id]
def sector (seq : Int) (more : Bool) (l : List Mark) : List Int := hdr seq more l.length ++ wb l ++ List.replicate (57 - 2 * l.length) 0

def fill : List Int → Nat → List Mark → List Int
  | x, _, [] => x
  | x, i, m :: r => fill ((x.set (7 + 2 * i) (IntKind.u8.wrap m.Kind)).set (8 + 2 * i) (IntKind.u8.wrap m.Id)) (i + 1) r

theorem fill_eq : ∀ (l : List Mark) (pre : List Int) (i r : Nat), pre.length = 7 + 2 * i → fill (pre ++ List.replicate (2 * l.length + r) 0) i l = pre ++ wb l ++ List.replicate r 0 := by
  intro l
  induction l with
  | nil => intro pre i r _; simp [fill, wb]
  | cons m l ih =>
    intro pre i r h
    have e1 : List.replicate (2 * (m :: l).length + r) (0 : Int) = 0 :: 0 :: List.replicate (2 * l.length + r) 0 := by
      rw [show 2 * (m :: l).length + r = (2 * l.length + r) + 1 + 1 by simp; omega, List.replicate_succ, List.replicate_succ]
    simp only [fill, e1]
    have s1 : (pre ++ 0 :: 0 :: List.replicate (2 * l.length + r) (0 : Int)).set (7 + 2 * i) (IntKind.u8.wrap m.Kind) = pre ++ IntKind.u8.wrap m.Kind :: 0 :: List.replicate (2 * l.length + r) 0 := by
      rw [List.set_append_right _ _ (by omega), show 7 + 2 * i - pre.length = 0 by omega]; rfl
    have s2 : (pre ++ IntKind.u8.wrap m.Kind :: 0 :: List.replicate (2 * l.length + r) (0 : Int)).set (8 + 2 * i) (IntKind.u8.wrap m.Id) = pre ++ IntKind.u8.wrap m.Kind :: IntKind.u8.wrap m.Id :: List.replicate (2 * l.length + r) 0 := by
      rw [List.set_append_right _ _ (by omega), show 8 + 2 * i - pre.length = 1 by omega]; rfl
    rw [s1, s2]
    have := ih (pre ++ [IntKind.u8.wrap m.Kind, IntKind.u8.wrap m.Id]) (i + 1) r (by simp; omega)
    simp only [List.append_assoc, List.cons_append, List.nil_append] at this
    rw [this]
    simp [wb]

theorem encode_loop {k n : Nat} {l : List Mark} {z x : List Int} (hl : l.length ≤ 24) (hn : l.length < n) :
    ∃ o, L26_7 k n (l, l.length, 0, z, x) = some o ∧ (if l.all markOk = true then o = .inr (z, fill x 0 l) else ∃ w, o = .inl (11, zeros, w)) := by
  have := iter_post (R := R26_7 k) (fun y : List Mark × Int × Int × List Int × List Int => y.2.1 = y.1.length ∧ y.1.length ≤ 24 ∧ 0 ≤ y.2.2.1 ∧ y.2.2.1 ≤ y.1.length)
    (fun y => y.1.length - y.2.2.1.toNat) (fun y o => if (y.1.drop y.2.2.1.toNat).all markOk = true then o = .inr (y.2.2.2.1, fill y.2.2.2.2 y.2.2.1.toNat (y.1.drop y.2.2.1.toNat)) else ∃ w, o = .inl (11, zeros, w)) (fun y h => by
      obtain ⟨l, len, i, z, x⟩ := y
      obtain ⟨h1, h2, h3, h4⟩ := h
      simp only at h1 h2 h3 h4
      subst h1
      by_cases hi : i < l.length
      · have hnat : i.toNat < l.length := by omega
        have e1 : IntKind.i64.wrap (i + 1) = i + 1 := wI_in (by omega)
        have e3 : (i + 1).toNat = i.toNat + 1 := by omega
        have e4 : IntKind.i64.wrap (2 * i) = 2 * i := wI_in (by omega)
        have e5 : IntKind.i64.wrap (7 + 2 * i) = 7 + 2 * i := wI_in (by omega)
        have e6 : IntKind.i64.wrap (7 + 2 * i + 1) = 7 + 2 * i + 1 := wI_in (by omega)
        have e7 : (7 + 2 * i).toNat = 7 + 2 * i.toNat := by omega
        have e8 : (7 + 2 * i + 1).toNat = 8 + 2 * i.toNat := by omega
        have hd := drop_cons zmark hnat
        generalize hm : l.getD i.toNat zmark = m at hd
        have hm' : l.getD i.toNat (T46.mk 0 0) = m := hm
        have hR : ∀ again, R26_7 k again (l, l.length, i, z, x) = if markOk m = true then again (l, l.length, i + 1, z, (x.set (7 + 2 * i.toNat) (IntKind.u8.wrap m.Kind)).set (8 + 2 * i.toNat) (IntKind.u8.wrap m.Id)) else some (.inl (11, zeros, x)) := by
          intro again
          unfold R26_7
          simp only [hi, decide_true, cond_true, inRange_true ⟨h3, hi⟩, hm', e1, e4, e5, e6, e7, e8, inRange_true (i := 7 + 2 * i) (n := 64) ⟨by omega, by omega⟩, inRange_true (i := 7 + 2 * i + 1) (n := 64) ⟨by omega, by omega⟩]
          rw [show (T46.mk m.1 m.2, PUnit.unit) = (m, ()) from rfl, good_eq]
          cases markOk m <;> rfl
        simp only [hd, List.all_cons, Bool.and_eq_true]
        by_cases hg : markOk m = true
        · right
          refine ⟨(l, l.length, i + 1, z, (x.set (7 + 2 * i.toNat) (IntKind.u8.wrap m.Kind)).set (8 + 2 * i.toNat) (IntKind.u8.wrap m.Id)), fun again => by rw [hR, if_pos hg], ⟨rfl, h2, by simp only; omega, by simp only; omega⟩, by simp only; omega, fun o ho => ?_⟩
          simp only [e3] at ho
          simp only [hg, true_and, fill]
          exact ho
        · left
          refine ⟨_, fun again => by rw [hR, if_neg hg], ?_⟩
          simp [hg]
      · left
        refine ⟨.inr (z, x), fun again => ?_, ?_⟩
        · unfold R26_7
          simp only [hi, decide_false, cond_false]
        · dsimp only
          rw [List.drop_eq_nil_of_le (by omega)]
          simp [fill]) n (l, l.length, 0, z, x) ⟨rfl, hl, by simp, by simp⟩ (by simpa using hn)
  simpa [L26_7] using this

theorem encode_eq {k : Nat} {s : T24} (hk : 24 < k) : F26 k (s, ()) = some (if fits s.Marks = true then (sector s.Seq s.More s.Marks, 0, ()) else (zeros, 11, ())) := by
  obtain ⟨seq, more, l⟩ := s
  unfold F26
  simp only
  by_cases h1 : (l.length : Int) < 1
  · have : fits l = false := by simp [fits]; omega
    simp [h1, this, zeros]
  by_cases h2 : (l.length : Int) > 24
  · have : fits l = false := by simp [fits]; omega
    simp [h1, h2, this, zeros]
  simp only [h1, h2, decide_false, cond_false]
  have hl : l.length ≤ 24 := by omega
  have fin : ∀ x, x = hdr seq more l.length ++ List.replicate (2 * l.length + (57 - 2 * l.length)) 0 →
      ((L26_7 k k (l, l.length, 0, List.replicate 64 0, x)).bind fun r => sumK r (fun a => some (a.snd.fst, a.fst, PUnit.unit)) fun b => some (b.snd, (0 : Int), PUnit.unit)) = some (if fits l = true then (sector seq more l, 0, ()) else (zeros, 11, ())) := by
    intro x hx
    obtain ⟨o, ho, hq⟩ := encode_loop (k := k) (z := List.replicate 64 0) (x := x) hl (by omega : l.length < k)
    rw [ho]
    by_cases hg : l.all markOk = true
    · rw [if_pos hg] at hq
      have hf : fits l = true := by simp only [fits, Bool.and_eq_true, decide_eq_true_eq]; exact ⟨⟨by omega, hl⟩, hg⟩
      rw [hq, if_pos hf, hx, fill_eq l _ 0 _ rfl]
      rfl
    · rw [if_neg hg] at hq
      obtain ⟨w, rfl⟩ := hq
      have hf : ¬ fits l = true := by simp only [fits, Bool.and_eq_true]; exact fun h => hg h.2
      rw [if_neg hf]
      rfl
  have h57 : 2 * l.length + (57 - 2 * l.length) = 57 := by omega
  cases more with
  | true => exact fin _ (by rw [h57]; rfl)
  | false => exact fin _ (by rw [h57]; rfl)

theorem put_eq {k : Nat} {seq : Int} (hk : 24 < k) : F79 k (seq, 4, ()) = some [IntKind.u8.wrap seq, seqByte seq 1, seqByte seq 2, seqByte seq 3] := by
  obtain ⟨m, rfl⟩ : ∃ m, k = m + 5 := ⟨k - 5, by omega⟩
  have : F79 (m + 5) (seq, 4, ()) = some [IntKind.u8.wrap (seq.fdiv 1), seqByte seq 1, seqByte seq 2, seqByte seq 3] := by kernel_rfl
  rw [this, Int.fdiv_one]

theorem wb_length (l : List Mark) : (wb l).length = 2 * l.length := by
  induction l with
  | nil => rfl
  | cons m l ih => simp only [wb, List.flatMap_cons, List.length_append] at ih ⊢; rw [ih]; simp; omega

theorem roomMost_ge {n : Nat} (h : n ≤ 4294967296) : decide (n ≤ roomMost) = true := decide_eq_true h

theorem rencode_loop {k n : Nat} {seq e : Int} {more : Bool} {l : List Mark} {z x : List Int} (hl : l.length ≤ 24) (hx : x.length = 7) (hn : l.length < n) :
    ∃ o, L27_8 k n (0, seq, more, l, e, z, x) = some o ∧ (if l.all markOk = true then o = .inr (z, x ++ wb l) else ∃ w, o = .inl (11, zeros, w)) := by
  have := iter_post (R := R27_8 k) (fun y : Int × Int × Bool × List Mark × Int × List Int × List Int => y.2.2.2.1.length ≤ 24 ∧ 0 ≤ y.1 ∧ y.1 ≤ y.2.2.2.1.length ∧ y.2.2.2.2.2.2.length = 7 + 2 * y.1.toNat)
    (fun y => y.2.2.2.1.length - y.1.toNat) (fun y o => if (y.2.2.2.1.drop y.1.toNat).all markOk = true then o = .inr (y.2.2.2.2.2.1, y.2.2.2.2.2.2 ++ wb (y.2.2.2.1.drop y.1.toNat)) else ∃ w, o = .inl (11, zeros, w)) (fun y h => by
      obtain ⟨i, seq, more, l, e, z, x⟩ := y
      obtain ⟨h2, h3, h4, h5⟩ := h
      simp only at h2 h3 h4 h5
      by_cases hi : i < l.length
      · have hnat : i.toNat < l.length := by omega
        have e1 : IntKind.i64.wrap (i + 1) = i + 1 := wI_in (by omega)
        have e3 : (i + 1).toNat = i.toNat + 1 := by omega
        have hd := drop_cons zmark hnat
        generalize hm : l.getD i.toNat zmark = m at hd
        have hm' : l.getD i.toNat (T46.mk 0 0) = m := hm
        have hR : ∀ again, R27_8 k again (i, seq, more, l, e, z, x) = if markOk m = true then again (i + 1, seq, more, l, e, z, x ++ [IntKind.u8.wrap m.Kind, IntKind.u8.wrap m.Id]) else some (.inl (11, zeros, x)) := by
          intro again
          unfold R27_8
          have hr : decide (x.length + (((List.replicate (2 : Nat) (0 : Int)).set (0 : Nat) (IntKind.u8.wrap m.1)).set (1 : Nat) (IntKind.u8.wrap m.2)).length ≤ roomMost) = true := roomMost_ge (by simp; omega)
          simp only [hi, decide_true, cond_true, inRange_true ⟨h3, hi⟩, hm', e1, hr]
          rw [show (T46.mk m.1 m.2, PUnit.unit) = (m, ()) from rfl, mark_eq]
          cases markOk m <;> rfl
        simp only [hd, List.all_cons, Bool.and_eq_true]
        by_cases hg : markOk m = true
        · right
          refine ⟨(i + 1, seq, more, l, e, z, x ++ [IntKind.u8.wrap m.Kind, IntKind.u8.wrap m.Id]), fun again => by rw [hR, if_pos hg], ⟨h2, by simp only; omega, by simp only; omega, by simp only [List.length_append, List.length_cons, List.length_nil]; omega⟩, by simp only; omega, fun o ho => ?_⟩
          simp only [e3] at ho
          simp only [hg, true_and]
          simpa [wb] using ho
        · left
          refine ⟨_, fun again => by rw [hR, if_neg hg], ?_⟩
          simp [hg]
      · left
        refine ⟨.inr (z, x), fun again => ?_, ?_⟩
        · unfold R27_8
          simp only [hi, decide_false, cond_false]
        · dsimp only
          rw [List.drop_eq_nil_of_le (by omega)]
          simp [wb]) n (0, seq, more, l, e, z, x) ⟨hl, by simp, by simp, by simpa using hx⟩ (by simpa using hn)
  simpa [L27_8] using this

theorem sector_splice {seq : Int} {more : Bool} {l : List Mark} (hl : l.length ≤ 24) :
    splice (List.replicate 64 (0 : Int)) (hdr seq more l.length ++ wb l) (Int.toNat 0) (min (hdr seq more l.length ++ wb l).length (((64 : Nat) : Int) - 0).toNat) = sector seq more l := by
  have hlen : (hdr seq more l.length ++ wb l).length = 7 + 2 * l.length := by rw [List.length_append, wb_length]; rfl
  rw [hlen]
  have : min (7 + 2 * l.length) (((64 : Nat) : Int) - 0).toNat = 7 + 2 * l.length := by omega
  rw [this]
  unfold splice sector
  rw [List.take_of_length_le (by omega : (hdr seq more l.length ++ wb l).length ≤ 7 + 2 * l.length)]
  have e0 : Int.toNat 0 = 0 := rfl
  rw [e0, List.take_zero, List.nil_append, List.drop_replicate]
  congr 2
  omega

theorem rencode_eq {k : Nat} {s : T34} (hk : 24 < k) : F27 k (s, ()) = some (if fits s.Marks = true then (sector s.Seq s.More s.Marks, 0, ()) else (zeros, 11, ())) := by
  obtain ⟨seq, more, l, e⟩ := s
  unfold F27
  simp only
  by_cases h1 : (l.length : Int) < 1
  · have : fits l = false := by simp [fits]; omega
    simp [h1, this, zeros]
  by_cases h2 : (l.length : Int) > 24
  · have : fits l = false := by simp [fits]; omega
    simp [h1, h2, this, zeros]
  simp only [h1, h2, decide_false, cond_false]
  have hl : l.length ≤ 24 := by omega
  rw [show (seq, (4 : Int), PUnit.unit) = (seq, 4, ()) from rfl, put_eq hk]
  have fin : ∀ x, x = hdr seq more l.length →
      ((L27_8 k k (0, seq, more, l, e, List.replicate 64 0, x)).bind fun r => sumK r (fun a => some (a.snd.fst, a.fst, PUnit.unit)) fun b => (F81 k (b.snd, PUnit.unit)).bind fun r => some (r, (0 : Int), PUnit.unit)) = some (if fits l = true then (sector seq more l, 0, ()) else (zeros, 11, ())) := by
    intro x hx
    obtain ⟨o, ho, hq⟩ := rencode_loop (k := k) (seq := seq) (e := e) (more := more) (z := List.replicate 64 0) (x := x) hl (by rw [hx]; rfl) (by omega : l.length < k)
    rw [ho]
    by_cases hg : l.all markOk = true
    · rw [if_pos hg] at hq
      have hf : fits l = true := by simp only [fits, Bool.and_eq_true, decide_eq_true_eq]; exact ⟨⟨by omega, hl⟩, hg⟩
      rw [hq, if_pos hf, hx]
      simp only [Option.bind_some, sumK]
      unfold F81
      simp only
      rw [sector_splice hl]
      rfl
    · rw [if_neg hg] at hq
      obtain ⟨w, rfl⟩ := hq
      have hf : ¬ fits l = true := by simp only [fits, Bool.and_eq_true]; exact fun h => hg h.2
      rw [if_neg hf]
      rfl
  cases more with
  | true => exact fin _ rfl
  | false => exact fin _ rfl

/-! ### reading a sector -/
theorem or_step {v b : Int} {j : Nat} (hj : j ≤ 24) (hv : 0 ≤ v ∧ v < 2 ^ j) (hb : 0 ≤ b ∧ b ≤ 255) :
    IntKind.u32.wrap ((BitVec.ofInt IntKind.u32.bits v ||| BitVec.ofInt IntKind.u32.bits (IntKind.u32.wrap (IntKind.u32.wrap b * 2 ^ j))).toNat : Int) = v + b * 2 ^ j := by
  obtain ⟨vn, rfl⟩ := Int.eq_ofNat_of_zero_le hv.1
  obtain ⟨bn, rfl⟩ := Int.eq_ofNat_of_zero_le hb.1
  have hvn : vn < 2 ^ j := by exact_mod_cast hv.2
  have hbn : bn ≤ 255 := by have := hb.2; omega
  have hp : (2 : Nat) ^ j ≤ 2 ^ 24 := Nat.pow_le_pow_right (by decide) hj
  have h24 : (2 : Nat) ^ 24 = 16777216 := by decide
  have hmul : bn * 2 ^ j ≤ 255 * 16777216 := Nat.mul_le_mul hbn (by omega)
  have e1 : IntKind.u32.wrap (bn : Int) = bn := by rw [w32_eq]; omega
  have e2 : (bn : Int) * 2 ^ j = ((bn * 2 ^ j : Nat) : Int) := by push_cast; rfl
  have e3 : IntKind.u32.wrap ((bn * 2 ^ j : Nat) : Int) = ((bn * 2 ^ j : Nat) : Int) := by rw [w32_eq]; omega
  rw [e1, e2, e3]
  have hbits : IntKind.u32.bits = 32 := rfl
  rw [hbits]
  have t1 : (BitVec.ofInt 32 (vn : Int)).toNat = vn := by
    rw [BitVec.toNat_ofInt]; omega
  have t2 : (BitVec.ofInt 32 ((bn * 2 ^ j : Nat) : Int)).toNat = bn * 2 ^ j := by
    rw [BitVec.toNat_ofInt]; omega
  rw [BitVec.toNat_or, t1, t2]
  have : vn ||| bn * 2 ^ j = vn + bn * 2 ^ j := by
    have := Nat.shiftLeft_add_eq_or_of_lt hvn bn
    rw [Nat.shiftLeft_eq] at this
    rw [Nat.or_comm, ← this, Nat.add_comm]
  rw [this, w32_eq]
  push_cast
  omega

def num4 (a b c d : Int) : Int := a + b * 256 + c * 65536 + d * 16777216
def seqOf (x : List Int) : Int := num4 (x.getD 2 0) (x.getD 3 0) (x.getD 4 0) (x.getD 5 0)
def moreOf (x : List Int) : Bool := x.getD 1 0 == 1
def cntOf (x : List Int) : Nat := min 24 (x.getD 6 0).toNat
def marksOf (x : List Int) (n : Nat) : List Mark := (List.range n).map fun i => T46.mk (x.getD (7 + 2 * i) 0) (x.getD (8 + 2 * i) 0)
def IsSector (x : List Int) : Prop := x.length = 64 ∧ ∀ y ∈ x, 0 ≤ y ∧ y ≤ 255

theorem IsSector.get {x : List Int} (h : IsSector x) (i : Nat) : 0 ≤ x.getD i 0 ∧ x.getD i 0 ≤ 255 := by
  rw [List.getD_eq_getElem?_getD]
  cases hi : x[i]? with
  | none => simp
  | some y => exact h.2 y (List.mem_of_getElem? hi)

theorem seq_loop {k : Nat} {x : List Int} {more : Bool} (hx : IsSector x) (hk : 24 < k) :
    L29_3 k k (0, x, 0, false, 0, more, [], []) = some (x, 0, false, seqOf x, more, [], []) := by
  obtain ⟨m, hm⟩ : ∃ m, k = m + 5 := ⟨k - 5, by omega⟩
  have step : ∀ (again : _ → _) (i : Int) (v : Int), 0 ≤ i → i < 4 → (0 ≤ v ∧ v < 2 ^ (8 * i.toNat)) →
      R29_3 k again (i, x, 0, false, v, more, [], []) = again (i + 1, x, 0, false, v + x.getD (2 + i.toNat) 0 * 2 ^ (8 * i.toNat), more, [], []) := by
    intro again i v h0 h4 hv
    have e1 : IntKind.i64.wrap (i + 1) = i + 1 := wI_in (by omega)
    have e2 : IntKind.i64.wrap (2 + i) = 2 + i := wI_in (by omega)
    have e3 : IntKind.i64.wrap (8 * i) = 8 * i := wI_in (by omega)
    have e4 : (2 + i).toNat = 2 + i.toNat := by omega
    have e5 : min (8 * i).toNat IntKind.u32.bits = 8 * i.toNat := by
      have : IntKind.u32.bits = 32 := rfl
      omega
    unfold R29_3
    simp only [h4, decide_true, cond_true, e1, e2, e3, e4, e5, inRange_true (i := 2 + i) (n := 64) ⟨by omega, by omega⟩, show decide ((0 : Int) ≤ 8 * i) = true from decide_eq_true (by omega)]
    rw [or_step (by omega) hv (hx.get _)]
  have last : ∀ (again : _ → _) (v : Int), R29_3 k again (4, x, 0, false, v, more, [], []) = some (x, 0, false, v, more, [], []) := fun again v => rfl
  have g2 := hx.get 2
  have g3 := hx.get 3
  have g4 := hx.get 4
  have g5 := hx.get 5
  unfold L29_3
  rw [show iterR (R29_3 k) k = iterR (R29_3 k) (m + 5) by rw [← hm]]
  simp only [iterR]
  rw [step _ 0 0 (by decide) (by decide) (by decide)]
  rw [step _ _ _ (by decide) (by decide) (by
    have : (2 : Int) ^ (8 * (0 + 1 : Int).toNat) = 256 := by decide
    have h1 : (2 : Int) ^ (8 * (0 : Int).toNat) = 1 := by decide
    rw [this, h1]
    have : (2 + (0 : Int).toNat) = 2 := rfl
    rw [this]; omega)]
  rw [step _ _ _ (by decide) (by decide) (by
    have h0 : (2 : Int) ^ (8 * (0 + 1 + 1 : Int).toNat) = 65536 := by decide
    have h1 : (2 : Int) ^ (8 * (0 : Int).toNat) = 1 := by decide
    have h2 : (2 : Int) ^ (8 * (0 + 1 : Int).toNat) = 256 := by decide
    rw [h0, h1, h2]
    have i0 : (2 + (0 : Int).toNat) = 2 := rfl
    have i1 : (2 + (0 + 1 : Int).toNat) = 3 := rfl
    rw [i0, i1]; omega)]
  rw [step _ _ _ (by decide) (by decide) (by
    have h0 : (2 : Int) ^ (8 * (0 + 1 + 1 + 1 : Int).toNat) = 16777216 := by decide
    have h1 : (2 : Int) ^ (8 * (0 : Int).toNat) = 1 := by decide
    have h2 : (2 : Int) ^ (8 * (0 + 1 : Int).toNat) = 256 := by decide
    have h3 : (2 : Int) ^ (8 * (0 + 1 + 1 : Int).toNat) = 65536 := by decide
    rw [h0, h1, h2, h3]
    have i0 : (2 + (0 : Int).toNat) = 2 := rfl
    have i1 : (2 + (0 + 1 : Int).toNat) = 3 := rfl
    have i2 : (2 + (0 + 1 + 1 : Int).toNat) = 4 := rfl
    rw [i0, i1, i2]; omega)]
  rw [show (0 + 1 + 1 + 1 + 1 : Int) = 4 from rfl, last]
  have h1 : (2 : Int) ^ (8 * (0 : Int).toNat) = 1 := by decide
  have h2 : (2 : Int) ^ (8 * (0 + 1 : Int).toNat) = 256 := by decide
  have h3 : (2 : Int) ^ (8 * (0 + 1 + 1 : Int).toNat) = 65536 := by decide
  have h4 : (2 : Int) ^ (8 * (0 + 1 + 1 + 1 : Int).toNat) = 16777216 := by decide
  rw [h1, h2, h3, h4]
  have i0 : (2 + (0 : Int).toNat) = 2 := rfl
  have i1 : (2 + (0 + 1 : Int).toNat) = 3 := rfl
  have i2 : (2 + (0 + 1 + 1 : Int).toNat) = 4 := rfl
  have i3 : (2 + (0 + 1 + 1 + 1 : Int).toNat) = 5 := rfl
  rw [i0, i1, i2, i3]
  unfold seqOf num4
  simp

theorem num_eq {k : Nat} {a b c d : Int} (ha : 0 ≤ a ∧ a ≤ 255) (hb : 0 ≤ b ∧ b ≤ 255) (hc : 0 ≤ c ∧ c ≤ 255) (hd : 0 ≤ d ∧ d ≤ 255) (hk : 24 < k) : F82 k ([a, b, c, d], ()) = some (num4 a b c d) := by
  obtain ⟨m, rfl⟩ : ∃ m, k = m + 5 := ⟨k - 5, by omega⟩
  have : F82 (m + 5) ([a, b, c, d], ()) = some (IntKind.u32.wrap (IntKind.u32.wrap (IntKind.u32.wrap (IntKind.u32.wrap (IntKind.u32.wrap (IntKind.u32.wrap (IntKind.u32.wrap (IntKind.u32.wrap (0 * 256) + IntKind.u32.wrap d) * 256) + IntKind.u32.wrap c) * 256) + IntKind.u32.wrap b) * 256) + IntKind.u32.wrap a)) := by kernel_rfl
  rw [this]
  simp only [w32_eq]
  unfold num4
  congr 1
  omega

theorem marksOf_succ (x : List Int) (n : Nat) : marksOf x (n + 1) = marksOf x n ++ [T46.mk (x.getD (7 + 2 * n) 0) (x.getD (8 + 2 * n) 0)] := by
  simp [marksOf, List.range_succ]

theorem byte_in {x : List Int} (h : IsSector x) (i : Nat) : IntKind.i64.wrap (x.getD i 0) = x.getD i 0 := wI_in (by have := h.get i; omega)

theorem dec_loop {k n c : Nat} {x : List Int} {a : Int} {b : Bool} {e : Int} {g : Bool} {z : List Mark} (hx : IsSector x) (hc : c ≤ 24) (hn : c < n) :
    L29_8 k n (c, 0, x, a, b, e, g, z, []) = some (x, a, b, e, g, z, marksOf x c) := by
  have := iter_out (R := R29_8 k) (fun y : Int × Int × List Int × Int × Bool × Int × Bool × List Mark × List Mark => y.1 = c ∧ y.2.2.1 = x ∧ 0 ≤ y.2.1 ∧ y.2.1 ≤ c ∧ y.2.2.2.2.2.2.2.2 = marksOf x y.2.1.toNat ∧ y.2.2.2.1 = a ∧ y.2.2.2.2.1 = b ∧ y.2.2.2.2.2.1 = e ∧ y.2.2.2.2.2.2.1 = g ∧ y.2.2.2.2.2.2.2.1 = z)
    (fun y => c - y.2.1.toNat) (fun _ => (x, a, b, e, g, z, marksOf x c)) (fun y h => by
      obtain ⟨c', i, x', a', b', e', g', z', l⟩ := y
      obtain ⟨h1, h2, h3, h4, h5, h6, h7, h8, h9, h10⟩ := h
      simp only at h1 h2 h3 h4 h5 h6 h7 h8 h9 h10
      subst h1 h2 h5 h6 h7 h8 h9 h10
      by_cases hi : i < c
      · right
        have e1 : IntKind.i64.wrap (i + 1) = i + 1 := wI_in (by omega)
        have e3 : (i + 1).toNat = i.toNat + 1 := by omega
        have e4 : IntKind.i64.wrap (2 * i) = 2 * i := wI_in (by omega)
        have e5 : IntKind.i64.wrap (7 + 2 * i) = 7 + 2 * i := wI_in (by omega)
        have e6 : IntKind.i64.wrap (7 + 2 * i + 1) = 7 + 2 * i + 1 := wI_in (by omega)
        have e7 : (7 + 2 * i).toNat = 7 + 2 * i.toNat := by omega
        have e8 : (7 + 2 * i + 1).toNat = 8 + 2 * i.toNat := by omega
        refine ⟨(c, i + 1, x', a', b', e', g', z', marksOf x' (i.toNat + 1)), fun again => ?_, ⟨rfl, rfl, by simp only; omega, by simp only; omega, by simp only [e3], rfl, rfl, rfl, rfl, rfl⟩, by simp only; omega, rfl⟩
        unfold R29_8
        have hr : ∀ m : Mark, decide ((marksOf x' i.toNat).length + ((List.replicate (1 : Nat) (T46.mk 0 0)).set (0 : Nat) m).length ≤ roomMost) = true := fun m => roomMost_ge (by simp [marksOf]; omega)
        simp only [hi, decide_true, cond_true, e1, e4, e5, e6, e7, e8, inRange_true (i := 7 + 2 * i) (n := 64) ⟨by omega, by omega⟩, inRange_true (i := 7 + 2 * i + 1) (n := 64) ⟨by omega, by omega⟩, byte_in hx, hr, marksOf_succ]
        rfl
      · left
        intro again
        unfold R29_8
        have : i.toNat = c := by omega
        simp only [hi, decide_false, cond_false, this]) (n := n) (x := ((c : Int), 0, x, a, b, e, g, z, [])) ⟨rfl, rfl, by simp, by simp, rfl, rfl, rfl, rfl, rfl, rfl⟩ (by simpa using hn)
  simpa [L29_8] using this

theorem cnt_eq {x : List Int} (hx : IsSector x) : (if (24 : Int) < IntKind.i64.wrap (x.getD (Int.toNat 6) 0) then (24 : Int) else IntKind.i64.wrap (x.getD (Int.toNat 6) 0)) = (cntOf x : Int) := by
  have e : Int.toNat 6 = 6 := rfl
  have := hx.get 6
  rw [e, byte_in hx]
  unfold cntOf
  split <;> omega

/-- what a sector reads as -/
def good (x : List Int) : Bool := fits (marksOf x (cntOf x)) && decide (sector (seqOf x) (moreOf x) (marksOf x (cntOf x)) = x)

theorem decode_eq {k : Nat} {x : List Int} (hx : IsSector x) (hk : 24 < k) : F29 k (x, ()) = some (if good x = true then (T24.mk (seqOf x) (moreOf x) (marksOf x (cntOf x)), 0, ()) else (T24.mk 0 false [], 11, ())) := by
  unfold F29
  simp only
  have hc : cntOf x ≤ 24 := by unfold cntOf; omega
  rw [show (x.getD (Int.toNat 1) 0 == 1) = moreOf x from rfl, seq_loop hx hk]
  simp only [Option.bind_some]
  rw [cnt_eq hx, dec_loop hx hc (by omega)]
  simp only [Option.bind_some]
  rw [show (T24.mk (seqOf x) (moreOf x) (marksOf x (cntOf x)), PUnit.unit) = (T24.mk (seqOf x) (moreOf x) (marksOf x (cntOf x)), ()) from rfl, encode_eq hk]
  simp only [Option.bind_some]
  unfold good
  by_cases hf : fits (marksOf x (cntOf x)) = true
  · simp only [hf, if_true]
    by_cases hs : sector (seqOf x) (moreOf x) (marksOf x (cntOf x)) = x
    · simp [hs]
    · simp [hs]
  · simp only [hf]
    simp

theorem rdec_loop {k n : Nat} {x : List Int} {a e s f : Int} {b g : Bool} {z : List Mark} (hx : IsSector x) (hn : 24 < n) :
    L30_3 k n (0, x, a, b, e, s, g, f, z, []) = some (x, a, b, e, s, g, f, z, marksOf x (cntOf x)) := by
  have hc0 : cntOf x ≤ 24 := by unfold cntOf; omega
  have := iter_out (R := R30_3 k) (fun y : Int × List Int × Int × Bool × Int × Int × Bool × Int × List Mark × List Mark => y.2.1 = x ∧ 0 ≤ y.1 ∧ y.1 ≤ cntOf x ∧ y.2.2.2.2.2.2.2.2.2 = marksOf x y.1.toNat ∧ y.2.2.1 = a ∧ y.2.2.2.1 = b ∧ y.2.2.2.2.1 = e ∧ y.2.2.2.2.2.1 = s ∧ y.2.2.2.2.2.2.1 = g ∧ y.2.2.2.2.2.2.2.1 = f ∧ y.2.2.2.2.2.2.2.2.1 = z)
    (fun y => cntOf x - y.1.toNat) (fun _ => (x, a, b, e, s, g, f, z, marksOf x (cntOf x))) (fun y h => by
      obtain ⟨i, x', a', b', e', s', g', f', z', l⟩ := y
      obtain ⟨h2, h3, h4, h5, h6, h7, h8, h9, h10, h11, h12⟩ := h
      simp only at h2 h3 h4 h5 h6 h7 h8 h9 h10 h11 h12
      subst h2 h5 h6 h7 h8 h9 h10 h11 h12
      have hc : cntOf x' ≤ 24 := by unfold cntOf; omega
      have hcnt : (if x'.getD (Int.toNat 6) 0 < (24 : Int) then x'.getD (Int.toNat 6) 0 else (24 : Int)) = (cntOf x' : Int) := by
        have e : Int.toNat 6 = 6 := rfl
        have := hx.get 6
        rw [e]
        unfold cntOf
        split <;> omega
      by_cases hi : i < cntOf x'
      · right
        have e1 : IntKind.i64.wrap (i + 1) = i + 1 := wI_in (by omega)
        have e3 : (i + 1).toNat = i.toNat + 1 := by omega
        have e4 : IntKind.i64.wrap (2 * i) = 2 * i := wI_in (by omega)
        have e5 : IntKind.i64.wrap (7 + 2 * i) = 7 + 2 * i := wI_in (by omega)
        have e6 : IntKind.i64.wrap (8 + 2 * i) = 8 + 2 * i := wI_in (by omega)
        have e7 : (7 + 2 * i).toNat = 7 + 2 * i.toNat := by omega
        have e8 : (8 + 2 * i).toNat = 8 + 2 * i.toNat := by omega
        refine ⟨(i + 1, x', a', b', e', s', g', f', z', marksOf x' (i.toNat + 1)), fun again => ?_, ⟨rfl, by simp only; omega, by simp only; omega, by simp only [e3], rfl, rfl, rfl, rfl, rfl, rfl, rfl⟩, by simp only; omega, rfl⟩
        unfold R30_3
        have hr : ∀ m : Mark, decide ((marksOf x' i.toNat).length + ((List.replicate (1 : Nat) (T46.mk 0 0)).set (0 : Nat) m).length ≤ roomMost) = true := fun m => roomMost_ge (by simp [marksOf]; omega)
        simp only [byte_in hx, hcnt, hi, decide_true, cond_true, e1, e4, e5, e6, e7, e8, inRange_true (i := 7 + 2 * i) (n := 64) ⟨by omega, by omega⟩, inRange_true (i := 8 + 2 * i) (n := 64) ⟨by omega, by omega⟩, hr, marksOf_succ]
        rfl
      · left
        intro again
        unfold R30_3
        have : i.toNat = cntOf x' := by omega
        simp only [byte_in hx, hcnt, hi, decide_false, cond_false, this]) (n := n) (x := ((0 : Int), x, a, b, e, s, g, f, z, [])) ⟨rfl, by simp, by simp, rfl, rfl, rfl, rfl, rfl, rfl, rfl, rfl⟩ (show cntOf x - (0 : Int).toNat < n by omega)
  simpa [L30_3] using this

theorem take_drop4 {x : List Int} (h : x.length = 64) : List.take ((6 : Int) - (2 : Int)).toNat (List.drop (Int.toNat (2 : Int)) x) = [x.getD 2 0, x.getD 3 0, x.getD 4 0, x.getD 5 0] := by
  have e1 : ((6 : Int) - (2 : Int)).toNat = 4 := rfl
  have e2 : Int.toNat (2 : Int) = 2 := rfl
  rw [e1, e2, drop_cons (i := 2) (0 : Int) (by omega), drop_cons (i := 3) (0 : Int) (by omega), drop_cons (i := 4) (0 : Int) (by omega), drop_cons (i := 5) (0 : Int) (by omega)]
  rfl

theorem rdecode_eq {k : Nat} {x : List Int} (hx : IsSector x) (hk : 24 < k) : F30 k (x, ()) = some (if good x = true then T34.mk (seqOf x) (moreOf x) (marksOf x (cntOf x)) 0 else T34.mk 0 false [] 11) := by
  unfold F30
  simp only
  rw [take_drop4 hx.1, show ([x.getD 2 0, x.getD 3 0, x.getD 4 0, x.getD 5 0], PUnit.unit) = ([x.getD 2 0, x.getD 3 0, x.getD 4 0, x.getD 5 0], ()) from rfl, num_eq (hx.get _) (hx.get _) (hx.get _) (hx.get _) hk]
  simp only [Option.bind_some]
  rw [rdec_loop hx hk]
  simp only [Option.bind_some]
  rw [show (num4 (x.getD 2 0) (x.getD 3 0) (x.getD 4 0) (x.getD 5 0)) = seqOf x from rfl, show (x.getD (Int.toNat 1) 0 == 1) = moreOf x from rfl, show (T34.mk (seqOf x) (moreOf x) (marksOf x (cntOf x)) 0, PUnit.unit) = (T34.mk (seqOf x) (moreOf x) (marksOf x (cntOf x)) 0, ()) from rfl, rencode_eq hk]
  simp only [Option.bind_some]
  unfold good
  by_cases hf : fits (marksOf x (cntOf x)) = true
  · simp only [hf, if_true]
    by_cases hs : sector (seqOf x) (moreOf x) (marksOf x (cntOf x)) = x
    · simp [hs]
    · simp [hs]
  · simp only [hf]
    simp

/-! ### there and back -/
theorem wb_get : ∀ (l : List Mark) (z : List Int) (i : Nat) (h : i < l.length), (wb l ++ z).getD (2 * i) 0 = IntKind.u8.wrap (l[i]).Kind ∧ (wb l ++ z).getD (2 * i + 1) 0 = IntKind.u8.wrap (l[i]).Id := by
  intro l
  induction l with
  | nil => intro z i h; simp at h
  | cons m l ih =>
    intro z i h
    have e : wb (m :: l) ++ z = IntKind.u8.wrap m.Kind :: IntKind.u8.wrap m.Id :: (wb l ++ z) := by simp [wb]
    rw [e]
    cases i with
    | zero => exact ⟨rfl, rfl⟩
    | succ i =>
      have := ih z i (by simpa using h)
      rw [show 2 * (i + 1) = 2 * i + 1 + 1 by omega]
      simpa using this

theorem ok_bytes {m : Mark} (h : markOk m = true) : IntKind.u8.wrap m.Kind = m.Kind ∧ IntKind.u8.wrap m.Id = m.Id ∧ 1 ≤ m.Kind ∧ m.Kind ≤ 5 ∧ 0 ≤ m.Id ∧ m.Id < 64 := by
  unfold markOk at h
  simp only [Bool.and_eq_true, decide_eq_true_eq] at h
  obtain ⟨⟨⟨h1, h2⟩, h3⟩, h4⟩ := h
  have h5 : m.Id < 64 := by
    split at h4
    · have := of_decide_eq_true h4; omega
    · exact of_decide_eq_true h4
  rw [w8_eq, w8_eq]
  exact ⟨by omega, by omega, h1, h2, h3, h5⟩

theorem fits_spec {l : List Mark} (h : fits l = true) : 1 ≤ l.length ∧ l.length ≤ 24 ∧ ∀ m ∈ l, markOk m = true := by
  simp only [fits, Bool.and_eq_true, decide_eq_true_eq, List.all_eq_true] at h
  exact ⟨h.1.1, h.1.2, h.2⟩

theorem seqBytes {seq : Int} (h : 0 ≤ seq ∧ seq < 4294967296) : num4 (IntKind.u8.wrap seq) (seqByte seq 1) (seqByte seq 2) (seqByte seq 3) = seq := by
  unfold num4 seqByte
  simp only [w8_eq]
  rw [Int.fdiv_eq_ediv_of_nonneg _ (by decide), Int.fdiv_eq_ediv_of_nonneg _ (by decide), Int.fdiv_eq_ediv_of_nonneg _ (by decide)]
  have e1 : (2 : Int) ^ (8 * 1) = 256 := by decide
  have e2 : (2 : Int) ^ (8 * 2) = 65536 := by decide
  have e3 : (2 : Int) ^ (8 * 3) = 16777216 := by decide
  rw [e1, e2, e3]
  omega

theorem sector_rt {seq : Int} {more : Bool} {l : List Mark} (hs : 0 ≤ seq ∧ seq < 4294967296) (hf : fits l = true) :
    IsSector (sector seq more l) ∧ seqOf (sector seq more l) = seq ∧ moreOf (sector seq more l) = more ∧ cntOf (sector seq more l) = l.length ∧ marksOf (sector seq more l) l.length = l := by
  obtain ⟨h1, h24, hok⟩ := fits_spec hf
  refine ⟨⟨?_, ?_⟩, seqBytes hs, ?_, ?_, ?_⟩
  · unfold sector
    rw [List.length_append, List.length_append, wb_length, List.length_replicate]
    show 7 + 2 * l.length + (57 - 2 * l.length) = 64
    omega
  · intro y hy
    unfold sector at hy
    rw [List.mem_append, List.mem_append] at hy
    have wr : ∀ z, 0 ≤ IntKind.u8.wrap z ∧ IntKind.u8.wrap z ≤ 255 := fun z => by rw [w8_eq]; omega
    rcases hy with (hy | hy) | hy
    · simp only [hdr, List.mem_cons, List.not_mem_nil, or_false] at hy
      rcases hy with rfl | rfl | rfl | rfl | rfl | rfl | rfl
      · omega
      · cases more <;> decide
      · exact wr _
      · exact wr _
      · exact wr _
      · exact wr _
      · exact wr _
    · simp only [wb, List.mem_flatMap, List.mem_cons, List.not_mem_nil, or_false] at hy
      obtain ⟨m, _, rfl | rfl⟩ := hy <;> exact wr _
    · have := List.eq_of_mem_replicate hy
      omega
  · cases more <;> rfl
  · show min 24 (IntKind.u8.wrap (l.length : Int)).toNat = l.length
    rw [w8_eq]; omega
  · apply List.ext_getElem
    · simp [marksOf]
    · intro i hi1 hi2
      simp only [marksOf, List.getElem_map, List.getElem_range]
      have e1 : (sector seq more l).getD (7 + 2 * i) 0 = (wb l ++ List.replicate (57 - 2 * l.length) 0).getD (2 * i) 0 := by
        unfold sector
        rw [List.append_assoc, List.getD_eq_getElem?_getD, List.getElem?_append_right (by show 7 ≤ _; omega), ← List.getD_eq_getElem?_getD]
        congr 1
        show 7 + 2 * i - 7 = 2 * i
        omega
      have e2 : (sector seq more l).getD (8 + 2 * i) 0 = (wb l ++ List.replicate (57 - 2 * l.length) 0).getD (2 * i + 1) 0 := by
        unfold sector
        rw [List.append_assoc, List.getD_eq_getElem?_getD, List.getElem?_append_right (by show 7 ≤ _; omega), ← List.getD_eq_getElem?_getD]
        congr 1
        show 8 + 2 * i - 7 = 2 * i + 1
        omega
      have hl : i < l.length := hi2
      obtain ⟨g1, g2⟩ := wb_get l (List.replicate (57 - 2 * l.length) 0) i hl
      obtain ⟨b1, b2, _⟩ := ok_bytes (hok l[i] (List.getElem_mem hl))
      rw [e1, e2, g1, g2, b1, b2]

theorem good_sector {seq : Int} {more : Bool} {l : List Mark} (hs : 0 ≤ seq ∧ seq < 4294967296) (hf : fits l = true) : good (sector seq more l) = true := by
  obtain ⟨_, h2, h3, h4, h5⟩ := sector_rt (more := more) hs hf
  unfold good
  rw [h2, h3, h4, h5, hf]
  simp

theorem sector_inj {seq seq' : Int} {more more' : Bool} {l l' : List Mark} (hs : 0 ≤ seq ∧ seq < 4294967296) (hf : fits l = true) (hs' : 0 ≤ seq' ∧ seq' < 4294967296) (hf' : fits l' = true) (h : sector seq more l = sector seq' more' l') : seq = seq' ∧ more = more' ∧ l = l' := by
  obtain ⟨_, h2, h3, h4, h5⟩ := sector_rt (more := more) hs hf
  obtain ⟨_, k2, k3, k4, k5⟩ := sector_rt (more := more') hs' hf'
  rw [h] at h2 h3 h4 h5
  refine ⟨h2.symm.trans k2, h3.symm.trans k3, ?_⟩
  have : l.length = l'.length := h4.symm.trans k4
  rw [this] at h5
  exact h5.symm.trans k5
theorem wakes05 : F25 400 () = some true := by kernel_rfl
theorem marks_build {w : Bool} {q : Int} {m : Mark} {kk : Nat} (hk : kk ≤ 24) : L6_5 400 400 (w, (kk : Int), 0, m.Kind, m.Id, []) = some (w, (kk : Int), m.Kind, m.Id, List.replicate kk m) := by
  unfold L6_5
  refine iter_out (R := R6_5 400) (fun x => ∃ j : Nat, j ≤ kk ∧ x = (w, (kk : Int), (j : Int), m.Kind, m.Id, List.replicate j m)) (fun x => kk - x.2.2.1.toNat) (fun _ => (w, (kk : Int), m.Kind, m.Id, List.replicate kk m)) (fun x hx => ?_) ⟨0, by omega, rfl⟩ (by simp; omega)
  obtain ⟨j, hj, rfl⟩ := hx
  rcases Nat.lt_or_ge j kk with h | h
  · right
    refine ⟨(w, (kk : Int), ((j + 1 : Nat) : Int), m.Kind, m.Id, List.replicate (j + 1) m), fun again => ?_, ⟨j + 1, by omega, rfl⟩, by simp only [Int.toNat_natCast]; omega, rfl⟩
    unfold R6_5
    have hr : decide ((List.replicate j m).length + ((List.replicate 1 (T46.mk 0 0)).set 0 (T46.mk m.Kind m.Id)).length ≤ roomMost) = true := by
      simp [roomMost]; omega
    simp only [show ((j : Int) < kk) from by omega, decide_true, cond_true, hr]
    rw [wI_in (by omega), show List.replicate (j + 1) m = List.replicate j m ++ [m] from List.replicate_succ']
    rfl
  · left
    intro again
    have : j = kk := by omega
    subst this
    unfold R6_5
    simp

theorem countP_rep (m : Mark) (n : Nat) : (List.replicate n m).countP isBlock = if isBlock m = true then n else 0 := by
  rw [List.countP_replicate]

theorem fits_rep {m : Mark} {n : Nat} (h1 : 1 ≤ n) (h2 : n ≤ 24) : fits (List.replicate n m) = markOk m := by
  unfold fits
  have : (List.replicate n m).all markOk = markOk m := by
    cases n with
    | zero => omega
    | succ n => simp [List.all_replicate]
  rw [this]
  simp [h1, h2]

theorem summaryMarks_plain (m : Mark) (a1 : Int) (h1 : WI_u8 a1) : ∃ k, F6 k (m, a1, ()) = some true := by
  refine ⟨400, ?_⟩
  obtain ⟨kk, hkk, hk1, hk2⟩ : ∃ kk : Nat, IntKind.i64.wrap (1 + (IntKind.i64.wrap a1).tmod 24) = (kk : Int) ∧ 1 ≤ kk ∧ kk ≤ 24 := by
    have hw : IntKind.i64.wrap a1 = a1 := wI_in (by have := h1.1; have := h1.2; omega)
    have e1 := Int.tmod_nonneg 24 h1.1
    have e2 := Int.tmod_lt_of_pos a1 (show (0 : Int) < 24 by omega)
    refine ⟨(1 + a1.tmod 24).toNat, ?_, by omega, by omega⟩
    rw [hw, wI_in (by omega)]
    omega
  have hL : ∀ w, L6_5 400 400 (w, (kk : Int), 0, m.Kind, m.Id, []) = some (w, (kk : Int), m.Kind, m.Id, List.replicate kk m) := fun w => marks_build (q := 0) hk2
  have hE1 : F26 400 (T24.mk 5 false (List.replicate kk m), ()) = some (if markOk m = true then (sector 5 false (List.replicate kk m), 0, ()) else (zeros, 11, ())) := by
    rw [encode_eq (by omega), fits_rep hk1 hk2]
  have hE2 : F26 400 (T24.mk 5 false (List.replicate kk m ++ List.replicate (Int.toNat 24) (T46.mk 0 0)), ()) = some (zeros, 11, ()) := by
    rw [encode_eq (by omega), if_neg]
    simp [fits]
    omega
  have hB : F32 400 (List.replicate kk m, ()) = some ((if isBlock m = true then kk else 0 : Nat) : Int) := by
    rw [blocks_eq (by simp [Short]; omega) (by simp; omega), countP_rep]
  have hrm : (decide ((0 : Int) ≤ 24) && decide ((List.replicate kk m).length + Int.toNat 24 ≤ roomMost)) = true := by
    simp [roomMost]; omega
  unfold F6
  simp only [hkk, hL, Option.bind_some, hE1, hE2, hB, hrm, cond_true, wakes05]
  have hIB : isBlock m = (decide (m.Kind = 1) || decide (m.Kind = 2) || decide (m.Kind = 3)) := by
    unfold isBlock
    by_cases k1 : 1 ≤ m.Kind <;> by_cases k2 : m.Kind ≤ 3 <;> simp [k1, k2] <;> omega
  have e1 : (m.Kind == 1) = decide (m.Kind = 1) := rfl
  have e2 : (m.Kind == 2) = decide (m.Kind = 2) := rfl
  have e3 : (m.Kind == 3) = decide (m.Kind = 3) := rfl
  by_cases c1 : m.Kind ≥ 1
  · rw [show decide (m.Kind ≥ 1) = true from decide_eq_true c1, cond_true]
    by_cases c2 : m.Kind ≤ 5
    · rw [show decide (m.Kind ≤ 5) = true from decide_eq_true c2, cond_true]
      by_cases c3 : m.Id ≥ 0
      · rw [show decide (m.Id ≥ 0) = true from decide_eq_true c3, cond_true]
        by_cases c4 : m.Id < 64
        · rw [show decide (m.Id < 64) = true from decide_eq_true c4, cond_true]
          by_cases c5 : m.Kind = 3
          · rw [show (m.Kind != 3) = false by simp [c5], cond_false]
            by_cases c6 : m.Id < 8
            · rw [show decide (m.Id < 8) = true from decide_eq_true c6]
              have hm : markOk m = true := by unfold markOk; simp [c5, c6]; omega
              by_cases k1 : m.Kind = 1 <;> by_cases k2 : m.Kind = 2 <;> by_cases k3 : m.Kind = 3 <;> first | omega | simp [hm, hIB, k3]
            · rw [show decide (m.Id < 8) = false from decide_eq_false c6]
              have hm : markOk m = false := by unfold markOk; simp [c5, c6]
              by_cases k1 : m.Kind = 1 <;> by_cases k2 : m.Kind = 2 <;> by_cases k3 : m.Kind = 3 <;> first | omega | simp [hm, hIB, k3, zeros]
          · rw [show (m.Kind != 3) = true by simp [c5], cond_true]
            have hm : markOk m = true := by unfold markOk; simp [c5, c4]; omega
            by_cases k1 : m.Kind = 1 <;> by_cases k2 : m.Kind = 2 <;> by_cases k3 : m.Kind = 3 <;> first | omega | simp [hm, hIB, e1, e2, e3, k1, k2, k3]
        · rw [show decide (m.Id < 64) = false from decide_eq_false c4, cond_false]
          have hm : markOk m = false := by unfold markOk; rw [show decide (m.Id < 64) = false from decide_eq_false c4, show decide (m.Id < 8) = false from decide_eq_false (by omega)]; simp
          by_cases k1 : m.Kind = 1 <;> by_cases k2 : m.Kind = 2 <;> by_cases k3 : m.Kind = 3 <;> first | omega | simp [hm, hIB, e1, e2, e3, k1, k2, k3, zeros]
      · rw [show decide (m.Id ≥ 0) = false from decide_eq_false c3, cond_false]
        have hm : markOk m = false := by unfold markOk; rw [show decide (0 ≤ m.Id) = false from decide_eq_false c3]; simp
        by_cases k1 : m.Kind = 1 <;> by_cases k2 : m.Kind = 2 <;> by_cases k3 : m.Kind = 3 <;> first | omega | simp [hm, hIB, e1, e2, e3, k1, k2, k3, zeros]
    · rw [show decide (m.Kind ≤ 5) = false from decide_eq_false c2, cond_false]
      have hm : markOk m = false := by unfold markOk; rw [show decide (m.Kind ≤ 5) = false from decide_eq_false c2]; simp
      by_cases k1 : m.Kind = 1 <;> by_cases k2 : m.Kind = 2 <;> by_cases k3 : m.Kind = 3 <;> first | omega | simp [hm, hIB, e1, e2, e3, k1, k2, k3, zeros]
  · rw [show decide (m.Kind ≥ 1) = false from decide_eq_false c1, cond_false]
    have hm : markOk m = false := by unfold markOk; rw [show decide (1 ≤ m.Kind) = false from decide_eq_false c1]; rfl
    by_cases k1 : m.Kind = 1 <;> by_cases k2 : m.Kind = 2 <;> by_cases k3 : m.Kind = 3 <;> first | omega | simp [hm, hIB, e1, e2, e3, k1, k2, k3, zeros]

theorem summaryMarks : Rows.SummaryMarksSaid := summaryMarks_row fun a0 a1 _ h1 => summaryMarks_plain a0 a1 h1
end Go.Proofs.Ytbhnkjnjeifdhaa.W
