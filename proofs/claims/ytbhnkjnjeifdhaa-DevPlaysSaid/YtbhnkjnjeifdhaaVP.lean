/-
  DevPlays: for every input that the statement lets in the law returns true. No conditions.
-/
import Derived.Test.YtbhnkjnjeifdhaaVR
set_option linter.unusedVariables false
namespace Go.Proofs.Ytbhnkjnjeifdhaa.W
open Go V
/-! ### the device, plainly -/
def upto {σ : Type} (f : σ → Nat → σ) (s : σ) : Nat → σ
  | 0 => s
  | n + 1 => f (upto f s n) n
theorem upto_len {α : Type} (f : List α → Nat → List α) (h : ∀ s n, (f s n).length = s.length) (s : List α) : ∀ n, (upto f s n).length = s.length
  | 0 => rfl
  | n + 1 => (h _ _).trans (upto_len f h s n)
theorem upto_stay {σ : Type} (f : σ → Nat → σ) (s : σ) (m : Nat) (h : ∀ n t, m ≤ n → f t n = t) : ∀ n, m ≤ n → upto f s n = upto f s m := by
  intro n
  induction n with
  | zero => intro hn; have : m = 0 := by omega
            subst this; rfl
  | succ n ih =>
    intro hn
    rcases Nat.lt_or_ge n m with h1 | h1
    · have : m = n + 1 := by omega
      subst this; rfl
    · exact (h n _ h1).trans (ih h1)
theorem upto_congr {σ : Type} (f g : σ → Nat → σ) (s : σ) : ∀ n, (∀ j t, j < n → f t j = g t j) → upto f s n = upto g s n := by
  intro n
  induction n with
  | zero => intro _; rfl
  | succ n ih => intro h; simp only [upto]; rw [ih fun j t hj => h j t (by omega), h n _ (by omega)]

def zs : List Int := List.replicate 64 0
def w0 : T143 := ⟨0, zs⟩
def passF (f : Int) : Int := if f > 0 then f - 1 else f
def rd (S : List (List Int)) (L : List T143) (i : Int) : List Int := upto (fun s n => if (L.getD n w0).at_ = i then (L.getD n w0).s else s) (S.getD i.toNat zs) L.length
def fl (S : List (List Int)) (L : List T143) : List (List Int) := upto (fun S n => S.set (L.getD n w0).at_.toNat (L.getD n w0).s) S L.length
def cr (keep : List Int) (S : List (List Int)) (L : List T143) : List (List Int) :=
  upto (fun S n => if n < keep.length ∧ (keep.getD n 0).tmod 2 = 1 then S.set (L.getD n w0).at_.toNat (L.getD n w0).s else S) S L.length
theorem fl_len (S : List (List Int)) (L : List T143) : (fl S L).length = S.length := upto_len _ (fun s n => by simp) _ _
theorem cr_len (keep : List Int) (S : List (List Int)) (L : List T143) : (cr keep S L).length = S.length := upto_len _ (fun s n => by split <;> simp) _ _

theorem set_fill (v : Int) {j : Nat} (hj : j < 64) : (List.replicate j v ++ List.replicate (64 - j) 0).set j v = List.replicate (j + 1) v ++ List.replicate (64 - (j + 1)) (0 : Int) := by
  rw [List.set_append_right _ _ (by simp)]
  rw [show 64 - j = (64 - (j + 1)) + 1 by omega, List.replicate_succ]
  simp only [List.length_replicate, Nat.sub_self, List.set_cons_zero]
  rw [List.replicate_succ', List.append_assoc]
  rfl

def fillv (v : Int) : List Int := List.replicate 64 v
theorem fill_eq {k : Nat} (hk : 64 < k) (v : Int) : F40 k (v, ()) = some (fillv v) := by
  unfold F40 L40_3 fillv
  have := iter_out (R := R40_3 k) (fun x => ∃ j : Nat, j ≤ 64 ∧ x = (v, (j : Int), zs, List.replicate j v ++ List.replicate (64 - j) 0))
    (fun x => 64 - x.2.1.toNat) (fun _ => (zs, List.replicate 64 v)) (fun x hx => by
      obtain ⟨j, hj, rfl⟩ := hx
      rcases Nat.lt_or_ge j 64 with h | h
      · right
        refine ⟨(v, ((j + 1 : Nat) : Int), zs, List.replicate (j + 1) v ++ List.replicate (64 - (j + 1)) 0), fun again => ?_, ⟨j + 1, by omega, rfl⟩, by simp only [Int.toNat_natCast]; omega, rfl⟩
        unfold R40_3
        simp only [Int.toNat_natCast, set_fill v h]
        rw [inRange_true (by omega), wI_in (by omega)]
        simp only [show ((j : Int) < 64) from by omega, decide_true, cond_true, Int.natCast_add, Int.natCast_one]
      · left
        intro again
        have : j = 64 := by omega
        subst this
        unfold R40_3
        simp) (n := k) (x := (v, 0, zs, zs)) ⟨0, by omega, by simp [zs]⟩ (by simpa using hk)
  simp only [zs] at this
  simp only
  rw [this]
  rfl

theorem mod_eq {k : Nat} (a n : Int) (hn : 1 ≤ n ∧ n ≤ 100) (ha : -9223372036854775808 ≤ a ∧ a ≤ 9223372036854775807) : ∃ m, F52 k (a, n, ()) = some m ∧ 0 ≤ m ∧ m < n := by
  have e1 := Int.tmod_lt_of_pos a (show 0 < n by omega)
  have e2 : -n < a.tmod n := by
    exact Int.lt_tmod_of_pos a (show 0 < n by omega)
  refine ⟨(a.tmod n + n).tmod n, ?_, ?_, Int.tmod_lt_of_pos _ (by omega)⟩
  · unfold F52
    simp only [show ¬ (n < 1) by omega, decide_false, cond_false, bne]
    rw [wI_in (by omega)]
    have : (n == 0) = false := by simp; omega
    rw [this]; rfl
  · exact Int.tmod_nonneg _ (by omega)

section
variable {k : Nat} {f d : Int} {S : List (List Int)} {L : List T143}

theorem len_eq (hS : S.length ≤ 2000) (hL : L.length ≤ 2000) : F50 k (f, d, S, L) = some ((S.length : Int), f, d, S, L) := by
  unfold F50 F87
  simp only [beq_self_eq_true, cond_true, Option.bind_some]
  rw [wI_in (x := (S.length : Int) - L.length) (by omega), wI_in (by omega)]
  congr 2
  omega
theorem loose_eq (hL : L.length ≤ 2000) : F49 k (f, d, S, L) = some ((L.length : Int), f, d, S, L) := by
  unfold F49 F87
  simp only [show ((1 : Int) == 0) = false from rfl, cond_false, beq_self_eq_true, cond_true, Option.bind_some]
  rw [wI_in (by omega)]
  congr 2
  omega
theorem done_eq : F51 k (f, d, S, L) = some (d, f, d, S, L) := by
  unfold F51 F87
  rfl
theorem has_eq (hS : S.length ≤ 2000) (hL : L.length ≤ 2000) (i : Int) : F83 k (i, f, d, S, L) = some (decide (0 ≤ i ∧ i < S.length), f, d, S, L) := by
  unfold F83
  simp only [len_eq hS hL, Option.bind_some]
  by_cases h : 0 ≤ i
  · simp [h]
  · simp [h]
theorem pass_eq (hf : -1 ≤ f ∧ f ≤ 9223372036854775807) (hd : 0 ≤ d ∧ d < 100000) : F84 k (f, d, S, L) = some (if f = 0 then (12, -1, d, S, L) else (0, passF f, d + 1, S, L)) := by
  unfold F84 passF
  by_cases h0 : f = 0
  · subst h0; rfl
  · have : (f == 0) = false := by simpa using h0
    simp only [this, cond_false, h0, if_false]
    rw [wI_in (x := d + 1) (by omega)]
    by_cases h1 : f > 0
    · simp only [h1, decide_true, cond_true, if_true]
      rw [wI_in (by omega)]
    · simp only [h1, decide_false, cond_false, if_false]
theorem write_eq (hf : -1 ≤ f ∧ f ≤ 9223372036854775807) (hd : 0 ≤ d ∧ d < 100000) (hS : S.length ≤ 2000) (hL : L.length ≤ 1000) (i : Int) (s : List Int) :
    F39 k (i, s, f, d, S, L) = some (if 0 ≤ i ∧ i < S.length then (if f = 0 then (12, -1, d, S, L) else (0, passF f, d + 1, S, L ++ [⟨i, s⟩])) else (1, f, d, S, L)) := by
  unfold F39
  simp only [has_eq hS (show L.length ≤ 2000 by omega), Option.bind_some, pass_eq hf hd]
  by_cases h : 0 ≤ i ∧ i < (S.length : Int)
  · simp only [h, and_self, decide_true, Bool.not_true, cond_false, if_true]
    by_cases h0 : f = 0
    · simp [h0]
    · simp only [h0, if_false, bne_self_eq_false, cond_false]
      have : decide (L.length + ((List.replicate 1 (T143.mk 0 (List.replicate 64 0))).set 0 (T143.mk i s)).length ≤ roomMost) = true := by
        simp [roomMost]; omega
      simp only [this, cond_true]
      rfl
  · simp only [h, decide_false, Bool.not_false, cond_true, if_false]

theorem read_eq (hS : S.length ≤ 2000) (hL : L.length ≤ 1000) (hk : 1000 < k) (i : Int) :
    F42 k (i, f, d, S, L) = some (if 0 ≤ i ∧ i < S.length then (rd S L i, 0, f, d, S, L) else (zs, 1, f, d, S, L)) := by
  unfold F42
  simp only [has_eq hS (show L.length ≤ 2000 by omega), Option.bind_some]
  by_cases h : 0 ≤ i ∧ i < (S.length : Int)
  · simp only [h, and_self, decide_true, Bool.not_true, cond_false, if_true]
    rw [inRange_true (by omega), cond_true]
    unfold L42_5
    have := iter_out (R := R42_5 k) (fun x => ∃ j : Nat, j ≤ L.length ∧ x = (i, (L.length : Int), (j : Int), f, d, zs, upto (fun s n => if (L.getD n w0).at_ = i then (L.getD n w0).s else s) (S.getD i.toNat zs) j, L, S))
      (fun x => L.length - x.2.2.1.toNat) (fun _ => (f, d, zs, rd S L i, S, L)) (fun x hx => by
        obtain ⟨j, hj, rfl⟩ := hx
        rcases Nat.lt_or_ge j L.length with h | h
        · right
          refine ⟨_, fun again => ?_, ⟨j + 1, by omega, rfl⟩, by simp only [Int.toNat_natCast]; omega, rfl⟩
          unfold R42_5
          simp only [Int.toNat_natCast]
          rw [inRange_true (by omega), wI_in (by omega)]
          simp only [show ((j : Int) < L.length) from by omega, decide_true, cond_true, upto, Int.natCast_add, Int.natCast_one]
          show (bif (L.getD j w0).at_ == i then _ else _) = _
          by_cases hi : (L.getD j w0).at_ = i
          · simp only [hi, beq_self_eq_true, cond_true, if_true]; rfl
          · have : ((L.getD j w0).at_ == i) = false := by simpa using hi
            simp only [this, hi, cond_false, if_false]
        · left
          intro again
          have : j = L.length := by omega
          subst this
          unfold R42_5
          simp [rd]) (n := k) (x := (i, (L.length : Int), 0, f, d, zs, S.getD i.toNat zs, L, S)) ⟨0, by omega, rfl⟩ (by simp; omega)
    simp only [zs] at this
    rw [this]
    simp
  · simp only [h, decide_false, Bool.not_false, cond_true, if_false]
    rfl

theorem flush_eq (hf : -1 ≤ f ∧ f ≤ 9223372036854775807) (hd : 0 ≤ d ∧ d < 100000) (hL : L.length ≤ 1000) (hk : 1000 < k) (hat : ∀ w ∈ L, 0 ≤ w.at_ ∧ w.at_ < S.length) :
    F44 k (f, d, S, L) = some (if f = 0 then (12, -1, d, S, L) else (0, passF f, d + 1, fl S L, [])) := by
  unfold F44
  simp only [pass_eq hf hd, Option.bind_some]
  by_cases h0 : f = 0
  · simp [h0]
  · simp only [h0, if_false, bne_self_eq_false, cond_false]
    unfold L44_7
    have := iter_out (R := R44_7 k) (fun x => ∃ j : Nat, j ≤ L.length ∧ x = ((L.length : Int), (j : Int), passF f, d + 1, L, upto (fun S n => S.set (L.getD n w0).at_.toNat (L.getD n w0).s) S j))
      (fun x => L.length - x.2.1.toNat) (fun _ => (passF f, d + 1, fl S L, L)) (fun x hx => by
        obtain ⟨j, hj, rfl⟩ := hx
        rcases Nat.lt_or_ge j L.length with h | h
        · right
          refine ⟨_, fun again => ?_, ⟨j + 1, by omega, rfl⟩, by simp only [Int.toNat_natCast]; omega, rfl⟩
          have hw := hat (L.getD j w0) (by rw [List.getD_eq_getElem?_getD, List.getElem?_eq_getElem h]; exact List.getElem_mem h)
          unfold R44_7
          simp only [Int.toNat_natCast]
          rw [inRange_true (by omega), wI_in (by omega)]
          simp only [show ((j : Int) < L.length) from by omega, decide_true, cond_true, upto, Int.natCast_add, Int.natCast_one]
          show (bif inRange (L.getD j w0).at_ _ then _ else _) = _
          rw [inRange_true (by rw [upto_len _ (fun s n => by simp)]; exact hw)]
          rfl
        · left
          intro again
          have : j = L.length := by omega
          subst this
          unfold R44_7
          simp [fl]) (n := k) (x := ((L.length : Int), 0, passF f, d + 1, L, S)) ⟨0, by omega, rfl⟩ (by simp; omega)
    rw [this]
    rfl

theorem crash_eq (hL : L.length ≤ 1000) (hk : 1000 < k) (hat : ∀ w ∈ L, 0 ≤ w.at_ ∧ w.at_ < S.length) (keep : List Int) :
    F46 k (keep, f, d, S, L) = some (-1, d, cr keep S L, []) := by
  unfold F46 L46_2
  have := iter_out (R := R46_2 k) (fun x => ∃ j : Nat, j ≤ L.length ∧ x = (keep, (L.length : Int), (j : Int), f, d, L, upto (fun S n => if n < keep.length ∧ (keep.getD n 0).tmod 2 = 1 then S.set (L.getD n w0).at_.toNat (L.getD n w0).s else S) S j))
    (fun x => L.length - x.2.2.1.toNat) (fun _ => (f, d, cr keep S L, L)) (fun x hx => by
      obtain ⟨j, hj, rfl⟩ := hx
      rcases Nat.lt_or_ge j L.length with h | h
      · right
        refine ⟨_, fun again => ?_, ⟨j + 1, by omega, rfl⟩, by simp only [Int.toNat_natCast]; omega, rfl⟩
        have hw := hat (L.getD j w0) (by rw [List.getD_eq_getElem?_getD, List.getElem?_eq_getElem h]; exact List.getElem_mem h)
        unfold R46_2
        simp only [Int.toNat_natCast]
        rw [inRange_true (i := (j : Int)) (n := L.length) (by omega), wI_in (by omega)]
        simp only [show ((j : Int) < L.length) from by omega, decide_true, cond_true, upto, Int.natCast_add, Int.natCast_one]
        by_cases hjk : j < keep.length
        · rw [inRange_true (by omega)]
          simp only [show ((j : Int) < keep.length) from by omega, decide_true, cond_true, hjk, true_and]
          by_cases hm : (keep.getD j 0).tmod 2 = 1
          · simp only [hm, beq_self_eq_true, cond_true, if_true]
            show (bif inRange (L.getD j w0).at_ _ then _ else _) = _
            rw [inRange_true (by rw [upto_len _ (fun s n => by split <;> simp)]; exact hw)]
            rfl
          · have : ((keep.getD j 0).tmod 2 == 1) = false := by simpa using hm
            simp only [this, hm, cond_false, if_false]
        · simp only [show ¬ ((j : Int) < keep.length) from by omega, decide_false, cond_false, hjk, false_and, if_false]
      · left
        intro again
        have : j = L.length := by omega
        subst this
        unfold R46_2
        simp [cr]) (n := k) (x := (keep, (L.length : Int), 0, f, d, L, S)) ⟨0, by omega, rfl⟩ (by simp; omega)
  simp only
  rw [this]
  rfl
theorem fail_eq (v : Int) : F48 k (v, f, d, S, L) = some (if v < -1 then -1 else v, d, S, L) := rfl
end
theorem new_eq {k : Nat} (n : Int) : F37 k n = some (if 1 ≤ n ∧ n ≤ 1024 then .inr (0, -1, 0, List.replicate n.toNat zs, []) else .inl 1) := by
  unfold F37
  by_cases h1 : n < 1
  · have : ¬ (1 ≤ n ∧ n ≤ 1024) := by omega
    simp [h1, this]
  · by_cases h2 : n > 1024
    · have : ¬ (1 ≤ n ∧ n ≤ 1024) := by omega
      simp [h1, h2, this]
    · have h3 : 1 ≤ n ∧ n ≤ 1024 := by omega
      have h4 : 0 ≤ n := by omega
      have h5 : n ≤ (roomMost : Int) := by simp [roomMost]; omega
      simp [h1, h2, h3, h4, h5, zs]

theorem wakes_eq {k : Nat} (hk : 1000 < k) : F36 k () = some true := by
  unfold F36
  have hk2 : 64 < k := by omega
  simp [new_eq, fill_eq hk2, sumK, write_eq, loose_eq, fail_eq, flush_eq, crash_eq, read_eq, len_eq, done_eq, hk, passF, rd, cr, upto, w0]
/-! ### what is read -/
def Ats (S : List (List Int)) (L : List T143) : Prop := ∀ w ∈ L, 0 ≤ w.at_ ∧ w.at_ < S.length
theorem Ats.snoc {S : List (List Int)} {L : List T143} (h : Ats S L) {i : Int} (hi : 0 ≤ i ∧ i < S.length) (s : List Int) : Ats S (L ++ [⟨i, s⟩]) := by
  intro w hw
  rcases List.mem_append.1 hw with hw | hw
  · exact h w hw
  · simp only [List.mem_singleton] at hw
    subst hw; exact hi
theorem Ats.nil (S : List (List Int)) : Ats S [] := fun w hw => by cases hw
theorem getD_snoc {α : Type} (L : List α) (x d : α) : (L ++ [x]).getD L.length d = x := by simp [List.getD_eq_getElem?_getD]
theorem getD_snoc_lt {α : Type} {L : List α} (x d : α) {j : Nat} (h : j < L.length) : (L ++ [x]).getD j d = L.getD j d := by
  simp [List.getD_eq_getElem?_getD, List.getElem?_append_left h]

theorem rd_nil (S : List (List Int)) (i : Int) : rd S [] i = S.getD i.toNat zs := rfl
theorem rd_snoc (S : List (List Int)) (L : List T143) (i j : Int) (s : List Int) : rd S (L ++ [⟨i, s⟩]) j = if i = j then s else rd S L j := by
  unfold rd
  rw [show (L ++ [(⟨i, s⟩ : T143)]).length = L.length + 1 by simp]
  simp only [upto, getD_snoc]
  rw [upto_congr _ (fun s n => if (L.getD n w0).at_ = j then (L.getD n w0).s else s) _ L.length fun n t hn => by simp only [getD_snoc_lt _ _ hn]]

/-- what is behind a crash -/
def crd (keep : List Int) (S : List (List Int)) (L : List T143) (i : Int) : List Int :=
  upto (fun s n => if (n < keep.length ∧ (keep.getD n 0).tmod 2 = 1) ∧ (L.getD n w0).at_ = i then (L.getD n w0).s else s) (S.getD i.toNat zs) L.length
theorem crd_nil (keep : List Int) (S : List (List Int)) (i : Int) : crd keep S [] i = S.getD i.toNat zs := rfl
theorem crd_snoc (keep : List Int) (S : List (List Int)) (L : List T143) (i j : Int) (s : List Int) :
    crd keep S (L ++ [⟨i, s⟩]) j = if (L.length < keep.length ∧ (keep.getD L.length 0).tmod 2 = 1) ∧ i = j then s else crd keep S L j := by
  unfold crd
  rw [show (L ++ [(⟨i, s⟩ : T143)]).length = L.length + 1 by simp]
  simp only [upto, getD_snoc]
  rw [upto_congr _ (fun s n => if (n < keep.length ∧ (keep.getD n 0).tmod 2 = 1) ∧ (L.getD n w0).at_ = j then (L.getD n w0).s else s) _ L.length fun n t hn => by simp only [getD_snoc_lt _ _ hn]]

theorem get_set {S : List (List Int)} {a j : Int} (ha : 0 ≤ a ∧ a < S.length) (hj : 0 ≤ j) (s : List Int) : (S.set a.toNat s).getD j.toNat zs = if a = j then s else S.getD j.toNat zs := by
  rw [List.getD_eq_getElem?_getD, List.getD_eq_getElem?_getD, List.getElem?_set]
  by_cases h : a = j
  · subst h
    simp only [if_true]
    rw [if_pos (by omega)]
    rfl
  · rw [if_neg (by omega), if_neg h]

theorem fl_get {S : List (List Int)} {L : List T143} (h : Ats S L) {j : Int} (hj : 0 ≤ j) : (fl S L).getD j.toNat zs = rd S L j := by
  unfold fl rd
  have : ∀ n, n ≤ L.length → (upto (fun S n => S.set (L.getD n w0).at_.toNat (L.getD n w0).s) S n).getD j.toNat zs = upto (fun s n => if (L.getD n w0).at_ = j then (L.getD n w0).s else s) (S.getD j.toNat zs) n := by
    intro n
    induction n with
    | zero => intro _; rfl
    | succ n ih =>
      intro hn
      have hw := h (L.getD n w0) (by rw [List.getD_eq_getElem?_getD, List.getElem?_eq_getElem (by omega)]; exact List.getElem_mem _)
      simp only [upto]
      rw [get_set (by rw [upto_len _ (fun s n => by simp)]; exact hw) hj, ih (by omega)]
  exact this _ (Nat.le_refl _)
theorem cr_get {S : List (List Int)} {L : List T143} (h : Ats S L) (keep : List Int) {j : Int} (hj : 0 ≤ j) : (cr keep S L).getD j.toNat zs = crd keep S L j := by
  unfold cr crd
  have : ∀ n, n ≤ L.length → (upto (fun S n => if n < keep.length ∧ (keep.getD n 0).tmod 2 = 1 then S.set (L.getD n w0).at_.toNat (L.getD n w0).s else S) S n).getD j.toNat zs = upto (fun s n => if (n < keep.length ∧ (keep.getD n 0).tmod 2 = 1) ∧ (L.getD n w0).at_ = j then (L.getD n w0).s else s) (S.getD j.toNat zs) n := by
    intro n
    induction n with
    | zero => intro _; rfl
    | succ n ih =>
      intro hn
      have hw := h (L.getD n w0) (by rw [List.getD_eq_getElem?_getD, List.getElem?_eq_getElem (by omega)]; exact List.getElem_mem _)
      simp only [upto]
      by_cases hk : n < keep.length ∧ (keep.getD n 0).tmod 2 = 1
      · rw [if_pos hk, get_set (by rw [upto_len _ (fun s n => by split <;> simp)]; exact hw) hj, ih (by omega)]
        simp only [hk, and_self, true_and]
      · rw [if_neg hk, ih (by omega)]
        simp only [hk, false_and, if_false]
  exact this _ (Nat.le_refl _)

def e0 : T59 := ⟨0, 0, 0, []⟩
/-- steps that are not too many, nor too long -/
theorem fair_eq {k : Nat} {l : List T59} (hl : l.length ≤ maxLen) (hk : l.length < k) : ∃ b, F35 k (l, ()) = some b ∧ (b = true → l.length ≤ 200 ∧ ∀ i, i < l.length → (l.getD i e0).Keep.length ≤ 300) := by
  have hm : maxLen = 9223372036854775807 := rfl
  have := iter_post (R := R35_2 k) (fun x => ∃ j : Nat, j ≤ l.length ∧ x = (l, (j : Int))) (fun x => l.length - x.2.toNat)
    (fun x o => o = .inl (l, false) ∨ (o = .inr l ∧ ∀ i, x.2.toNat ≤ i → i < l.length → (l.getD i e0).Keep.length ≤ 300)) (fun x hx => by
      obtain ⟨j, hj, rfl⟩ := hx
      rcases Nat.lt_or_ge j l.length with h | h
      · by_cases hb : (l.getD j e0).Keep.length > 300
        · left
          refine ⟨.inl (l, false), fun again => ?_, .inl rfl⟩
          unfold R35_2
          simp only [Int.toNat_natCast]
          rw [inRange_true (by omega)]
          simp only [show ((j : Int) < l.length) from by omega, decide_true, cond_true]
          show (bif decide (((l.getD j e0).Keep.length : Int) > 300) then _ else _) = _
          simp only [show ((l.getD j e0).Keep.length : Int) > 300 from by omega, decide_true, cond_true]
        · right
          refine ⟨(l, ((j + 1 : Nat) : Int)), fun again => ?_, ⟨j + 1, by omega, rfl⟩, by simp only [Int.toNat_natCast]; omega, fun o ho => ?_⟩
          · unfold R35_2
            simp only [Int.toNat_natCast]
            rw [inRange_true (by omega), wI_in (by omega)]
            simp only [show ((j : Int) < l.length) from by omega, decide_true, cond_true]
            show (bif decide (((l.getD j e0).Keep.length : Int) > 300) then _ else _) = _
            simp only [show ¬ (((l.getD j e0).Keep.length : Int) > 300) from by omega, decide_false, cond_false, Int.natCast_add, Int.natCast_one]
          · rcases ho with ho | ⟨ho, hall⟩
            · exact .inl ho
            · refine .inr ⟨ho, fun i h1 h2 => ?_⟩
              simp only [Int.toNat_natCast] at h1 hall
              rcases Nat.lt_or_ge j i with h3 | h3
              · exact hall i (by omega) h2
              · have : i = j := by omega
                subst this; omega
      · left
        have : j = l.length := by omega
        subst this
        refine ⟨.inr l, fun again => ?_, .inr ⟨rfl, fun i h1 h2 => by simp only [Int.toNat_natCast] at h1; omega⟩⟩
        unfold R35_2
        simp) k (l, 0) ⟨0, by omega, rfl⟩ (by simpa using hk)
  obtain ⟨o, h1, h2⟩ := this
  unfold F35 L35_2
  simp only
  rw [h1]
  rcases h2 with rfl | ⟨rfl, hall⟩
  · exact ⟨false, rfl, fun h => by cases h⟩
  · refine ⟨decide ((l.length : Int) ≤ 200), rfl, fun h => ⟨?_, fun i hi => hall i (by simp) hi⟩⟩
    have := of_decide_eq_true h
    omega

/-! ### the laws -/
theorem devNone_F (a : T59) : ∃ k, F10 k (a, ()) = some true := by
  refine ⟨2000, ?_⟩
  obtain ⟨b, h1, _⟩ := fair_eq (k := 2000) (l := [a]) (by simp [maxLen]) (by simp)
  have hw : F36 2000 () = some true := wakes_eq (by omega)
  have hf : F40 2000 (a.3, ()) = some (fillv a.3) := fill_eq (by omega) _
  have h1' : F35 2000 ((List.replicate 1 (T59.mk 0 0 0 [])).set 0 (T59.mk a.1 a.2 a.3 a.4), ()) = some b := h1
  unfold F10
  simp only [h1', Option.bind_some, hw, hf]
  cases b with
  | false => rfl
  | true =>
    by_cases hi : a.2 ≥ 0
    · simp [F48hn, F46hn, F42hn, F83hn, F50hn, F87hn, F39hn, F44hn, F49hn, F51hn, hi, show ¬ (a.2 < 0) from by omega]
    · simp [F48hn, F46hn, F42hn, F83hn, F50hn, F87hn, F39hn, F44hn, F49hn, F51hn, hi]

theorem devOrder_F (a b : Int) (l : List Int) (hl : l.length = 2) : ∃ k, F12 k (a, b, l, ()) = some true := by
  refine ⟨2000, ?_⟩
  match l, hl with
  | [p, q], _ =>
    have hw : F36 2000 () = some true := wakes_eq (by omega)
    unfold F12
    cases hp : (p.tmod 2 == 1) <;> cases hq : (q.tmod 2 == 1) <;>
    have hp' := hp <;> have hq' := hq <;> simp only [beq_iff_eq, beq_eq_false_iff_ne, ne_eq] at hp' hq' <;>
    simp [new_eq, fill_eq, sumK, write_eq, loose_eq, crash_eq, read_eq, passF, rd, cr, upto, w0, hp, hq, hp', hq', hw, zs]
/-! ### DevPlays: the document's device -/
def cv (w : T143) : T145 := ⟨w.at_, w.s⟩
theorem cv_get (L : List T143) (n : Nat) : (L.map cv).getD n (T145.mk 0 (List.replicate 64 0)) = cv (L.getD n w0) := by
  rw [List.getD_eq_getElem?_getD, List.getD_eq_getElem?_getD, List.getElem?_map]
  cases L[n]? <;> rfl
section
variable {k : Nat} {f d : Int} {S : List (List Int)} {L : List T143}
theorem rhas_eq (L' : List T145) (i : Int) : F85 k (i, f, d, S, L') = some (decide (0 ≤ i ∧ i < S.length), f, d, S, L') := by
  unfold F85
  by_cases h : 0 ≤ i
  · simp [h]
  · simp [h]
theorem rpass_eq (hf : -9223372036854775808 ≤ f ∧ f ≤ 9223372036854775807) (hd : 0 ≤ d ∧ d < 100000) (L' : List T145) : F86 k (f, d, S, L') = some (if f = 0 then (true, -1, d, S, L') else (false, passF f, d + 1, S, L')) := by
  unfold F86 passF
  by_cases h0 : f = 0
  · subst h0; rfl
  · have : (f == 0) = false := by simpa using h0
    simp only [this, cond_false, h0, if_false]
    rw [wI_in (x := d + 1) (by omega)]
    by_cases h1 : f > 0
    · simp only [h1, decide_true, cond_true, if_true]
      rw [wI_in (by omega)]
    · simp only [h1, decide_false, cond_false, if_false]
theorem rwrite_eq (hf : -9223372036854775808 ≤ f ∧ f ≤ 9223372036854775807) (hd : 0 ≤ d ∧ d < 100000) (hL : L.length ≤ 1000) (i : Int) (s : List Int) :
    F41 k (i, s, f, d, S, L.map cv) = some (if 0 ≤ i ∧ i < S.length then (if f = 0 then (12, -1, d, S, L.map cv) else (0, passF f, d + 1, S, (L ++ [(⟨i, s⟩ : T143)]).map cv)) else (1, f, d, S, L.map cv)) := by
  unfold F41
  simp only [rhas_eq, Option.bind_some, rpass_eq hf hd]
  by_cases h : 0 ≤ i ∧ i < (S.length : Int)
  · simp only [h, and_self, decide_true, Bool.not_true, cond_false, if_true]
    by_cases h0 : f = 0
    · simp [h0]
    · simp only [h0, if_false, cond_false]
      have : decide ((L.map cv).length + ((List.replicate 1 (T145.mk 0 (List.replicate 64 0))).set 0 (T145.mk i s)).length ≤ roomMost) = true := by
        simp [roomMost]; omega
      simp only [this, cond_true, List.map_append]
      rfl
  · simp only [h, decide_false, Bool.not_false, cond_true, if_false]
theorem rread_eq (hL : L.length ≤ 1000) (hk : 1000 < k) (i : Int) :
    F43 k (i, f, d, S, L.map cv) = some (if 0 ≤ i ∧ i < S.length then (rd S L i, 0, f, d, S, L.map cv) else (zs, 1, f, d, S, L.map cv)) := by
  unfold F43
  simp only [rhas_eq, Option.bind_some]
  by_cases h : 0 ≤ i ∧ i < (S.length : Int)
  · simp only [h, and_self, decide_true, Bool.not_true, cond_false, if_true]
    rw [inRange_true (by omega), cond_true]
    unfold L43_5
    have := iter_out (R := R43_5 k) (fun x => ∃ j : Nat, j ≤ L.length ∧ x = (i, (j : Int), f, d, zs, upto (fun s n => if (L.getD n w0).at_ = i then (L.getD n w0).s else s) (S.getD i.toNat zs) j, S, L.map cv))
      (fun x => L.length - x.2.1.toNat) (fun _ => (f, d, zs, rd S L i, S, L.map cv)) (fun x hx => by
        obtain ⟨j, hj, rfl⟩ := hx
        rcases Nat.lt_or_ge j L.length with h | h
        · right
          refine ⟨_, fun again => ?_, ⟨j + 1, by omega, rfl⟩, by simp only [Int.toNat_natCast]; omega, rfl⟩
          unfold R43_5
          simp only [Int.toNat_natCast, List.length_map, cv_get]
          rw [inRange_true (by omega), wI_in (by omega)]
          simp only [show ((j : Int) < L.length) from by omega, decide_true, cond_true, upto, Int.natCast_add, Int.natCast_one]
          show (bif (L.getD j w0).at_ == i then _ else _) = _
          by_cases hi : (L.getD j w0).at_ = i
          · simp only [hi, beq_self_eq_true, cond_true, if_true]; rfl
          · have : ((L.getD j w0).at_ == i) = false := by simpa using hi
            simp only [this, hi, cond_false, if_false]
        · left
          intro again
          have : j = L.length := by omega
          subst this
          unfold R43_5
          simp [rd]) (n := k) (x := (i, 0, f, d, zs, S.getD i.toNat zs, S, L.map cv)) ⟨0, by omega, rfl⟩ (by simp; omega)
    simp only [zs] at this
    rw [this]
    simp
  · simp only [h, decide_false, Bool.not_false, cond_true, if_false]
    rfl
theorem rflush_eq (hf : -9223372036854775808 ≤ f ∧ f ≤ 9223372036854775807) (hd : 0 ≤ d ∧ d < 100000) (hL : L.length ≤ 1000) (hk : 1000 < k) (hat : Ats S L) :
    F45 k (f, d, S, L.map cv) = some (if f = 0 then (12, -1, d, S, L.map cv) else (0, passF f, d + 1, fl S L, [])) := by
  unfold F45
  simp only [rpass_eq hf hd, Option.bind_some]
  by_cases h0 : f = 0
  · simp [h0]
  · simp only [h0, if_false, cond_false]
    unfold L45_4
    have := iter_out (R := R45_4 k) (fun x => ∃ j : Nat, j ≤ L.length ∧ x = ((j : Int), passF f, d + 1, upto (fun S n => S.set (L.getD n w0).at_.toNat (L.getD n w0).s) S j, L.map cv))
      (fun x => L.length - x.1.toNat) (fun _ => (passF f, d + 1, fl S L, L.map cv)) (fun x hx => by
        obtain ⟨j, hj, rfl⟩ := hx
        rcases Nat.lt_or_ge j L.length with h | h
        · right
          refine ⟨_, fun again => ?_, ⟨j + 1, by omega, rfl⟩, by simp only [Int.toNat_natCast]; omega, rfl⟩
          have hw := hat (L.getD j w0) (by rw [List.getD_eq_getElem?_getD, List.getElem?_eq_getElem h]; exact List.getElem_mem h)
          unfold R45_4
          simp only [Int.toNat_natCast, List.length_map, cv_get]
          rw [inRange_true (i := (j : Int)) (n := L.length) (by omega), wI_in (by omega)]
          simp only [show ((j : Int) < L.length) from by omega, decide_true, cond_true, upto, Int.natCast_add, Int.natCast_one]
          show (bif inRange (L.getD j w0).at_ _ then _ else _) = _
          rw [inRange_true (by rw [upto_len _ (fun s n => by simp)]; exact hw)]
          rfl
        · left
          intro again
          have : j = L.length := by omega
          subst this
          unfold R45_4
          simp [fl]) (n := k) (x := (0, passF f, d + 1, S, L.map cv)) ⟨0, by omega, rfl⟩ (by simp; omega)
    rw [this]
    rfl
theorem rcrash_eq (hL : L.length ≤ 1000) (hk : 1000 < k) (hat : Ats S L) (keep : List Int) :
    F47 k (keep, f, d, S, L.map cv) = some (-1, d, cr keep S L, []) := by
  unfold F47 L47_1
  have hst : ∀ m, m ≤ L.length → keep.length ≤ m → cr keep S L = upto (fun S n => if n < keep.length ∧ (keep.getD n 0).tmod 2 = 1 then S.set (L.getD n w0).at_.toNat (L.getD n w0).s else S) S m := by
    intro m h1 h2
    unfold cr
    exact upto_stay _ _ m (fun n t hn => by rw [if_neg (by omega)]) _ h1
  have := iter_out (R := R47_1 k) (fun x => ∃ j : Nat, j ≤ L.length ∧ x = (keep, (j : Int), f, d, upto (fun S n => if n < keep.length ∧ (keep.getD n 0).tmod 2 = 1 then S.set (L.getD n w0).at_.toNat (L.getD n w0).s else S) S j, L.map cv))
    (fun x => L.length - x.2.1.toNat) (fun _ => (f, d, cr keep S L, L.map cv)) (fun x hx => by
      obtain ⟨j, hj, rfl⟩ := hx
      rcases Nat.lt_or_ge j L.length with h | h
      · by_cases hjk : j < keep.length
        · right
          refine ⟨_, fun again => ?_, ⟨j + 1, by omega, rfl⟩, by simp only [Int.toNat_natCast]; omega, rfl⟩
          have hw := hat (L.getD j w0) (by rw [List.getD_eq_getElem?_getD, List.getElem?_eq_getElem h]; exact List.getElem_mem h)
          unfold R47_1
          simp only [Int.toNat_natCast, List.length_map, cv_get]
          rw [inRange_true (i := (j : Int)) (n := L.length) (by omega), inRange_true (i := (j : Int)) (n := keep.length) (by omega), wI_in (by omega)]
          simp only [show ((j : Int) < L.length) from by omega, show ((j : Int) < keep.length) from by omega, decide_true, cond_true, upto, Int.natCast_add, Int.natCast_one, hjk, true_and]
          by_cases hm : (keep.getD j 0).tmod 2 = 1
          · simp only [hm, beq_self_eq_true, cond_true, if_true]
            show (bif inRange (L.getD j w0).at_ _ then _ else _) = _
            rw [inRange_true (by rw [upto_len _ (fun s n => by split <;> simp)]; exact hw)]
            rfl
          · have : ((keep.getD j 0).tmod 2 == 1) = false := by simpa using hm
            simp only [this, hm, cond_false, if_false]
        · left
          intro again
          rw [hst j hj (by omega)]
          unfold R47_1
          simp only [List.length_map, show ((j : Int) < L.length) from by omega, show ¬ ((j : Int) < keep.length) from by omega, decide_true, decide_false, cond_true, cond_false]
      · left
        intro again
        have : j = L.length := by omega
        subst this
        unfold R47_1
        simp [cr]) (n := k) (x := (keep, 0, f, d, S, L.map cv)) ⟨0, by omega, rfl⟩ (by simp; omega)
  simp only
  rw [this]
  rfl
end
theorem rnew_eq {k : Nat} (n : Int) : F38 k n = some (if 1 ≤ n ∧ n ≤ 1024 then .inr (0, -1, 0, List.replicate n.toNat zs, []) else .inl 1) := by
  unfold F38
  by_cases h1 : n < 1
  · have : ¬ (1 ≤ n ∧ n ≤ 1024) := by omega
    simp [h1, this]
  · by_cases h2 : n > 1024
    · have : ¬ (1 ≤ n ∧ n ≤ 1024) := by omega
      simp [h1, h2, this]
    · have h3 : 1 ≤ n ∧ n ≤ 1024 := by omega
      have h4 : 0 ≤ n := by omega
      have h5 : n ≤ (roomMost : Int) := by simp [roomMost]; omega
      simp [h1, h2, h3, h4, h5, zs]
/-- a device, and the document's: the same -/
structure DP (n : Nat) (f F d : Int) (S : List (List Int)) (L : List T143) (i : Nat) : Prop where
  hn : n ≤ 2000
  hs : S.length = n
  hd : 0 ≤ d ∧ d ≤ i
  hl : L.length ≤ i
  hb : i ≤ 300
  hat : Ats S L
  hF : -9223372036854775808 ≤ F ∧ F ≤ 9223372036854775807
  hf : f = if F < -1 then -1 else F
section
variable {k n : Nat} {f F d : Int} {S : List (List Int)} {L : List T143} {i : Nat}
theorem DP.f1 (h : DP n f F d S L i) : -1 ≤ f ∧ f ≤ 9223372036854775807 := by
  rw [h.hf]; have := h.hF; split <;> omega
theorem DP.zero (h : DP n f F d S L i) : f = 0 ↔ F = 0 := by
  rw [h.hf]; split <;> omega
theorem DP.pass (h : DP n f F d S L i) : passF f = if passF F < -1 then -1 else passF F := by
  rw [h.hf]; unfold passF
  by_cases h1 : F < -1
  · rw [if_pos h1, if_neg (by omega), if_neg (show ¬ F > 0 by omega), if_pos h1]
  · rw [if_neg h1]
    by_cases h2 : F > 0
    · rw [if_pos h2, if_neg (by omega)]
    · rw [if_neg h2, if_neg h1]
theorem DP.passR (h : DP n f F d S L i) : -9223372036854775808 ≤ passF F ∧ passF F ≤ 9223372036854775807 := by
  have := h.hF; unfold passF; split <;> omega
end

def PP (l : List T59) (n : Nat) (x : List T59 × Int × Int × Int × Int × Int × List (List Int) × List T143 × List (List Int) × List T145) : Prop :=
  ∃ (i : Nat) (f F d : Int) (S : List (List Int)) (L : List T143), i ≤ l.length ∧ x = (l, (i : Int), f, d, F, d, S, L, S, L.map cv) ∧ DP n f F d S L i

theorem plays_loop {k n : Nat} (hk : 1000 < k) {l : List T59} (hl : l.length ≤ 200) (hw : ∀ x ∈ l, WT59 x) (hkp : ∀ i, i < l.length → (l.getD i e0).Keep.length ≤ 300) (hn : n ≤ 2000) :
    ∃ f F d S L, L7_8b k k (l, 0, -1, 0, -1, 0, List.replicate n zs, [], List.replicate n zs, []) = some (.inr (f, d, F, d, S, L, S, L.map cv)) ∧ DP n f F d S L l.length := by
  unfold L7_8b
  have := iter_post (R := R7_8b k) (PP l n) (fun x => l.length - x.2.1.toNat) (fun _ o => ∃ f F d S L, o = .inr (f, d, F, d, S, L, S, L.map cv) ∧ DP n f F d S L l.length) (fun x hx => by
    obtain ⟨i, f, F, d, S, L, hi, rfl, hD⟩ := hx
    rcases Nat.lt_or_ge i l.length with h | h
    · right
      generalize he : l.getD i e0 = e
      have he' : l.getD i (T59.mk 0 0 0 []) = e := he
      have hwe : WT59 e := by
        rw [← he, List.getD_eq_getElem?_getD, List.getElem?_eq_getElem h]; exact hw _ (List.getElem_mem h)
      have hr : inRange (i : Int) l.length = true := inRange_true (by omega)
      have hlt : decide ((i : Int) < l.length) = true := by simp; omega
      have w1 : IntKind.i64.wrap ((i : Int) + 1) = ((i + 1 : Nat) : Int) := by rw [wI_in (by omega)]; omega
      have hs := hD.hs; have hl2 := hD.hl; have hb := hD.hb; have hd := hD.hd; have hf := hD.f1; have hz := hD.zero
      have hfill := fun v => fill_eq (k := k) (by omega) v
      have hW := fun v s => write_eq (k := k) (f := f) (d := d) (S := S) (L := L) hf (by omega) (by omega) (by omega) v s
      have hR := fun v => read_eq (k := k) (f := f) (d := d) (S := S) (L := L) (by omega) (by omega) hk v
      have hF := flush_eq (k := k) (f := f) (d := d) (S := S) (L := L) hf (by omega) (by omega) hk hD.hat
      have hC := fun keep => crash_eq (k := k) (f := f) (d := d) (S := S) (L := L) (by omega) hk hD.hat keep
      have gW := fun v s => rwrite_eq (k := k) (f := F) (d := d) (S := S) (L := L) hD.hF (by omega) (by omega) v s
      have gR := fun v => rread_eq (k := k) (f := F) (d := d) (S := S) (L := L) (by omega) hk v
      have gF := rflush_eq (k := k) (f := F) (d := d) (S := S) (L := L) hD.hF (by omega) (by omega) hk hD.hat
      have gC := fun keep => rcrash_eq (k := k) (f := F) (d := d) (S := S) (L := L) (by omega) hk hD.hat keep
      have fin : ∀ (f' F' d' : Int) (S' : List (List Int)) (L' : List T143), DP n f' F' d' S' L' (i + 1) →
          PP l n (l, ((i + 1 : Nat) : Int), f', d', F', d', S', L', S', L'.map cv) ∧ l.length - ((i + 1 : Nat) : Int).toNat < l.length - i ∧
          F49 k (f', d', S', L') = some ((L'.length : Int), f', d', S', L') ∧ F50 k (f', d', S', L') = some ((S'.length : Int), f', d', S', L') := by
        intro f' F' d' S' L' h'
        have := h'.hs; have := h'.hl; have := h'.hn
        exact ⟨⟨i + 1, f', F', d', S', L', h, rfl, h'⟩, by simp only [Int.toNat_natCast]; omega, loose_eq (by omega), len_eq (by omega) (by omega)⟩
      by_cases k0 : e.Kind = 0
      · have a0 : (e.Kind == 0) = true := by simpa using k0
        by_cases hi : 0 ≤ e.I ∧ e.I < (S.length : Int)
        · by_cases h0 : f = 0
          · obtain ⟨p1, p2, p3, p4⟩ := fin (-1) (-1) d S L { hn := hD.hn, hs := hs, hd := by omega, hl := by omega, hb := by omega, hat := hD.hat, hF := by omega, hf := rfl }
            refine ⟨_, fun again => ?_, p1, p2, fun o ho => ho⟩
            unfold R7_8b
            simp only [Int.toNat_natCast, hr, hlt, he', cond_true, w1]
            rw [a0, cond_true, hfill, Option.bind_some, hW, if_pos hi, if_pos h0, Option.bind_some, Option.bind_some, gW, if_pos hi, if_pos (hz.1 h0), Option.bind_some]
            simp only [bne_self_eq_false, cond_false, p3, p4, done_eq, Option.bind_some, List.length_map]
          · obtain ⟨p1, p2, p3, p4⟩ := fin (passF f) (passF F) (d + 1) S (L ++ [⟨e.I, fillv e.3⟩]) { hn := hD.hn, hs := hs, hd := by omega, hl := by simp; omega, hb := by omega, hat := hD.hat.snoc hi _, hF := hD.passR, hf := hD.pass }
            refine ⟨_, fun again => ?_, p1, p2, fun o ho => ho⟩
            unfold R7_8b
            simp only [Int.toNat_natCast, hr, hlt, he', cond_true, w1]
            rw [a0, cond_true, hfill, Option.bind_some, hW, if_pos hi, if_neg h0, Option.bind_some, Option.bind_some, gW, if_pos hi, if_neg (fun h => h0 (hz.2 h)), Option.bind_some]
            simp only [bne_self_eq_false, cond_false, p3, p4, done_eq, Option.bind_some, List.length_map]
        · obtain ⟨p1, p2, p3, p4⟩ := fin f F d S L { hn := hD.hn, hs := hs, hd := by omega, hl := by omega, hb := by omega, hat := hD.hat, hF := hD.hF, hf := hD.hf }
          refine ⟨_, fun again => ?_, p1, p2, fun o ho => ho⟩
          unfold R7_8b
          simp only [Int.toNat_natCast, hr, hlt, he', cond_true, w1]
          rw [a0, cond_true, hfill, Option.bind_some, hW, if_neg hi, Option.bind_some, Option.bind_some, gW, if_neg hi, Option.bind_some]
          simp only [bne_self_eq_false, cond_false, p3, p4, done_eq, Option.bind_some, List.length_map]
      have b0 : (e.Kind == 0) = false := by simpa using k0
      have hsame : DP n f F d S L (i + 1) := { hn := hD.hn, hs := hs, hd := by omega, hl := by omega, hb := by omega, hat := hD.hat, hF := hD.hF, hf := hD.hf }
      by_cases k1 : e.Kind = 1
      · have a1 : (e.Kind == 1) = true := by simpa using k1
        have hq : ∃ s z, F42 k (e.I, f, d, S, L) = some (s, z, f, d, S, L) ∧ F43 k (e.I, F, d, S, L.map cv) = some (s, z, F, d, S, L.map cv) := by
          rw [hR, gR]
          by_cases hi : 0 ≤ e.I ∧ e.I < (S.length : Int)
          · exact ⟨_, _, by rw [if_pos hi], by rw [if_pos hi]⟩
          · exact ⟨_, _, by rw [if_neg hi], by rw [if_neg hi]⟩
        obtain ⟨s, z, hq1, hq2⟩ := hq
        obtain ⟨p1, p2, p3, p4⟩ := fin f F d S L hsame
        refine ⟨_, fun again => ?_, p1, p2, fun o ho => ho⟩
        unfold R7_8b
        simp only [Int.toNat_natCast, hr, hlt, he', cond_true, w1]
        rw [b0, cond_false, a1, cond_true, hq1, Option.bind_some, hq2, Option.bind_some]
        simp only [decide_true, Bool.not_true, bne_self_eq_false, cond_false, p3, p4, done_eq, Option.bind_some, List.length_map]
      have b1 : (e.Kind == 1) = false := by simpa using k1
      by_cases k2 : e.Kind = 2
      · have a2 : (e.Kind == 2) = true := by simpa using k2
        by_cases h0 : f = 0
        · obtain ⟨p1, p2, p3, p4⟩ := fin (-1) (-1) d S L { hn := hD.hn, hs := hs, hd := by omega, hl := by omega, hb := by omega, hat := hD.hat, hF := by omega, hf := rfl }
          refine ⟨_, fun again => ?_, p1, p2, fun o ho => ho⟩
          unfold R7_8b
          simp only [Int.toNat_natCast, hr, hlt, he', cond_true, w1]
          rw [b0, cond_false, b1, cond_false, a2, cond_true, hF, if_pos h0, Option.bind_some, gF, if_pos (hz.1 h0), Option.bind_some]
          simp only [bne_self_eq_false, cond_false, p3, p4, done_eq, Option.bind_some, List.length_map]
        · obtain ⟨p1, p2, p3, p4⟩ := fin (passF f) (passF F) (d + 1) (fl S L) [] { hn := hD.hn, hs := by rw [fl_len]; exact hs, hd := by omega, hl := by simp, hb := by omega, hat := Ats.nil _, hF := hD.passR, hf := hD.pass }
          refine ⟨_, fun again => ?_, p1, p2, fun o ho => ho⟩
          unfold R7_8b
          simp only [Int.toNat_natCast, hr, hlt, he', cond_true, w1]
          rw [b0, cond_false, b1, cond_false, a2, cond_true, hF, if_neg h0, Option.bind_some, gF, if_neg (fun h => h0 (hz.2 h)), Option.bind_some]
          simp only [bne_self_eq_false, cond_false, p3, p4, done_eq, Option.bind_some, List.map_nil, List.length_nil]
      have b2 : (e.Kind == 2) = false := by simpa using k2
      by_cases k3 : e.Kind = 3
      · have a3 : (e.Kind == 3) = true := by simpa using k3
        have hk4 : e.4.length ≤ 300 := by rw [← he]; exact hkp i h
        have hrm : decide ((List.replicate 0 (0 : Int)).length + e.4.length ≤ roomMost) = true := by simp [roomMost]; omega
        obtain ⟨p1, p2, p3, p4⟩ := fin (-1) (-1) d (cr e.4 S L) [] { hn := hD.hn, hs := by rw [cr_len]; exact hs, hd := by omega, hl := by simp, hb := by omega, hat := Ats.nil _, hF := by omega, hf := rfl }
        refine ⟨_, fun again => ?_, p1, p2, fun o ho => ho⟩
        unfold R7_8b
        simp only [Int.toNat_natCast, hr, hlt, he', cond_true, w1]
        rw [b0, cond_false, b1, cond_false, b2, cond_false, a3, cond_true, hrm, cond_true, show List.replicate 0 (0 : Int) ++ e.4 = e.4 from rfl, hC, Option.bind_some, gC, Option.bind_some]
        simp only [bne_self_eq_false, cond_false, p3, p4, done_eq, Option.bind_some, List.map_nil, List.length_nil]
      have b3 : (e.Kind == 3) = false := by simpa using k3
      by_cases k4 : e.Kind = 4
      · have a4 : (e.Kind == 4) = true := by simpa using k4
        obtain ⟨p1, p2, p3, p4⟩ := fin (if e.I < -1 then -1 else e.I) e.I d S L { hn := hD.hn, hs := hs, hd := by omega, hl := by omega, hb := by omega, hat := hD.hat, hF := hwe.2.1, hf := rfl }
        refine ⟨_, fun again => ?_, p1, p2, fun o ho => ho⟩
        unfold R7_8b
        simp only [Int.toNat_natCast, hr, hlt, he', cond_true, w1]
        rw [b0, cond_false, b1, cond_false, b2, cond_false, b3, cond_false, a4, cond_true, fail_eq, Option.bind_some]
        simp only [bne_self_eq_false, cond_false, p3, p4, done_eq, Option.bind_some, List.length_map]
      have b4 : (e.Kind == 4) = false := by simpa using k4
      obtain ⟨p1, p2, p3, p4⟩ := fin f F d S L hsame
      refine ⟨_, fun again => ?_, p1, p2, fun o ho => ho⟩
      unfold R7_8b
      simp only [Int.toNat_natCast, hr, hlt, he', cond_true, w1]
      rw [b0, cond_false, b1, cond_false, b2, cond_false, b3, cond_false, b4, cond_false]
      simp only [bne_self_eq_false, cond_false, p3, p4, done_eq, Option.bind_some, List.length_map]
    · left
      have : i = l.length := by omega
      subst this
      refine ⟨_, fun again => ?_, ⟨f, F, d, S, L, rfl, hD⟩⟩
      unfold R7_8b
      simp) k (l, 0, -1, 0, -1, 0, List.replicate n zs, [], List.replicate n zs, []) ⟨0, -1, -1, 0, List.replicate n zs, [], by omega, rfl, { hn := hn, hs := by simp, hd := by omega, hl := by simp, hb := by omega, hat := Ats.nil _, hF := by omega, hf := rfl }⟩ (by simp; omega)
  obtain ⟨o, h1, f, F, d, S, L, rfl, h2⟩ := this
  exact ⟨f, F, d, S, L, h1, h2⟩

theorem plays_end {k n : Nat} (hk : 1000 < k) (hkn : n < k) {f F d : Int} {S : List (List Int)} {L : List T143} {i : Nat} (h : DP n f F d S L i) : L7_32b k k (0, f, d, F, d, S, L, S, L.map cv) = some (.inr ()) := by
  unfold L7_32b
  have hs := h.hs; have hl2 := h.hl; have hb := h.hb; have hn := h.hn
  refine iter_out (R := R7_32b k) (fun x => ∃ j : Nat, j ≤ S.length ∧ x = ((j : Int), f, d, F, d, S, L, S, L.map cv)) (fun x => S.length - x.1.toNat) (fun _ => .inr ()) (fun x hx => ?_) ⟨0, by omega, rfl⟩ (by simp; omega)
  obtain ⟨j, hj, rfl⟩ := hx
  rcases Nat.lt_or_ge j S.length with h7 | h7
  · right
    refine ⟨(((j + 1 : Nat) : Int), f, d, F, d, S, L, S, L.map cv), fun again => ?_, ⟨j + 1, by omega, rfl⟩, by simp only [Int.toNat_natCast]; omega, rfl⟩
    have hr := read_eq (k := k) (f := f) (d := d) (S := S) (L := L) (by omega) (by omega) hk (j : Int)
    have gr := rread_eq (k := k) (f := F) (d := d) (S := S) (L := L) (by omega) hk (j : Int)
    rw [if_pos (by omega)] at hr gr
    unfold R7_32b
    simp only [show ((j : Int) < S.length) from by omega, decide_true, cond_true, hr, gr, Option.bind_some, bne_self_eq_false, cond_false, Bool.not_true]
    rw [wI_in (by omega)]
    rfl
  · left
    intro again
    have : j = S.length := by omega
    subst this
    unfold R7_32b
    simp

theorem devPlays_F (n : Int) (l : List T59) (hn : WI_i64 n) (hw : WL_T59 l) : ∃ k, F7 k (n, l, ()) = some true := by
  refine ⟨l.length + 3000, ?_⟩
  generalize hk : l.length + 3000 = k
  have hwk : F36 k () = some true := wakes_eq (by omega)
  obtain ⟨b, h1, h2⟩ := fair_eq (k := k) hw.1 (by omega)
  have hnil : (L7_8 k k (l, 0)).bind (fun _ => (L7_32 k k 0).bind fun _ => (F36 k ()).bind fun r => some r) = some true := by
    have e1 : L7_8 k k (l, 0) = some () := by
      unfold L7_8
      obtain ⟨m, rfl⟩ : ∃ m, k = m + 1 := ⟨k - 1, by omega⟩
      simp only [iterR, R7_8]
      by_cases hz : (0 : Int) < l.length
      · simp only [hz, decide_true, cond_true]
      · simp only [hz, decide_false, cond_false]
    have e2 : L7_32 k k 0 = some () := by
      unfold L7_32
      obtain ⟨m, rfl⟩ : ∃ m, k = m + 1 := ⟨k - 1, by omega⟩
      rfl
    rw [e1, Option.bind_some, e2, Option.bind_some, hwk]
    rfl
  have main : b = true → ((F37 k n).bind fun r => sumK r (fun a => (F38 k n).bind fun r => sumK r (fun a_1 => bif a != a_1 then some false else (L7_8 k k (l, (0 : Int))).bind fun r => (L7_32 k k (0 : Int)).bind fun r => (F36 k ()).bind fun r => some r) fun b => bif a != b.fst then some false else some false) fun b => (F38 k n).bind fun r => sumK r (fun a => bif b.fst != a then some false else some false) fun b_1 => bif b.fst != b_1.fst then some false else (L7_8b k k (l, (0 : Int), b.snd.fst, b.snd.snd.fst, b_1.snd.fst, b_1.snd.snd.fst, b.snd.snd.snd.fst, b.snd.snd.snd.snd, b_1.snd.snd.snd.fst, b_1.snd.snd.snd.snd)).bind fun r => sumK r (fun a => some a.fst) fun b => (L7_32b k k ((0 : Int), b.fst, b.snd.fst, b.snd.snd.fst, b.snd.snd.snd.fst, b.snd.snd.snd.snd.fst, b.snd.snd.snd.snd.snd.fst, b.snd.snd.snd.snd.snd.snd.fst, b.snd.snd.snd.snd.snd.snd.snd)).bind fun r => sumK r (fun a => some a) fun b => (F36 k ()).bind fun r => some r) = some true := by
    intro hb
    obtain ⟨h3, h4⟩ := h2 hb
    rw [new_eq, rnew_eq]
    by_cases hr : 1 ≤ n ∧ n ≤ 1024
    · rw [if_pos hr, if_pos hr]
      obtain ⟨f, F, d, S, L, e1, e2⟩ := plays_loop (k := k) (n := n.toNat) (by omega) h3 hw.2 h4 (by omega)
      simp only [Option.bind_some, sumK, bne_self_eq_false, cond_false]
      rw [e1]
      simp only [Option.bind_some]
      rw [plays_end (by omega) (by omega) e2]
      simp only [Option.bind_some, hwk]
    · rw [if_neg hr, if_neg hr]
      simp only [Option.bind_some, sumK, bne_self_eq_false, cond_false]
      exact hnil
  unfold F7
  simp only [h1, Option.bind_some]
  cases b with
  | false => simp only [Bool.not_false, cond_true, hwk, Option.bind_some]
  | true =>
    simp only [Bool.not_true, cond_false]
    by_cases q1 : n > 60
    · simp only [q1, decide_true, cond_true]
      by_cases q2 : n ≤ 1024
      · simp only [q2, decide_true, cond_true, hwk, Option.bind_some]
      · simp only [q2, decide_false, cond_false]
        exact main rfl
    · simp only [q1, decide_false, cond_false]
      exact main rfl
theorem devPlays : Rows.DevPlaysSaid := devPlays_row fun a0 a1 w1 w2 => devPlays_F a0 a1 w1 w2
end Go.Proofs.Ytbhnkjnjeifdhaa.W
