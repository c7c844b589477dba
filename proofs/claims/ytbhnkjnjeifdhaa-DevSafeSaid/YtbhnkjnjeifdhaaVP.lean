/-
  DevSafe: for every input that the statement lets in the law returns true. No conditions.
-/
import Derived.Test.YtbhnkjnjeifdhaaVR
set_option linter.unusedVariables false
namespace Go.Proofs.Ytbhnkjnjeifdhaa.W
open Go V
/-! ### the device, plainly -/
def upto {σ : Type} (f : σ → Nat → σ) (s : σ) : Nat → σ
  | 0 => s
  | n + 1 => f (upto f s n) n
theorem upto_len {α : Type} (f : List α → Nat → List α) (h : ∀ s n, (f s n).length = s.length) (s : List α) : ∀ n, (upto f s n).length = s.length
  | 0 => rfl
  | n + 1 => (h _ _).trans (upto_len f h s n)
theorem upto_stay {σ : Type} (f : σ → Nat → σ) (s : σ) (m : Nat) (h : ∀ n t, m ≤ n → f t n = t) : ∀ n, m ≤ n → upto f s n = upto f s m := by
  intro n
  induction n with
  | zero => intro hn; have : m = 0 := by omega
            subst this; rfl
  | succ n ih =>
    intro hn
    rcases Nat.lt_or_ge n m with h1 | h1
    · have : m = n + 1 := by omega
      subst this; rfl
    · exact (h n _ h1).trans (ih h1)
theorem upto_congr {σ : Type} (f g : σ → Nat → σ) (s : σ) : ∀ n, (∀ j t, j < n → f t j = g t j) → upto f s n = upto g s n := by
  intro n
  induction n with
  | zero => intro _; rfl
  | succ n ih => intro h; simp only [upto]; rw [ih fun j t hj => h j t (by omega), h n _ (by omega)]

def zs : List Int := List.replicate 64 0
def w0 : T143 := ⟨0, zs⟩
def passF (f : Int) : Int := if f > 0 then f - 1 else f
def rd (S : List (List Int)) (L : List T143) (i : Int) : List Int := upto (fun s n => if (L.getD n w0).at_ = i then (L.getD n w0).s else s) (S.getD i.toNat zs) L.length
def fl (S : List (List Int)) (L : List T143) : List (List Int) := upto (fun S n => S.set (L.getD n w0).at_.toNat (L.getD n w0).s) S L.length
def cr (keep : List Int) (S : List (List Int)) (L : List T143) : List (List Int) :=
  upto (fun S n => if n < keep.length ∧ (keep.getD n 0).tmod 2 = 1 then S.set (L.getD n w0).at_.toNat (L.getD n w0).s else S) S L.length
theorem fl_len (S : List (List Int)) (L : List T143) : (fl S L).length = S.length := upto_len _ (fun s n => by simp) _ _
theorem cr_len (keep : List Int) (S : List (List Int)) (L : List T143) : (cr keep S L).length = S.length := upto_len _ (fun s n => by split <;> simp) _ _

theorem set_fill (v : Int) {j : Nat} (hj : j < 64) : (List.replicate j v ++ List.replicate (64 - j) 0).set j v = List.replicate (j + 1) v ++ List.replicate (64 - (j + 1)) (0 : Int) := by
  rw [List.set_append_right _ _ (by simp)]
  rw [show 64 - j = (64 - (j + 1)) + 1 by omega, List.replicate_succ]
  simp only [List.length_replicate, Nat.sub_self, List.set_cons_zero]
  rw [List.replicate_succ', List.append_assoc]
  rfl

def fillv (v : Int) : List Int := List.replicate 64 v
theorem fill_eq {k : Nat} (hk : 64 < k) (v : Int) : F40 k (v, ()) = some (fillv v) := by
  unfold F40 L40_3 fillv
  have := iter_out (R := R40_3 k) (fun x => ∃ j : Nat, j ≤ 64 ∧ x = (v, (j : Int), zs, List.replicate j v ++ List.replicate (64 - j) 0))
    (fun x => 64 - x.2.1.toNat) (fun _ => (zs, List.replicate 64 v)) (fun x hx => by
      obtain ⟨j, hj, rfl⟩ := hx
      rcases Nat.lt_or_ge j 64 with h | h
      · right
        refine ⟨(v, ((j + 1 : Nat) : Int), zs, List.replicate (j + 1) v ++ List.replicate (64 - (j + 1)) 0), fun again => ?_, ⟨j + 1, by omega, rfl⟩, by simp only [Int.toNat_natCast]; omega, rfl⟩
        unfold R40_3
        simp only [Int.toNat_natCast, set_fill v h]
        rw [inRange_true (by omega), wI_in (by omega)]
        simp only [show ((j : Int) < 64) from by omega, decide_true, cond_true, Int.natCast_add, Int.natCast_one]
      · left
        intro again
        have : j = 64 := by omega
        subst this
        unfold R40_3
        simp) (n := k) (x := (v, 0, zs, zs)) ⟨0, by omega, by simp [zs]⟩ (by simpa using hk)
  simp only [zs] at this
  simp only
  rw [this]
  rfl

theorem mod_eq {k : Nat} (a n : Int) (hn : 1 ≤ n ∧ n ≤ 100) (ha : -9223372036854775808 ≤ a ∧ a ≤ 9223372036854775807) : ∃ m, F52 k (a, n, ()) = some m ∧ 0 ≤ m ∧ m < n := by
  have e1 := Int.tmod_lt_of_pos a (show 0 < n by omega)
  have e2 : -n < a.tmod n := by
    exact Int.lt_tmod_of_pos a (show 0 < n by omega)
  refine ⟨(a.tmod n + n).tmod n, ?_, ?_, Int.tmod_lt_of_pos _ (by omega)⟩
  · unfold F52
    simp only [show ¬ (n < 1) by omega, decide_false, cond_false, bne]
    rw [wI_in (by omega)]
    have : (n == 0) = false := by simp; omega
    rw [this]; rfl
  · exact Int.tmod_nonneg _ (by omega)

section
variable {k : Nat} {f d : Int} {S : List (List Int)} {L : List T143}

theorem len_eq (hS : S.length ≤ 2000) (hL : L.length ≤ 2000) : F50 k (f, d, S, L) = some ((S.length : Int), f, d, S, L) := by
  unfold F50 F87
  simp only [beq_self_eq_true, cond_true, Option.bind_some]
  rw [wI_in (x := (S.length : Int) - L.length) (by omega), wI_in (by omega)]
  congr 2
  omega
theorem loose_eq (hL : L.length ≤ 2000) : F49 k (f, d, S, L) = some ((L.length : Int), f, d, S, L) := by
  unfold F49 F87
  simp only [show ((1 : Int) == 0) = false from rfl, cond_false, beq_self_eq_true, cond_true, Option.bind_some]
  rw [wI_in (by omega)]
  congr 2
  omega
theorem done_eq : F51 k (f, d, S, L) = some (d, f, d, S, L) := by
  unfold F51 F87
  rfl
theorem has_eq (hS : S.length ≤ 2000) (hL : L.length ≤ 2000) (i : Int) : F83 k (i, f, d, S, L) = some (decide (0 ≤ i ∧ i < S.length), f, d, S, L) := by
  unfold F83
  simp only [len_eq hS hL, Option.bind_some]
  by_cases h : 0 ≤ i
  · simp [h]
  · simp [h]
theorem pass_eq (hf : -1 ≤ f ∧ f ≤ 9223372036854775807) (hd : 0 ≤ d ∧ d < 100000) : F84 k (f, d, S, L) = some (if f = 0 then (12, -1, d, S, L) else (0, passF f, d + 1, S, L)) := by
  unfold F84 passF
  by_cases h0 : f = 0
  · subst h0; rfl
  · have : (f == 0) = false := by simpa using h0
    simp only [this, cond_false, h0, if_false]
    rw [wI_in (x := d + 1) (by omega)]
    by_cases h1 : f > 0
    · simp only [h1, decide_true, cond_true, if_true]
      rw [wI_in (by omega)]
    · simp only [h1, decide_false, cond_false, if_false]
theorem write_eq (hf : -1 ≤ f ∧ f ≤ 9223372036854775807) (hd : 0 ≤ d ∧ d < 100000) (hS : S.length ≤ 2000) (hL : L.length ≤ 1000) (i : Int) (s : List Int) :
    F39 k (i, s, f, d, S, L) = some (if 0 ≤ i ∧ i < S.length then (if f = 0 then (12, -1, d, S, L) else (0, passF f, d + 1, S, L ++ [⟨i, s⟩])) else (1, f, d, S, L)) := by
  unfold F39
  simp only [has_eq hS (show L.length ≤ 2000 by omega), Option.bind_some, pass_eq hf hd]
  by_cases h : 0 ≤ i ∧ i < (S.length : Int)
  · simp only [h, and_self, decide_true, Bool.not_true, cond_false, if_true]
    by_cases h0 : f = 0
    · simp [h0]
    · simp only [h0, if_false, bne_self_eq_false, cond_false]
      have : decide (L.length + ((List.replicate 1 (T143.mk 0 (List.replicate 64 0))).set 0 (T143.mk i s)).length ≤ roomMost) = true := by
        simp [roomMost]; omega
      simp only [this, cond_true]
      rfl
  · simp only [h, decide_false, Bool.not_false, cond_true, if_false]

theorem read_eq (hS : S.length ≤ 2000) (hL : L.length ≤ 1000) (hk : 1000 < k) (i : Int) :
    F42 k (i, f, d, S, L) = some (if 0 ≤ i ∧ i < S.length then (rd S L i, 0, f, d, S, L) else (zs, 1, f, d, S, L)) := by
  unfold F42
  simp only [has_eq hS (show L.length ≤ 2000 by omega), Option.bind_some]
  by_cases h : 0 ≤ i ∧ i < (S.length : Int)
  · simp only [h, and_self, decide_true, Bool.not_true, cond_false, if_true]
    rw [inRange_true (by omega), cond_true]
    unfold L42_5
    have := iter_out (R := R42_5 k) (fun x => ∃ j : Nat, j ≤ L.length ∧ x = (i, (L.length : Int), (j : Int), f, d, zs, upto (fun s n => if (L.getD n w0).at_ = i then (L.getD n w0).s else s) (S.getD i.toNat zs) j, L, S))
      (fun x => L.length - x.2.2.1.toNat) (fun _ => (f, d, zs, rd S L i, S, L)) (fun x hx => by
        obtain ⟨j, hj, rfl⟩ := hx
        rcases Nat.lt_or_ge j L.length with h | h
        · right
          refine ⟨_, fun again => ?_, ⟨j + 1, by omega, rfl⟩, by simp only [Int.toNat_natCast]; omega, rfl⟩
          unfold R42_5
          simp only [Int.toNat_natCast]
          rw [inRange_true (by omega), wI_in (by omega)]
          simp only [show ((j : Int) < L.length) from by omega, decide_true, cond_true, upto, Int.natCast_add, Int.natCast_one]
          show (bif (L.getD j w0).at_ == i then _ else _) = _
          by_cases hi : (L.getD j w0).at_ = i
          · simp only [hi, beq_self_eq_true, cond_true, if_true]; rfl
          · have : ((L.getD j w0).at_ == i) = false := by simpa using hi
            simp only [this, hi, cond_false, if_false]
        · left
          intro again
          have : j = L.length := by omega
          subst this
          unfold R42_5
          simp [rd]) (n := k) (x := (i, (L.length : Int), 0, f, d, zs, S.getD i.toNat zs, L, S)) ⟨0, by omega, rfl⟩ (by simp; omega)
    simp only [zs] at this
    rw [this]
    simp
  · simp only [h, decide_false, Bool.not_false, cond_true, if_false]
    rfl

theorem flush_eq (hf : -1 ≤ f ∧ f ≤ 9223372036854775807) (hd : 0 ≤ d ∧ d < 100000) (hL : L.length ≤ 1000) (hk : 1000 < k) (hat : ∀ w ∈ L, 0 ≤ w.at_ ∧ w.at_ < S.length) :
    F44 k (f, d, S, L) = some (if f = 0 then (12, -1, d, S, L) else (0, passF f, d + 1, fl S L, [])) := by
  unfold F44
  simp only [pass_eq hf hd, Option.bind_some]
  by_cases h0 : f = 0
  · simp [h0]
  · simp only [h0, if_false, bne_self_eq_false, cond_false]
    unfold L44_7
    have := iter_out (R := R44_7 k) (fun x => ∃ j : Nat, j ≤ L.length ∧ x = ((L.length : Int), (j : Int), passF f, d + 1, L, upto (fun S n => S.set (L.getD n w0).at_.toNat (L.getD n w0).s) S j))
      (fun x => L.length - x.2.1.toNat) (fun _ => (passF f, d + 1, fl S L, L)) (fun x hx => by
        obtain ⟨j, hj, rfl⟩ := hx
        rcases Nat.lt_or_ge j L.length with h | h
        · right
          refine ⟨_, fun again => ?_, ⟨j + 1, by omega, rfl⟩, by simp only [Int.toNat_natCast]; omega, rfl⟩
          have hw := hat (L.getD j w0) (by rw [List.getD_eq_getElem?_getD, List.getElem?_eq_getElem h]; exact List.getElem_mem h)
          unfold R44_7
          simp only [Int.toNat_natCast]
          rw [inRange_true (by omega), wI_in (by omega)]
          simp only [show ((j : Int) < L.length) from by omega, decide_true, cond_true, upto, Int.natCast_add, Int.natCast_one]
          show (bif inRange (L.getD j w0).at_ _ then _ else _) = _
          rw [inRange_true (by rw [upto_len _ (fun s n => by simp)]; exact hw)]
          rfl
        · left
          intro again
          have : j = L.length := by omega
          subst this
          unfold R44_7
          simp [fl]) (n := k) (x := ((L.length : Int), 0, passF f, d + 1, L, S)) ⟨0, by omega, rfl⟩ (by simp; omega)
    rw [this]
    rfl

theorem crash_eq (hL : L.length ≤ 1000) (hk : 1000 < k) (hat : ∀ w ∈ L, 0 ≤ w.at_ ∧ w.at_ < S.length) (keep : List Int) :
    F46 k (keep, f, d, S, L) = some (-1, d, cr keep S L, []) := by
  unfold F46 L46_2
  have := iter_out (R := R46_2 k) (fun x => ∃ j : Nat, j ≤ L.length ∧ x = (keep, (L.length : Int), (j : Int), f, d, L, upto (fun S n => if n < keep.length ∧ (keep.getD n 0).tmod 2 = 1 then S.set (L.getD n w0).at_.toNat (L.getD n w0).s else S) S j))
    (fun x => L.length - x.2.2.1.toNat) (fun _ => (f, d, cr keep S L, L)) (fun x hx => by
      obtain ⟨j, hj, rfl⟩ := hx
      rcases Nat.lt_or_ge j L.length with h | h
      · right
        refine ⟨_, fun again => ?_, ⟨j + 1, by omega, rfl⟩, by simp only [Int.toNat_natCast]; omega, rfl⟩
        have hw := hat (L.getD j w0) (by rw [List.getD_eq_getElem?_getD, List.getElem?_eq_getElem h]; exact List.getElem_mem h)
        unfold R46_2
        simp only [Int.toNat_natCast]
        rw [inRange_true (i := (j : Int)) (n := L.length) (by omega), wI_in (by omega)]
        simp only [show ((j : Int) < L.length) from by omega, decide_true, cond_true, upto, Int.natCast_add, Int.natCast_one]
        by_cases hjk : j < keep.length
        · rw [inRange_true (by omega)]
          simp only [show ((j : Int) < keep.length) from by omega, decide_true, cond_true, hjk, true_and]
          by_cases hm : (keep.getD j 0).tmod 2 = 1
          · simp only [hm, beq_self_eq_true, cond_true, if_true]
            show (bif inRange (L.getD j w0).at_ _ then _ else _) = _
            rw [inRange_true (by rw [upto_len _ (fun s n => by split <;> simp)]; exact hw)]
            rfl
          · have : ((keep.getD j 0).tmod 2 == 1) = false := by simpa using hm
            simp only [this, hm, cond_false, if_false]
        · simp only [show ¬ ((j : Int) < keep.length) from by omega, decide_false, cond_false, hjk, false_and, if_false]
      · left
        intro again
        have : j = L.length := by omega
        subst this
        unfold R46_2
        simp [cr]) (n := k) (x := (keep, (L.length : Int), 0, f, d, L, S)) ⟨0, by omega, rfl⟩ (by simp; omega)
  simp only
  rw [this]
  rfl
theorem fail_eq (v : Int) : F48 k (v, f, d, S, L) = some (if v < -1 then -1 else v, d, S, L) := rfl
end
theorem new_eq {k : Nat} (n : Int) : F37 k n = some (if 1 ≤ n ∧ n ≤ 1024 then .inr (0, -1, 0, List.replicate n.toNat zs, []) else .inl 1) := by
  unfold F37
  by_cases h1 : n < 1
  · have : ¬ (1 ≤ n ∧ n ≤ 1024) := by omega
    simp [h1, this]
  · by_cases h2 : n > 1024
    · have : ¬ (1 ≤ n ∧ n ≤ 1024) := by omega
      simp [h1, h2, this]
    · have h3 : 1 ≤ n ∧ n ≤ 1024 := by omega
      have h4 : 0 ≤ n := by omega
      have h5 : n ≤ (roomMost : Int) := by simp [roomMost]; omega
      simp [h1, h2, h3, h4, h5, zs]

theorem wakes_eq {k : Nat} (hk : 1000 < k) : F36 k () = some true := by
  unfold F36
  have hk2 : 64 < k := by omega
  simp [new_eq, fill_eq hk2, sumK, write_eq, loose_eq, fail_eq, flush_eq, crash_eq, read_eq, len_eq, done_eq, hk, passF, rd, cr, upto, w0]
/-! ### what is read -/
def Ats (S : List (List Int)) (L : List T143) : Prop := ∀ w ∈ L, 0 ≤ w.at_ ∧ w.at_ < S.length
theorem Ats.snoc {S : List (List Int)} {L : List T143} (h : Ats S L) {i : Int} (hi : 0 ≤ i ∧ i < S.length) (s : List Int) : Ats S (L ++ [⟨i, s⟩]) := by
  intro w hw
  rcases List.mem_append.1 hw with hw | hw
  · exact h w hw
  · simp only [List.mem_singleton] at hw
    subst hw; exact hi
theorem Ats.nil (S : List (List Int)) : Ats S [] := fun w hw => by cases hw
theorem getD_snoc {α : Type} (L : List α) (x d : α) : (L ++ [x]).getD L.length d = x := by simp [List.getD_eq_getElem?_getD]
theorem getD_snoc_lt {α : Type} {L : List α} (x d : α) {j : Nat} (h : j < L.length) : (L ++ [x]).getD j d = L.getD j d := by
  simp [List.getD_eq_getElem?_getD, List.getElem?_append_left h]

theorem rd_nil (S : List (List Int)) (i : Int) : rd S [] i = S.getD i.toNat zs := rfl
theorem rd_snoc (S : List (List Int)) (L : List T143) (i j : Int) (s : List Int) : rd S (L ++ [⟨i, s⟩]) j = if i = j then s else rd S L j := by
  unfold rd
  rw [show (L ++ [(⟨i, s⟩ : T143)]).length = L.length + 1 by simp]
  simp only [upto, getD_snoc]
  rw [upto_congr _ (fun s n => if (L.getD n w0).at_ = j then (L.getD n w0).s else s) _ L.length fun n t hn => by simp only [getD_snoc_lt _ _ hn]]

/-- what is behind a crash -/
def crd (keep : List Int) (S : List (List Int)) (L : List T143) (i : Int) : List Int :=
  upto (fun s n => if (n < keep.length ∧ (keep.getD n 0).tmod 2 = 1) ∧ (L.getD n w0).at_ = i then (L.getD n w0).s else s) (S.getD i.toNat zs) L.length
theorem crd_nil (keep : List Int) (S : List (List Int)) (i : Int) : crd keep S [] i = S.getD i.toNat zs := rfl
theorem crd_snoc (keep : List Int) (S : List (List Int)) (L : List T143) (i j : Int) (s : List Int) :
    crd keep S (L ++ [⟨i, s⟩]) j = if (L.length < keep.length ∧ (keep.getD L.length 0).tmod 2 = 1) ∧ i = j then s else crd keep S L j := by
  unfold crd
  rw [show (L ++ [(⟨i, s⟩ : T143)]).length = L.length + 1 by simp]
  simp only [upto, getD_snoc]
  rw [upto_congr _ (fun s n => if (n < keep.length ∧ (keep.getD n 0).tmod 2 = 1) ∧ (L.getD n w0).at_ = j then (L.getD n w0).s else s) _ L.length fun n t hn => by simp only [getD_snoc_lt _ _ hn]]

theorem get_set {S : List (List Int)} {a j : Int} (ha : 0 ≤ a ∧ a < S.length) (hj : 0 ≤ j) (s : List Int) : (S.set a.toNat s).getD j.toNat zs = if a = j then s else S.getD j.toNat zs := by
  rw [List.getD_eq_getElem?_getD, List.getD_eq_getElem?_getD, List.getElem?_set]
  by_cases h : a = j
  · subst h
    simp only [if_true]
    rw [if_pos (by omega)]
    rfl
  · rw [if_neg (by omega), if_neg h]

theorem fl_get {S : List (List Int)} {L : List T143} (h : Ats S L) {j : Int} (hj : 0 ≤ j) : (fl S L).getD j.toNat zs = rd S L j := by
  unfold fl rd
  have : ∀ n, n ≤ L.length → (upto (fun S n => S.set (L.getD n w0).at_.toNat (L.getD n w0).s) S n).getD j.toNat zs = upto (fun s n => if (L.getD n w0).at_ = j then (L.getD n w0).s else s) (S.getD j.toNat zs) n := by
    intro n
    induction n with
    | zero => intro _; rfl
    | succ n ih =>
      intro hn
      have hw := h (L.getD n w0) (by rw [List.getD_eq_getElem?_getD, List.getElem?_eq_getElem (by omega)]; exact List.getElem_mem _)
      simp only [upto]
      rw [get_set (by rw [upto_len _ (fun s n => by simp)]; exact hw) hj, ih (by omega)]
  exact this _ (Nat.le_refl _)
theorem cr_get {S : List (List Int)} {L : List T143} (h : Ats S L) (keep : List Int) {j : Int} (hj : 0 ≤ j) : (cr keep S L).getD j.toNat zs = crd keep S L j := by
  unfold cr crd
  have : ∀ n, n ≤ L.length → (upto (fun S n => if n < keep.length ∧ (keep.getD n 0).tmod 2 = 1 then S.set (L.getD n w0).at_.toNat (L.getD n w0).s else S) S n).getD j.toNat zs = upto (fun s n => if (n < keep.length ∧ (keep.getD n 0).tmod 2 = 1) ∧ (L.getD n w0).at_ = j then (L.getD n w0).s else s) (S.getD j.toNat zs) n := by
    intro n
    induction n with
    | zero => intro _; rfl
    | succ n ih =>
      intro hn
      have hw := h (L.getD n w0) (by rw [List.getD_eq_getElem?_getD, List.getElem?_eq_getElem (by omega)]; exact List.getElem_mem _)
      simp only [upto]
      by_cases hk : n < keep.length ∧ (keep.getD n 0).tmod 2 = 1
      · rw [if_pos hk, get_set (by rw [upto_len _ (fun s n => by split <;> simp)]; exact hw) hj, ih (by omega)]
        simp only [hk, and_self, true_and]
      · rw [if_neg hk, ih (by omega)]
        simp only [hk, false_and, if_false]
  exact this _ (Nat.le_refl _)

def e0 : T59 := ⟨0, 0, 0, []⟩
/-- steps that are not too many, nor too long -/
theorem fair_eq {k : Nat} {l : List T59} (hl : l.length ≤ maxLen) (hk : l.length < k) : ∃ b, F35 k (l, ()) = some b ∧ (b = true → l.length ≤ 200 ∧ ∀ i, i < l.length → (l.getD i e0).Keep.length ≤ 300) := by
  have hm : maxLen = 9223372036854775807 := rfl
  have := iter_post (R := R35_2 k) (fun x => ∃ j : Nat, j ≤ l.length ∧ x = (l, (j : Int))) (fun x => l.length - x.2.toNat)
    (fun x o => o = .inl (l, false) ∨ (o = .inr l ∧ ∀ i, x.2.toNat ≤ i → i < l.length → (l.getD i e0).Keep.length ≤ 300)) (fun x hx => by
      obtain ⟨j, hj, rfl⟩ := hx
      rcases Nat.lt_or_ge j l.length with h | h
      · by_cases hb : (l.getD j e0).Keep.length > 300
        · left
          refine ⟨.inl (l, false), fun again => ?_, .inl rfl⟩
          unfold R35_2
          simp only [Int.toNat_natCast]
          rw [inRange_true (by omega)]
          simp only [show ((j : Int) < l.length) from by omega, decide_true, cond_true]
          show (bif decide (((l.getD j e0).Keep.length : Int) > 300) then _ else _) = _
          simp only [show ((l.getD j e0).Keep.length : Int) > 300 from by omega, decide_true, cond_true]
        · right
          refine ⟨(l, ((j + 1 : Nat) : Int)), fun again => ?_, ⟨j + 1, by omega, rfl⟩, by simp only [Int.toNat_natCast]; omega, fun o ho => ?_⟩
          · unfold R35_2
            simp only [Int.toNat_natCast]
            rw [inRange_true (by omega), wI_in (by omega)]
            simp only [show ((j : Int) < l.length) from by omega, decide_true, cond_true]
            show (bif decide (((l.getD j e0).Keep.length : Int) > 300) then _ else _) = _
            simp only [show ¬ (((l.getD j e0).Keep.length : Int) > 300) from by omega, decide_false, cond_false, Int.natCast_add, Int.natCast_one]
          · rcases ho with ho | ⟨ho, hall⟩
            · exact .inl ho
            · refine .inr ⟨ho, fun i h1 h2 => ?_⟩
              simp only [Int.toNat_natCast] at h1 hall
              rcases Nat.lt_or_ge j i with h3 | h3
              · exact hall i (by omega) h2
              · have : i = j := by omega
                subst this; omega
      · left
        have : j = l.length := by omega
        subst this
        refine ⟨.inr l, fun again => ?_, .inr ⟨rfl, fun i h1 h2 => by simp only [Int.toNat_natCast] at h1; omega⟩⟩
        unfold R35_2
        simp) k (l, 0) ⟨0, by omega, rfl⟩ (by simpa using hk)
  obtain ⟨o, h1, h2⟩ := this
  unfold F35 L35_2
  simp only
  rw [h1]
  rcases h2 with rfl | ⟨rfl, hall⟩
  · exact ⟨false, rfl, fun h => by cases h⟩
  · refine ⟨decide ((l.length : Int) ≤ 200), rfl, fun h => ⟨?_, fun i hi => hall i (by simp) hi⟩⟩
    have := of_decide_eq_true h
    omega

/-! ### the laws -/
theorem devNone_F (a : T59) : ∃ k, F10 k (a, ()) = some true := by
  refine ⟨2000, ?_⟩
  obtain ⟨b, h1, _⟩ := fair_eq (k := 2000) (l := [a]) (by simp [maxLen]) (by simp)
  have hw : F36 2000 () = some true := wakes_eq (by omega)
  have hf : F40 2000 (a.3, ()) = some (fillv a.3) := fill_eq (by omega) _
  have h1' : F35 2000 ((List.replicate 1 (T59.mk 0 0 0 [])).set 0 (T59.mk a.1 a.2 a.3 a.4), ()) = some b := h1
  unfold F10
  simp only [h1', Option.bind_some, hw, hf]
  cases b with
  | false => rfl
  | true =>
    by_cases hi : a.2 ≥ 0
    · simp [F48hn, F46hn, F42hn, F83hn, F50hn, F87hn, F39hn, F44hn, F49hn, F51hn, hi, show ¬ (a.2 < 0) from by omega]
    · simp [F48hn, F46hn, F42hn, F83hn, F50hn, F87hn, F39hn, F44hn, F49hn, F51hn, hi]

theorem devOrder_F (a b : Int) (l : List Int) (hl : l.length = 2) : ∃ k, F12 k (a, b, l, ()) = some true := by
  refine ⟨2000, ?_⟩
  match l, hl with
  | [p, q], _ =>
    have hw : F36 2000 () = some true := wakes_eq (by omega)
    unfold F12
    cases hp : (p.tmod 2 == 1) <;> cases hq : (q.tmod 2 == 1) <;>
    have hp' := hp <;> have hq' := hq <;> simp only [beq_iff_eq, beq_eq_false_iff_ne, ne_eq] at hp' hq' <;>
    simp [new_eq, fill_eq, sumK, write_eq, loose_eq, crash_eq, read_eq, passF, rd, cr, upto, w0, hp, hq, hp', hq', hw, zs]
theorem passF_in2 {f : Int} (h : -1 ≤ f ∧ f ≤ 9223372036854775807) : -1 ≤ passF f ∧ passF f ≤ 9223372036854775807 := by
  unfold passF; split <;> omega
theorem failF_in2 {v : Int} (h : -9223372036854775808 ≤ v ∧ v ≤ 9223372036854775807) : -1 ≤ (if v < -1 then -1 else v) ∧ (if v < -1 then -1 else v) ≤ 9223372036854775807 := by
  split <;> omega
/-- a device, and what is to be read from it -/
structure DI (N : Nat) (f d : Int) (want S : List (List Int)) (L : List T143) (b : Nat) : Prop where
  n : N ≤ 100
  s : S.length = N
  w : want.length = N
  d : 0 ≤ d ∧ d ≤ b
  l : L.length ≤ b
  b : b ≤ 900
  at_ : Ats S L
  f : -1 ≤ f ∧ f ≤ 9223372036854775807
  rd : ∀ j : Int, 0 ≤ j → j < N → W.rd S L j = want.getD j.toNat zs
section
variable {k N : Nat} {f d : Int} {want S : List (List Int)} {L : List T143} {b : Nat}
theorem DI.read (h : DI N f d want S L b) (hk : 1000 < k) {m : Int} (hm : 0 ≤ m ∧ m < N) : F42 k (m, f, d, S, L) = some (want.getD m.toNat zs, 0, f, d, S, L) := by
  have := h.n; have := h.s; have := h.l; have := h.b
  rw [read_eq (by omega) (by omega) hk, if_pos (by omega), h.rd m hm.1 hm.2]
theorem DI.write (h : DI N f d want S L b) {m : Int} (hm : 0 ≤ m ∧ m < N) (s : List Int) :
    F39 k (m, s, f, d, S, L) = some (if f = 0 then (12, -1, d, S, L) else (0, passF f, d + 1, S, L ++ [⟨m, s⟩])) := by
  have := h.n; have := h.s; have := h.l; have := h.b; have := h.d
  rw [write_eq h.f (by omega) (by omega) (by omega), if_pos (by omega)]
theorem DI.flush (h : DI N f d want S L b) (hk : 1000 < k) : F44 k (f, d, S, L) = some (if f = 0 then (12, -1, d, S, L) else (0, passF f, d + 1, fl S L, [])) := by
  have := h.l; have := h.b; have := h.d
  exact flush_eq h.f (by omega) (by omega) hk h.at_
theorem DI.loose (h : DI N f d want S L b) : F49 k (f, d, S, L) = some ((L.length : Int), f, d, S, L) := by
  have := h.l; have := h.b
  exact loose_eq (by omega)
theorem DI.fails (h : DI N f d want S L b) : DI N (-1) d want S L b := { h with f := by omega }
theorem DI.fail (h : DI N f d want S L b) {v : Int} (hv : -9223372036854775808 ≤ v ∧ v ≤ 9223372036854775807) : DI N (if v < -1 then -1 else v) d want S L b := { h with f := failF_in2 hv }
theorem DI.more (h : DI N f d want S L b) {b' : Nat} (hb : b ≤ b') (h9 : b' ≤ 900) : DI N f d want S L b' := { h with d := ⟨h.d.1, by have := h.d; omega⟩, l := Nat.le_trans h.l hb, b := h9 }
theorem DI.wrote (h : DI N f d want S L b) {m : Int} (hm : 0 ≤ m ∧ m < N) (s : List Int) (h9 : b < 900) : DI N (passF f) (d + 1) (want.set m.toNat s) S (L ++ [⟨m, s⟩]) (b + 1) :=
  { n := h.n, s := h.s, w := by rw [List.length_set]; exact h.w, d := by have := h.d; omega, l := by have := h.l; simp; omega, b := h9, at_ := h.at_.snoc (by rw [h.s]; exact hm) s, f := passF_in2 h.f,
    rd := fun j h1 h2 => by
      rw [rd_snoc, get_set (by rw [h.w]; exact hm) h1, h.rd j h1 h2] }
theorem DI.flushed (h : DI N f d want S L b) (h9 : b < 900) : DI N (passF f) (d + 1) want (fl S L) [] (b + 1) :=
  { n := h.n, s := by rw [fl_len]; exact h.s, w := h.w, d := by have := h.d; omega, l := by simp, b := h9, at_ := Ats.nil _, f := passF_in2 h.f,
    rd := fun j h1 h2 => by rw [rd_nil, fl_get h.at_ h1, h.rd j h1 h2] }
theorem DI.start (hN : N ≤ 100) : DI N (-1) 0 (List.replicate N zs) (List.replicate N zs) [] 0 :=
  { n := hN, s := by simp, w := by simp, d := by omega, l := by simp, b := by omega, at_ := Ats.nil _, f := by omega, rd := fun j _ _ => rd_nil _ _ }
end
/-! ### DevSafe -/
theorem map_fill_set (wb : List Int) (n : Nat) (v : Int) : (wb.set n v).map fillv = (wb.map fillv).set n (fillv v) := by rw [List.map_set]
theorem map_fill_get {wb : List Int} {n : Nat} (h : n < wb.length) : (wb.map fillv).getD n zs = fillv (wb.getD n 0) := by
  simp [List.getD_eq_getElem?_getD, h]
theorem passF_none : passF (-1) = -1 := rfl

theorem ahead_loop {k : Nat} (hk : 1000 < k) {l m : List T59} {kp : List Int} (hl : l.length ≤ 200) (hw : ∀ x ∈ l, WT59 x) :
    ∃ d wb S L, L8_6 k k (l, m, kp, 0, -1, 0, List.replicate 6 0, List.replicate 6 zs, []) = some (.inr (m, kp, -1, d, wb, S, L)) ∧ wb.length = 6 ∧ DI 6 (-1) d (wb.map fillv) S L l.length := by
  unfold L8_6
  have := iter_post (R := R8_6 k) (fun x => ∃ (i : Nat) (d : Int) (wb : List Int) (S : List (List Int)) (L : List T143), i ≤ l.length ∧ x = (l, m, kp, (i : Int), -1, d, wb, S, L) ∧ wb.length = 6 ∧ DI 6 (-1) d (wb.map fillv) S L i)
    (fun x => l.length - x.2.2.2.1.toNat) (fun _ o => ∃ d wb S L, o = .inr (m, kp, -1, d, wb, S, L) ∧ wb.length = 6 ∧ DI 6 (-1) d (wb.map fillv) S L l.length) (fun x hx => by
      obtain ⟨i, d, wb, S, L, hi, rfl, hwb, hD⟩ := hx
      rcases Nat.lt_or_ge i l.length with h | h
      · right
        generalize he : l.getD i e0 = e
        have he' : l.getD i (T59.mk 0 0 0 []) = e := he
        have hwe : WT59 e := by
          rw [← he, List.getD_eq_getElem?_getD, List.getElem?_eq_getElem h]; exact hw _ (List.getElem_mem h)
        have hr : inRange (i : Int) l.length = true := inRange_true (by omega)
        have hlt : decide ((i : Int) < l.length) = true := by simp; omega
        have w1 : IntKind.i64.wrap ((i : Int) + 1) = ((i + 1 : Nat) : Int) := by rw [wI_in (by omega)]; omega
        obtain ⟨q, hq, hq1⟩ := mod_eq (k := k) e.2 6 (by omega) hwe.2.1
        have hqr : inRange q 6 = true := inRange_true (by omega)
        have hD2 := hD.wrote (m := q) (by omega) (fillv e.3) (by omega)
        rw [← map_fill_set, passF_none] at hD2
        refine ⟨_, fun again => ?_, ⟨i + 1, d + 1, wb.set q.toNat e.3, S, _, h, rfl, by rw [List.length_set]; exact hwb, hD2⟩, by simp only [Int.toNat_natCast]; omega, fun o ho => ho⟩
        unfold R8_6
        simp only [Int.toNat_natCast, hr, hlt, he', cond_true, w1, hq, Option.bind_some, fill_eq (show 64 < k by omega)]
        rw [hD.write (by omega), if_neg (by omega), Option.bind_some]
        simp only [passF_none, bne_self_eq_false, cond_false, hqr, cond_true]
      · left
        have : i = l.length := by omega
        subst this
        refine ⟨_, fun again => ?_, ⟨d, wb, S, L, rfl, hwb, hD⟩⟩
        unfold R8_6
        simp) k (l, m, kp, 0, -1, 0, List.replicate 6 0, List.replicate 6 zs, []) ⟨0, 0, List.replicate 6 0, List.replicate 6 zs, [], by omega, rfl, rfl, by
          have := DI.start (N := 6) (by omega)
          exact this⟩ (by simp; omega)
  obtain ⟨o, h1, d, wb, S, L, rfl, h2⟩ := this
  exact ⟨d, wb, S, L, h1, h2⟩

structure DJ (kp : List Int) (d : Int) (wb : List Int) (S : List (List Int)) (L : List T143) (i : Nat) : Prop where
  s : S.length = 6
  w : wb.length = 6
  d : 0 ≤ d ∧ d ≤ 300 + i
  l : L.length = i
  b : i ≤ 200
  at_ : Ats S L
  rd : ∀ j : Int, 0 ≤ j → j < 6 → crd kp S L j = fillv (wb.getD j.toNat 0)
theorem get_set0 {S : List Int} {a j : Int} (ha : 0 ≤ a ∧ a < S.length) (hj : 0 ≤ j) (s : Int) : (S.set a.toNat s).getD j.toNat 0 = if a = j then s else S.getD j.toNat 0 := by
  rw [List.getD_eq_getElem?_getD, List.getD_eq_getElem?_getD, List.getElem?_set]
  by_cases h : a = j
  · subst h
    simp only [if_true]
    rw [if_pos (by omega)]
    rfl
  · rw [if_neg (by omega), if_neg h]

theorem behind_loop {k : Nat} (hk : 1000 < k) {l : List T59} {kp : List Int} (hl : l.length ≤ 200) (hw : ∀ x ∈ l, WT59 x) {d : Int} {wb : List Int} {S : List (List Int)} (h0 : DJ kp d wb S [] 0) :
    ∃ d' wb' S' L', L8_15 k k (l, kp, 0, -1, d, wb, S, []) = some (.inr (kp, -1, d', wb', S', L')) ∧ DJ kp d' wb' S' L' l.length := by
  unfold L8_15
  have := iter_post (R := R8_15 k) (fun x => ∃ (i : Nat) (d : Int) (wb : List Int) (S : List (List Int)) (L : List T143), i ≤ l.length ∧ x = (l, kp, (i : Int), -1, d, wb, S, L) ∧ DJ kp d wb S L i)
    (fun x => l.length - x.2.2.1.toNat) (fun _ o => ∃ d wb S L, o = .inr (kp, -1, d, wb, S, L) ∧ DJ kp d wb S L l.length) (fun x hx => by
      obtain ⟨i, d, wb, S, L, hi, rfl, hD⟩ := hx
      rcases Nat.lt_or_ge i l.length with h | h
      · right
        generalize he : l.getD i e0 = e
        have he' : l.getD i (T59.mk 0 0 0 []) = e := he
        have hwe : WT59 e := by
          rw [← he, List.getD_eq_getElem?_getD, List.getElem?_eq_getElem h]; exact hw _ (List.getElem_mem h)
        have hr : inRange (i : Int) l.length = true := inRange_true (by omega)
        have hlt : decide ((i : Int) < l.length) = true := by simp; omega
        have w1 : IntKind.i64.wrap ((i : Int) + 1) = ((i + 1 : Nat) : Int) := by rw [wI_in (by omega)]; omega
        obtain ⟨q, hq, hq1⟩ := mod_eq (k := k) e.2 6 (by omega) hwe.2.1
        have hqr : inRange q 6 = true := inRange_true (by omega)
        have hs := hD.s; have hl2 := hD.l; have hb := hD.b; have hd := hD.d
        have hW := write_eq (k := k) (f := -1) (d := d) (S := S) (L := L) (by omega) (by omega) (by omega) (by omega) q (fillv e.3)
        rw [if_pos (by omega), if_neg (by omega)] at hW
        have next : ∀ wb', wb'.length = 6 → (∀ j : Int, 0 ≤ j → j < 6 → (if (i < kp.length ∧ (kp.getD i 0).tmod 2 = 1) ∧ q = j then fillv e.3 else fillv (wb.getD j.toNat 0)) = fillv (wb'.getD j.toNat 0)) → DJ kp (d + 1) wb' S (L ++ [⟨q, fillv e.3⟩]) (i + 1) := by
          intro wb' h1 h2
          refine { s := hs, w := h1, d := by omega, l := by simp [hl2], b := by omega, at_ := hD.at_.snoc (by omega) _, rd := fun j j1 j2 => ?_ }
          rw [crd_snoc, hD.rd j j1 j2, hl2]
          exact h2 j j1 j2
        by_cases hki : i < kp.length
        · have hkr : inRange (i : Int) kp.length = true := inRange_true (by omega)
          have hkl : decide ((i : Int) < kp.length) = true := by simp; omega
          by_cases hm : (kp.getD i 0).tmod 2 = 1
          · have hmb : ((kp.getD i 0).tmod 2 == 1) = true := by simpa using hm
            have hN := next (wb.set q.toNat e.3) (by rw [List.length_set]; exact hD.w) fun j j1 j2 => by
              rw [get_set0 (by rw [hD.w]; omega) j1]
              by_cases hqj : q = j
              · simp only [hki, hm, hqj, and_self, if_true]
              · simp only [hki, hm, hqj, and_false, if_false]
            refine ⟨_, fun again => ?_, ⟨i + 1, d + 1, _, S, _, h, rfl, hN⟩, by simp only [Int.toNat_natCast]; omega, fun o ho => ho⟩
            unfold R8_15
            simp only [Int.toNat_natCast, hr, hlt, he', cond_true, w1, hq, Option.bind_some, fill_eq (show 64 < k by omega), hW, bne_self_eq_false, cond_false, hkl, hkr, hmb, hqr, passF_none]
          · have hmb : ((kp.getD i 0).tmod 2 == 1) = false := by simpa using hm
            have hN := next wb hD.w fun j j1 j2 => by simp only [hm, and_false, false_and, if_false]
            refine ⟨_, fun again => ?_, ⟨i + 1, d + 1, _, S, _, h, rfl, hN⟩, by simp only [Int.toNat_natCast]; omega, fun o ho => ho⟩
            unfold R8_15
            simp only [Int.toNat_natCast, hr, hlt, he', cond_true, w1, hq, Option.bind_some, fill_eq (show 64 < k by omega), hW, bne_self_eq_false, cond_false, hkl, hkr, hmb, passF_none]
        · have hkl : decide ((i : Int) < kp.length) = false := by simp; omega
          have hN := next wb hD.w fun j j1 j2 => by simp only [hki, false_and, if_false]
          refine ⟨_, fun again => ?_, ⟨i + 1, d + 1, _, S, _, h, rfl, hN⟩, by simp only [Int.toNat_natCast]; omega, fun o ho => ho⟩
          unfold R8_15
          simp only [Int.toNat_natCast, hr, hlt, he', cond_true, w1, hq, Option.bind_some, fill_eq (show 64 < k by omega), hW, bne_self_eq_false, cond_false, hkl, passF_none]
      · left
        have : i = l.length := by omega
        subst this
        refine ⟨_, fun again => ?_, ⟨d, wb, S, L, rfl, hD⟩⟩
        unfold R8_15
        simp) k (l, kp, 0, -1, d, wb, S, []) ⟨0, d, wb, S, [], by omega, rfl, h0⟩ (by simp; omega)
  obtain ⟨o, h1, d', wb', S', L', rfl, h2⟩ := this
  exact ⟨d', wb', S', L', h1, h2⟩

theorem safe_end {k : Nat} (hk : 1000 < k) {f d : Int} {wb : List Int} {S : List (List Int)} (hS : S.length = 6) (h : ∀ j : Int, 0 ≤ j → j < 6 → S.getD j.toNat zs = fillv (wb.getD j.toNat 0)) : L8_24 k k (0, f, d, wb, S, []) = some (.inr ()) := by
  unfold L8_24
  refine iter_out (R := R8_24 k) (fun x => ∃ j : Nat, j ≤ 6 ∧ x = ((j : Int), f, d, wb, S, [])) (fun x => 6 - x.1.toNat) (fun _ => .inr ()) (fun x hx => ?_) ⟨0, by omega, rfl⟩ (by simp; omega)
  obtain ⟨j, hj, rfl⟩ := hx
  rcases Nat.lt_or_ge j 6 with h7 | h7
  · right
    refine ⟨(((j + 1 : Nat) : Int), f, d, wb, S, []), fun again => ?_, ⟨j + 1, by omega, rfl⟩, by simp only [Int.toNat_natCast]; omega, rfl⟩
    have hr := read_eq (k := k) (f := f) (d := d) (S := S) (L := []) (by omega) (by simp) hk (j : Int)
    rw [if_pos (by omega), rd_nil, h _ (by omega) (by omega)] at hr
    unfold R8_24
    simp only [show ((j : Int) < 6) from by omega, decide_true, cond_true, hr, Option.bind_some, bne_self_eq_false, cond_false, fill_eq (show 64 < k by omega), Bool.not_true]
    rw [inRange_true (by omega), wI_in (by omega), cond_true]
    rfl
  · left
    intro again
    have : j = 6 := by omega
    subst this
    unfold R8_24
    simp

theorem devSafe_F (l m : List T59) (kp : List Int) (hl : WL_T59 l) (hm : WL_T59 m) (hkp : WL_I_u8 kp) : ∃ k, F8 k (l, m, kp, ()) = some true := by
  refine ⟨l.length + m.length + 2000, ?_⟩
  generalize hk : l.length + m.length + 2000 = k
  have hwk : F36 k () = some true := wakes_eq (by omega)
  obtain ⟨b, h1, h2⟩ := fair_eq (k := k) hl.1 (by omega)
  obtain ⟨c, h3, h4⟩ := fair_eq (k := k) hm.1 (by omega)
  unfold F8
  simp only [new_eq, show (1 : Int) ≤ 6 ∧ (6 : Int) ≤ 1024 from by omega, and_self, if_true, Option.bind_some, sumK, bne_self_eq_false, cond_false, h1, h3, hwk]
  cases b with
  | false => rfl
  | true =>
    cases c with
    | false => rfl
    | true =>
      simp only [Bool.not_true, cond_false]
      by_cases h5 : (kp.length : Int) > 300
      · simp only [h5, decide_true, cond_true, beq_self_eq_true]
      · simp only [h5, decide_false, cond_false]
        obtain ⟨d, wb, S, L, e1, e2, e3⟩ := ahead_loop (k := k) (m := m) (kp := kp) (by omega) (h2 rfl).1 hl.2
        have e1' : L8_6 k k (l, m, kp, 0, -1, 0, List.replicate 6 0, List.replicate (Int.toNat 6) zs, []) = some (.inr (m, kp, -1, d, wb, S, L)) := e1
        have e4 := e3.flush (k := k) (by omega)
        rw [if_neg (by omega)] at e4
        have hl2 := (h2 rfl).1
        have e5 := e3.flushed (by omega)
        have e6 := e5.loose (k := k)
        rw [e1']
        simp only [Option.bind_some]
        rw [e4]
        simp only [Option.bind_some, bne_self_eq_false, cond_false]
        rw [e6]
        simp only [Option.bind_some, List.length_nil, Int.natCast_zero, bne_self_eq_false, cond_false, passF_none]
        have hJ : DJ kp (d + 1) wb (fl S L) [] 0 := by
          refine { s := e5.s, w := e2, d := ?_, l := rfl, b := by omega, at_ := Ats.nil _, rd := fun j j1 j2 => ?_ }
          · have := e5.d
            omega
          · have := e5.rd j j1 j2
            rw [rd_nil] at this
            rw [crd_nil, this, map_fill_get (by omega)]
        obtain ⟨d', wb', S', L', g1, g2⟩ := behind_loop (k := k) (l := m) (kp := kp) (by omega) (h4 rfl).1 hm.2 hJ
        have hm2 := (h4 rfl).1
        rw [g1]
        have hrm : decide ((List.replicate 0 (0 : Int)).length + kp.length ≤ roomMost) = true := by simp [roomMost]; omega
        have g3 := crash_eq (k := k) (f := -1) (d := d') (S := S') (L := L') (by have := g2.l; omega) (by omega) g2.at_ kp
        simp only [Option.bind_some]
        rw [hrm, cond_true, show List.replicate 0 (0 : Int) ++ kp = kp from rfl, g3]
        simp only [Option.bind_some]
        rw [safe_end (by omega) (by rw [cr_len]; exact g2.s) fun j j1 j2 => by rw [cr_get g2.at_ kp j1, g2.rd j j1 j2]]
        rfl
theorem devSafe : Rows.DevSafeSaid := devSafe_row fun a0 a1 a2 w1 w2 w3 => devSafe_F a0 a1 a2 w1 w2 w3
end Go.Proofs.Ytbhnkjnjeifdhaa.W
