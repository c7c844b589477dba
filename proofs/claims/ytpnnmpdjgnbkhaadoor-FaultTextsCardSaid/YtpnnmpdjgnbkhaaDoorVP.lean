/-
  FaultTexts: for every input that the statement lets in the law returns true; its tied card. No conditions.
-/
import Derived.Test.YtpnnmpdjgnbkhaaDoorVR
set_option linter.unusedVariables false
namespace Go.Proofs.YtpnnmpdjgnbkhaaDoor.W
open Go V
/-! ### plain: a number's digits -/
theorem wakes (k : Nat) : F29 k () = some true := by kernel_rfl
def digT : Nat → Nat → List UInt8
  | 0, _ => []
  | d + 1, n => if n < 10 then [UInt8.ofNat (48 + n)] else digT d (n / 10) ++ [UInt8.ofNat (48 + n % 10)]
theorem digT_len : ∀ d n, (digT d n).length ≤ d
  | 0, _ => Nat.le_refl _
  | d + 1, n => by
    unfold digT
    split
    · simp
    · have := digT_len d (n / 10)
      simp only [List.length_append, List.length_singleton]
      omega
def digV (l : List UInt8) : Nat := l.foldl (fun a b => a * 10 + (b.toNat - 48)) 0
theorem ofNat_small {n : Nat} (h : n < 256) : (UInt8.ofNat n).toNat = n := by
  rw [UInt8.toNat_ofNat']
  omega
theorem digV_digT : ∀ d n, n < 10 ^ d → digV (digT d n) = n
  | 0, n, h => by
    have : n = 0 := by simpa using h
    subst this
    rfl
  | d + 1, n, h => by
    unfold digT
    split
    · next h10 =>
      simp only [digV, List.foldl_cons, List.foldl_nil]
      rw [ofNat_small (by omega)]
      omega
    · next h10 =>
      have hq : n / 10 < 10 ^ d := by
        rw [Nat.div_lt_iff_lt_mul (by decide)]
        rw [Nat.pow_succ] at h
        exact h
      have ih := digV_digT d (n / 10) hq
      simp only [digV, List.foldl_append, List.foldl_cons, List.foldl_nil] at ih ⊢
      rw [ih, ofNat_small (by omega)]
      omega
theorem concat_one (x : UInt8) : ([] : List UInt8).concat x = [x] := rfl
theorem bytesStr_one (x : Int) : (bytesStr (List.map (fun x => x) ((List.replicate (1 : Nat) (0 : Int)).set (0 : Nat) x))).size = 1 := rfl
theorem chr_num {n : Int} (h : 0 ≤ n ∧ n < 10) : UInt8.ofNat (IntKind.u8.wrap (IntKind.i64.wrap ((48 : Int) + n))).toNat = UInt8.ofNat (48 + n.toNat) := by
  rw [wI_in (by omega), w8_eq]
  congr 1
  omega
theorem chr_dec {n : Int} (h : 0 ≤ n ∧ n < 10) : UInt8.ofNat (IntKind.u8.wrap ((48 : Int) + IntKind.u8.wrap n)).toNat = UInt8.ofNat (48 + n.toNat) := by
  rw [w8_eq, w8_eq]
  congr 1
  omega
def errT : List UInt8 := [101, 114, 114, 111, 114, 32]
theorem tdiv_nat (n : Nat) : (n : Int).tdiv 10 = ((n / 10 : Nat) : Int) := rfl
theorem tmod_nat (n : Nat) : (n : Int).tmod 10 = ((n % 10 : Nat) : Int) := rfl
theorem numT_eq : ∀ d, d ≤ 100 → ∀ n : Nat, n < 10 ^ d → n ≤ 70000 → 1 ≤ d → numT d (n : Int) = some (ByteArray.mk (Array.mk (errT ++ digT d n)))
  | 0, _, _, _, _, h => by omega
  | d + 1, hd, n, h, hs, _ => by
    unfold numT digT
    rw [show decide ((n : Int) < 0) = false from by simp, cond_false]
    by_cases h10 : n < 10
    · rw [show decide ((n : Int) < 10) = true from by simp; omega, cond_true, if_pos h10, concat_one, chr_num (by omega)]
      rfl
    · rw [show decide ((n : Int) < 10) = false from by simp; omega, cond_false, if_neg h10, tdiv_nat, wI_in (by omega), tmod_nat, chr_num (by omega), concat_one]
      have hq : n / 10 < 10 ^ d := by
        rw [Nat.div_lt_iff_lt_mul (by decide)]
        rw [Nat.pow_succ] at h
        exact h
      have hd1 : 1 ≤ d := by
        rcases d with _ | d
        · simp at h; omega
        · omega
      rw [numT_eq d (by omega) (n / 10) hq (by omega) hd1, Option.bind_some, bytesStr_one]
      have hl := digT_len d (n / 10)
      rw [show ((ByteArray.mk (Array.mk (errT ++ digT d (n / 10)))).size + 1).ble 4294967296 = true from by
        rw [Nat.ble_eq]
        show (errT ++ digT d (n / 10)).length + 1 ≤ _
        rw [List.length_append]
        have : errT.length = 6 := rfl
        omega, cond_true, Int.toNat_natCast, ← List.append_assoc]
theorem dec_round (k : Nat) (again : Int × ByteArray → Option ByteArray) (n : Nat) (b : ByteArray) (hs : n ≤ 70000) (hb : b.size ≤ 1000) : R31_3 k again ((n : Int), b) =
    bif n / 10 == 0 then some (ByteArray.mk (Array.mk ([UInt8.ofNat (48 + n % 10)] ++ b.data.toList))) else again (((n / 10 : Nat) : Int), ByteArray.mk (Array.mk ([UInt8.ofNat (48 + n % 10)] ++ b.data.toList))) := by
  unfold R31_3
  simp only
  rw [bytesStr_one, show (1 + b.size).ble 4294967296 = true from by rw [Nat.ble_eq]; omega, cond_true, tdiv_nat, wI_in (by omega), tmod_nat, chr_dec (by omega), concat_one, Int.toNat_natCast]
  have : (((n / 10 : Nat) : Int) == 0) = (n / 10 == 0) := by
    rw [Bool.eq_iff_iff]
    simp
    omega
  rw [this]
theorem dec_eq (k : Nat) : ∀ d (n : Nat), n < 10 ^ d → n ≤ 70000 → 1 ≤ d → d ≤ 100 → ∀ (b : ByteArray), b.size + d ≤ 1000 → ∀ f, d ≤ f →
    iterR (R31_3 k) f ((n : Int), b) = some (ByteArray.mk (Array.mk (digT d n ++ b.data.toList)))
  | 0, _, _, _, h, _, _, _, _, _ => by omega
  | d + 1, n, h, hs, _, hd, b, hb, 0, hf => by omega
  | d + 1, n, h, hs, _, hd, b, hb, f + 1, hf => by
    show R31_3 k (iterR (R31_3 k) f) ((n : Int), b) = _
    rw [dec_round k _ n b hs (by omega)]
    unfold digT
    by_cases h10 : n < 10
    · rw [show (n / 10 == 0) = true from by simp; omega, cond_true, if_pos h10, Nat.mod_eq_of_lt h10]
    · rw [show (n / 10 == 0) = false from by simp; omega, cond_false, if_neg h10]
      have hq : n / 10 < 10 ^ d := by
        rw [Nat.div_lt_iff_lt_mul (by decide)]
        rw [Nat.pow_succ] at h
        exact h
      have hd1 : 1 ≤ d := by
        rcases d with _ | d
        · simp at h; omega
        · omega
      rw [dec_eq k d (n / 10) hq (by omega) hd1 (by omega) (ByteArray.mk (Array.mk ([UInt8.ofNat (48 + n % 10)] ++ b.data.toList))) (by
        show ([UInt8.ofNat (48 + n % 10)] ++ b.data.toList).length + d ≤ 1000
        have : b.data.toList.length = b.size := rfl
        rw [List.length_append, List.length_singleton]
        omega) f (by omega)]
      rw [List.append_assoc]
theorem big10 {n : Nat} (h : n ≤ 70000) : n < 10 ^ 30 := by
  have : (70000 : Nat) < 10 ^ 30 := by decide
  omega
theorem num_of {n : Nat} (h : n ≤ 70000) : numT 30 (n : Int) = some (ByteArray.mk (Array.mk (errT ++ digT 30 n))) := numT_eq 30 (by decide) n (big10 h) h (by decide)
theorem dec_of {k n : Nat} (hk : 30 ≤ k) (h : n ≤ 70000) : F31 k ((n : Int), ()) = some (ByteArray.mk (Array.mk (digT 30 n))) := by
  show (iterR (R31_3 k) k ((n : Int), _)).bind _ = _
  rw [dec_eq k 30 n (big10 h) h (by decide) (by decide) _ (by decide) k hk, Option.bind_some]
  simp
theorem ba_eq {a b : ByteArray} (h : a.data.toList = b.data.toList) : a = b := ByteArray.ext (Array.toList_inj.1 h)
theorem ba_inj {a b : ByteArray} (h : a.toList = b.toList) : a = b := by
  rw [ByteArray.toList_eq, ByteArray.toList_eq] at h
  exact ba_eq h
theorem beq_ba {a b : ByteArray} (h : a = b) : (a.toList == b.toList) = true := by rw [h]; simp
theorem dig_inj {m n : Nat} (hm : m ≤ 70000) (hn : n ≤ 70000) (h : digT 30 m = digT 30 n) : m = n := by
  rw [← digV_digT 30 m (big10 hm), ← digV_digT 30 n (big10 hn), h]
/-! ### plain: chains of faults -/
structure Chn (e : GErr) (n : Nat) (t : ByteArray) (d : Int) : Prop where
  nn : e.isNil = false
  ok : chainOk e = true
  fst : e.first = some (n : Int)
  has : ∀ m, e.has m = ((n : Int) == m)
  txt : textB e = t
  dep : deepG e = d
def digB (n : Nat) : ByteArray := ByteArray.mk (Array.mk (errT ++ digT 30 n))
theorem digB_size (n : Nat) : (digB n).size ≤ 36 := by
  show (errT ++ digT 30 n).length ≤ 36
  have := digT_len 30 n
  rw [List.length_append]
  have : errT.length = 6 := rfl
  omega
theorem chn_base (s : ByteArray) {n : Nat} (h : n ≤ 70000) : Chn (.flt s (.num n) false) n ((s ++ colon) ++ digB n) 0 where
  nn := rfl
  ok := by show (numT 30 (n : Int)).isSome = true; rw [num_of h]; rfl
  fst := rfl
  has _ := rfl
  txt := by
    show (s ++ colon) ++ ((numT 30 (n : Int)).getD ByteArray.empty) = _
    rw [num_of h]
    rfl
  dep := rfl
theorem Chn.wrap {e : GErr} {n : Nat} {t : ByteArray} {d : Int} (h : Chn e n t d) (s : ByteArray) : Chn (.flt s e true) n ((s ++ colon) ++ t) (1 + d) where
  nn := rfl
  ok := h.ok
  fst := h.fst
  has := h.has
  txt := by show (s ++ colon) ++ textB e = _; rw [h.txt]
  dep := by show (1 : Int) + deepG e = _; rw [h.dep]
theorem new_of {k : Nat} {n : Nat} (h : n ≠ 0) (s : ByteArray) : F30 k ((n : Int), s, ()) = some (.flt s (.num n) false) := by
  show (bif ((n : Int) == 0) then _ else _) = _
  rw [show ((n : Int) == 0) = false from by simp; omega]
  rfl
theorem new_nil {k : Nat} (s : ByteArray) : F30 k ((0 : Int), s, ()) = some .nil := rfl
theorem wrap_of {k : Nat} {e : GErr} (h : e.isNil = false) (s : ByteArray) : F34 k (e, s, ()) = some (.flt s e true) := by
  show (bif e.isNil then _ else _) = _
  rw [h]
  rfl
theorem wrap_nil {k : Nat} (s : ByteArray) : F34 k (.nil, s, ()) = some .nil := rfl
theorem Chn.text {e : GErr} {n : Nat} {t : ByteArray} {d : Int} {k : Nat} (h : Chn e n t d) (hs : t.size ≤ 4294967296) : F32 k (e, ()) = some t := by
  show (bif e.isNil then _ else bif chainOk e && decide ((textB e).size ≤ 4294967296) then _ else _) = _
  rw [h.nn, cond_false, h.ok, h.txt, show decide (t.size ≤ 4294967296) = true from decide_eq_true hs]
  rfl
theorem Chn.of {e : GErr} {n : Nat} {t : ByteArray} {d : Int} {k : Nat} (h : Chn e n t d) : F35 k (e, ()) = some (n : Int) := by
  show (bif e.isNil then _ else bif e.first.isSome then some (e.first.getD 0) else _) = _
  rw [h.nn, h.fst]
  rfl
theorem Chn.is {e : GErr} {n : Nat} {t : ByteArray} {d : Int} {k : Nat} (h : Chn e n t d) (m : Int) : F36 k (e, m, ()) = some ((n : Int) == m) := by
  show (bif e.isNil then _ else (F61 k (e, GErr.num m, ())).bind fun r => some r) = _
  rw [h.nn, ← h.has m]
  rfl
theorem Chn.deep {e : GErr} {n : Nat} {t : ByteArray} {d : Int} {k : Nat} (h : Chn e n t d) (hs : d ≤ 1000000) : F33 k (e, ()) = some d := by
  show (bif decide (deepG e ≤ 1000000) then some (deepG e) else none) = _
  rw [h.dep, decide_eq_true hs]
  rfl
/-! ### the texts are fair -/
theorem fair_loop (k : Nat) (ls : List ByteArray) (hl : ls.length ≤ 9223372036854775807) {f : Nat} (hf : ls.length < f) : ∃ o, iterR (R28_3 k) f (ls, 0, 0) = some o ∧ ((∃ u, o = Sum.inl (u, false)) ∨ (o = Sum.inr ls ∧ ∀ x ∈ ls, x.size ≤ 2000)) := by
  have := iter_post (R := R28_3 k) (fun x => x.1 = ls ∧ 0 ≤ x.2.1 ∧ x.2.1 ≤ 2000 ∧ 0 ≤ x.2.2 ∧ x.2.2 ≤ ls.length ∧ ∀ y ∈ ls.take x.2.2.toNat, y.size ≤ 2000) (fun x => ls.length - x.2.2.toNat)
    (fun _ o => (∃ u, o = Sum.inl (u, false)) ∨ (o = Sum.inr ls ∧ ∀ x ∈ ls, x.size ≤ 2000)) (by
      rintro ⟨l, s, i⟩ ⟨rfl, hs0, hs1, hi0, hi1, hall⟩
      simp only at hl hf hs0 hs1 hi0 hi1 hall ⊢
      by_cases hlt : i < l.length
      · by_cases hbig : s + (if (2001 : Int) < ((l.getD i.toNat ByteArray.empty).size : Int) then (2001 : Int) else ((l.getD i.toNat ByteArray.empty).size : Int)) > 2000
        · refine .inl ⟨Sum.inl (l, false), fun again => ?_, .inl ⟨_, rfl⟩⟩
          unfold R28_3
          simp only
          rw [decide_eq_true hlt, cond_true, inRange_true ⟨hi0, hlt⟩, cond_true, wI_in (by split <;> omega), decide_eq_true hbig, cond_true]
        · refine .inr ⟨(l, s + (if (2001 : Int) < ((l.getD i.toNat ByteArray.empty).size : Int) then (2001 : Int) else ((l.getD i.toNat ByteArray.empty).size : Int)), i + 1), fun again => ?_, ⟨rfl, ?_, ?_, ?_, ?_, ?_⟩, ?_, fun _ h => h⟩
          · unfold R28_3
            simp only
            rw [decide_eq_true hlt, cond_true, inRange_true ⟨hi0, hlt⟩, cond_true, wI_in (by split <;> omega), decide_eq_false hbig, cond_false, wI_in (by omega)]
          · show 0 ≤ s + _
            split <;> omega
          · show s + _ ≤ 2000
            omega
          · show 0 ≤ i + 1
            omega
          · show i + 1 ≤ _
            omega
          · show ∀ y ∈ l.take (i + 1).toNat, _
            have e1 : (i + 1).toNat = i.toNat + 1 := by omega
            have hh : i.toNat < l.length := by omega
            rw [e1, List.take_succ_eq_append_getElem hh]
            intro y hy
            rcases List.mem_append.1 hy with h | h
            · exact hall y h
            · rw [List.mem_singleton] at h
              subst h
              have hg : l.getD i.toNat ByteArray.empty = l[i.toNat] := by rw [List.getD_eq_getElem?_getD, List.getElem?_eq_getElem hh]; rfl
              rw [hg] at hbig
              split at hbig <;> omega
          · show l.length - (i + 1).toNat < l.length - i.toNat
            omega
      · refine .inl ⟨Sum.inr l, fun again => ?_, .inr ⟨rfl, ?_⟩⟩
        · unfold R28_3
          simp only
          rw [decide_eq_false hlt, cond_false]
        · rw [List.take_of_length_le (by omega)] at hall
          exact hall) f (ls, 0, 0) ⟨rfl, by simp, by simp, by simp, by simp, by simp⟩ (by show ls.length - 0 < _; omega)
  exact this
theorem fair_of (k : Nat) (ls : List ByteArray) (hl : ls.length ≤ maxLen) (hk : ls.length < k) : ∃ b, F28 k (ls, ()) = some b ∧ (b = true → ls.length ≤ 50 ∧ ∀ x ∈ ls, x.size ≤ 2000) := by
  have hm : maxLen = 9223372036854775807 := rfl
  obtain ⟨o, h1, h2⟩ := fair_loop k ls (by omega) hk
  show ∃ b, (iterR (R28_3 k) k (ls, 0, 0)).bind _ = some b ∧ _
  rw [h1, Option.bind_some]
  rcases h2 with ⟨u, rfl⟩ | ⟨rfl, h2⟩
  · exact ⟨false, rfl, fun h => by cases h⟩
  · exact ⟨_, rfl, fun h => ⟨by have := of_decide_eq_true h; omega, h2⟩⟩
/-! ### FaultKeeps -/
theorem ble_of {a b : Nat} (h : a ≤ b) : a.ble b = true := Nat.ble_eq ▸ h
theorem keeps_loop (k : Nat) (ls : List ByteArray) (n : Nat) (hl : ls.length ≤ 50 ∧ ∀ x ∈ ls, x.size ≤ 2000) (e : GErr) (t : ByteArray) (h : Chn e n t 0) (ht : t.size ≤ 1000) {f : Nat} (hf : ls.length < f) :
    ∃ e' t', iterR (R7_7 k) f (ls, (n : Int), e, t, 0) = some (Sum.inr (ls, (n : Int), e', t')) ∧ Chn e' n t' ls.length ∧ t'.size ≤ 200000 := by
  have := iter_post (R := R7_7 k) (fun x => x.1 = ls ∧ x.2.1 = (n : Int) ∧ 0 ≤ x.2.2.2.2 ∧ x.2.2.2.2 ≤ ls.length ∧ Chn x.2.2.1 n x.2.2.2.1 x.2.2.2.2 ∧ (x.2.2.2.1.size : Int) ≤ 1000 + 2002 * x.2.2.2.2) (fun x => ls.length - x.2.2.2.2.toNat)
    (fun _ o => ∃ e' t', o = Sum.inr (ls, (n : Int), e', t') ∧ Chn e' n t' ls.length ∧ t'.size ≤ 200000) (by
      rintro ⟨l, n', e, t, i⟩ ⟨rfl, rfl, hi0, hi1, hc, hs⟩
      simp only at hl hf hi0 hi1 hc hs ⊢
      by_cases hlt : i < l.length
      · have hx : (l.getD i.toNat ByteArray.empty).size ≤ 2000 := by
          have hh : i.toNat < l.length := by omega
          have hg : l.getD i.toNat ByteArray.empty = l[i.toNat] := by rw [List.getD_eq_getElem?_getD, List.getElem?_eq_getElem hh]; rfl
          rw [hg]
          exact hl.2 _ (List.getElem_mem hh)
        refine .inr ⟨(l, (n : Int), .flt (l.getD i.toNat ByteArray.empty) e true, ((l.getD i.toNat ByteArray.empty) ++ colon) ++ t, i + 1), fun again => ?_, ⟨rfl, rfl, ?_, ?_, ?_, ?_⟩, ?_, fun _ h => h⟩
        · unfold R7_7
          simp only
          have hd : (i != i) = false := by simp
          rw [decide_eq_true hlt, cond_true, hc.nn, cond_false, hc.text (by omega), Option.bind_some, beq_ba (rfl : t = t), Bool.not_true, cond_false, hc.deep (by omega), Option.bind_some, hd, cond_false, inRange_true ⟨hi0, hlt⟩, cond_true, wrap_of hc.nn, Option.bind_some, cond_true, ble_of (by
            show _ + 2 ≤ _
            omega), cond_true, ble_of (by
            rw [ByteArray.size_append]
            show _ + 2 + _ ≤ _
            omega), cond_true, wI_in (by omega)]
          congr 5
        · show 0 ≤ i + 1
          omega
        · show i + 1 ≤ _
          omega
        · show Chn _ _ _ (i + 1)
          rw [Int.add_comm]
          exact hc.wrap _
        · show ((((l.getD i.toNat ByteArray.empty) ++ colon) ++ t).size : Int) ≤ 1000 + 2002 * (i + 1)
          rw [ByteArray.size_append, ByteArray.size_append]
          have : colon.size = 2 := rfl
          omega
        · show l.length - (i + 1).toNat < l.length - i.toNat
          omega
      · refine .inl ⟨Sum.inr (l, (n : Int), e, t), fun again => ?_, e, t, rfl, ?_, ?_⟩
        · unfold R7_7
          simp only
          rw [decide_eq_false hlt, cond_false]
        · have : i = l.length := by omega
          rw [← this]
          exact hc
        · omega) f (ls, (n : Int), e, t, 0) ⟨rfl, rfl, by simp, by simp, h, by show (t.size : Int) ≤ 1000 + 2002 * 0; omega⟩ (by show ls.length - 0 < _; omega)
  obtain ⟨o, h1, e', t', rfl, h2, h3⟩ := this
  exact ⟨e', t', h1, h2, h3⟩
theorem errB_eq (s : ByteArray) (n : Nat) : ByteArray.mk (Array.mk (s.data.toList ++ [(58 : UInt8), (32 : UInt8), (101 : UInt8), (114 : UInt8), (114 : UInt8), (111 : UInt8), (114 : UInt8), (32 : UInt8)] ++ digT 30 n)) = (s ++ colon) ++ digB n := by
  apply ba_eq
  rw [ByteArray.data_append, ByteArray.data_append, Array.toList_append, Array.toList_append]
  show s.data.toList ++ [(58 : UInt8), (32 : UInt8), (101 : UInt8), (114 : UInt8), (114 : UInt8), (111 : UInt8), (114 : UInt8), (32 : UInt8)] ++ digT 30 n = s.data.toList ++ [58, 32] ++ ([101, 114, 114, 111, 114, 32] ++ digT 30 n)
  simp
theorem dig_size (n : Nat) : (ByteArray.mk (Array.mk (digT 30 n))).size ≤ 30 := digT_len 30 n
theorem num_in {a : Int} (h : 0 ≤ a ∧ a ≤ 65535) : IntKind.i64.wrap ((1 : Int) + IntKind.i64.wrap a) = (((1 + a.toNat : Nat)) : Int) := by
  rw [wI_in (x := a) (by omega), wI_in (by omega)]
  omega
theorem faultKeeps_plain (a : Int) (s : ByteArray) (ls : List ByteArray) (ha : 0 ≤ a ∧ a ≤ 65535) (hls : ls.length ≤ maxLen) : ∃ k, F7 k (a, s, ls, ()) = some true := by
  refine ⟨ls.length + 100, ?_⟩
  generalize hk : ls.length + 100 = k
  obtain ⟨b, hb, hfair⟩ := fair_of k ls hls (by omega)
  unfold F7
  simp only
  rw [hb, Option.bind_some]
  cases b with
  | false => rw [Bool.not_false, cond_true, wakes]; rfl
  | true =>
    have hl := hfair rfl
    rw [Bool.not_true, cond_false]
    by_cases hs : (s.size : Int) > 500
    · rw [decide_eq_true hs, cond_true, wakes]; rfl
    · rw [decide_eq_false hs, cond_false, num_in ha, new_of (by omega), Option.bind_some, ble_of (by
        show s.size + 8 ≤ _
        omega), cond_true, dec_of (by omega) (by omega), Option.bind_some]
      have hd := dig_size (1 + a.toNat)
      rw [ble_of (by
        rw [ByteArray.size_append]
        show s.size + 8 + _ ≤ _
        omega), cond_true]
      show ((iterR (R7_7 k) k (ls, _, _, ByteArray.mk (Array.mk (s.data.toList ++ [(58 : UInt8), (32 : UInt8), (101 : UInt8), (114 : UInt8), (114 : UInt8), (111 : UInt8), (114 : UInt8), (32 : UInt8)] ++ digT 30 _)), _)).bind _) = _
      rw [errB_eq]
      have hD := digB_size (1 + a.toNat)
      obtain ⟨e, t, h1, h2, h3⟩ := keeps_loop k ls (1 + a.toNat) hl _ _ (chn_base s (n := 1 + a.toNat) (by omega)) (by
        rw [ByteArray.size_append, ByteArray.size_append]
        have : colon.size = 2 := rfl
        omega) (f := k) (by omega)
      rw [h1, Option.bind_some]
      show (bif !e.isNil then _ else _) = _
      rw [h2.nn, Bool.not_false, cond_true]
      simp only
      rw [h2.text (by omega), Option.bind_some, beq_ba (rfl : t = t), cond_true, h2.of, Option.bind_some, show ((((1 + a.toNat : Nat)) : Int) == (((1 + a.toNat : Nat)) : Int)) = true from by simp, cond_true,
        h2.is, Option.bind_some, show ((((1 + a.toNat : Nat)) : Int) == (((1 + a.toNat : Nat)) : Int)) = true from by simp, cond_true, h2.is, Option.bind_some, wI_in (by omega), show ((((1 + a.toNat : Nat)) : Int) == (((1 + a.toNat : Nat)) : Int) + 1) = false from by simp; omega, Bool.not_false, cond_true,
        h2.is, Option.bind_some, show ((((1 + a.toNat : Nat)) : Int) == 0) = false from by simp; omega, Bool.not_false, cond_true, h2.deep (by omega), Option.bind_some, show ((ls.length : Int) == (ls.length : Int)) = true from by simp, cond_true, wakes]
      rfl
/-! ### FaultNone -/
theorem none_loop (k : Nat) (ls : List ByteArray) (hl : ls.length ≤ 50) {f : Nat} (hf : ls.length < f) : iterR (R8_5 k) f (ls, GErr.nil, 0) = some GErr.nil := by
  refine iter_out (R := R8_5 k) (fun x => x.1 = ls ∧ x.2.1 = GErr.nil ∧ 0 ≤ x.2.2 ∧ x.2.2 ≤ ls.length) (fun x => ls.length - x.2.2.toNat) (fun _ => GErr.nil) ?_ ⟨rfl, rfl, by simp, by simp⟩ (by show ls.length - 0 < _; omega)
  rintro ⟨l, e, i⟩ ⟨rfl, rfl, hi0, hi1⟩
  simp only at hl hf hi0 hi1 ⊢
  by_cases hlt : i < l.length
  · refine .inr ⟨(l, .nil, i + 1), fun again => ?_, ⟨rfl, rfl, ?_, ?_⟩, ?_, trivial⟩
    · unfold R8_5
      simp only
      rw [decide_eq_true hlt, cond_true, inRange_true ⟨hi0, hlt⟩, cond_true, wrap_nil, Option.bind_some, wI_in (by omega)]
    · show 0 ≤ i + 1
      omega
    · show i + 1 ≤ _
      omega
    · show l.length - (i + 1).toNat < l.length - i.toNat
      omega
  · refine .inl fun again => ?_
    unfold R8_5
    simp only
    rw [decide_eq_false hlt, cond_false]
theorem faultNone_plain (s : ByteArray) (ls : List ByteArray) (hls : ls.length ≤ maxLen) : ∃ k, F8 k (s, ls, ()) = some true := by
  refine ⟨ls.length + 100, ?_⟩
  generalize hk : ls.length + 100 = k
  obtain ⟨b, hb, hfair⟩ := fair_of k ls hls (by omega)
  unfold F8
  simp only
  rw [hb, Option.bind_some]
  cases b with
  | false => rw [Bool.not_false, cond_true, wakes]; rfl
  | true =>
    have hl := hfair rfl
    rw [Bool.not_true, cond_false]
    by_cases hs : (s.size : Int) > 500
    · rw [decide_eq_true hs, cond_true, wakes]; rfl
    · rw [decide_eq_false hs, cond_false, new_nil, Option.bind_some]
      show ((iterR (R8_5 k) k (ls, _, _)).bind _) = _
      rw [none_loop k ls hl.1 (by omega), Option.bind_some]
      have e1 : F32 k (.nil, ()) = some ByteArray.empty := rfl
      have e2 : F35 k (.nil, ()) = some 0 := rfl
      have e3 : F36 k (.nil, 0, ()) = some true := rfl
      have e4 : F36 k (.nil, 1, ()) = some false := rfl
      have e5 : F33 k (.nil, ()) = some 0 := by kernel_rfl
      rw [show GErr.nil.isNil = true from rfl, cond_true, e1, Option.bind_some, beq_ba (show ByteArray.empty = ByteArray.mk #[] from rfl), cond_true, e2, Option.bind_some, show ((0 : Int) == 0) = true from rfl, cond_true, e3, Option.bind_some, cond_true, e4, Option.bind_some, Bool.not_false, cond_true, e5, Option.bind_some, show ((0 : Int) == 0) = true from rfl, cond_true, wakes]
      rfl
/-! ### FaultTwo -/
theorem faultTwo_plain (ns : List Int) (s t : ByteArray) (hn : ns.length = 2 ∧ ∀ x ∈ ns, 0 ≤ x ∧ x ≤ 255) : ∃ k, F9 k (ns, s, t, ()) = some true := by
  refine ⟨100, ?_⟩
  obtain ⟨hl, hn⟩ := hn
  obtain ⟨a, b, rfl⟩ : ∃ a b, ns = [a, b] := by
    match ns, hl with
    | [a, b], _ => exact ⟨a, b, rfl⟩
  have ha := hn a (by simp)
  have hb := hn b (by simp)
  unfold F9
  simp only
  by_cases hs : (s.size : Int) > 500
  · rw [decide_eq_true hs, cond_true, wakes]; rfl
  rw [decide_eq_false hs, cond_false]
  by_cases ht : (t.size : Int) > 500
  · rw [decide_eq_true ht, cond_true, wakes]; rfl
  rw [decide_eq_false ht, cond_false]
  rw [show ([a, b] : List Int).getD (Int.toNat 0) 0 = a from rfl, show ([a, b] : List Int).getD (Int.toNat 1) 0 = b from rfl, num_in (a := a) (by omega), num_in (a := b) (by omega)]
  generalize hm : 1 + a.toNat = m
  generalize hn' : 1 + b.toNat = n
  have c1 := (chn_base s (n := m) (by omega)).wrap t
  have c2 := (chn_base t (n := n) (by omega)).wrap s
  have hD1 := digB_size m
  have hD2 := digB_size n
  have hd1 := dig_size m
  have hd2 := dig_size n
  have hc : colon.size = 2 := rfl
  have z1 : ((t ++ colon) ++ ((s ++ colon) ++ digB m)).size ≤ 4294967296 := by
    simp only [ByteArray.size_append]
    omega
  have z2 : ((s ++ colon) ++ ((t ++ colon) ++ digB n)).size ≤ 4294967296 := by
    simp only [ByteArray.size_append]
    omega
  have b2 : (ByteArray.mk #[(58 : UInt8), (32 : UInt8)]).size = 2 := rfl
  have b8 : (ByteArray.mk #[(58 : UInt8), (32 : UInt8), (101 : UInt8), (114 : UInt8), (114 : UInt8), (111 : UInt8), (114 : UInt8), (32 : UInt8)]).size = 8 := rfl
  have tx : ∀ (x y : ByteArray) (n : Nat), (x ++ colon) ++ ((y ++ colon) ++ digB n) = x ++ ByteArray.mk #[(58 : UInt8), (32 : UInt8)] ++ y ++ ByteArray.mk #[(58 : UInt8), (32 : UInt8), (101 : UInt8), (114 : UInt8), (114 : UInt8), (111 : UInt8), (114 : UInt8), (32 : UInt8)] ++ ByteArray.mk (Array.mk (digT 30 n)) := by
    intro x y n
    apply ba_eq
    simp only [ByteArray.data_append, Array.toList_append]
    show x.data.toList ++ [58, 32] ++ (y.data.toList ++ [58, 32] ++ ([101, 114, 114, 111, 114, 32] ++ digT 30 n)) = x.data.toList ++ [58, 32] ++ y.data.toList ++ [58, 32, 101, 114, 114, 111, 114, 32] ++ digT 30 n
    simp
  rw [new_of (by omega), Option.bind_some, wrap_of rfl, Option.bind_some, new_of (by omega), Option.bind_some, wrap_of rfl, Option.bind_some, c1.nn, cond_false, c2.nn, cond_false, c1.of, Option.bind_some, show ((m : Int) == (m : Int)) = true from by simp, cond_true,
    c2.of, Option.bind_some, show ((n : Int) == (n : Int)) = true from by simp, cond_true, c1.is, Option.bind_some, show (((m : Int) == (n : Int)) == ((m : Int) == (n : Int))) = true from by simp, cond_true, c1.text z1, Option.bind_some,
    ble_of (by omega), cond_true, ble_of (by simp only [ByteArray.size_append]; omega), cond_true, ble_of (by simp only [ByteArray.size_append]; omega), cond_true, dec_of (by decide) (by omega), Option.bind_some, ble_of (by simp only [ByteArray.size_append]; omega), cond_true, beq_ba (tx t s m), cond_true,
    c2.text z2, Option.bind_some, ble_of (by omega), cond_true, ble_of (by simp only [ByteArray.size_append]; omega), cond_true, ble_of (by simp only [ByteArray.size_append]; omega), cond_true, dec_of (by decide) (by omega), Option.bind_some, ble_of (by simp only [ByteArray.size_append]; omega), cond_true, beq_ba (tx s t n), cond_true,
    c1.deep (by decide), Option.bind_some, show F37 100 (1 + 0, 9, ()) = some 1 from rfl, Option.bind_some, show ((1 : Int) == 1) = true from rfl, cond_true, wakes]
  rfl
/-! ### FaultTexts -/
theorem texts_loop (k : Nat) (s : ByteArray) (m : Int) (n1 n2 : Nat) (z : Int) (e1 e2 : GErr) (t1 t2 : ByteArray) (h1 : Chn e1 n1 t1 0) (h2 : Chn e2 n2 t2 0) (hm : 0 ≤ m ∧ m ≤ 20) {f : Nat} (hf : 20 < f) :
    ∃ e1' e2' P, iterR (R10_8 k) f (s, m, (n1 : Int), (n2 : Int), e1, e2, z, 0) = some (s, m, (n1 : Int), (n2 : Int), e1', e2', z) ∧ Chn e1' n1 (P ++ t1) m ∧ Chn e2' n2 (P ++ t2) m ∧ (P.size : Int) = 4 * m := by
  have := iter_post (R := R10_8 k) (fun x => ∃ i e1' e2' P, x = (s, m, (n1 : Int), (n2 : Int), e1', e2', z, i) ∧ 0 ≤ i ∧ i ≤ m ∧ Chn e1' n1 (P ++ t1) i ∧ Chn e2' n2 (P ++ t2) i ∧ (P.size : Int) = 4 * i) (fun x => m.toNat - x.2.2.2.2.2.2.2.toNat)
    (fun _ o => ∃ e1' e2' P, o = (s, m, (n1 : Int), (n2 : Int), e1', e2', z) ∧ Chn e1' n1 (P ++ t1) m ∧ Chn e2' n2 (P ++ t2) m ∧ (P.size : Int) = 4 * m) (by
      rintro x ⟨i, e1, e2, P, rfl, hi0, hi1, c1, c2, hP⟩
      by_cases hlt : i < m
      · have aa : ∀ t : ByteArray, (ByteArray.mk (Array.mk [(105 : UInt8), (110 : UInt8)]) ++ colon) ++ (P ++ t) = ((ByteArray.mk (Array.mk [(105 : UInt8), (110 : UInt8)]) ++ colon) ++ P) ++ t := fun t => by
          apply ba_eq
          simp
        refine .inr ⟨(s, m, (n1 : Int), (n2 : Int), .flt (ByteArray.mk (Array.mk [(105 : UInt8), (110 : UInt8)])) e1 true, .flt (ByteArray.mk (Array.mk [(105 : UInt8), (110 : UInt8)])) e2 true, z, i + 1), fun again => ?_, ⟨i + 1, _, _, (ByteArray.mk (Array.mk [(105 : UInt8), (110 : UInt8)]) ++ colon) ++ P, rfl, by omega, by omega, ?_, ?_, ?_⟩, ?_, fun _ h => h⟩
        · unfold R10_8
          simp only
          rw [decide_eq_true hlt, cond_true, wrap_of c1.nn, Option.bind_some, wrap_of c2.nn, Option.bind_some, wI_in (by omega)]
        · have := c1.wrap (ByteArray.mk (Array.mk [(105 : UInt8), (110 : UInt8)]))
          rw [aa, Int.add_comm] at this
          exact this
        · have := c2.wrap (ByteArray.mk (Array.mk [(105 : UInt8), (110 : UInt8)]))
          rw [aa, Int.add_comm] at this
          exact this
        · rw [ByteArray.size_append]
          have : (ByteArray.mk (Array.mk [(105 : UInt8), (110 : UInt8)]) ++ colon).size = 4 := rfl
          omega
        · show m.toNat - (i + 1).toNat < m.toNat - i.toNat
          omega
      · have : i = m := by omega
        subst this
        refine .inl ⟨_, fun again => ?_, e1, e2, P, rfl, c1, c2, hP⟩
        unfold R10_8
        simp only
        rw [decide_eq_false hlt, cond_false]) f (s, m, (n1 : Int), (n2 : Int), e1, e2, z, 0) ⟨0, e1, e2, ByteArray.empty, rfl, by omega, by omega, by simpa using h1, by simpa using h2, rfl⟩ (by show m.toNat - 0 < _; omega)
  obtain ⟨o, hh, e1', e2', P, rfl, r⟩ := this
  exact ⟨e1', e2', P, hh, r⟩
theorem faultTexts_plain (ns : List Int) (s : ByteArray) (a2 : Int) (hn : ns.length = 2 ∧ ∀ x ∈ ns, 0 ≤ x ∧ x ≤ 65535) (h2 : 0 ≤ a2 ∧ a2 ≤ 255) : ∃ k, F10 k (ns, s, a2, ()) = some true := by
  refine ⟨100, ?_⟩
  obtain ⟨hl, hn⟩ := hn
  obtain ⟨a, b, rfl⟩ : ∃ a b, ns = [a, b] := by
    match ns, hl with
    | [a, b], _ => exact ⟨a, b, rfl⟩
  have ha := hn a (by simp)
  have hb := hn b (by simp)
  unfold F10
  simp only
  by_cases hs : (s.size : Int) > 200
  · rw [decide_eq_true hs, cond_true, wakes]; rfl
  rw [decide_eq_false hs, cond_false]
  rw [show ([a, b] : List Int).getD (Int.toNat 0) 0 = a from rfl, show ([a, b] : List Int).getD (Int.toNat 1) 0 = b from rfl, num_in (a := a) (by omega), num_in (a := b) (by omega), wI_in (x := a2) (by omega)]
  generalize hm : 1 + a.toNat = m
  generalize hn' : 1 + b.toNat = n
  have hq : 0 ≤ a2.tmod 20 ∧ a2.tmod 20 ≤ 20 := by
    rw [Int.tmod_eq_emod_of_nonneg h2.1]
    omega
  generalize a2.tmod 20 = q at hq ⊢
  have c1 := chn_base s (n := m) (by omega)
  have c2 := chn_base s (n := n) (by omega)
  have hD1 := digB_size m
  have hD2 := digB_size n
  have hd1 := dig_size m
  have hc : colon.size = 2 := rfl
  have z1 : ((s ++ colon) ++ digB m).size ≤ 1000 := by
    simp only [ByteArray.size_append]
    omega
  have z2 : ((s ++ colon) ++ digB n).size ≤ 1000 := by
    simp only [ByteArray.size_append]
    omega
  have z3 : ((s ++ colon) ++ digB m).size = s.size + 8 + (ByteArray.mk (Array.mk (digT 30 m))).size := by
    simp only [ByteArray.size_append]
    have : (digB m).size = 6 + (ByteArray.mk (Array.mk (digT 30 m))).size := by
      show (errT ++ digT 30 m).length = 6 + (digT 30 m).length
      rw [List.length_append]
      rfl
    omega
  rw [new_of (by omega), Option.bind_some, new_of (by omega), Option.bind_some, c1.text (by omega), Option.bind_some]
  obtain ⟨e1, e2, P, hr, d1, d2, hP⟩ := texts_loop 100 s q m n ((((s ++ colon) ++ digB m).size : Nat) : Int) _ _ _ _ c1 c2 hq (f := 100) (by decide)
  show ((iterR (R10_8 100) 100 _).bind _) = _
  rw [hr, Option.bind_some]
  simp only
  have eqT : ((P ++ ((s ++ colon) ++ digB m)).toList == (P ++ ((s ++ colon) ++ digB n)).toList) = ((m : Int) == (n : Int)) := by
    rw [Bool.eq_iff_iff, beq_iff_eq, beq_iff_eq]
    constructor
    · intro h
      rw [ByteArray.toList_eq, ByteArray.toList_eq] at h
      simp only [ByteArray.data_append, Array.toList_append, List.append_assoc, List.append_cancel_left_eq] at h
      have h : errT ++ digT 30 m = errT ++ digT 30 n := h
      rw [dig_inj (by omega) (by omega) (List.append_cancel_left h)]
    · intro h
      have : m = n := by omega
      rw [this]
  have s1 : (P ++ ((s ++ colon) ++ digB m)).size = P.size + ((s ++ colon) ++ digB m).size := ByteArray.size_append
  have s2 : (P ++ ((s ++ colon) ++ digB n)).size = P.size + ((s ++ colon) ++ digB n).size := ByteArray.size_append
  rw [d1.nn, cond_false, d2.nn, cond_false, d1.text (by omega), Option.bind_some, show ((((P ++ ((s ++ colon) ++ digB m)).size : Nat) : Int) == IntKind.i64.wrap (((((s ++ colon) ++ digB m).size : Nat) : Int) + IntKind.i64.wrap (4 * q))) = true from by
      rw [beq_iff_eq, wI_in (x := 4 * q) (by omega), wI_in (by omega), s1]
      omega, cond_true, Option.bind_some, d2.text (by omega), Option.bind_some, eqT, show (((m : Int) == (n : Int)) == ((m : Int) == (n : Int))) = true from by simp, cond_true, d1.deep (by omega), Option.bind_some, show (q == q) = true from by simp, cond_true, dec_of (by decide) (by omega), Option.bind_some,
    show (((((s ++ colon) ++ digB m).size : Nat) : Int) == IntKind.i64.wrap (IntKind.i64.wrap ((s.size : Int) + 8) + ((ByteArray.mk (Array.mk (digT 30 m))).size : Int))) = true from by
      rw [beq_iff_eq, wI_in (x := (s.size : Int) + 8) (by omega), wI_in (by omega), z3]
      omega, cond_true, wakes]
  rfl
theorem faultTexts : Rows.FaultTextsCardSaid := faultTexts_card (faultTexts_row fun a0 a1 a2 h0 _ h2 => faultTexts_plain a0 a1 a2 h0 h2)
end Go.Proofs.YtpnnmpdjgnbkhaaDoor.W
