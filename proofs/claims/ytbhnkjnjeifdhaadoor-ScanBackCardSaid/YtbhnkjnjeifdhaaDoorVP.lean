/-
  ScanBack: for every input that the statement lets in the law returns true; its tied card. No conditions.
-/
import Derived.Test.YtbhnkjnjeifdhaaDoorVR
import Derived.Test.YtbhnkjnjeifdhaaDoorVQ
set_option linter.unusedVariables false
namespace Go.Proofs.YtbhnkjnjeifdhaaDoor.W
open Go V
theorem isBlkW {b : Blk} (h : WT78 b) : IsBlk b := by
  obtain ⟨_, _, h3, _, h5, _, h7, _⟩ := h
  exact ⟨⟨h3.1, h3.2⟩, h5.2, h7.1⟩
theorem isIW {l : List Itm} (h : WL_T80 l) : IsI l := fun x hx => isBlkW (h.2 x hx).2.1
theorem getD2 {l : List Int} {P : Int → Prop} (hl : l.length = 2 ∧ ∀ y ∈ l, P y) (i : Nat) (hi : i < 2) : P (l.getD i 0) := by
  rw [List.getD_eq_getElem?_getD, List.getElem?_eq_getElem (by omega)]
  exact hl.2 _ (List.getElem_mem _)
/-! ### what stands in a segment -/
abbrev Grp := T94
def secsF (S : List Sc) (p : Int) (n : Nat) : List Sc := (List.range n).map fun (j : Nat) => S.getD (p + (j : Int)).toNat zs
theorem secsF_len (S : List Sc) (p : Int) (n : Nat) : (secsF S p n).length = n := by simp [secsF]
theorem secsF_succ (S : List Sc) (p : Int) (n : Nat) : secsF S p (n + 1) = secsF S p n ++ [S.getD (p + (n : Int)).toNat zs] := by simp [secsF, List.range_succ]
theorem secsF_get (S : List Sc) (p : Int) {n j : Nat} (h : j < n) : (secsF S p n).getD j zs = S.getD (p + (j : Int)).toNat zs := by
  unfold secsF
  rw [List.getD_eq_getElem?_getD, List.getElem?_map, List.getElem?_range h]; rfl
theorem secsF_cons (S : List Sc) (p : Int) (n : Nat) : secsF S p (n + 1) = S.getD p.toNat zs :: secsF S (p + 1) n := by
  unfold secsF
  rw [List.range_succ_eq_map, List.map_cons, List.map_map]
  rw [show p + ((0 : Nat) : Int) = p by omega]
  congr 1
  apply List.map_congr_left
  intro j _
  simp only [Function.comp]
  rw [show p + ((j.succ : Nat) : Int) = p + 1 + (j : Int) by omega]
theorem secsF_add (S : List Sc) (p : Int) (m n : Nat) : secsF S p (m + n) = secsF S p m ++ secsF S (p + (m : Int)) n := by
  induction m generalizing p with
  | zero => simp [secsF]
  | succ m ih =>
    rw [show m + 1 + n = (m + n) + 1 by omega, secsF_cons, secsF_cons, ih, show p + 1 + (m : Int) = p + ((m + 1 : Nat) : Int) by omega]
    rfl
def SecS (S : List Sc) : Prop := AllSec S
theorem zs_sec : zs.length = 64 ∧ ∀ y ∈ zs, 0 ≤ y ∧ y ≤ 255 := ⟨by simp [zs], fun y hy => by rw [zs, List.mem_replicate] at hy; omega⟩
theorem getD_sec {S : List Sc} (h : AllSec S) (i : Nat) : (S.getD i zs).length = 64 ∧ ∀ y ∈ S.getD i zs, 0 ≤ y ∧ y ≤ 255 := by
  by_cases hi : i < S.length
  · rw [List.getD_eq_getElem?_getD, List.getElem?_eq_getElem hi]; exact h _ (List.getElem_mem hi)
  · rw [List.getD_eq_getElem?_getD, List.getElem?_eq_none (by omega)]; exact zs_sec
theorem secsF_sec {S : List Sc} (h : AllSec S) (p : Int) (n : Nat) : AllSec (secsF S p n) := by
  intro x hx
  obtain ⟨j, _, rfl⟩ := List.mem_map.1 hx
  exact getD_sec h _
theorem secs_loop {k : Nat} (hk : 1000 < k) {g : Geo} (hg : gOk g = true) {seg off seq z1 z2 z3 f d : Int} {free : List Int} {S : List Sc} (hs : 0 ≤ seg ∧ seg < g.2) (ho : 0 ≤ off ∧ off ≤ g.3) (hS : 4 + g.2 * g.3 ≤ S.length ∧ S.length ≤ 2000) :
    L84_3 k k (off, f, d, g.1, g.2, g.3, g.4, seg, off, seq, free, z1, z2, z3, [], S, [], [], [], []) = some (.inr (f, d, g.1, g.2, g.3, g.4, seg, off, seq, free, z1, z2, z3, secsF S (4 + seg * g.3 + off) (g.3 - off).toNat, S, [], [], [], [])) := by
  have hgs := gOk_spec hg
  have har := area hg
  have hsi := seg_in hg hs
  unfold L84_3
  have := iter_out (R := R84_3 k) (fun x => ∃ j : Nat, (j : Int) ≤ g.3 - off ∧ x = (off + (j : Int), f, d, g.1, g.2, g.3, g.4, seg, off, seq, free, z1, z2, z3, secsF S (4 + seg * g.3 + off) j, S, [], [], [], [])) (fun x => (g.3 - x.1).toNat)
    (fun _ => .inr (f, d, g.1, g.2, g.3, g.4, seg, off, seq, free, z1, z2, z3, secsF S (4 + seg * g.3 + off) (g.3 - off).toNat, S, [], [], [], [])) (fun x hx => by
      obtain ⟨j, hj, rfl⟩ := hx
      by_cases h : off + (j : Int) < g.3
      · right
        have hsg : F75 k (T23.mk g.1 g.2 g.3 g.4, seg, ()) = _ := seg_eq k hg hs
        have w1 : IntKind.i64.wrap (off + (j : Int) + 1) = off + ((j + 1 : Nat) : Int) := by rw [wI_in (by omega)]; omega
        have w2 : IntKind.i64.wrap (4 + seg * g.3 + (off + (j : Int))) = 4 + seg * g.3 + off + (j : Int) := by rw [wI_in (by omega)]; omega
        have hrd := read_eq (k := k) (f := f) (d := d) (S := S) (L := []) hS.2 (by simp) hk (4 + seg * g.3 + off + (j : Int))
        rw [if_pos (by omega), rd_nil] at hrd
        have hroom : ∀ y : Sc, (secsF S (4 + seg * g.3 + off) j).length + [y].length ≤ roomMost := fun y => by rw [secsF_len]; simp [roomMost]; omega
        refine ⟨_, fun again => ?_, ⟨j + 1, by omega, rfl⟩, by simp only; omega, rfl⟩
        unfold R84_3
        simp only [decide_eq_true h, cond_true, hsg, Option.bind_some, w1, w2, hrd, bne_self_eq_false, cond_false, set1, hroom, decide_true, secsF_succ]
      · left
        intro again
        have hj' : (g.3 - off).toNat = j := by omega
        unfold R84_3
        simp only [decide_eq_false h, cond_false, hj']) (n := k) (x := (off, f, d, g.1, g.2, g.3, g.4, seg, off, seq, free, z1, z2, z3, [], S, [], [], [], [])) ⟨0, by omega, by simp [secsF]⟩ (by simp only; omega)
  exact this
theorem spl_loop {k : Nat} (hk : 2000 < k) {g : Geo} (hg : gOk g = true) {seg off : Int} (hs : 0 ≤ seg ∧ seg < g.2) (ho : 0 ≤ off ∧ off ≤ g.3) {at1 : List Int} (hl : at1.length ≤ 1000) (hat : ∀ i ∈ at1, -1 ≤ i ∧ i ≤ 100000) {f d q z1 z2 z3 c1 c2 : Int} {free a1 secs : _} {a2 r1 r3 : List Int} {r2 : List Itm} {S : List Sc} {L : List Wr} :
    L84_14 k k (at1, (at1.length : Int), 0, f, d, g.1, g.2, g.3, g.4, seg, off, q, free, z1, z2, z3, a1, a2, c1, c2, secs, S, L, r2, r1, r3, []) = some (f, d, seg, off, q, free, z1, z2, z3, a1, a2, c1, c2, secs, S, L, r2, r1, r3, placesF (4 + seg * g.3 + off) at1) := by
  have hgs := gOk_spec hg
  have har := area hg
  have hsi := seg_in hg hs
  unfold L84_14
  have := iter_out (R := R84_14 k) (fun x => ∃ (j : Nat) (o : List Int), j ≤ at1.length ∧ o.length = j ∧ x = (at1, (at1.length : Int), (j : Int), f, d, g.1, g.2, g.3, g.4, seg, off, q, free, z1, z2, z3, a1, a2, c1, c2, secs, S, L, r2, r1, r3, o)) (fun x => at1.length - x.2.2.1.toNat)
    (fun x => (f, d, seg, off, q, free, z1, z2, z3, a1, a2, c1, c2, secs, S, L, r2, r1, r3, x.2.2.2.2.2.2.2.2.2.2.2.2.2.2.2.2.2.2.2.2.2.2.2.2.2.2 ++ placesF (4 + seg * g.3 + off) (at1.drop x.2.2.1.toNat))) (fun x hx => by
      obtain ⟨j, o, hj, ho2, rfl⟩ := hx
      rcases Nat.lt_or_ge j at1.length with h | h
      · right
        have hd := drop_cons 0 h
        have hmem : at1.getD j 0 ∈ at1 := by rw [List.getD_eq_getElem?_getD, List.getElem?_eq_getElem h]; exact List.getElem_mem h
        generalize hy : at1.getD j 0 = y at hd hmem
        have hyb := hat y hmem
        have hsg : F75 k (T23.mk g.1 g.2 g.3 g.4, seg, ()) = _ := seg_eq k hg hs
        have hr : inRange (j : Int) at1.length = true := inRange_true (by omega)
        have w1 : IntKind.i64.wrap ((j : Int) + 1) = ((j + 1 : Nat) : Int) := by rw [wI_in (by omega)]; omega
        have w2 : IntKind.i64.wrap (4 + seg * g.3 + off) = 4 + seg * g.3 + off := wI_in (by omega)
        have w3 : IntKind.i64.wrap (4 + seg * g.3 + off + y) = 4 + seg * g.3 + off + y := wI_in (by omega)
        have hroom : ∀ y : Int, o.length + [y].length ≤ roomMost := fun y => by simp [roomMost]; omega
        refine ⟨(at1, (at1.length : Int), ((j + 1 : Nat) : Int), f, d, g.1, g.2, g.3, g.4, seg, off, q, free, z1, z2, z3, a1, a2, c1, c2, secs, S, L, r2, r1, r3, o ++ [if y ≥ 0 then 4 + seg * g.3 + off + y else 0]), fun again => ?_, ⟨j + 1, _, h, by simp [ho2], rfl⟩, by simp only [Int.toNat_natCast]; omega, ?_⟩
        · unfold R84_14
          simp only [Int.toNat_natCast, hr, cond_true, w1, hy, set1, hroom, decide_true]
          rw [show decide ((j : Int) < (at1.length : Int)) = true by simp; omega, cond_true]
          by_cases h0 : y ≥ 0
          · rw [decide_eq_true h0, cond_true, if_pos h0]
            simp only [hsg, Option.bind_some, w2, w3]
          · rw [decide_eq_false h0, cond_false, if_neg h0]
        · simp only [Int.toNat_natCast, hd, placesF, List.map_cons, List.append_assoc, List.singleton_append]
      · left
        intro again
        have : j = at1.length := by omega
        subst this
        unfold R84_14
        have hz : at1.drop at1.length = [] := List.drop_of_length_le (Nat.le_refl _)
        simp only [Int.toNat_natCast, hz]
        simp [placesF]) (n := k) (x := (at1, (at1.length : Int), 0, f, d, g.1, g.2, g.3, g.4, seg, off, q, free, z1, z2, z3, a1, a2, c1, c2, secs, S, L, r2, r1, r3, [])) ⟨0, [], by omega, rfl, rfl⟩ (by simp; omega)
  simpa using this
def errG : GErr := .flt (txt [103, 114, 111, 117, 112]) (.num 17) false
def frontP (g : Geo) (a : Pl) : Int := 4 + a.Seg * g.3 + a.Off
def atF (g : Geo) (S : List Sc) (a : Pl) : Option (List Itm × List Int × Pl) :=
  (readF a.Seq (secsF S (frontP g a) (g.3 - a.Off).toNat)).map fun y => (y.1, placesF (frontP g a) (latG 0 y.1), .mk a.Seg (a.Off + y.2.1) (IntKind.u32.wrap (a.Seq + IntKind.u32.wrap (y.2.2 : Nat))) a.Free)
theorem scanAt_eq {k : Nat} (hk : 2000 < k) {g : Geo} (hg : gOk g = true) {a : Pl} (hs : 0 ≤ a.Seg ∧ a.Seg < g.2) (ho : 0 ≤ a.Off ∧ a.Off ≤ g.3) (hq : 0 ≤ a.Seq ∧ a.Seq < 4294967296) {f d : Int} {S : List Sc} (hA : AllSec S) (hS : 4 + g.2 * g.3 ≤ S.length ∧ S.length ≤ 2000) :
    F84 k (g.1, g.2, g.3, g.4, a.1, a.2, a.3, a.4, f, d, S, []) = some (match atF g S a with
      | none => .inl (a.1, a.2, a.3, a.4, errG, f, d, [], [], S, [])
      | some x => .inr (x.1, x.2.2.1, x.2.2.2, x.2.2.3, x.2.2.4, .nil, f, d, x.2.1, S, [])) := by
  have hgs := gOk_spec hg
  unfold F84 atF frontP
  have h1 := secs_loop (k := k) (by omega) hg (seg := a.Seg) (off := a.Off) (seq := a.Seq) (z1 := 0) (z2 := 0) (z3 := 0) (f := f) (d := d) (free := a.Free) (S := S) hs ho hS
  have hl := secsF_len S (4 + a.Seg * g.3 + a.Off) (g.3 - a.Off).toNat
  have h2 := gread_eq (k := k) hq (secsF_sec hA (4 + a.Seg * g.3 + a.Off) (g.3 - a.Off).toNat) (by rw [hl]; omega) (by rw [hl]; omega)
  simp only [h1, Option.bind_some, sumK, h2]
  cases hr : readF a.Seq (secsF S (4 + a.Seg * g.3 + a.Off) (g.3 - a.Off).toNat) with
  | none => rfl
  | some y =>
    obtain ⟨i1, i2, i3, i4⟩ := readF_some (secsF_sec hA _ _) hr
    obtain ⟨z1, z2, _⟩ := goodG_spec i1
    have h3 := spl_loop (k := k) hk hg hs ho (at1 := latG 0 y.1) (by rw [latG_len']; omega) (latG_in z2) (f := f) (d := d) (q := a.Seq) (z1 := 0) (z2 := 0) (z3 := 0) (c1 := (y.2.1 : Int)) (c2 := (y.2.2 : Int)) (free := a.Free) (a1 := y.1) (a2 := latG 0 y.1) (secs := y.1) (S := S) (L := []) (r1 := []) (r2 := []) (r3 := [])
    have w1 : IntKind.i64.wrap (a.Off + (y.2.1 : Int)) = a.Off + (y.2.1 : Int) := wI_in (by rw [hl] at i3; omega)
    simp only [Bool.not_true, cond_false, Option.map_some, h3, Option.bind_some, w1]
/-! ### the next group, all groups -/
def nextF (g : Geo) (S : List Sc) (a : Pl) : Option (List Itm × List Int × Pl) :=
  match atF g S a with
  | some x => some x
  | none => match a.Free with
    | [] => none
    | s :: r => atF g S (.mk s 0 a.Seq r)
theorem atF_ok {g : Geo} {S : List Sc} (hA : AllSec S) {a : Pl} (h : jOk g a = true) {x : List Itm × List Int × Pl} (hx : atF g S a = some x) : jOk g x.2.2 = true ∧ (0 ≤ x.2.2.Seq ∧ x.2.2.Seq < 4294967296) ∧ x.2.2.Free.length ≤ a.Free.length ∧ (a.Off < x.2.2.Off ∧ x.2.2.Free = a.Free) := by
  obtain ⟨hg, h1, h2, h3, h4, h5⟩ := jOk_spec h
  unfold atF at hx
  cases hr : readF a.Seq (secsF S (frontP g a) (g.3 - a.Off).toNat) with
  | none => rw [hr] at hx; cases hx
  | some y =>
    rw [hr] at hx
    cases hx
    obtain ⟨i1, i2, i3, i4⟩ := readF_some (secsF_sec hA _ _) hr
    rw [secsF_len] at i3
    have hpos := lay_pos i1 a.Seq
    rw [← i4, List.length_take] at hpos
    refine ⟨?_, w32_rng _, Nat.le_refl _, by simp only; omega, rfl⟩
    unfold jOk
    simp only [hg, Bool.true_and, Bool.and_eq_true, decide_eq_true_eq]
    exact ⟨⟨⟨⟨h1, h2⟩, by omega⟩, by omega⟩, h5⟩
theorem freeOk_tail {n seg last x : Int} {r : List Int} (h : freeOk n seg last (x :: r) = true) : last < x ∧ x < n ∧ x ≠ seg ∧ freeOk n seg x r = true := by
  unfold freeOk at h
  simp only [Bool.and_eq_true, decide_eq_true_eq] at h
  exact ⟨h.1.1.1, h.1.1.2, h.1.2, h.2⟩
theorem freeOk_gt {n seg : Int} : ∀ {l : List Int} {last : Int}, freeOk n seg last l = true → ∀ x ∈ l, last < x ∧ x < n ∧ x ≠ seg
  | [], _, _, x, hx => by cases hx
  | y :: r, last, h, x, hx => by
    obtain ⟨h1, h2, h3, h4⟩ := freeOk_tail h
    rcases List.mem_cons.1 hx with rfl | hx
    · exact ⟨h1, h2, h3⟩
    · have := freeOk_gt h4 x hx; exact ⟨by omega, this.2.1, this.2.2⟩
theorem freeOk_of {n seg : Int} : ∀ {l : List Int} {last seg' : Int}, freeOk n seg' last l = true → (∀ x ∈ l, x ≠ seg) → freeOk n seg last l = true
  | [], _, _, _, _ => rfl
  | y :: r, last, seg', h, hs => by
    obtain ⟨h1, h2, h3, h4⟩ := freeOk_tail h
    unfold freeOk
    rw [decide_eq_true h1, decide_eq_true h2, decide_eq_true (hs y (by simp)), freeOk_of h4 fun x hx => hs x (by simp [hx])]
    rfl
theorem freeOk_last {n seg : Int} : ∀ {l : List Int} {last last' : Int}, last' ≤ last → freeOk n seg last l = true → freeOk n seg last' l = true
  | [], _, _, _, _ => rfl
  | y :: r, last, last', hl, h => by
    obtain ⟨h1, h2, h3, h4⟩ := freeOk_tail h
    unfold freeOk
    rw [decide_eq_true (show last' < y by omega), decide_eq_true h2, decide_eq_true h3, h4]; rfl
/-- the first free segment's beginning may be a place, too -/
theorem jOk_move {g : Geo} {a : Pl} (h : jOk g a = true) {s : Int} {r : List Int} (hf : a.Free = s :: r) : jOk g (.mk s 0 a.Seq r) = true ∧ s ≠ a.Seg := by
  obtain ⟨hg, h1, h2, h3, h4, h5⟩ := jOk_spec h
  have hgs := gOk_spec hg
  rw [hf] at h5
  obtain ⟨f1, f2, f3, f4⟩ := freeOk_tail h5
  refine ⟨?_, f3⟩
  unfold jOk
  simp only [hg, Bool.true_and, Bool.and_eq_true, decide_eq_true_eq]
  exact ⟨⟨⟨⟨by omega, f2⟩, by omega⟩, by omega⟩, freeOk_last (by omega) (freeOk_of f4 fun x hx => by have := freeOk_gt f4 x hx; omega)⟩
theorem nextF_ok {g : Geo} {S : List Sc} (hA : AllSec S) {a : Pl} (h : jOk g a = true) {x : List Itm × List Int × Pl} (hx : nextF g S a = some x) : jOk g x.2.2 = true ∧ (0 ≤ x.2.2.Seq ∧ x.2.2.Seq < 4294967296) ∧ x.2.2.Free.length ≤ a.Free.length := by
  unfold nextF at hx
  cases h1 : atF g S a with
  | some y => rw [h1] at hx; cases hx; obtain ⟨i1, i2, i3, _⟩ := atF_ok hA h h1; exact ⟨i1, i2, i3⟩
  | none =>
    rw [h1] at hx
    simp only at hx
    cases hf : a.Free with
    | nil => rw [hf] at hx; cases hx
    | cons s r =>
      rw [hf] at hx
      obtain ⟨i1, i2, i3, _⟩ := atF_ok hA (jOk_move h hf).1 hx
      exact ⟨i1, i2, by simp only at i3; simp; omega⟩
theorem is17 (k : Nat) : F45 k (errG, .num 17, ()) = some true := rfl
theorem isnil (k : Nat) : F45 k (.nil, .num 17, ()) = some false := rfl
theorem next_eq {k : Nat} (hk : 2000 < k) {g : Geo} {a : Pl} (hj : jOk g a = true) (hq : 0 ≤ a.Seq ∧ a.Seq < 4294967296) {f d : Int} {S : List Sc} (hA : AllSec S) (hS : 4 + g.2 * g.3 ≤ S.length ∧ S.length ≤ 2000) :
    ∃ b : Pl, F60 k (g.1, g.2, g.3, g.4, a.1, a.2, a.3, a.4, f, d, S, []) = some (match nextF g S a with
      | none => .inl (b.1, b.2, b.3, b.4, errG, f, d, [], [], S, [])
      | some x => .inr (x.1, x.2.2.1, x.2.2.2, x.2.2.3, x.2.2.4, .nil, f, d, x.2.1, S, [])) := by
  obtain ⟨hg, h1, h2, h3, h4, h5⟩ := jOk_spec hj
  have hgs := gOk_spec hg
  have ha := scanAt_eq (k := k) hk hg (a := a) ⟨h1, h2⟩ ⟨h3, h4⟩ hq (f := f) (d := d) hA hS
  unfold F60 nextF
  simp only [ha, Option.bind_some]
  cases hx : atF g S a with
  | some x => exact ⟨a, by simp only [sumK, isnil, Option.bind_some, Bool.not_false, cond_true]⟩
  | none =>
    simp only [sumK, is17, Option.bind_some, Bool.not_true, cond_false]
    cases hf : a.Free with
    | nil => exact ⟨a, by simp only [List.length_nil, show ((((0 : Nat) : Int)) == 0) = true from rfl, cond_true, hf]⟩
    | cons s r =>
      obtain ⟨j1, _⟩ := jOk_move hj hf
      obtain ⟨_, k1, k2, k3, k4, _⟩ := jOk_spec j1
      have hb := scanAt_eq (k := k) hk hg (a := .mk s 0 a.Seq r) ⟨k1, k2⟩ ⟨k3, k4⟩ hq (f := f) (d := d) hA hS
      simp only at hb
      have e0 : (((s :: r).length : Int) == 0) = false := beq_ne (by simp; omega)
      have e1 : List.drop (Int.toNat 1) (List.take (((s :: r).length : Int)).toNat (s :: r)) = r := by
        rw [Int.toNat_natCast, List.take_of_length_le (Nat.le_refl _)]; rfl
      have e2 : (decide ((0 : Int) ≤ 1) && decide ((1 : Int) ≤ ((s :: r).length : Int)) && decide (((s :: r).length : Int) ≤ ((s :: r).length : Int))) = true := by simp; omega
      have e3 : (s :: r).getD (Int.toNat 0) 0 = s := rfl
      refine ⟨.mk s 0 a.Seq r, ?_⟩
      simp only [e0, cond_false, inRange_true (show 0 ≤ (0 : Int) ∧ (0 : Int) < ((s :: r).length : Nat) by simp), cond_true, e2, e1, e3, hb, Option.bind_some]
      cases atF g S (.mk s 0 a.Seq r) with
      | none => rfl
      | some x => rfl
inductive Chain15 (g : Geo) (S : List Sc) : Pl → List (List Itm × List Int) → Pl → Prop
  | nil {a : Pl} : nextF g S a = none → Chain15 g S a [] a
  | cons {a b c : Pl} {l : List Itm} {p : List Int} {gs : List (List Itm × List Int)} : nextF g S a = some (l, p, b) → Chain15 g S b gs c → Chain15 g S a ((l, p) :: gs) c
def grpsF (gs : List (List Itm × List Int)) : List Grp := gs.map fun x => .mk x.1 x.2
theorem rd_loop40 {k : Nat} (hk : 2000 < k) {g : Geo} {f d : Int} {S : List Sc} (hA : AllSec S) (hS : 4 + g.2 * g.3 ≤ S.length ∧ S.length ≤ 2000) {a c : Pl} {gs : List (List Itm × List Int)} (h : Chain15 g S a gs c) :
    ∀ (n : Nat) (acc : List Grp), gs.length < n → acc.length + gs.length ≤ 100000 → jOk g a = true → 0 ≤ a.Seq ∧ a.Seq < 4294967296 →
      L40_7 k n (f, d, a.1, a.2, a.3, a.4, 0, 0, 0, g.1, g.2, g.3, g.4, acc, S, [], []) = some (.inl (0, f, d, acc ++ grpsF gs, c.1, c.2, c.3, c.4, S, [])) := by
  induction h with
  | @nil a hn =>
    intro n acc hlt _ hj hq
    obtain ⟨n, rfl⟩ : ∃ q, n = q + 1 := ⟨n - 1, by omega⟩
    obtain ⟨b, hb⟩ := next_eq (k := k) hk hj hq (f := f) (d := d) hA hS
    rw [hn] at hb
    rw [show ∀ x, L40_7 k (n + 1) x = R40_7 k (L40_7 k n) x from fun _ => rfl]
    unfold R40_7
    simp only [hb, Option.bind_some, sumK, is17, cond_true, grpsF, List.map_nil, List.append_nil]
  | @cons a b c l p gs hn _ ih =>
    intro n acc hlt hlen hj hq
    obtain ⟨n, rfl⟩ : ∃ q, n = q + 1 := ⟨n - 1, by omega⟩
    obtain ⟨b', hb⟩ := next_eq (k := k) hk hj hq (f := f) (d := d) hA hS
    rw [hn] at hb
    obtain ⟨i1, i2, i3⟩ := nextF_ok hA hj hn
    simp only [List.length_cons] at hlt hlen
    have hroom : ∀ y : Grp, acc.length + [y].length ≤ roomMost := fun y => by simp [roomMost]; omega
    have hset : ∀ y z : Grp, (List.replicate 1 y).set 0 z = [z] := fun _ _ => rfl
    rw [show ∀ x, L40_7 k (n + 1) x = R40_7 k (L40_7 k n) x from fun _ => rfl]
    unfold R40_7
    simp only [hb, Option.bind_some, sumK, isnil, cond_false, GErr.isNil, Bool.not_true, hset, hroom, decide_true, cond_true]
    have := ih n (acc ++ [.mk l p]) (by omega) (by simp; omega) i1 i2
    simp only [grpsF, List.map_cons, List.append_assoc, List.singleton_append] at this ⊢
    exact this
theorem sread_eq {k : Nat} (hk : 2000 < k) {g : Geo} {f d : Int} {S : List Sc} (hA : AllSec S) (hS : 4 + g.2 * g.3 ≤ S.length ∧ S.length ≤ 2000) {a c : Pl} {gs : List (List Itm × List Int)} (h : Chain15 g S a gs c) (hj : jOk g a = true) (hfl : a.Free.length ≤ 1000) (hq : 0 ≤ a.Seq ∧ a.Seq < 4294967296) (hlen : gs.length ≤ 1000) :
    F40 k (g.1, g.2, g.3, g.4, a.1, a.2, a.3, a.4, f, d, S, []) = some (.inr (c.1, c.2, c.3, c.4, 0, f, d, grpsF gs, S, [])) := by
  have hn := newJ_eq (k := k) (g := g) (a := a) (f := f) (d := d) (S := S) (L := []) (by omega) (by omega) hS.2 (by simp)
  rw [if_pos ⟨hj, hS.1⟩] at hn
  have hat := at_eq (k := k) (g := g) (a := a) (show a.Free.length ≤ 1000000 by omega) (f := f) (d := d) (S := S) (L := [])
  have hl := rd_loop40 (k := k) hk (f := f) (d := d) hA hS h k [] (by omega) (by simp; omega) hj hq
  unfold F40
  simp only [hn, Option.bind_some, sumK, bne_self_eq_false, cond_false, hat, hl, List.nil_append]
/-! ### ScanNone -/
theorem wakes15 (k : Nat) (hk : 400 ≤ k) : F39 k () = some true := by
  obtain ⟨m, rfl⟩ : ∃ m, k = m + 400 := ⟨k - 400, by omega⟩
  kernel_rfl
/-! ### where a journal may still write -/
def Open (g : Geo) (a : Pl) (p : Int) : Prop := ∃ s o : Int, 0 ≤ o ∧ o < g.3 ∧ p = 4 + s * g.3 + o ∧ ((s = a.Seg ∧ a.Off ≤ o) ∨ s ∈ a.Free)
theorem wrs_snoc : ∀ (l : List Sc) (p : Int) (x : Sc), wrs p (l ++ [x]) = wrs p l ++ [⟨p + (l.length : Int), x⟩] := by
  intro l
  induction l with
  | nil => intro p x; simp [wrs]
  | cons y r ih =>
    intro p x
    simp only [List.cons_append, wrs, ih, List.length_cons]
    rw [show p + 1 + (r.length : Int) = p + ((r.length + 1 : Nat) : Int) by omega]
theorem rd_wrs (S : List Sc) : ∀ (l : List Sc) (p i : Int), rd S (wrs p l) i = if p ≤ i ∧ i < p + l.length then l.getD (i - p).toNat zs else S.getD i.toNat zs := by
  suffices h : ∀ (n : Nat) (l : List Sc) (p i : Int), l.length = n → rd S (wrs p l) i = if p ≤ i ∧ i < p + l.length then l.getD (i - p).toNat zs else S.getD i.toNat zs by
    intro l p i; exact h _ l p i rfl
  intro n
  induction n with
  | zero =>
    intro l p i hl
    have : l = [] := List.eq_nil_of_length_eq_zero hl
    subst this
    rw [if_neg (by simp only [List.length_nil]; omega)]
    exact rd_nil S i
  | succ n ih =>
    intro l p i hl
    have hne : l ≠ [] := fun e => by subst e; cases hl
    obtain ⟨r, x, rfl⟩ : ∃ r x, l = r ++ [x] := ⟨l.dropLast, l.getLast hne, (List.dropLast_concat_getLast hne).symm⟩
    simp only [List.length_append, List.length_singleton] at hl
    rw [wrs_snoc, rd_snoc, ih r p i (by omega)]
    simp only [List.length_append, List.length_singleton]
    by_cases h1 : p + (r.length : Int) = i
    · rw [if_pos h1, if_pos (by omega)]
      rw [List.getD_eq_getElem?_getD, List.getElem?_append_right (by omega), show (i - p).toNat - r.length = 0 by omega]
      rfl
    · rw [if_neg h1]
      by_cases h2 : p ≤ i ∧ i < p + (r.length : Int)
      · rw [if_pos h2, if_pos (by omega)]
        rw [List.getD_eq_getElem?_getD, List.getD_eq_getElem?_getD, List.getElem?_append_left (by omega)]
      · rw [if_neg h2, if_neg (by omega)]
theorem wrs_atsS {S : List Sc} : ∀ (l : List Sc) (p : Int), 0 ≤ p → p + l.length ≤ S.length → Ats S (wrs p l) := by
  intro l
  induction l with
  | nil => intro p _ _; exact Ats.nil S
  | cons x r ih =>
    intro p hp hl w hw
    simp only [List.length_cons] at hl
    rcases List.mem_cons.1 hw with rfl | hw
    · simp only; omega
    · exact ih (p + 1) (by omega) (by omega) w hw
theorem fl_wrs {S : List Sc} {l : List Sc} {p : Int} (hp : 0 ≤ p ∧ p + l.length ≤ S.length) (i : Nat) : (fl S (wrs p l)).getD i zs = if p ≤ i ∧ (i : Int) < p + l.length then l.getD ((i : Int) - p).toNat zs else S.getD i zs := by
  have := fl_get (wrs_atsS l p hp.1 hp.2) (j := (i : Int)) (by omega)
  rw [Int.toNat_natCast] at this
  rw [this, rd_wrs, Int.toNat_natCast]
theorem fl_sec {S : List Sc} {l : List Sc} {p : Int} (hp : 0 ≤ p ∧ p + l.length ≤ S.length) (hS : AllSec S) (hl : AllSec l) : AllSec (fl S (wrs p l)) := by
  intro x hx
  obtain ⟨i, hi, rfl⟩ := List.getElem_of_mem hx
  have h := fl_wrs hp i
  rw [List.getD_eq_getElem?_getD, List.getElem?_eq_getElem hi] at h
  simp only [Option.getD_some] at h
  rw [h]
  split
  · exact getD_sec hl _
  · exact getD_sec hS _
theorem secsF_congr {S S' : List Sc} {p : Int} {n : Nat} (h : ∀ j : Nat, j < n → S'.getD (p + (j : Int)).toNat zs = S.getD (p + (j : Int)).toNat zs) : secsF S' p n = secsF S p n := by
  unfold secsF
  apply List.map_congr_left
  intro j hj
  exact h j (List.mem_range.1 hj)
/-- laid sectors, and what stands behind -/
theorem secsF_laid {S : List Sc} {l : List Sc} {p : Int} {n : Nat} (hn : l.length ≤ n) (h : ∀ j : Nat, j < l.length → S.getD (p + (j : Int)).toNat zs = l.getD j zs) : secsF S p n = l ++ secsF S (p + l.length) (n - l.length) := by
  rw [show n = l.length + (n - l.length) by omega, secsF_add, show l.length + (n - l.length) - l.length = n - l.length by omega]
  congr 1
  apply List.ext_getElem (by rw [secsF_len])
  intro j h1 h2
  have e1 := secsF_get S p (n := l.length) (j := j) h2
  rw [List.getD_eq_getElem?_getD, List.getElem?_eq_getElem h1] at e1
  simp only [Option.getD_some] at e1
  have e2 := h j h2
  rw [List.getD_eq_getElem?_getD (l := l), List.getElem?_eq_getElem h2] at e2
  simp only [Option.getD_some] at e2
  rw [e1, e2]
/-- no group begins here -/
theorem atF_stale {g : Geo} {S : List Sc} {a : Pl} (h : a.Off < g.3 → Su.seqOf (S.getD (frontP g a).toNat zs) ≠ a.Seq) : atF g S a = none := by
  unfold atF
  by_cases ho : a.Off < g.3
  · obtain ⟨n, hn⟩ : ∃ n, (g.3 - a.Off).toNat = n + 1 := ⟨(g.3 - a.Off).toNat - 1, by omega⟩
    rw [hn, secsF_cons, readF_num (h ho)]; rfl
  · rw [show (g.3 - a.Off).toNat = 0 by omega]
    have : readF a.Seq (secsF S (frontP g a) 0) = none := rfl
    rw [this]; rfl
/-- a laid group is read -/
theorem atF_laid {g : Geo} {S : List Sc} {a : Pl} (hq : 0 ≤ a.Seq ∧ a.Seq < 4294967296) {l : List Itm} (hI : IsI l) (hg : goodG l = true) (hlen : a.Off + (layG a.Seq l).length ≤ g.3)
    (h : ∀ j : Nat, j < (layG a.Seq l).length → S.getD (frontP g a + (j : Int)).toNat zs = (layG a.Seq l).getD j zs) :
    atF g S a = some (l, placesF (frontP g a) (latG 0 l), .mk a.Seg (a.Off + (layG a.Seq l).length) (IntKind.u32.wrap (a.Seq + IntKind.u32.wrap (partsN l))) a.Free) := by
  unfold atF
  rw [secsF_laid (l := layG a.Seq l) (by omega) h, readF_lay hq hI hg, partsN_good hg]
  rfl
/-- where a group goes, and what is behind it -/
def aftP (b : Pl) (q : Int) (l : List Itm) : Pl := .mk b.Seg (b.Off + (layG q l).length) (IntKind.u32.wrap (b.Seq + IntKind.u32.wrap (partsN l))) b.Free
structure Rec15 where
  a : Pl
  l : List Itm
  p : List Int
inductive Run15 (g : Geo) (a0 : Pl) (S0 : List Sc) : List Rec15 → Pl → List Sc → Prop
  | nil : Run15 g a0 S0 [] a0 S0
  | snoc {a b : Pl} {S : List Sc} {rs : List Rec15} {l : List Itm} : Run15 g a0 S0 rs a S → goodG l = true → IsI l → ((layG a.Seq l).length : Int) ≤ g.3 → roomF g a (layG a.Seq l).length = some b →
      Run15 g a0 S0 (rs ++ [⟨a, l, placesF (frontP g b) (latG 0 l)⟩]) (aftP b a.Seq l) (fl S (wrs (frontP g b) (layG a.Seq l)))
def stR (rs : List Rec15) (a : Pl) : Pl := match rs with
  | [] => a
  | r :: _ => r.a
def Links (g : Geo) (S : List Sc) : List Rec15 → Pl → Prop
  | [], _ => True
  | r :: rs, a => nextF g S r.a = some (r.l, r.p, stR rs a) ∧ Links g S rs a
theorem Links.snoc {g : Geo} {S : List Sc} {r : Rec15} {a : Pl} : ∀ {rs : List Rec15}, Links g S rs r.a → nextF g S r.a = some (r.l, r.p, a) → Links g S (rs ++ [r]) a
  | [], _, h => ⟨h, trivial⟩
  | x :: rs, h1, h2 => by
    refine ⟨?_, Links.snoc h1.2 h2⟩
    rw [h1.1]
    cases rs <;> rfl
theorem Links.suffix {g : Geo} {S : List Sc} {a : Pl} : ∀ {r1 r2 : List Rec15}, Links g S (r1 ++ r2) a → Links g S r2 a
  | [], _, h => h
  | _ :: _, _, h => Links.suffix h.2
theorem Links.chain {g : Geo} {S : List Sc} {a c : Pl} {gs : List (List Itm × List Int)} (hc : Chain15 g S a gs c) : ∀ {rs : List Rec15}, Links g S rs a → Chain15 g S (stR rs a) (rs.map (fun r => (r.l, r.p)) ++ gs) c
  | [], _ => hc
  | _ :: _, h => .cons h.1 (Links.chain hc h.2)
/-- numbers from one on are nowhere yet -/
def NumFree (S0 : List Sc) (q : Int) : Prop := ∀ p : Nat, ¬ (q ≤ Su.seqOf (S0.getD p zs) ∧ Su.seqOf (S0.getD p zs) < q + 1000)
structure RunOk (g : Geo) (a0 : Pl) (S0 : List Sc) (rs : List Rec15) (a : Pl) (S : List Sc) : Prop where
  ok : jOk g a = true
  q1 : a0.Seq ≤ a.Seq
  q2 : a.Seq ≤ a0.Seq + 3 * rs.length
  len : S.length = S0.length
  sec : AllSec S
  fn : a.Free.length ≤ a0.Free.length
  op : ∀ p : Nat, Open g a p → S.getD p zs = S0.getD p zs
  lk : ∀ S' : List Sc, (∀ p : Nat, ¬ Open g a p → S'.getD p zs = S.getD p zs) → Links g S' rs a
  st : stR rs a = a0
theorem frontP_toNat {g : Geo} {a : Pl} (hg : gOk g = true) (hs : 0 ≤ a.Seg ∧ a.Seg < g.2) (ho : 0 ≤ a.Off) : 0 ≤ frontP g a := by
  have := (seg_in hg hs).1
  unfold frontP; omega
theorem div_unique {n s s' o o' : Int} (hn : 0 < n) (ho : 0 ≤ o ∧ o < n) (ho' : 0 ≤ o' ∧ o' < n) (h : s * n + o = s' * n + o') : s = s' ∧ o = o' := by
  have e : s = s' := by
    rcases Int.lt_trichotomy s s' with h1 | h1 | h1
    · have : (s + 1) * n ≤ s' * n := Int.mul_le_mul_of_nonneg_right (by omega) (by omega)
      rw [Int.add_mul, Int.one_mul] at this; omega
    · exact h1
    · have : (s' + 1) * n ≤ s * n := Int.mul_le_mul_of_nonneg_right (by omega) (by omega)
      rw [Int.add_mul, Int.one_mul] at this; omega
  subst e
  exact ⟨rfl, by omega⟩
theorem open_at {g : Geo} (hg : gOk g = true) {a : Pl} {s o : Int} (ho : 0 ≤ o ∧ o < g.3) : Open g a (4 + s * g.3 + o) ↔ ((s = a.Seg ∧ a.Off ≤ o) ∨ s ∈ a.Free) := by
  have hgs := gOk_spec hg
  constructor
  · rintro ⟨s', o', h1, h2, h3, h4⟩
    obtain ⟨rfl, rfl⟩ := div_unique (n := g.3) (by omega) ho ⟨h1, h2⟩ (show s * g.3 + o = s' * g.3 + o' by omega)
    exact h4
  · intro h
    exact ⟨s, o, ho.1, ho.2, rfl, h⟩
theorem roomF_cases {g : Geo} {a b : Pl} {n : Int} (h : roomF g a n = some b) : (b = a ∧ n ≤ g.3 - a.Off) ∨ (∃ s r, a.Free = s :: r ∧ b = .mk s 0 a.Seq r) := by
  unfold roomF at h
  split at h
  · cases h; exact .inl ⟨rfl, by assumption⟩
  · cases hf : a.Free with
    | nil => rw [hf] at h; cases h
    | cons s r => rw [hf] at h; cases h; exact .inr ⟨s, r, rfl, rfl⟩
theorem run_ok {g : Geo} {a0 : Pl} {S0 : List Sc} (hj : jOk g a0 = true) (hS : AllSec S0) (hlen : (S0.length : Int) = 4 + g.2 * g.3) (hq0 : 0 ≤ a0.Seq ∧ a0.Seq ≤ 4294960000) (hnum : NumFree S0 a0.Seq) {rs : List Rec15} {a : Pl} {S : List Sc} (h : Run15 g a0 S0 rs a S) (hr : rs.length ≤ 100) : RunOk g a0 S0 rs a S := by
  induction h with
  | nil => exact ⟨hj, Int.le_refl _, by simp, rfl, hS, Nat.le_refl _, fun _ _ => rfl, fun _ _ => trivial, rfl⟩
  | @snoc a b S rs l _ hgd hI hle hroom ih =>
    simp only [List.length_append, List.length_singleton] at hr
    have ih := ih (by omega)
    obtain ⟨hg, h1, h2, h3, h4, h5⟩ := jOk_spec ih.ok
    have hgs := gOk_spec hg
    have har := area hg
    obtain ⟨b1, b2, b3, b4, b5, b6⟩ := roomF_some ih.ok hle hroom
    have hsi := seg_in hg ⟨b1, b2⟩
    obtain ⟨z1, z2, z3, z4⟩ := goodG_spec hgd
    have hq1 := ih.q1; have hq2 := ih.q2
    have hqa : 0 ≤ a.Seq ∧ a.Seq < 4294967296 := by omega
    have hpn : 1 ≤ partsN l ∧ partsN l ≤ 3 := by rw [partsN_good hgd]; omega
    have hwq : IntKind.u32.wrap (b.Seq + IntKind.u32.wrap (partsN l)) = a.Seq + partsN l := by
      rw [w32_eq, w32_eq, b5]; omega
    have hfp : 0 ≤ frontP g b ∧ frontP g b + (layG a.Seq l).length ≤ S.length := by
      unfold frontP; rw [ih.len]; omega
    have hsecL := layG_sec hqa hI hgd
    have hjb : jOk g b = true ∧ (∀ x ∈ b.Free, x ≠ b.Seg) ∧ (b ≠ a → a.Seg ∉ b.Free ∧ b.Seg ≠ a.Seg) := by
      rcases roomF_cases hroom with ⟨rfl, _⟩ | ⟨s, r, hf, rfl⟩
      · exact ⟨ih.ok, fun x hx => (freeOk_gt h5 x hx).2.2, fun h => absurd rfl h⟩
      · obtain ⟨m1, m2⟩ := jOk_move ih.ok hf
        refine ⟨m1, fun x hx => ?_, fun _ => ⟨fun hx => ?_, m2⟩⟩
        · exact (freeOk_gt (jOk_spec m1).2.2.2.2.2 x hx).2.2
        · exact (freeOk_gt h5 a.Seg (by rw [hf]; exact List.mem_cons_of_mem _ hx)).2.2 rfl
    have hjA : jOk g (aftP b a.Seq l) = true := by
      obtain ⟨_, c1, c2, c3, c4, c5⟩ := jOk_spec hjb.1
      unfold jOk aftP
      simp only [hg, Bool.true_and, Bool.and_eq_true, decide_eq_true_eq]
      exact ⟨⟨⟨⟨c1, c2⟩, by omega⟩, by omega⟩, c5⟩
    -- what is open behind it was open ahead of it
    have hop : ∀ p, Open g (aftP b a.Seq l) p → Open g a p := by
      rintro p ⟨s, o, o1, o2, rfl, h⟩
      rw [open_at hg ⟨o1, o2⟩]
      unfold aftP at h
      simp only at h
      rcases roomF_cases hroom with ⟨rfl, _⟩ | ⟨s', r, hf, rfl⟩
      · rcases h with ⟨rfl, h⟩ | h
        · exact .inl ⟨rfl, by omega⟩
        · exact .inr h
      · right
        rw [hf]
        rcases h with ⟨rfl, _⟩ | h
        · exact List.mem_cons_self ..
        · exact List.mem_cons_of_mem _ h
    -- what is written was open ahead, and is not behind
    have hwr : ∀ p : Nat, frontP g b ≤ p → (p : Int) < frontP g b + (layG a.Seq l).length → Open g a p ∧ ¬ Open g (aftP b a.Seq l) p := by
      intro p p1 p2
      obtain ⟨o, ho⟩ : ∃ o : Int, (p : Int) = 4 + b.Seg * g.3 + o := ⟨(p : Int) - (4 + b.Seg * g.3), by omega⟩
      unfold frontP at p1 p2
      have ho1 : 0 ≤ o ∧ o < g.3 := by omega
      rw [ho, open_at hg ho1, open_at hg ho1]
      constructor
      · rcases roomF_cases hroom with ⟨rfl, _⟩ | ⟨s', r, hf, rfl⟩
        · exact .inl ⟨rfl, by omega⟩
        · right; rw [hf]; exact List.mem_cons_self ..
      · unfold aftP
        simp only
        rintro (⟨_, h⟩ | h)
        · omega
        · exact hjb.2.1 _ h rfl
    refine ⟨hjA, by unfold aftP; simp only [hwq]; omega, by unfold aftP; simp only [hwq, List.length_append, List.length_singleton]; omega, by rw [fl_len, ih.len], fl_sec hfp ih.sec hsecL, by have := ih.fn; unfold aftP; simp only; omega, ?_, ?_, ?_⟩
    · intro p hp
      rw [fl_wrs hfp, if_neg fun h => (hwr p h.1 h.2).2 hp]
      exact ih.op p (hop p hp)
    · intro S' hS'
      -- behind it all else is as it was
      have hold : ∀ p : Nat, ¬ Open g a p → S'.getD p zs = S.getD p zs := by
        intro p hp
        rw [hS' p fun h => hp (hop p h), fl_wrs hfp, if_neg fun h => hp (hwr p h.1 h.2).1]
      have hnew : ∀ j : Nat, j < (layG a.Seq l).length → S'.getD (frontP g b + (j : Int)).toNat zs = (layG a.Seq l).getD j zs := by
        intro j hj
        have e : ((frontP g b + (j : Int)).toNat : Int) = frontP g b + (j : Int) := by omega
        rw [hS' _ (hwr _ (by omega) (by omega)).2, fl_wrs hfp, if_pos (by omega), e, show (frontP g b + (j : Int) - frontP g b).toNat = j by omega]
      refine Links.snoc (ih.lk S' hold) ?_
      simp only
      have hlaid := atF_laid (g := g) (S := S') (a := b) (by rw [b5]; exact hqa) hI hgd (by rw [b5]; exact b4) (by rw [b5]; exact hnew)
      rw [b5] at hlaid
      unfold nextF
      rcases roomF_cases hroom with ⟨rfl, _⟩ | ⟨s, r, hf, rfl⟩
      · rw [hlaid]; rfl
      · have hst : atF g S' a = none := by
          refine atF_stale fun ho => ?_
          have hfa := frontP_toNat hg ⟨h1, h2⟩ h3
          have ho2 : Open g a (((frontP g a).toNat : Nat) : Int) := by
            rw [show (((frontP g a).toNat : Nat) : Int) = 4 + a.Seg * g.3 + a.Off by rw [Int.toNat_of_nonneg hfa]; rfl, open_at hg ⟨h3, ho⟩]
            exact .inl ⟨rfl, Int.le_refl _⟩
          have hno : ¬ Open g (aftP (.mk s 0 a.Seq r) a.Seq l) (((frontP g a).toNat : Nat) : Int) := by
            rw [show (((frontP g a).toNat : Nat) : Int) = 4 + a.Seg * g.3 + a.Off by rw [Int.toNat_of_nonneg hfa]; rfl, open_at hg ⟨h3, ho⟩]
            unfold aftP
            simp only
            have hne : (T46.mk s 0 a.Seq r) ≠ a := fun e => by
              have := congrArg T46.Free e
              rw [hf] at this
              have := congrArg List.length this
              simp at this
            obtain ⟨n1, n2⟩ := hjb.2.2 hne
            rintro (⟨h, _⟩ | h)
            · exact n2 h.symm
            · exact n1 h
          rw [hS' _ hno, fl_wrs hfp]
          have hnw : ¬ (frontP g (T46.mk s 0 a.Seq r) ≤ (((frontP g a).toNat : Nat) : Int) ∧ (((frontP g a).toNat : Nat) : Int) < frontP g (T46.mk s 0 a.Seq r) + (layG a.Seq l).length) := by
            rintro ⟨p1, p2⟩
            rw [Int.toNat_of_nonneg hfa] at p1 p2
            unfold frontP at p1 p2
            simp only at p1 p2 b4
            obtain ⟨e, _⟩ := div_unique (n := g.3) (s := s) (s' := a.Seg) (o := 4 + a.Seg * g.3 + a.Off - (4 + s * g.3)) (o' := a.Off) (by omega) (by omega) ⟨h3, ho⟩ (by omega)
            exact (jOk_move ih.ok hf).2 e
          rw [if_neg hnw, ih.op _ ho2]
          intro he
          exact hnum (frontP g a).toNat (by rw [he]; omega)
        rw [hst, hf]
        simp only
        rw [hlaid]; rfl
    · cases rs with
      | nil => exact ih.st
      | cons x r => exact ih.st
/-- behind all groups there is none -/
theorem run_end {g : Geo} {a0 : Pl} {S0 : List Sc} (hnum : NumFree S0 a0.Seq) {rs : List Rec15} {a : Pl} {S : List Sc} (h : RunOk g a0 S0 rs a S) (hr : rs.length ≤ 100) : nextF g S a = none := by
  obtain ⟨hg, h1, h2, h3, h4, h5⟩ := jOk_spec h.ok
  have hgs := gOk_spec hg
  have hq1 := h.q1; have hq2 := h.q2
  have key : ∀ b : Pl, 0 ≤ b.Seg ∧ b.Seg < g.2 → 0 ≤ b.Off → b.Seq = a.Seq → (b.Off < g.3 → Open g a (4 + b.Seg * g.3 + b.Off)) → atF g S b = none := by
    intro b hb hbo hbq hop
    refine atF_stale fun ho => ?_
    have hfa := frontP_toNat hg hb hbo
    rw [h.op _ (by rw [Int.toNat_of_nonneg hfa]; exact hop ho), hbq]
    intro he
    exact hnum (frontP g b).toNat (by rw [he]; omega)
  unfold nextF
  rw [key a ⟨h1, h2⟩ h3 rfl fun ho => (open_at hg ⟨h3, ho⟩).2 (.inl ⟨rfl, Int.le_refl _⟩)]
  simp only
  cases hf : a.Free with
  | nil => rfl
  | cons s r =>
    obtain ⟨m1, m2⟩ := jOk_move h.ok hf
    obtain ⟨_, c1, c2, c3, c4, c5⟩ := jOk_spec m1
    exact key (.mk s 0 a.Seq r) ⟨c1, c2⟩ c3 rfl fun ho => (open_at hg ⟨c3, ho⟩).2 (.inr (by rw [hf]; exact List.mem_cons_self ..))
/-- a group that is put is one more of a run -/
theorem put_run {g : Geo} {a0 a : Pl} {S0 S : List Sc} {rs : List Rec15} (h : Run15 g a0 S0 rs a S) (d : Int) {l : List Itm} (hI : IsI l) :
    (∃ e, (e = 1 ∨ e = 14) ∧ putF g a (-1) d S [] l = (e, [], a, -1, d, S, [])) ∨
    ∃ (r : Rec15) (a' : Pl) (S' : List Sc), r.l = l ∧ putF g a (-1) d S [] l = (0, r.p, a', -1, d + (layG a.Seq l).length + 1, S', []) ∧ Run15 g a0 S0 (rs ++ [r]) a' S' ∧ (layG a.Seq l).length ≤ 130 ∧ r.a = a ∧ r.p.length = l.length := by
  unfold putF
  by_cases hgd : goodG l = true ∧ ((layG a.Seq l).length : Int) ≤ g.3
  · rw [if_pos hgd]
    cases hr : roomF g a (layG a.Seq l).length with
    | none => exact .inl ⟨14, .inr rfl, rfl⟩
    | some b =>
      right
      have := Run15.snoc h hgd.1 hI hgd.2 hr
      refine ⟨⟨a, l, placesF (frontP g b) (latG 0 l)⟩, aftP b a.Seq l, fl S (wrs (frontP g b) (layG a.Seq l)), rfl, ?_, this, layG_short a.Seq (goodG_spec hgd.1).2.1, rfl, by rw [placesF_len, latG_len']⟩
      simp only
      unfold putB
      rw [wroteF_none]
      rfl
  · rw [if_neg hgd]
    exact .inl ⟨1, .inl rfl, rfl⟩
/-! ### fresh journals -/
theorem freshS_sec (n : Nat) : AllSec (freshS n) := fun x hx => by
  rw [freshS, List.mem_replicate] at hx
  rw [hx.2]
  exact ⟨by simp, fun y hy => by rw [List.mem_replicate] at hy; omega⟩
theorem freshS_get (n p : Nat) : (freshS n).getD p zs = zs := by
  unfold freshS zs
  rw [List.getD_eq_getElem?_getD, List.getElem?_replicate]
  split <;> rfl
theorem seqOf_zs : Su.seqOf zs = 0 := rfl
theorem freshS_num (n : Nat) {q : Int} (hq : 1 ≤ q) : NumFree (freshS n) q := fun p h => by
  rw [freshS_get, seqOf_zs] at h; omega
def ones (n : Nat) : List Int := (List.range n).map fun (i : Nat) => ((i + 1 : Nat) : Int)
theorem ones_succ (n : Nat) : ones (n + 1) = ones n ++ [((n + 1 : Nat) : Int)] := by simp [ones, List.range_succ]
theorem ones_len (n : Nat) : (ones n).length = n := by simp [ones]
theorem freeOk_snoc {n seg y : Int} (hy : y < n) (hs : y ≠ seg) : ∀ {l : List Int} {c : Int}, freeOk n seg c l = true → c < y → (∀ x ∈ l, x < y) → freeOk n seg c (l ++ [y]) = true
  | [], c, _, hc, _ => by unfold freeOk freeOk; simp [hc, hy, hs]
  | x :: r, c, h, _, hx => by
    obtain ⟨h1, h2, h3, h4⟩ := freeOk_tail h
    show freeOk n seg c (x :: (r ++ [y])) = true
    unfold freeOk
    rw [decide_eq_true h1, decide_eq_true h2, decide_eq_true h3, freeOk_snoc hy hs h4 (hx x (by simp)) (fun z hz => hx z (by simp [hz]))]
    rfl
theorem ones_ok {n : Int} : ∀ (m : Nat), (m : Int) < n → freeOk n 0 (-1) (ones m) = true := by
  intro m
  induction m with
  | zero => intro _; rfl
  | succ m ih =>
    intro h
    rw [ones_succ]
    refine freeOk_snoc (by omega) (by omega) (ih (by omega)) (by omega) fun x hx => ?_
    obtain ⟨i, hi, rfl⟩ := List.mem_map.1 hx
    have := List.mem_range.1 hi
    omega
theorem jOk_ones {g : Geo} (hg : gOk g = true) (q : Int) : jOk g (.mk 0 0 q (ones (g.2 - 1).toNat)) = true := by
  have hgs := gOk_spec hg
  unfold jOk
  simp only [hg, Bool.true_and, Bool.and_eq_true, decide_eq_true_eq]
  exact ⟨⟨⟨⟨by omega, by omega⟩, by omega⟩, by omega⟩, ones_ok _ (by omega)⟩
theorem run_recs {g : Geo} {a0 a : Pl} {S0 S : List Sc} {rs : List Rec15} (h : Run15 g a0 S0 rs a S) : ∀ r ∈ rs, IsI r.l ∧ goodG r.l = true ∧ r.p.length = r.l.length := by
  induction h with
  | nil => intro r hr; cases hr
  | snoc _ hg hI _ _ ih =>
    intro r hr
    rcases List.mem_append.1 hr with hr | hr
    · exact ih r hr
    · rw [List.mem_singleton.1 hr]
      exact ⟨hI, hg, by rw [placesF_len, latG_len']⟩
theorem run_len {g : Geo} {a0 a : Pl} {S0 S : List Sc} {rs : List Rec15} (h : Run15 g a0 S0 rs a S) : S.length = S0.length := by
  induction h with
  | nil => rfl
  | snoc _ _ _ _ _ ih => rw [fl_len, ih]
def grp0 : Grp := .mk [] []
theorem grpsF_len (gs : List (List Itm × List Int)) : (grpsF gs).length = gs.length := by simp [grpsF]
theorem run_mid {g : Geo} {a0 a : Pl} {S0 S : List Sc} (hj : jOk g a0 = true) (hS : AllSec S0) (hlen : (S0.length : Int) = 4 + g.2 * g.3) (hq0 : 0 ≤ a0.Seq ∧ a0.Seq ≤ 4294960000) (hnum : NumFree S0 a0.Seq) {r1 r2 : List Rec15} (h : Run15 g a0 S0 (r1 ++ r2) a S) (hr : r1.length + r2.length ≤ 100) :
    jOk g (stR r2 a) = true ∧ (stR r2 a).Free.length ≤ a0.Free.length ∧ 0 ≤ (stR r2 a).Seq ∧ (stR r2 a).Seq < 4294967296 := by
  generalize hrs : r1 ++ r2 = rs at h
  induction h generalizing r2 with
  | nil =>
    obtain ⟨_, rfl⟩ := List.append_eq_nil_iff.1 hrs
    exact ⟨hj, Nat.le_refl _, by show 0 ≤ a0.Seq; omega, by show a0.Seq < _; omega⟩
  | @snoc a b S rs l h' hgd hI hle hroom ih =>
    by_cases hne : r2 = []
    · subst hne
      have h2 := Run15.snoc h' hgd hI hle hroom
      rw [List.append_nil] at hrs
      have ho := run_ok hj hS hlen hq0 hnum h2 (by rw [← hrs]; simp only [List.length_nil] at hr; omega)
      have q1 := ho.q1; have q2 := ho.q2
      rw [← hrs] at q2
      simp only [List.length_nil] at hr
      exact ⟨ho.ok, ho.fn, by show 0 ≤ (aftP b a.Seq l).Seq; omega, by show (aftP b a.Seq l).Seq < _; omega⟩
    · obtain ⟨t, x, rfl⟩ : ∃ t x, r2 = t ++ [x] := ⟨r2.dropLast, r2.getLast hne, (List.dropLast_concat_getLast hne).symm⟩
      rw [← List.append_assoc] at hrs
      obtain ⟨e1, e2⟩ := List.append_inj' hrs rfl
      have hx : x = ⟨a, l, placesF (frontP g b) (latG 0 l)⟩ := by simpa using e2
      simp only [List.length_append, List.length_singleton] at hr
      have := ih (r2 := t) (by omega) e1
      cases t with
      | nil =>
        subst hx
        exact this
      | cons y z => exact this
theorem sum_geS : ∀ {l : List (List Itm)} {x : List Itm}, x ∈ l → x.length ≤ (l.map List.length).sum
  | y :: r, x, h => by
    rcases List.mem_cons.1 h with rfl | h
    · simp
    · have := sum_geS h; simp; omega
/-! ### which numbers stand where -/
theorem seqOf_rendS {q : Int} (hq : 0 ≤ q ∧ q < 4294967296) {d : Ds} (h : DsOk d) : Su.seqOf (rend q d) = q := by
  have e : ∀ j, j < 4 → (rend q d).getD (2 + j) 0 = IntKind.u8.wrap (q.fdiv (2 ^ (8 * j))) := fun j hj => rend_seq q d j hj
  unfold Su.seqOf Su.num4
  rw [show (rend q d).getD 2 0 = _ from e 0 (by omega), show (rend q d).getD 3 0 = _ from e 1 (by omega), show (rend q d).getD 4 0 = _ from e 2 (by omega), show (rend q d).getD 5 0 = _ from e 3 (by omega)]
  simp only [w8_eq]
  rw [show (2 : Int) ^ (8 * 0) = 1 from rfl, show (2 : Int) ^ (8 * 1) = 256 from rfl, show (2 : Int) ^ (8 * 2) = 65536 from rfl, show (2 : Int) ^ (8 * 3) = 16777216 from rfl]
  rw [Int.fdiv_eq_ediv_of_nonneg _ (by decide), fdiv256, fdiv65536, fdiv16777216]
  omega
theorem dsG_bound : ∀ (m : Nat) (l : List Itm) (p : Nat), l.length ≤ m → ∀ d ∈ dsG p l, p ≤ d.1 ∧ d.1 < p + (l.length + 23) / 24 := by
  intro m
  induction m with
  | zero =>
    intro l p h d hd
    have : l = [] := List.eq_nil_of_length_eq_zero (by omega)
    subst this
    rw [dsG_nil] at hd; cases hd
  | succ m ih =>
    intro l p h d hd
    by_cases hz : l = []
    · subst hz; rw [dsG_nil] at hd; cases hd
    · have hpos : 0 < l.length := by
        rcases Nat.eq_zero_or_pos l.length with h0 | h0
        · exact absurd (List.eq_nil_of_length_eq_zero h0) hz
        · exact h0
      rw [dsG_cons hz] at hd
      rcases List.mem_append.1 hd with hd | hd
      · have : d.1 = p := by
          rcases List.mem_cons.1 hd with rfl | hd
          · rfl
          · obtain ⟨x, _, rfl⟩ := List.mem_map.1 hd
            rfl
        omega
      · have := ih (l.drop 24) (p + 1) (by simp; omega) d hd
        rw [List.length_drop] at this
        omega
theorem layG_nums {q : Int} (hq : 0 ≤ q ∧ q ≤ 4294967000) {l : List Itm} (hI : IsI l) (hg : goodG l = true) : ∀ x ∈ layG q l, q ≤ Su.seqOf x ∧ Su.seqOf x < q + partsN l := by
  obtain ⟨h1, h2, h3, h4⟩ := goodG_spec hg
  intro x hx
  rw [layG_ds0 (by omega)] at hx
  obtain ⟨d, hd, rfl⟩ := List.mem_map.1 hx
  have hb := dsG_bound l.length l 0 (Nat.le_refl _) d hd
  have hok := dsG_ok l.length l 0 (Nat.le_refl _) hI (fun x hx => ⟨h3 x hx, h4 x hx⟩) d hd
  have hw : IntKind.u32.wrap (q + (d.1 : Int)) = q + (d.1 : Int) := by rw [w32_eq]; omega
  rw [hw, seqOf_rendS (by omega) hok, partsN_good hg]
  omega
/-- the numbers behind a run: those from ahead of it, or its own -/
theorem run_nums {g : Geo} {a0 a : Pl} {S0 S : List Sc} (hj : jOk g a0 = true) (hS : AllSec S0) (hlen : (S0.length : Int) = 4 + g.2 * g.3) (hq0 : 0 ≤ a0.Seq ∧ a0.Seq ≤ 4294960000) (hnum : NumFree S0 a0.Seq) {rs : List Rec15} (h : Run15 g a0 S0 rs a S) (hr : rs.length ≤ 100) :
    ∀ p : Nat, Su.seqOf (S.getD p zs) = Su.seqOf (S0.getD p zs) ∨ (a0.Seq ≤ Su.seqOf (S.getD p zs) ∧ Su.seqOf (S.getD p zs) < a0.Seq + 3 * rs.length) := by
  induction h with
  | nil => intro p; exact .inl rfl
  | @snoc a b S rs l h' hgd hI hle hroom ih =>
    simp only [List.length_append, List.length_singleton] at hr ⊢
    have ih := ih (by omega)
    have ho := run_ok hj hS hlen hq0 hnum h' (by omega)
    obtain ⟨hg, _⟩ := jOk_spec ho.ok
    have har := area hg
    obtain ⟨b1, b2, b3, b4, b5, b6⟩ := roomF_some ho.ok hle hroom
    have hsi := seg_in hg ⟨b1, b2⟩
    have q1 := ho.q1; have q2 := ho.q2
    have hpn : 1 ≤ partsN l ∧ partsN l ≤ 3 := by
      obtain ⟨z1, z2, _⟩ := goodG_spec hgd
      rw [partsN_good hgd]; omega
    have hfp : 0 ≤ frontP g b ∧ frontP g b + (layG a.Seq l).length ≤ S.length := by
      unfold frontP; rw [ho.len]; omega
    intro p
    rw [fl_wrs hfp]
    split
    · rename_i hp
      right
      have hlt : ((p : Int) - frontP g b).toNat < (layG a.Seq l).length := by omega
      rw [List.getD_eq_getElem?_getD, List.getElem?_eq_getElem hlt]
      have := layG_nums (q := a.Seq) (by omega) hI hgd _ (List.getElem_mem hlt)
      simp only [Option.getD_some]
      omega
    · rcases ih p with h | h
      · exact .inl h
      · right; omega
/-! ### ScanBack: a put that may fail, a crash -/
section
variable {k : Nat} {f d : Int} {S : List (List Int)} {L : List T126}
theorem crash_eqS (hL : L.length ≤ 1000) (hk : 1000 < k) (hat : ∀ w ∈ L, 0 ≤ w.at_ ∧ w.at_ < S.length) (keep : List Int) :
    F43 k (keep, f, d, S, L) = some (-1, d, cr keep S L, []) := by
  unfold F43 L43_2
  have := iter_out (R := R43_2 k) (fun x => ∃ j : Nat, j ≤ L.length ∧ x = (keep, (L.length : Int), (j : Int), f, d, L, upto (fun S n => if n < keep.length ∧ (keep.getD n 0).tmod 2 = 1 then S.set (L.getD n w0).at_.toNat (L.getD n w0).s else S) S j))
    (fun x => L.length - x.2.2.1.toNat) (fun _ => (f, d, cr keep S L, L)) (fun x hx => by
      obtain ⟨j, hj, rfl⟩ := hx
      rcases Nat.lt_or_ge j L.length with h | h
      · right
        refine ⟨_, fun again => ?_, ⟨j + 1, by omega, rfl⟩, by simp only [Int.toNat_natCast]; omega, rfl⟩
        have hw := hat (L.getD j w0) (by rw [List.getD_eq_getElem?_getD, List.getElem?_eq_getElem h]; exact List.getElem_mem h)
        unfold R43_2
        simp only [Int.toNat_natCast]
        rw [inRange_true (i := (j : Int)) (n := L.length) (by omega), wI_in (by omega)]
        simp only [show ((j : Int) < L.length) from by omega, decide_true, cond_true, upto, Int.natCast_add, Int.natCast_one]
        by_cases hjk : j < keep.length
        · rw [inRange_true (by omega)]
          simp only [show ((j : Int) < keep.length) from by omega, decide_true, cond_true, hjk, true_and]
          by_cases hm : (keep.getD j 0).tmod 2 = 1
          · simp only [hm, beq_self_eq_true, cond_true, if_true]
            show (bif inRange (L.getD j w0).at_ _ then _ else _) = _
            rw [inRange_true (by rw [upto_len _ (fun s n => by split <;> simp)]; exact hw)]
            rfl
          · have : ((keep.getD j 0).tmod 2 == 1) = false := by simpa using hm
            simp only [this, hm, cond_false, if_false]
        · simp only [show ¬ ((j : Int) < keep.length) from by omega, decide_false, cond_false, hjk, false_and, if_false]
      · left
        intro again
        have : j = L.length := by omega
        subst this
        unfold R43_2
        simp [cr]) (n := k) (x := (keep, (L.length : Int), 0, f, d, L, S)) ⟨0, by omega, rfl⟩ (by simp; omega)
  simp only
  rw [this]
  rfl
end
theorem wrF_pass : ∀ (l : List Sc) (f : Nat) (d : Int) (L : List Wr) (p : Int), l.length < f → wrF (f : Int) d L p l = (true, ((f - l.length : Nat) : Int), d + l.length, L ++ wrs p l) := by
  intro l
  induction l with
  | nil => intro f d L p h; simp [wrF, wrs]
  | cons x r ih =>
    intro f d L p h
    simp only [List.length_cons] at h
    unfold wrF
    rw [if_neg (by omega)]
    have hp : passF (f : Int) = ((f - 1 : Nat) : Int) := by unfold passF; rw [if_pos (by omega)]; omega
    rw [hp, ih (f - 1) _ _ _ (by omega)]
    simp only [wrs, List.append_assoc, List.singleton_append, List.length_cons]
    rw [show f - 1 - r.length = f - (r.length + 1) by omega, show d + 1 + (r.length : Int) = d + ((r.length + 1 : Nat) : Int) by omega]
theorem wroteF_pass (S : List Sc) {f : Nat} (d : Int) (L : List Wr) (p : Int) {l : List Sc} (h : l.length < f) : wroteF S (f : Int) d L p l = (0, ((f - l.length - 1 : Nat) : Int), d + l.length + 1, fl S (L ++ wrs p l), []) := by
  unfold wroteF
  rw [wrF_pass l f d L p h]
  simp only
  rw [if_neg (by omega)]
  have : passF ((f - l.length : Nat) : Int) = ((f - l.length - 1 : Nat) : Int) := by unfold passF; rw [if_pos (by omega)]; omega
  rw [this]
/-- a put with a failure that is said, at the end of a run -/
theorem put_fail {g : Geo} {a0 a : Pl} {S0 S : List Sc} {rs : List Rec15} (h : Run15 g a0 S0 rs a S) (f : Nat) (d : Int) {l : List Itm} (hI : IsI l) :
    (∃ e, (e = 1 ∨ e = 14) ∧ putF g a (f : Int) d S [] l = (e, [], a, (f : Int), d, S, [])) ∨
    (∃ (r : Rec15) (a' : Pl) (S' : List Sc) (f' : Nat), r.l = l ∧ (layG a.Seq l).length ≤ 130 ∧ f' ≤ f ∧ Run15 g a0 S0 (rs ++ [r]) a' S' ∧ putF g a (f : Int) d S [] l = (0, r.p, a', (f' : Int), d + (layG a.Seq l).length + 1, S', [])) ∨
    ∃ b, goodG l = true ∧ ((layG a.Seq l).length : Int) ≤ g.3 ∧ roomF g a (layG a.Seq l).length = some b ∧ f ≤ (layG a.Seq l).length ∧ putF g a (f : Int) d S [] l = (12, [], a, -1, d + f, S, (wrs (frontP g b) (layG a.Seq l)).take f) := by
  unfold putF
  by_cases hgd : goodG l = true ∧ ((layG a.Seq l).length : Int) ≤ g.3
  · rw [if_pos hgd]
    cases hr : roomF g a (layG a.Seq l).length with
    | none => exact .inl ⟨14, .inr rfl, rfl⟩
    | some b =>
      right
      by_cases hf : f ≤ (layG a.Seq l).length
      · right
        refine ⟨b, hgd.1, hgd.2, rfl, hf, ?_⟩
        simp only
        unfold putB
        rw [wroteF_fail S d [] (4 + b.Seg * g.3 + b.Off) hf]
        simp only [show ¬ ((12 : Int) = 0) by decide, if_false, List.nil_append]
        rfl
      · left
        have := Run15.snoc h hgd.1 hI hgd.2 hr
        refine ⟨⟨a, l, placesF (frontP g b) (latG 0 l)⟩, aftP b a.Seq l, fl S (wrs (frontP g b) (layG a.Seq l)), f - (layG a.Seq l).length - 1, rfl, layG_short a.Seq (goodG_spec hgd.1).2.1, by omega, this, ?_⟩
        simp only
        unfold putB
        rw [wroteF_pass S d [] (4 + b.Seg * g.3 + b.Off) (by omega)]
        rfl
  · rw [if_neg hgd]
    exact .inl ⟨1, .inl rfl, rfl⟩
theorem wrs_get : ∀ (l : List Sc) (p : Int) (n : Nat), n < l.length → (wrs p l).getD n w0 = ⟨p + (n : Int), l.getD n zs⟩ := by
  intro l
  induction l with
  | nil => intro p n h; cases h
  | cons x r ih =>
    intro p n h
    cases n with
    | zero => simp [wrs]
    | succ n =>
      simp only [List.length_cons] at h
      have := ih (p + 1) n (by omega)
      simp only [wrs, List.getD_cons_succ, this]
      rw [show p + 1 + (n : Int) = p + ((n + 1 : Nat) : Int) by omega]
theorem getD_set2 (S : List Sc) (i j : Nat) (x : Sc) (hi : i < S.length) : (S.set i x).getD j zs = if j = i then x else S.getD j zs := by
  rw [List.getD_eq_getElem?_getD, List.getElem?_set]
  by_cases h : i = j
  · subst h; rw [if_pos rfl, if_pos rfl, if_pos hi]; rfl
  · rw [if_neg h, if_neg (fun e => h e.symm), List.getD_eq_getElem?_getD]
/-- some of the sectors are written, the others are as they were -/
theorem cr_mix {S : List Sc} {l : List Sc} {p : Int} {f : Nat} (hp : 0 ≤ p ∧ p + l.length ≤ S.length) (hf : f ≤ l.length) (keep : List Int) :
    ∃ K : Nat → Bool, ∀ i : Nat, (cr keep S ((wrs p l).take f)).getD i zs = if p ≤ i ∧ (i : Int) < p + f ∧ K ((i : Int) - p).toNat = true then l.getD ((i : Int) - p).toNat zs else S.getD i zs := by
  refine ⟨fun n => decide (n < keep.length ∧ (keep.getD n 0).tmod 2 = 1), ?_⟩
  unfold cr
  have hL : ((wrs p l).take f).length = f := by rw [List.length_take, wrs_len]; omega
  rw [hL]
  have key : ∀ (m : Nat), m ≤ f → ∀ i : Nat, (upto (fun S n => if n < keep.length ∧ (keep.getD n 0).tmod 2 = 1 then S.set (((wrs p l).take f).getD n w0).at_.toNat (((wrs p l).take f).getD n w0).s else S) S m).getD i zs = if p ≤ i ∧ (i : Int) < p + m ∧ decide (((i : Int) - p).toNat < keep.length ∧ (keep.getD ((i : Int) - p).toNat 0).tmod 2 = 1) = true then l.getD ((i : Int) - p).toNat zs else S.getD i zs := by
    intro m
    induction m with
    | zero => intro _ i; rw [if_neg (by omega)]; rfl
    | succ m ih =>
      intro hm i
      have hlen := upto_len (fun S n => if n < keep.length ∧ (keep.getD n 0).tmod 2 = 1 then S.set (((wrs p l).take f).getD n w0).at_.toNat (((wrs p l).take f).getD n w0).s else S) (fun s n => by split <;> simp) S m
      have hg : ((wrs p l).take f).getD m w0 = ⟨p + (m : Int), l.getD m zs⟩ := by
        rw [← wrs_get l p m (by omega), List.getD_eq_getElem?_getD, List.getD_eq_getElem?_getD, List.getElem?_take_of_lt (by omega)]
      have hih := ih (by omega) i
      show ((fun S n => if n < keep.length ∧ (keep.getD n 0).tmod 2 = 1 then S.set (((wrs p l).take f).getD n w0).at_.toNat (((wrs p l).take f).getD n w0).s else S) (upto (fun S n => if n < keep.length ∧ (keep.getD n 0).tmod 2 = 1 then S.set (((wrs p l).take f).getD n w0).at_.toNat (((wrs p l).take f).getD n w0).s else S) S m) m).getD i zs = _
      generalize upto (fun S n => if n < keep.length ∧ (keep.getD n 0).tmod 2 = 1 then S.set (((wrs p l).take f).getD n w0).at_.toNat (((wrs p l).take f).getD n w0).s else S) S m = U at hlen hih ⊢
      simp only [hg]
      by_cases hk : m < keep.length ∧ (keep.getD m 0).tmod 2 = 1
      · rw [if_pos hk, getD_set2 _ _ _ _ (by omega)]
        by_cases hi : i = (p + (m : Int)).toNat
        · rw [if_pos hi, if_pos ⟨by omega, by omega, by rw [show ((i : Int) - p).toNat = m by omega]; exact decide_eq_true hk⟩, show ((i : Int) - p).toNat = m by omega]
        · rw [if_neg hi, hih]
          by_cases hc : p ≤ (i : Int) ∧ (i : Int) < p + (m : Int) ∧ decide (((i : Int) - p).toNat < keep.length ∧ (keep.getD ((i : Int) - p).toNat 0).tmod 2 = 1) = true
          · rw [if_pos hc, if_pos ⟨hc.1, by omega, hc.2.2⟩]
          · rw [if_neg hc, if_neg fun h => hc ⟨h.1, by omega, h.2.2⟩]
      · rw [if_neg hk, hih]
        by_cases hi : (i : Int) = p + (m : Int)
        · rw [if_neg (by omega), if_neg fun h => hk (by have := of_decide_eq_true h.2.2; rw [show ((i : Int) - p).toNat = m by omega] at this; exact this)]
        · by_cases hc : p ≤ (i : Int) ∧ (i : Int) < p + (m : Int) ∧ decide (((i : Int) - p).toNat < keep.length ∧ (keep.getD ((i : Int) - p).toNat 0).tmod 2 = 1) = true
          · rw [if_pos hc, if_pos ⟨hc.1, by omega, hc.2.2⟩]
          · rw [if_neg hc, if_neg fun h => hc ⟨h.1, by omega, h.2.2⟩]
  exact key f (Nat.le_refl _)
theorem take_eq_of_get {A B : List Sc} {n : Nat} (hA : n ≤ A.length) (hB : n ≤ B.length) (h : ∀ j : Nat, j < n → A.getD j zs = B.getD j zs) : A.take n = B.take n := by
  apply List.ext_getElem (by simp; omega)
  intro j h1 h2
  rw [List.length_take] at h1 h2
  have := h j (by omega)
  rw [List.getD_eq_getElem?_getD, List.getD_eq_getElem?_getD, List.getElem?_eq_getElem (by omega), List.getElem?_eq_getElem (by omega)] at this
  rw [List.getElem_take, List.getElem_take]
  exact this
/-- of a group that was written in part there is nothing to be read, or it is there whole -/
theorem readF_mix {q : Int} (hq : 0 ≤ q ∧ q ≤ 4294960000) {l : List Itm} (hI : IsI l) (hg : goodG l = true) {X : List Sc} (hX : AllSec X) (hlen : (layG q l).length ≤ X.length) {K : Nat → Bool} (h1 : ∀ j : Nat, j < X.length → (j < (layG q l).length ∧ X.getD j zs = (layG q l).getD j zs) ∨ ¬ (q ≤ Su.seqOf (X.getD j zs) ∧ Su.seqOf (X.getD j zs) < q + 100)) :
    readF q X = none ∨ (readF q X = some (l, (layG q l).length, (l.length + 23) / 24) ∧ ∀ j : Nat, j < (layG q l).length → X.getD j zs = (layG q l).getD j zs) := by
  cases hr : readF q X with
  | none => exact .inl rfl
  | some y =>
    right
    obtain ⟨i1, i2, i3, i4⟩ := readF_some hX hr
    have hpn : partsN y.1 ≤ 3 := by
      obtain ⟨z1, z2, _⟩ := goodG_spec i1
      rw [partsN_good i1]; omega
    have hylen : (layG q y.1).length = y.2.1 := by rw [← i4, List.length_take]; omega
    have hk : ∀ j : Nat, j < y.2.1 → j < (layG q l).length ∧ X.getD j zs = (layG q l).getD j zs := by
      intro j hj
      rcases h1 j (by omega) with h | h
      · exact h
      · exfalso
        have hx : X.getD j zs = (layG q y.1).getD j zs := by
          rw [← i4, List.getD_eq_getElem?_getD, List.getD_eq_getElem?_getD, List.getElem?_take_of_lt hj]
        have hm : (layG q y.1).getD j zs ∈ layG q y.1 := by
          rw [List.getD_eq_getElem?_getD, List.getElem?_eq_getElem (by omega)]; exact List.getElem_mem _
        have := layG_nums (q := q) (by omega) i2 i1 _ hm
        rw [hx] at h
        omega
    have hle : y.2.1 ≤ (layG q l).length := by
      rcases Nat.lt_or_ge (layG q l).length y.2.1 with h | h
      · have := (hk (layG q l).length h).1; omega
      · exact h
    have e1 : layG q y.1 = (layG q l).take y.2.1 := by
      rw [← i4]; exact take_eq_of_get i3 hle fun j hj => (hk j hj).2
    have e2 : layG q l = layG q y.1 ++ (layG q l).drop y.2.1 := by rw [e1, List.take_append_drop]
    have r1 := readF_lay (q := q) (by omega) i2 i1 ((layG q l).drop y.2.1)
    have r2 := readF_lay (q := q) (by omega) hI hg []
    rw [← e2] at r1
    rw [List.append_nil] at r2
    rw [r1] at r2
    have hyl : y.1 = l := congrArg Prod.fst (Option.some.inj r2)
    have hyn : y.2.1 = (layG q l).length := by rw [← hylen, hyl]
    refine ⟨?_, fun j hj => (hk j (by omega)).2⟩
    have r3 := readF_lay (q := q) (by omega) hI hg (X.drop y.2.1)
    rw [← hyl, ← i4, List.take_append_drop, hr] at r3
    rw [r3, hyl, ← hyl, i4]
/-! ### ScanBack -/
abbrev SBo := ((Bool × Int × Int × Int × Int × Int × Int × List Int × Int × Int × Int × Int × Int × Int × Int × Int × Int × Int × Int × Int × List Int × List (List Itm) × List Itm × List (List Int) × List Wr × List Int) ⊕ (Int × Int × Int × Int × Int × Int × List Int × Int × Int × Int × Int × Int × Int × Int × Int × Int × Int × Int × Int × List Int × List (List Itm) × List Itm × List (List Int) × List Wr × List Int)) ⊕ ((Bool × List Itm × Int × Int × Int × Int × Int × Int × List Int × Int × Int × Int × Int × Int × Int × Int × Int × Int × Int × Int × Int × List Int × List (List Itm) × List (List Int) × List Wr × List Int) ⊕ (List Itm × Int × Int × Int × Int × Int × Int × List Int × Int × Int × Int × Int × Int × Int × Int × Int × Int × Int × Int × Int × List Int × List (List Itm) × List (List Int) × List Wr × List Int))
def SBpost (g : Geo) (ls : List (List Itm)) (xoff xat : Int) (keep : List Int) (a0 : Pl) (S0 : List Sc) (fr : List Int) (o : SBo) : Prop :=
  (∃ y, o = .inl (.inl y) ∧ y.1 = true) ∨
  (∃ rs a f d S, Run15 g a0 S0 rs a S ∧ rs.length ≤ ls.length ∧ o = .inl (.inr (g.1, g.2, g.3, g.4, xoff, xat, keep, f, d, a0.1, a0.2, a0.3, g.1, g.2, g.3, g.4, a.1, a.2, a.3, a.4, rs.map Rec15.l, [], S, [], fr))) ∨
  (∃ rs a l b d S, ∃ f : Nat, Run15 g a0 S0 rs a S ∧ rs.length ≤ ls.length ∧ IsI l ∧ goodG l = true ∧ ((layG a.Seq l).length : Int) ≤ g.3 ∧ roomF g a (layG a.Seq l).length = some b ∧ f ≤ (layG a.Seq l).length ∧ o = .inr (.inr (l, g.1, g.2, g.3, g.4, xoff, xat, keep, -1, d, a0.1, a0.2, a0.3, g.1, g.2, g.3, g.4, a.1, a.2, a.3, a.4, rs.map Rec15.l, S, (wrs (frontP g b) (layG a.Seq l)).take f, fr)))
theorem bk_loop {k : Nat} (hk : 5000 < k) {g : Geo} {a0 : Pl} {S0 : List Sc} (hj : jOk g a0 = true) (hS : AllSec S0) (hlen : (S0.length : Int) = 4 + g.2 * g.3) (hq0 : 0 ≤ a0.Seq ∧ a0.Seq ≤ 4294960000) (hnum : NumFree S0 a0.Seq) (hfn : a0.Free.length ≤ 100)
    {ls : List (List Itm)} (hls : ls.length ≤ 30) (hw : ∀ l ∈ ls, l.length ≤ maxLen ∧ IsI l ∧ l.length < k) {xoff xat : Int} (hx : -9223372036854775808 ≤ xat ∧ xat ≤ 9223372036854775807) {keep fr : List Int} : ∀ (m i n : Nat) (rs : List Rec15) (a : Pl) (d : Int) (S : List Sc), ls.length - i = m → i ≤ ls.length → m + 1 < n → Run15 g a0 S0 rs a S → rs.length ≤ i → 0 ≤ d ∧ d ≤ 200 * i →
    ∃ o, L12_18 k n (.inl (ls, (i : Int), g.1, g.2, g.3, g.4, xoff, xat, keep, -1, d, a0.1, a0.2, a0.3, g.1, g.2, g.3, g.4, a.1, a.2, a.3, a.4, rs.map Rec15.l, [], S, [], fr)) = some o ∧ SBpost g ls xoff xat keep a0 S0 fr o := by
  have st : ∀ n x, L12_18 k (n + 1) x = R12_18 k (L12_18 k n) x := fun _ _ => rfl
  -- behind the last group
  have fin : ∀ (n : Nat) (rs : List Rec15) (a : Pl) (f d : Int) (S : List Sc), 0 < n → L12_18 k n (.inl (ls, (ls.length : Int), g.1, g.2, g.3, g.4, xoff, xat, keep, f, d, a0.1, a0.2, a0.3, g.1, g.2, g.3, g.4, a.1, a.2, a.3, a.4, rs.map Rec15.l, [], S, [], fr)) = some (.inl (.inr (g.1, g.2, g.3, g.4, xoff, xat, keep, f, d, a0.1, a0.2, a0.3, g.1, g.2, g.3, g.4, a.1, a.2, a.3, a.4, rs.map Rec15.l, [], S, [], fr))) := by
    intro n rs a f d S hn
    obtain ⟨n, rfl⟩ : ∃ q, n = q + 1 := ⟨n - 1, by omega⟩
    rw [st]
    unfold R12_18
    simp only [Int.lt_irrefl, decide_false, cond_false]
  have finB : ∀ (n : Nat) (rs : List Rec15) (a : Pl) (l : List Itm) (f d : Int) (S : List Sc) (L : List Wr), 0 < n → L12_18 k n (.inr (ls, l, (ls.length : Int), g.1, g.2, g.3, g.4, xoff, xat, keep, f, d, a0.1, a0.2, a0.3, g.1, g.2, g.3, g.4, a.1, a.2, a.3, a.4, rs.map Rec15.l, S, L, fr)) = some (.inr (.inr (l, g.1, g.2, g.3, g.4, xoff, xat, keep, f, d, a0.1, a0.2, a0.3, g.1, g.2, g.3, g.4, a.1, a.2, a.3, a.4, rs.map Rec15.l, S, L, fr))) := by
    intro n rs a l f d S L hn
    obtain ⟨n, rfl⟩ : ∃ q, n = q + 1 := ⟨n - 1, by omega⟩
    rw [st]
    unfold R12_18
    simp only [Int.lt_irrefl, decide_false, cond_false]
  intro m
  induction m with
  | zero =>
    intro i n rs a d S hm hi hn hrun hrl hd
    have : i = ls.length := by omega
    subst this
    exact ⟨_, fin n rs a (-1) d S (by omega), .inr (.inl ⟨rs, a, -1, d, S, hrun, hrl, rfl⟩)⟩
  | succ m ih =>
    intro i n rs a d S hm hi hn hrun hrl hd
    obtain ⟨n, rfl⟩ : ∃ q, n = q + 1 := ⟨n - 1, by omega⟩
    have hlt : i < ls.length := by omega
    have hmem : ls.getD i [] ∈ ls := by rw [List.getD_eq_getElem?_getD, List.getElem?_eq_getElem hlt]; exact List.getElem_mem hlt
    obtain ⟨hl, hI, hlk⟩ := hw _ hmem
    have hr : inRange (i : Int) ls.length = true := inRange_true (by omega)
    have hdl : decide ((i : Int) < (ls.length : Int)) = true := by simp; omega
    have w1 : IntKind.i64.wrap ((i : Int) + 1) = ((i + 1 : Nat) : Int) := by rw [wI_in (by omega)]; omega
    obtain ⟨f1, hf1, hg1⟩ := fair13 (k := k) hl hlk
    have hwk := wakes15 k (by omega)
    have hroom : ∀ y : List Itm, (rs.map Rec15.l).length + [y].length ≤ roomMost := fun y => by rw [List.length_map]; simp [roomMost]; omega
    have hset : ∀ y z : List Itm, (List.replicate 1 y).set 0 z = [z] := fun _ _ => rfl
    have ho := run_ok hj hS hlen hq0 hnum hrun (by omega)
    obtain ⟨hg, _⟩ := jOk_spec ho.ok
    have har := area hg
    rw [st]
    unfold R12_18
    simp only [Int.toNat_natCast, hr, hdl, cond_true, hf1, Option.bind_some, w1, hset, hroom, decide_true]
    generalize hly : ls.getD i [] = l at *
    cases f1 with
    | false => exact ⟨.inl (.inl (true, g.1, g.2, g.3, g.4, xoff, xat, keep, -1, d, a0.1, a0.2, a0.3, g.1, g.2, g.3, g.4, a.1, a.2, a.3, a.4, rs.map Rec15.l, [], S, [], fr)), by simp only [Bool.not_false, cond_true, hwk, Option.bind_some], .inl ⟨_, rfl, rfl⟩⟩
    | true =>
      obtain ⟨hll, hlb⟩ := hg1 rfl
      simp only [Bool.not_true, cond_false]
      -- a put without a failure
      have plain : ∃ o, ((F23 k (l, g.1, g.2, g.3, g.4, a.1, a.2, a.3, a.4, -1, d, S, [])).bind fun r => bif r.fst == (0 : Int) then L12_18 k n (.inl (ls, ((i + 1 : Nat) : Int), g.1, g.2, g.3, g.4, xoff, xat, keep, r.snd.snd.snd.snd.snd.snd.snd.snd.snd.fst, r.snd.snd.snd.snd.snd.snd.snd.snd.snd.snd.fst, a0.1, a0.2, a0.3, r.snd.fst, r.snd.snd.fst, r.snd.snd.snd.fst, r.snd.snd.snd.snd.fst, r.snd.snd.snd.snd.snd.fst, r.snd.snd.snd.snd.snd.snd.fst, r.snd.snd.snd.snd.snd.snd.snd.fst, r.snd.snd.snd.snd.snd.snd.snd.snd.fst, rs.map Rec15.l ++ [l], [], r.snd.snd.snd.snd.snd.snd.snd.snd.snd.snd.snd.snd.fst, r.snd.snd.snd.snd.snd.snd.snd.snd.snd.snd.snd.snd.snd, fr)) else bif r.fst == (12 : Int) then L12_18 k n (.inr (ls, l, ((i + 1 : Nat) : Int), g.1, g.2, g.3, g.4, xoff, xat, keep, r.snd.snd.snd.snd.snd.snd.snd.snd.snd.fst, r.snd.snd.snd.snd.snd.snd.snd.snd.snd.snd.fst, a0.1, a0.2, a0.3, r.snd.fst, r.snd.snd.fst, r.snd.snd.snd.fst, r.snd.snd.snd.snd.fst, r.snd.snd.snd.snd.snd.fst, r.snd.snd.snd.snd.snd.snd.fst, r.snd.snd.snd.snd.snd.snd.snd.fst, r.snd.snd.snd.snd.snd.snd.snd.snd.fst, rs.map Rec15.l, r.snd.snd.snd.snd.snd.snd.snd.snd.snd.snd.snd.snd.fst, r.snd.snd.snd.snd.snd.snd.snd.snd.snd.snd.snd.snd.snd, fr)) else L12_18 k n (.inl (ls, ((i + 1 : Nat) : Int), g.1, g.2, g.3, g.4, xoff, xat, keep, r.snd.snd.snd.snd.snd.snd.snd.snd.snd.fst, r.snd.snd.snd.snd.snd.snd.snd.snd.snd.snd.fst, a0.1, a0.2, a0.3, r.snd.fst, r.snd.snd.fst, r.snd.snd.snd.fst, r.snd.snd.snd.snd.fst, r.snd.snd.snd.snd.snd.fst, r.snd.snd.snd.snd.snd.snd.fst, r.snd.snd.snd.snd.snd.snd.snd.fst, r.snd.snd.snd.snd.snd.snd.snd.snd.fst, rs.map Rec15.l, [], r.snd.snd.snd.snd.snd.snd.snd.snd.snd.snd.snd.snd.fst, r.snd.snd.snd.snd.snd.snd.snd.snd.snd.snd.snd.snd.snd, fr))) = some o ∧ SBpost g ls xoff xat keep a0 S0 fr o := by
        have hput := put_eq (k := k) (by omega) ho.ok (by have := ho.fn; omega) hI (f := -1) (d := d) (S := S) (L := []) (by have := ho.len; omega) (by have := ho.len; omega) (by omega) (by omega) (by simp) (Ats.nil _)
        rcases put_run hrun d hI with ⟨e, he, hP⟩ | ⟨r, a', S', hl2, hP, hR, hle, hra, hpl⟩
        · obtain ⟨o, ho1, ho2⟩ := ih (i + 1) n rs a d S (by omega) hlt (by omega) hrun (by omega) (by omega)
          refine ⟨o, ?_, ho2⟩
          rw [hput, hP]
          have he0 : (e == 0) = false := by rcases he with rfl | rfl <;> rfl
          have he1 : (e == 12) = false := by rcases he with rfl | rfl <;> rfl
          simp only [Option.bind_some, he0, he1, cond_false]
          exact ho1
        · obtain ⟨o, ho1, ho2⟩ := ih (i + 1) n (rs ++ [r]) a' (d + (layG a.Seq l).length + 1) S' (by omega) hlt (by omega) hR (by simp; omega) (by omega)
          rw [List.map_append, List.map_singleton, hl2] at ho1
          refine ⟨o, ?_, ho2⟩
          rw [hput, hP]
          simp only [Option.bind_some, beq_self_eq_true, cond_true]
          exact ho1
      by_cases hlast : i + 1 = ls.length
      · have e1 : (((i + 1 : Nat) : Int) == (ls.length : Int)) = true := by rw [hlast]; simp
        simp only [e1, cond_true]
        by_cases hxa : xat ≥ 0
        · obtain ⟨f, rfl⟩ : ∃ f : Nat, xat = (f : Int) := ⟨xat.toNat, by omega⟩
          have hfl : F31 k ((f : Int), -1, d, S, []) = some ((f : Int), d, S, []) := by
            have : F31 k ((f : Int), -1, d, S, []) = some (if (f : Int) < -1 then -1 else (f : Int), d, S, []) := rfl
            rw [this, if_neg (by omega)]
          have hput := put_eq (k := k) (by omega) ho.ok (by have := ho.fn; omega) hI (f := (f : Int)) (d := d) (S := S) (L := []) (by have := ho.len; omega) (by have := ho.len; omega) (by omega) (by omega) (by simp) (Ats.nil _)
          simp only [decide_eq_true hxa, cond_true, hfl, Option.bind_some]
          rcases put_fail hrun f d hI with ⟨e, he, hP⟩ | ⟨r, a', S', f', hl2, hle, hff, hR, hP⟩ | ⟨b, h1, h2, h3, h4, hP⟩
          · refine ⟨_, ?_, .inr (.inl ⟨rs, a, f, d, S, hrun, by omega, rfl⟩)⟩
            rw [hput, hP]
            have he0 : (e == 0) = false := by rcases he with rfl | rfl <;> rfl
            have he1 : (e == 12) = false := by rcases he with rfl | rfl <;> rfl
            simp only [Option.bind_some, he0, he1, cond_false, hlast]
            exact fin n rs a f d S (by omega)
          · refine ⟨_, ?_, .inr (.inl ⟨rs ++ [r], a', f', d + (layG a.Seq l).length + 1, S', hR, by simp; omega, rfl⟩)⟩
            rw [hput, hP]
            have := fin n (rs ++ [r]) a' f' (d + (layG a.Seq l).length + 1) S' (by omega)
            rw [List.map_append, List.map_singleton, hl2] at this ⊢
            simp only [Option.bind_some, beq_self_eq_true, cond_true, hlast]
            exact this
          · refine ⟨_, ?_, .inr (.inr ⟨rs, a, l, b, d + f, S, f, hrun, by omega, hI, h1, h2, h3, h4, rfl⟩)⟩
            rw [hput, hP]
            simp only [Option.bind_some, show ((12 : Int) == 0) = false from rfl, beq_self_eq_true, cond_false, cond_true, hlast]
            exact finB n rs a l (-1) (d + f) S _ (by omega)
        · simp only [decide_eq_false hxa, cond_false]
          exact plain
      · have e1 : (((i + 1 : Nat) : Int) == (ls.length : Int)) = false := beq_ne (by omega)
        simp only [e1, cond_false]
        exact plain
theorem back_mix {g : Geo} {a0 a b : Pl} {S0 S S' : List Sc} {rs : List Rec15} (hok : RunOk g a0 S0 rs a S) (hnum : NumFree S0 a0.Seq) (hq0 : 0 ≤ a0.Seq ∧ a0.Seq ≤ 4294950000) (hr : rs.length ≤ 100) (hS' : AllSec S') {l : List Itm} (hI : IsI l) (hgd : goodG l = true) (hle : ((layG a.Seq l).length : Int) ≤ g.3) (hroom : roomF g a (layG a.Seq l).length = some b)
    {f : Nat} (hf : f ≤ (layG a.Seq l).length) {K : Nat → Bool} (hmix : ∀ i : Nat, S'.getD i zs = if frontP g b ≤ i ∧ (i : Int) < frontP g b + f ∧ K ((i : Int) - frontP g b).toNat = true then (layG a.Seq l).getD ((i : Int) - frontP g b).toNat zs else S.getD i zs) :
    nextF g S' a = none ∨ (nextF g S' a = some (l, placesF (frontP g b) (latG 0 l), aftP b a.Seq l) ∧ nextF g S' (aftP b a.Seq l) = none) := by
  obtain ⟨hg, h1, h2, h3, h4, h5⟩ := jOk_spec hok.ok
  have hgs := gOk_spec hg
  have har := area hg
  obtain ⟨b1, b2, b3, b4, b5, b6⟩ := roomF_some hok.ok hle hroom
  have hsi := seg_in hg ⟨b1, b2⟩
  obtain ⟨z1, z2, z3, z4⟩ := goodG_spec hgd
  have hq1 := hok.q1; have hq2 := hok.q2
  have hpn : 1 ≤ partsN l ∧ partsN l ≤ 3 := by rw [partsN_good hgd]; omega
  have hwq : IntKind.u32.wrap (b.Seq + IntKind.u32.wrap (partsN l)) = a.Seq + partsN l := by rw [w32_eq, w32_eq, b5]; omega
  have hfb := frontP_toNat hg ⟨b1, b2⟩ b3
  have old : ∀ p : Nat, Open g a p → ¬ (a0.Seq ≤ Su.seqOf (S.getD p zs) ∧ Su.seqOf (S.getD p zs) < a0.Seq + 1000) := fun p hp => by
    rw [hok.op p hp]; exact hnum p
  -- no group of such a number begins at an open place outside
  have stale : ∀ c : Pl, 0 ≤ c.Seg ∧ c.Seg < g.2 → 0 ≤ c.Off → a0.Seq ≤ c.Seq ∧ c.Seq < a0.Seq + 1000 → (c.Off < g.3 → Open g a (4 + c.Seg * g.3 + c.Off) ∧ (c.Seg ≠ b.Seg ∨ b.Off + (layG a.Seq l).length ≤ c.Off)) → atF g S' c = none := by
    intro c c1 c2 c3 c4
    refine atF_stale fun ho => ?_
    have hfc := frontP_toNat hg c1 c2
    obtain ⟨o1, o2⟩ := c4 ho
    have hout : ¬ (frontP g b ≤ ((frontP g c).toNat : Int) ∧ ((frontP g c).toNat : Int) < frontP g b + f ∧ K (((frontP g c).toNat : Int) - frontP g b).toNat = true) := by
      rintro ⟨p1, p2, _⟩
      rw [Int.toNat_of_nonneg hfc] at p1 p2
      unfold frontP at p1 p2
      obtain ⟨e1, e2⟩ := div_unique (n := g.3) (s := c.Seg) (s' := b.Seg) (o := c.Off) (o' := c.Off + c.Seg * g.3 - b.Seg * g.3) (by omega) ⟨c2, ho⟩ (by omega) (by omega)
      rcases o2 with o2 | o2
      · exact o2 e1
      · omega
    rw [hmix, if_neg hout]
    intro he
    exact old (frontP g c).toNat (by rw [Int.toNat_of_nonneg hfc]; exact o1) (by rw [he]; exact c3)
  -- where the group is
  have hopenb : ∀ j : Int, 0 ≤ j → b.Off + j < g.3 → Open g a (4 + b.Seg * g.3 + (b.Off + j)) := by
    intro j j1 j2
    rw [open_at hg ⟨by omega, j2⟩]
    rcases roomF_cases hroom with ⟨rfl, _⟩ | ⟨s, r, hfr, rfl⟩
    · exact .inl ⟨rfl, by omega⟩
    · right; rw [hfr]; exact List.mem_cons_self ..
  have hb : atF g S' b = none ∨ atF g S' b = some (l, placesF (frontP g b) (latG 0 l), aftP b a.Seq l) := by
    have hX := secsF_sec hS' (frontP g b) (g.3 - b.Off).toNat
    have hXl := secsF_len S' (frontP g b) (g.3 - b.Off).toNat
    have hm := readF_mix (q := a.Seq) (by omega) hI hgd hX (by rw [hXl]; omega) (K := K) (fun j hj => by
      rw [hXl] at hj
      rw [secsF_get S' (frontP g b) hj, hmix]
      have e : ((frontP g b + (j : Int)).toNat : Int) = frontP g b + (j : Int) := Int.toNat_of_nonneg (by omega)
      rw [e]
      split
      · rename_i hc
        left
        rw [show (frontP g b + (j : Int) - frontP g b).toNat = j by omega]
        exact ⟨by omega, rfl⟩
      · right
        have := old (frontP g b + (j : Int)).toNat (by
          rw [e]
          have := hopenb (j : Int) (by omega) (by omega)
          unfold frontP
          rw [show 4 + b.Seg * g.3 + b.Off + (j : Int) = 4 + b.Seg * g.3 + (b.Off + (j : Int)) by omega]
          exact this)
        omega)
    unfold atF
    rw [b5]
    rcases hm with h | ⟨h, _⟩
    · rw [h]; exact .inl rfl
    · rw [h]; right
      simp only [Option.map_some]
      unfold aftP
      rw [← partsN_good hgd, b5]
  -- behind it there is none
  have hend : nextF g S' (aftP b a.Seq l) = none := by
    have hbf : ∀ x ∈ b.Free, x ≠ b.Seg ∧ 0 ≤ x ∧ x < g.2 ∧ x ∈ a.Free := by
      intro x hx
      rcases roomF_cases hroom with ⟨rfl, _⟩ | ⟨s, r, hfr, rfl⟩
      · have := freeOk_gt h5 x hx; exact ⟨this.2.2, by omega, this.2.1, hx⟩
      · obtain ⟨m1, _⟩ := jOk_move hok.ok hfr
        have := freeOk_gt (jOk_spec m1).2.2.2.2.2 x hx
        exact ⟨this.2.2, by omega, this.2.1, by rw [hfr]; exact List.mem_cons_of_mem _ hx⟩
    unfold nextF
    have e1 : atF g S' (aftP b a.Seq l) = none := by
      refine stale _ ⟨b1, b2⟩ (by unfold aftP; simp only; omega) (by unfold aftP; simp only [hwq]; omega) fun ho => ?_
      unfold aftP at ho ⊢
      simp only at ho ⊢
      exact ⟨hopenb _ (by omega) ho, .inr (Int.le_refl _)⟩
    rw [e1]
    simp only
    show (match b.Free with | [] => none | s :: r => atF g S' (.mk s 0 (aftP b a.Seq l).Seq r)) = none
    cases hbF : b.Free with
    | nil => rfl
    | cons s r =>
      obtain ⟨x1, x2, x3, x4⟩ := hbf s (by rw [hbF]; exact List.mem_cons_self ..)
      refine stale _ ⟨x2, x3⟩ (by simp) (by unfold aftP; simp only [hwq]; omega) fun ho => ?_
      simp only at ho ⊢
      exact ⟨(open_at hg ⟨by omega, by omega⟩).2 (.inr x4), .inl x1⟩
  rcases roomF_cases hroom with ⟨rfl, _⟩ | ⟨s, r, hfr, rfl⟩
  · rcases hb with hb | hb
    · left
      unfold nextF
      rw [hb]
      simp only
      cases hbF : b.Free with
      | nil => rfl
      | cons s r =>
        have := freeOk_gt h5 s (by rw [hbF]; exact List.mem_cons_self ..)
        refine stale _ ⟨by simp only; omega, this.2.1⟩ (by simp) (by simp only; omega) fun ho => ?_
        simp only at ho ⊢
        exact ⟨(open_at hg ⟨by omega, by omega⟩).2 (.inr (by rw [hbF]; exact List.mem_cons_self ..)), .inl this.2.2⟩
    · right
      refine ⟨?_, hend⟩
      unfold nextF
      rw [hb]
  · obtain ⟨m1, m2⟩ := jOk_move hok.ok hfr
    have ha : atF g S' a = none := by
      refine stale _ ⟨h1, h2⟩ h3 (by omega) fun ho => ?_
      exact ⟨(open_at hg ⟨h3, ho⟩).2 (.inl ⟨rfl, Int.le_refl _⟩), .inl fun e => m2 (by simpa using e.symm)⟩
    rcases hb with hb | hb
    · left
      unfold nextF
      rw [ha, hfr]
      exact hb
    · right
      refine ⟨?_, hend⟩
      unfold nextF
      rw [ha, hfr]
      exact hb
/-- groups that are read are those that were put -/
theorem bk_cmpA {k n : Nat} {rs : List Rec15} (hl : rs.length ≤ 100) (hI : ∀ r ∈ rs, IsI r.l ∧ r.l.length ≤ 1000 ∧ r.p.length = r.l.length) (hk : 2000 < k) (hn : rs.length < n) {x1 x2 x3 x4 x5 x6 x7 c1 c2 c3 f d : Int} {xF cF : List Int} {last : List Itm} {S : List Sc} {L : List Wr} :
    L12_34b k n (0, x1, x2, x3, x4, x5, x6, x7, xF, rs.map Rec15.l, last, grpsF (rs.map fun r => (r.l, r.p)), c1, c2, c3, cF, f, d, S, L) = some (.inr (x1, x2, x3, x4, x5, x6, x7, xF, rs.map Rec15.l, grpsF (rs.map fun r => (r.l, r.p)), c1, c2, c3, cF, f, d, S, L)) := by
  unfold L12_34b
  exact iter_out (R := R12_34b k) (fun x => ∃ j : Nat, j ≤ rs.length ∧ x = ((j : Int), x1, x2, x3, x4, x5, x6, x7, xF, rs.map Rec15.l, last, grpsF (rs.map fun r => (r.l, r.p)), c1, c2, c3, cF, f, d, S, L)) (fun x => rs.length - x.1.toNat) (fun _ => .inr (x1, x2, x3, x4, x5, x6, x7, xF, rs.map Rec15.l, grpsF (rs.map fun r => (r.l, r.p)), c1, c2, c3, cF, f, d, S, L)) (fun x hx => by
    obtain ⟨j, hj, rfl⟩ := hx
    rcases Nat.lt_or_ge j rs.length with h | h
    · right
      have w1 : IntKind.i64.wrap ((j : Int) + 1) = ((j + 1 : Nat) : Int) := by rw [wI_in (by omega)]; omega
      have e1 : (grpsF (rs.map fun r => (r.l, r.p))).getD j (T94.mk [] []) = .mk rs[j].l rs[j].p := by
        unfold grpsF
        rw [List.map_map, List.getD_eq_getElem?_getD, List.getElem?_map, List.getElem?_eq_getElem h]; rfl
      have e2 : (rs.map Rec15.l).getD j [] = rs[j].l := by
        rw [List.getD_eq_getElem?_getD, List.getElem?_map, List.getElem?_eq_getElem h]; rfl
      obtain ⟨i1, i2, i3⟩ := hI _ (List.getElem_mem h)
      have e3 := keepItems_eq (k := k) (a := rs[j].l) (b := rs[j].l) (by omega) i1 i1 (by omega)
      rw [decide_eq_true rfl] at e3
      have r1 : inRange (j : Int) (grpsF (rs.map fun r => (r.l, r.p))).length = true := inRange_true (by rw [grpsF_len, List.length_map]; omega)
      have r2 : inRange (j : Int) (rs.map Rec15.l).length = true := inRange_true (by rw [List.length_map]; omega)
      have r3 : decide ((j : Int) < ((grpsF (rs.map fun r => (r.l, r.p))).length : Int)) = true := by rw [grpsF_len, List.length_map]; simp; omega
      have r4 : decide ((j : Int) < ((rs.map Rec15.l).length : Int)) = true := by rw [List.length_map]; simp; omega
      have r5 : ((rs[j].p.length : Int) != (rs[j].l.length : Int)) = false := by rw [i3]; simp
      refine ⟨_, fun again => ?_, ⟨j + 1, h, rfl⟩, by simp only [Int.toNat_natCast]; omega, rfl⟩
      unfold R12_34b
      simp only [w1, Int.toNat_natCast, r1, r2, r3, r4, cond_true, e1, e2, e3, r5, Option.bind_some, Bool.not_true, cond_false]
    · left
      intro again
      have : j = rs.length := by omega
      subst this
      unfold R12_34b
      simp only [grpsF_len, List.length_map, Int.lt_irrefl, decide_false, cond_false]) ⟨0, by omega, rfl⟩ (by simpa using hn)
theorem bk_cmpB {k n : Nat} {rs : List Rec15} {ex : List (List Itm × List Int)} {last : List Itm} (hex : ex = [] ∨ ∃ p, ex = [(last, p)] ∧ p.length = last.length) (hlast : IsI last ∧ last.length ≤ 1000) (hl : rs.length ≤ 100) (hI : ∀ r ∈ rs, IsI r.l ∧ r.l.length ≤ 1000 ∧ r.p.length = r.l.length) (hk : 2000 < k) (hn : rs.length + 1 < n) {x1 x2 x3 x4 x5 x6 x7 c1 c2 c3 f d : Int} {xF cF : List Int} {S : List Sc} {L : List Wr} :
    L12_34d k n (last, 0, x1, x2, x3, x4, x5, x6, x7, xF, rs.map Rec15.l, grpsF ((rs.map fun r => (r.l, r.p)) ++ ex), c1, c2, c3, cF, f, d, S, L) = some (.inr (x1, x2, x3, x4, x5, x6, x7, xF, rs.map Rec15.l, grpsF ((rs.map fun r => (r.l, r.p)) ++ ex), c1, c2, c3, cF, f, d, S, L)) := by
  have hexl : ex.length ≤ 1 := by rcases hex with rfl | ⟨p, rfl, _⟩ <;> simp
  generalize hG : grpsF ((rs.map fun r => (r.l, r.p)) ++ ex) = G
  have hGl : G.length = rs.length + ex.length := by rw [← hG, grpsF_len, List.length_append, List.length_map]
  unfold L12_34d
  exact iter_out (R := R12_34d k) (fun x => ∃ j : Nat, j ≤ G.length ∧ x = (last, (j : Int), x1, x2, x3, x4, x5, x6, x7, xF, rs.map Rec15.l, G, c1, c2, c3, cF, f, d, S, L)) (fun x => G.length - x.2.1.toNat) (fun _ => .inr (x1, x2, x3, x4, x5, x6, x7, xF, rs.map Rec15.l, G, c1, c2, c3, cF, f, d, S, L)) (fun x hx => by
    obtain ⟨j, hj, rfl⟩ := hx
    have w1 : IntKind.i64.wrap ((j : Int) + 1) = ((j + 1 : Nat) : Int) := by rw [wI_in (by omega)]; omega
    rcases Nat.lt_or_ge j G.length with hjG | hjG
    · right
      have r1 : inRange (j : Int) G.length = true := inRange_true (by omega)
      have r3 : decide ((j : Int) < (G.length : Int)) = true := by simp; omega
      rcases Nat.lt_or_ge j rs.length with h | h
      · have e1 : G.getD j (T94.mk [] []) = .mk rs[j].l rs[j].p := by
          rw [← hG]
          unfold grpsF
          rw [List.map_append, List.map_map, List.getD_eq_getElem?_getD, List.getElem?_append_left (by rw [List.length_map]; exact h), List.getElem?_map, List.getElem?_eq_getElem h]; rfl
        have e2 : (rs.map Rec15.l).getD j [] = rs[j].l := by
          rw [List.getD_eq_getElem?_getD, List.getElem?_map, List.getElem?_eq_getElem h]; rfl
        obtain ⟨i1, i2, i3⟩ := hI _ (List.getElem_mem h)
        have e3 := keepItems_eq (k := k) (a := rs[j].l) (b := rs[j].l) (by omega) i1 i1 (by omega)
        rw [decide_eq_true rfl] at e3
        have r2 : inRange (j : Int) (rs.map Rec15.l).length = true := inRange_true (by rw [List.length_map]; omega)
        have r4 : decide ((j : Int) < ((rs.map Rec15.l).length : Int)) = true := by rw [List.length_map]; simp; omega
        have r5 : ((rs[j].p.length : Int) != (rs[j].l.length : Int)) = false := by rw [i3]; simp
        refine ⟨_, fun again => ?_, ⟨j + 1, hjG, rfl⟩, by simp only [Int.toNat_natCast]; omega, rfl⟩
        unfold R12_34d
        simp only [w1, Int.toNat_natCast, r1, r2, r3, r4, cond_true, e1, e2, e3, r5, Option.bind_some, Bool.not_true, cond_false]
      · have hje : j = rs.length := by omega
        rcases hex with rfl | ⟨p, rfl, hp⟩
        · simp at hGl; omega
        · have e1 : G.getD j (T94.mk [] []) = .mk last p := by
            rw [← hG, hje]
            unfold grpsF
            rw [List.map_append, List.getD_eq_getElem?_getD, List.getElem?_append_right (by simp)]
            simp
          have e3 := keepItems_eq (k := k) (a := last) (b := last) (by omega) hlast.1 hlast.1 (by omega)
          rw [decide_eq_true rfl] at e3
          have r4 : decide ((j : Int) < ((rs.map Rec15.l).length : Int)) = false := by rw [List.length_map]; simp; omega
          have r5 : ((p.length : Int) != (last.length : Int)) = false := by rw [hp]; simp
          refine ⟨_, fun again => ?_, ⟨j + 1, hjG, rfl⟩, by simp only [Int.toNat_natCast]; omega, rfl⟩
          unfold R12_34d
          simp only [w1, Int.toNat_natCast, r1, r3, r4, cond_true, e1, e3, r5, Option.bind_some, Bool.not_true, cond_false]
    · left
      intro again
      have : j = G.length := by omega
      subst this
      unfold R12_34d
      simp only [Int.lt_irrefl, decide_false, cond_false]) ⟨0, by omega, rfl⟩ (by simp only [Int.toNat_zero]; omega)
/-! ### ScanBack, whole -/
def lows (n : Nat) : List Int := (List.range n).map fun (i : Nat) => (i : Int)
theorem lows_succ (n : Nat) : lows (n + 1) = lows n ++ [(n : Int)] := by simp [lows, List.range_succ]
theorem lows_len (n : Nat) : (lows n).length = n := by simp [lows]
theorem lows_ok {n : Int} : ∀ (m : Nat), (m : Int) < n → freeOk n (n - 1) (-1) (lows m) = true := by
  intro m
  induction m with
  | zero => intro _; rfl
  | succ m ih =>
    intro h
    rw [lows_succ]
    refine freeOk_snoc (by omega) (by omega) (ih (by omega)) (by omega) fun x hx => ?_
    obtain ⟨i, hi, rfl⟩ := List.mem_map.1 hx
    have := List.mem_range.1 hi
    omega
theorem jOk_lows {g : Geo} (hg : gOk g = true) {t : Int} (ht : 0 ≤ t ∧ t ≤ g.3) (q : Int) : jOk g (.mk (g.2 - 1) t q (lows (g.2 - 1).toNat)) = true := by
  have hgs := gOk_spec hg
  unfold jOk
  simp only [hg, Bool.true_and, Bool.and_eq_true, decide_eq_true_eq]
  exact ⟨⟨⟨⟨by omega, by omega⟩, by omega⟩, by omega⟩, lows_ok _ (by omega)⟩
theorem low_loop {k : Nat} {ls : List (List Itm)} {g1 g2 g3 g4 xo xa f d : Int} {keep : List Int} {S : List Sc} {L : List Wr} (h2 : 6 ≤ g2 ∧ g2 ≤ 16) (hk : 100 < k) :
    L12_6 k k (ls, 0, g1, g2, g3, g4, xo, xa, keep, f, d, [], S, L) = some (ls, g1, g2, g3, g4, xo, xa, keep, f, d, lows (g2 - 1).toNat, S, L) := by
  unfold L12_6
  exact iter_out (R := R12_6 k) (fun x => ∃ m : Nat, (m : Int) < g2 ∧ x = (ls, (m : Int), g1, g2, g3, g4, xo, xa, keep, f, d, lows m, S, L)) (fun x => (g2 - x.2.1).toNat) (fun _ => (ls, g1, g2, g3, g4, xo, xa, keep, f, d, lows (g2 - 1).toNat, S, L)) (fun x hx => by
    obtain ⟨m, hm, rfl⟩ := hx
    have w1 : IntKind.i64.wrap ((m : Int) + 1) = ((m + 1 : Nat) : Int) := by rw [wI_in (by omega)]; omega
    by_cases h : ((m + 1 : Nat) : Int) < g2
    · right
      have hrm : ∀ y : Int, (lows m).length + [y].length ≤ roomMost := fun y => by rw [lows_len]; simp [roomMost]; omega
      refine ⟨_, fun again => ?_, ⟨m + 1, by omega, rfl⟩, by simp only; omega, rfl⟩
      unfold R12_6
      simp only [w1, decide_eq_true h, cond_true, set1, hrm, decide_true, lows_succ]
    · left
      intro again
      have e : (g2 - 1).toNat = m := by omega
      unfold R12_6
      simp only [w1, decide_eq_false h, cond_false, e]) ⟨0, by omega, rfl⟩ (by simp only; omega)
abbrev Fal := T97
theorem ownP4_eq (k : Nat) {a : Pl} (h : a.Free.length ≤ 1000000) : F25 k (T46.mk a.1 a.2 a.3 a.4, ()) = some a := ownL_eq k (a := a) h
theorem wrs_take_ats {S l : List Sc} {p : Int} (hp : 0 ≤ p ∧ p + l.length ≤ S.length) (f : Nat) : Ats S ((wrs p l).take f) := fun w hw => wrs_atsS l p hp.1 hp.2 w (List.mem_of_mem_take hw)
theorem cr_sec {S l : List Sc} {p : Int} {f : Nat} (hp : 0 ≤ p ∧ p + l.length ≤ S.length) (hf : f ≤ l.length) (keep : List Int) (hS : AllSec S) (hl : AllSec l) : AllSec (cr keep S ((wrs p l).take f)) := by
  obtain ⟨K, hK⟩ := cr_mix hp hf keep
  intro x hx
  obtain ⟨i, hi, rfl⟩ := List.getElem_of_mem hx
  have h := hK i
  rw [List.getD_eq_getElem?_getD, List.getElem?_eq_getElem hi] at h
  simp only [Option.getD_some] at h
  rw [h]
  split
  · exact getD_sec hl _
  · exact getD_sec hS _
theorem back_tail {k : Nat} (hk : 5000 < k) {g : Geo} {a0 : Pl} {S0 : List Sc} (hj : jOk g a0 = true) (hS : AllSec S0) (hlen : (S0.length : Int) = 4 + g.2 * g.3) (hq0 : 0 ≤ a0.Seq ∧ a0.Seq ≤ 4294950000) (hnum : NumFree S0 a0.Seq) (hfn : a0.Free.length ≤ 100) {keep : List Int} {rs : List Rec15} {a : Pl} {S : List Sc} (hrun : Run15 g a0 S0 rs a S) (hr : rs.length ≤ 30) {l : List Itm} {b : Pl} {f : Nat} (hI : IsI l) (hgd : goodG l = true) (hle : ((layG a.Seq l).length : Int) ≤ g.3) (hroom : roomF g a (layG a.Seq l).length = some b) (hf : f ≤ (layG a.Seq l).length) :
    ∃ S' ex c, cr keep S ((wrs (frontP g b) (layG a.Seq l)).take f) = S' ∧ Ats S ((wrs (frontP g b) (layG a.Seq l)).take f) ∧ AllSec S' ∧ S'.length = S0.length ∧ Chain15 g S' a0 (rs.map (fun r => (r.l, r.p)) ++ ex) c ∧ (ex = [] ∧ c = a ∨ ∃ p, ex = [(l, p)] ∧ p.length = l.length) := by
  have hok := run_ok hj hS hlen (by omega) hnum hrun (by omega)
  obtain ⟨hg, h1, h2, h3, h4, h5⟩ := jOk_spec hok.ok
  have har := area hg
  obtain ⟨b1, b2, b3, b4, b5, b6⟩ := roomF_some hok.ok hle hroom
  have hsi := seg_in hg ⟨b1, b2⟩
  have hq1 := hok.q1; have hq2 := hok.q2
  have hfp : 0 ≤ frontP g b ∧ frontP g b + (layG a.Seq l).length ≤ S.length := by
    unfold frontP; rw [hok.len]; omega
  obtain ⟨K, hK⟩ := cr_mix hfp hf keep
  have hsec : AllSec (cr keep S ((wrs (frontP g b) (layG a.Seq l)).take f)) := cr_sec hfp hf keep hok.sec (layG_sec (by omega) hI hgd)
  have hlk := hok.lk (cr keep S ((wrs (frontP g b) (layG a.Seq l)).take f)) (fun p hp => by
    rw [hK, if_neg]
    rintro ⟨p1, p2, _⟩
    apply hp
    obtain ⟨o, ho⟩ : ∃ o : Int, (p : Int) = 4 + b.Seg * g.3 + o := ⟨(p : Int) - (4 + b.Seg * g.3), by omega⟩
    unfold frontP at p1 p2
    rw [ho, open_at hg ⟨by omega, by omega⟩]
    rcases roomF_cases hroom with ⟨rfl, _⟩ | ⟨s, r, hfr, rfl⟩
    · exact .inl ⟨rfl, by omega⟩
    · right; rw [hfr]; exact List.mem_cons_self ..)
  rcases back_mix hok hnum hq0 (by omega) hsec hI hgd hle hroom hf hK with h | ⟨h, h'⟩
  · refine ⟨_, [], a, rfl, wrs_take_ats hfp f, hsec, by rw [cr_len, hok.len], ?_, .inl ⟨rfl, rfl⟩⟩
    have := Links.chain (Chain15.nil h) hlk
    rw [hok.st] at this
    exact this
  · refine ⟨_, [(l, placesF (frontP g b) (latG 0 l))], aftP b a.Seq l, rfl, wrs_take_ats hfp f, hsec, by rw [cr_len, hok.len], ?_, .inr ⟨_, rfl, by rw [placesF_len, latG_len']⟩⟩
    have := Links.chain (Chain15.cons h (Chain15.nil h')) hlk
    rw [hok.st] at this
    exact this
theorem scanBack_core (g : Geo) (ls : List (List Itm)) (x : Fal) (hl : ∀ l ∈ ls, l.length ≤ maxLen ∧ IsI l) (hx1 : -9223372036854775808 ≤ x.1 ∧ x.1 ≤ 9223372036854775807) (hx2 : -9223372036854775808 ≤ x.2 ∧ x.2 ≤ 9223372036854775807) : ∃ k, F12 k (g, ls, x, ()) = some true := by
  refine ⟨(ls.map List.length).sum + 100000, ?_⟩
  generalize hk : (ls.map List.length).sum + 100000 = k
  have hw := wakes15 k (by omega)
  have hrg : F17 k (T23.mk g.1 g.2 g.3 g.4, ()) = some (gOk g) := rgood3_eq k g
  unfold F12
  simp only [hrg, Option.bind_some]
  by_cases hg : gOk g = true
  · have hgs := gOk_spec hg
    have har := area hg
    obtain ⟨o1, o2, hof⟩ := rtotal_eq k hg
    have hof' : F19 k (T23.mk g.1 g.2 g.3 g.4, ()) = _ := hof
    simp only [hg, Bool.not_true, cond_false]
    by_cases h30 : ls.length ≤ 30
    · rw [decide_eq_false (by omega), cond_false]
      by_cases hkp : x.3.length ≤ 100
      · rw [decide_eq_false (by omega), cond_false]
        obtain ⟨N, hN⟩ : ∃ N : Nat, 4 + g.2 * g.3 = (N : Int) := ⟨(4 + g.2 * g.3).toNat, by omega⟩
        have hnew := newD_eq (k := k) (n := (N : Int)) (by omega)
        rw [Int.toNat_natCast] at hnew
        rw [hN] at hof'
        have hlow := low_loop (k := k) (ls := ls) (g1 := g.1) (g2 := g.2) (g3 := g.3) (g4 := g.4) (xo := x.1) (xa := x.2) (keep := x.3) (f := -1) (d := 0) (S := freshS N) (L := []) (by omega) (by omega)
        have w1 : IntKind.i64.wrap (g.3 + 1) = g.3 + 1 := wI_in (by omega)
        have w2 : IntKind.i64.wrap (g.2 - 1) = g.2 - 1 := wI_in (by omega)
        generalize hfr : lows (g.2 - 1).toNat = fr at hlow
        have hfl : fr.length ≤ 20 := by rw [← hfr, lows_len]; omega
        simp only [hof', Option.bind_some, hnew, sumK, hlow, w1, w2]
        rw [show (g.3 + 1 != 0) = true from bne_iff_ne.2 (by omega), cond_true]
        have m2 := Int.tmod_lt_of_pos x.1 (show (0 : Int) < g.3 + 1 by omega)
        generalize x.1.tmod (g.3 + 1) = t at m2
        -- what comes of a place
        have hS0 : AllSec (freshS N) := freshS_sec N
        have hlen0 : ((freshS N).length : Int) = 4 + g.2 * g.3 := by rw [freshS_len]; omega
        have hnum : NumFree (freshS N) (9 : Int) := freshS_num N (by omega)
        have hnewJ : ∀ t : Int, 0 ≤ t → t ≤ g.3 → F20 k (g.1, g.2, g.3, g.4, g.2 - 1, t, 9, fr, -1, 0, freshS N, []) = some (.inr (0, -1, 0, g.1, g.2, g.3, g.4, g.2 - 1, t, 9, fr, freshS N, [])) := by
          intro t t1 t2
          have hj := newJ_eq (k := k) (g := g) (a := .mk (g.2 - 1) t 9 fr) (f := -1) (d := 0) (S := freshS N) (L := []) (by simp only; omega) (by simp only; omega) (by rw [freshS_len]; omega) (by simp)
          rw [if_pos ⟨by rw [← hfr]; exact jOk_lows hg ⟨t1, t2⟩ 9, by rw [freshS_len]; omega⟩] at hj
          exact hj
        have hloop : ∀ t : Int, 0 ≤ t → t ≤ g.3 → ∃ o, L12_18 k k (.inl (ls, 0, g.1, g.2, g.3, g.4, x.1, x.2, x.3, -1, 0, g.2 - 1, t, 9, g.1, g.2, g.3, g.4, g.2 - 1, t, 9, fr, [], [], freshS N, [], fr)) = some o ∧ SBpost g ls x.1 x.2 x.3 (.mk (g.2 - 1) t 9 fr) (freshS N) fr o := by
          intro t t1 t2
          exact bk_loop (k := k) (by omega) (g := g) (a0 := .mk (g.2 - 1) t 9 fr) (S0 := freshS N) (by rw [← hfr]; exact jOk_lows hg ⟨t1, t2⟩ 9) hS0 hlen0 (by simp) hnum (by simp only; omega) (ls := ls) h30 (fun l h => ⟨(hl l h).1, (hl l h).2, by have := sum_geS h; omega⟩) (xoff := x.1) hx2 (keep := x.3) (fr := fr) ls.length 0 k [] _ 0 _ (by omega) (by omega) (by omega) Run15.nil (by simp) (by omega)
        have hrep : List.replicate (0 : Nat) (0 : Int) ++ x.3 = x.3 := rfl
        have hrm : decide ((List.replicate (0 : Nat) (0 : Int)).length + x.3.length ≤ roomMost) = true := roomMost_ge (by simp; omega)
        by_cases ht : t < 0
        case' pos =>
          have hJ := hnewJ 0 (by omega) (by omega)
          obtain ⟨o, h1, h2⟩ := hloop 0 (by omega) (by omega)
          have hJO : jOk g (.mk (g.2 - 1) 0 9 fr) = true := by rw [← hfr]; exact jOk_lows hg ⟨by omega, by omega⟩ 9
          simp only [decide_eq_true ht, cond_true]
        case' neg =>
          have hJ := hnewJ t (by omega) (by omega)
          obtain ⟨o, h1, h2⟩ := hloop t (by omega) (by omega)
          have hJO : jOk g (.mk (g.2 - 1) t 9 fr) = true := by rw [← hfr]; exact jOk_lows hg ⟨by omega, by omega⟩ 9
          simp only [decide_eq_false ht, cond_false]
        all_goals
          simp only [hJ, Option.bind_some, bne_self_eq_false, cond_false, h1]
          rcases h2 with ⟨y, rfl, hy⟩ | ⟨rs, a, f, d, S, hrun, hrl, rfl⟩ | ⟨rs, a, l, b, d, S, f, hrun, hrl, hI, hgd, hle, hroom, hf, rfl⟩
          · simp only [hy]
          · have hok := run_ok hJO hS0 hlen0 (by simp) hnum hrun (by omega)
            have hend := run_end hnum hok (by omega)
            have hch := Links.chain (Chain15.nil hend) (hok.lk S (fun _ _ => rfl))
            rw [List.append_nil, hok.st] at hch
            have hfa := hok.fn
            simp only at hfa
            have hcr := crash_eqS (k := k) (f := f) (d := d) (S := S) (L := []) (by simp) (by omega) (fun w hw => by cases hw) x.3
            have hcr0 : cr x.3 S [] = S := rfl
            rw [hcr0] at hcr
            have hlen1 := hok.len
            rw [freshS_len] at hlen1
            have hrd := sread_eq (k := k) (by omega) (f := -1) (d := d) hok.sec (by omega) hch hJO (by simp only; omega) (by simp) (by rw [List.length_map]; omega)
            simp only at hrd
            have hat := at_eq (k := k) (g := g) (a := a) (by omega) (f := -1) (d := d) (S := S) (L := [])
            have hown := ownP4_eq k (a := a) (by omega)
            have hsame : F24 k (T46.mk a.1 a.2 a.3 a.4, T46.mk a.1 a.2 a.3 a.4, ()) = some true := same_self (k := k) (a := a) (by omega) (by omega)
            have hrI : ∀ r ∈ rs, IsI r.l ∧ r.l.length ≤ 1000 ∧ r.p.length = r.l.length := fun r hr => by
              obtain ⟨z1, z2, z3⟩ := run_recs hrun r hr
              have := (goodG_spec z2).2.1
              exact ⟨z1, by omega, z3⟩
            have hcmp := fun (x1 x2 x3 x4 x5 x6 x7 c1 c2 c3 f d : Int) (xF cF : List Int) (S : List Sc) (L : List Wr) => bk_cmpA (k := k) (n := k) (rs := rs) (by omega) hrI (by omega) (by omega) (x1 := x1) (x2 := x2) (x3 := x3) (x4 := x4) (x5 := x5) (x6 := x6) (x7 := x7) (c1 := c1) (c2 := c2) (c3 := c3) (f := f) (d := d) (xF := xF) (cF := cF) (last := []) (S := S) (L := L)
            have l1 : (((grpsF (rs.map fun r => (r.l, r.p))).length : Int)) = (rs.length : Int) := by rw [grpsF_len, List.length_map]
            have l2 : (((rs.map Rec15.l).length : Int)) = (rs.length : Int) := by rw [List.length_map]
            have w3 : IntKind.i64.wrap ((rs.length : Int) + 1) = (rs.length : Int) + 1 := wI_in (by omega)
            simp only [hrm, cond_true, hrep, hcr, Option.bind_some, hrd, bne_self_eq_false, cond_false, l1, l2, w3, decide_eq_false (show ¬ ((rs.length : Int) < (rs.length : Int)) by omega), decide_eq_false (show ¬ ((rs.length : Int) > (rs.length : Int) + 1) by omega), hcmp, hat, hown, hsame, hw]
          · have hlim := (goodG_spec hgd).2.1
            obtain ⟨S', ex, c, hS', hats, hsec, hlen', hch, hex⟩ := back_tail (k := k) (by omega) hJO hS0 hlen0 (by simp) hnum (by simp only; omega) (keep := x.3) hrun (by omega) hI hgd hle hroom hf
            have hok := run_ok hJO hS0 hlen0 (by simp) hnum hrun (by omega)
            have hfa := hok.fn
            simp only at hfa
            have hcr := crash_eqS (k := k) (f := -1) (d := d) (S := S) (L := (wrs (frontP g b) (layG a.Seq l)).take f) (by rw [List.length_take, wrs_len]; have := layG_short a.Seq hlim; omega) (by omega) hats x.3
            rw [hS'] at hcr
            rw [freshS_len] at hlen'
            have hexl : ex.length ≤ 1 := by rcases hex with ⟨rfl, _⟩ | ⟨p, rfl, _⟩ <;> simp
            have hrd := sread_eq (k := k) (by omega) (f := -1) (d := d) hsec (by omega) hch hJO (by simp only; omega) (by simp) (by rw [List.length_append, List.length_map]; omega)
            simp only at hrd
            have hat := at_eq (k := k) (g := g) (a := a) (by omega) (f := -1) (d := d) (S := S') (L := [])
            have hown := ownP4_eq k (a := a) (by omega)
            have hsame : F24 k (T46.mk a.1 a.2 a.3 a.4, T46.mk a.1 a.2 a.3 a.4, ()) = some true := same_self (k := k) (a := a) (by omega) (by omega)
            have hrI : ∀ r ∈ rs, IsI r.l ∧ r.l.length ≤ 1000 ∧ r.p.length = r.l.length := fun r hr => by
              obtain ⟨z1, z2, z3⟩ := run_recs hrun r hr
              have := (goodG_spec z2).2.1
              exact ⟨z1, by omega, z3⟩
            have hcmp := fun (x1 x2 x3 x4 x5 x6 x7 c1 c2 c3 f d : Int) (xF cF : List Int) (S : List Sc) (L : List Wr) => bk_cmpB (k := k) (n := k) (rs := rs) (ex := ex) (last := l) (by rcases hex with ⟨rfl, _⟩ | ⟨p, rfl, hp⟩; exact .inl rfl; exact .inr ⟨p, rfl, hp⟩) ⟨hI, by omega⟩ (by omega) hrI (by omega) (by omega) (x1 := x1) (x2 := x2) (x3 := x3) (x4 := x4) (x5 := x5) (x6 := x6) (x7 := x7) (c1 := c1) (c2 := c2) (c3 := c3) (f := f) (d := d) (xF := xF) (cF := cF) (S := S) (L := L)
            have l1 : (((grpsF ((rs.map fun r => (r.l, r.p)) ++ ex)).length : Int)) = (rs.length : Int) + (ex.length : Int) := by rw [grpsF_len, List.length_append, List.length_map]; omega
            have l2 : (((rs.map Rec15.l).length : Int)) = (rs.length : Int) := by rw [List.length_map]
            have w3 : IntKind.i64.wrap ((rs.length : Int) + 1) = (rs.length : Int) + 1 := wI_in (by omega)
            have hblt : Nat.blt 0 l.length = true := by
              have := (goodG_spec hgd).1
              simp only [Nat.blt, Nat.ble_eq]; omega
            rcases hex with ⟨rfl, rfl⟩ | ⟨p, rfl, hp⟩
            · simp only [hrm, cond_true, hrep, hcr, Option.bind_some, hrd, bne_self_eq_false, cond_false, l1, l2, w3, List.length_nil, decide_eq_false (show ¬ ((rs.length : Int) + ((0 : Nat) : Int) < (rs.length : Int)) by omega), decide_eq_false (show ¬ ((rs.length : Int) + ((0 : Nat) : Int) > (rs.length : Int) + 1) by omega), decide_eq_false (show ¬ ((rs.length : Int) + ((0 : Nat) : Int) > (rs.length : Int)) by omega), hcmp, hat, hown, hsame, hw]
            · simp only [hrm, cond_true, hrep, hcr, Option.bind_some, hrd, bne_self_eq_false, cond_false, l1, l2, w3, List.length_singleton, decide_eq_false (show ¬ ((rs.length : Int) + ((1 : Nat) : Int) < (rs.length : Int)) by omega), decide_eq_false (show ¬ ((rs.length : Int) + ((1 : Nat) : Int) > (rs.length : Int) + 1) by omega), decide_eq_true (show ((rs.length : Int) + ((1 : Nat) : Int) > (rs.length : Int)) by omega), hblt, hcmp, hw]
      · rw [decide_eq_true (by omega), cond_true, hw]; rfl
    · rw [decide_eq_true (by omega), cond_true, hw]; rfl
  · rw [Bool.eq_false_iff.2 hg]
    simp only [Bool.not_false, cond_true, hw, Option.bind_some]
theorem scanBack_plain (g : Geo) (ls : List (List Itm)) (x : Fal) (_ : WT23 g) (h1 : WL_L_T80 ls) (h2 : WT97 x) : ∃ k, F12 k (g, ls, x, ()) = some true := scanBack_core g ls x (fun l h => ⟨(h1.2 l h).1, isIW (h1.2 l h)⟩) h2.1 h2.2.1
theorem scanBack : Rows.ScanBackCardSaid := scanBack_card (scanBack_row fun a0 a1 a2 h0 h1 h2 => scanBack_plain a0 a1 a2 h0 h1 h2)
end Go.Proofs.YtbhnkjnjeifdhaaDoor.W
