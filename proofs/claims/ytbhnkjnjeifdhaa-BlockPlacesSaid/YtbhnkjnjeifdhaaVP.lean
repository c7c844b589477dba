/-
  BlockPlaces: for every input that the statement lets in the law returns true. No conditions.
-/
import Derived.Test.YtbhnkjnjeifdhaaVR
set_option linter.unusedVariables false
namespace Go.Proofs.Ytbhnkjnjeifdhaa.W
open Go V
/-! ### blocks: plain -/
abbrev Blk := T87
def zpage : List Int := List.replicate 32 0
def zheads : List Int := List.replicate 8 0
def zblk : Blk := .mk 0 0 zpage 0 [] 0 zheads
def headOk (n : Int) : Bool := decide (n = 0) || decide (n = 1) || (decide (4 ≤ n) && decide (n ≤ 1023))
/-- a block that may be -/
def blkOk (b : Blk) : Bool :=
  if b.Kind = 1 then decide (0 ≤ b.Id ∧ b.Id < 64) && decide (b.Heads = zheads) && decide (b.Off = 0 ∧ b.Bytes = [] ∧ b.Prev = 0)
  else if b.Kind = 2 then decide (0 ≤ b.Id ∧ b.Id < 64) && decide (b.Heads = zheads) && decide (b.Page = zpage) &&
    decide (0 ≤ b.Off ∧ 1 ≤ b.Bytes.length ∧ b.Bytes.length ≤ 16 ∧ b.Off ≤ 32 - (b.Bytes.length : Int) ∧ b.Prev ≠ 0) && headOk b.Prev
  else if b.Kind = 3 then decide (0 ≤ b.Id ∧ b.Id < 8) && decide (b.Page = zpage) && decide (b.Off = 0 ∧ b.Bytes = [] ∧ b.Prev = 0) && b.Heads.all headOk
  else false
def IsByte (x : Int) : Prop := 0 ≤ x ∧ x ≤ 255
/-- of a block's type -/
structure IsBlk (b : Blk) : Prop where
  page : b.Page.length = 32 ∧ ∀ x ∈ b.Page, IsByte x
  bytes : ∀ x ∈ b.Bytes, IsByte x
  heads : b.Heads.length = 8
def two (n : Int) : List Int := [IntKind.u8.wrap n, IntKind.u8.wrap (n.fdiv 256)]
def four (n : Int) : List Int := [IntKind.u8.wrap n, IntKind.u8.wrap (n.fdiv 256), IntKind.u8.wrap (n.fdiv 65536), IntKind.u8.wrap (n.fdiv 16777216)]
def bbody (b : Blk) : List Int :=
  if b.Kind = 1 then b.Page
  else if b.Kind = 2 then [IntKind.u8.wrap b.Off, IntKind.u8.wrap (b.Bytes.length : Int)] ++ (b.Bytes ++ (List.replicate (16 - b.Bytes.length) 0 ++ two b.Prev))
  else if b.Kind = 3 then b.Heads.flatMap two
  else []
def bhead (b : Blk) (seq : Int) : List Int := IntKind.u8.wrap b.Kind :: IntKind.u8.wrap b.Id :: four seq
def bsector (b : Blk) (seq : Int) : List Int := bhead b seq ++ (bbody b ++ List.replicate (58 - (bbody b).length) 0)
def val4 (a b c d : Int) : Int := a + 256 * b + 65536 * c + 16777216 * d
def bseq (x : List Int) : Int := val4 (x.getD 2 0) (x.getD 3 0) (x.getD 4 0) (x.getD 5 0)
def blkOf (x : List Int) : Blk :=
  if x.getD 0 0 = 1 then .mk (x.getD 0 0) (x.getD 1 0) ((x.drop 6).take 32) 0 [] 0 zheads
  else if x.getD 0 0 = 2 then .mk (x.getD 0 0) (x.getD 1 0) zpage (x.getD 6 0) ((x.drop 8).take (min 16 (x.getD 7 0).toNat)) (x.getD 24 0 + 256 * x.getD 25 0) zheads
  else if x.getD 0 0 = 3 then .mk (x.getD 0 0) (x.getD 1 0) zpage 0 [] 0 ((List.range 8).map fun i => x.getD (6 + 2 * i) 0 + 256 * x.getD (7 + 2 * i) 0)
  else .mk (x.getD 0 0) (x.getD 1 0) zpage 0 [] 0 zheads
structure IsSec (x : List Int) : Prop where
  len : x.length = 64
  byte : ∀ y ∈ x, IsByte y
theorem IsSec.get {x : List Int} (h : IsSec x) (i : Nat) : 0 ≤ x.getD i 0 ∧ x.getD i 0 ≤ 255 := by
  rw [List.getD_eq_getElem?_getD]
  cases e : x[i]? with
  | none => simp
  | some y => exact h.byte y (List.mem_of_getElem? e)
theorem w8_in {x : Int} (h : 0 ≤ x ∧ x ≤ 255) : IntKind.u8.wrap x = x := by rw [w8_eq]; omega
theorem w8_byte (x : Int) : IsByte (IntKind.u8.wrap x) := by rw [w8_eq]; unfold IsByte; omega
theorem fdiv256 (n : Int) : n.fdiv 256 = n / 256 := Int.fdiv_eq_ediv_of_nonneg _ (by decide)
theorem fdiv65536 (n : Int) : n.fdiv 65536 = n / 65536 := Int.fdiv_eq_ediv_of_nonneg _ (by decide)
theorem fdiv16777216 (n : Int) : n.fdiv 16777216 = n / 16777216 := Int.fdiv_eq_ediv_of_nonneg _ (by decide)
theorem two_val {n : Int} (h : 0 ≤ n ∧ n ≤ 65535) : IntKind.u8.wrap n + 256 * IntKind.u8.wrap (n.fdiv 256) = n := by
  rw [w8_eq, w8_eq, fdiv256]; omega
theorem four_val {n : Int} (h : 0 ≤ n ∧ n < 4294967296) : val4 (IntKind.u8.wrap n) (IntKind.u8.wrap (n.fdiv 256)) (IntKind.u8.wrap (n.fdiv 65536)) (IntKind.u8.wrap (n.fdiv 16777216)) = n := by
  unfold val4
  rw [w8_eq, w8_eq, w8_eq, w8_eq, fdiv256, fdiv65536, fdiv16777216]; omega
theorem headOk_in {n : Int} (h : headOk n = true) : 0 ≤ n ∧ n ≤ 1023 := by
  unfold headOk at h
  simp only [Bool.or_eq_true, Bool.and_eq_true, decide_eq_true_eq] at h
  omega
theorem list8 {l : List Int} (h : l.length = 8) : ∃ a b c d e f g i, l = [a, b, c, d, e, f, g, i] := by
  match l, h with
  | [a, b, c, d, e, f, g, i], _ => exact ⟨a, b, c, d, e, f, g, i, rfl⟩
theorem getD_behind {a : List Int} {n : Nat} (h : a.length = n) (b : List Int) (j : Nat) : (a ++ b).getD (n + j) 0 = b.getD j 0 := by
  subst h
  rw [List.getD_eq_getElem?_getD, List.getElem?_append_right (by omega), show a.length + j - a.length = j by omega, ← List.getD_eq_getElem?_getD]
/-- what a block that may be is, kind by kind -/
theorem blkOk_kinds {b : Blk} (h : blkOk b = true) :
    (b.Kind = 1 ∧ (0 ≤ b.Id ∧ b.Id < 64) ∧ b.Heads = zheads ∧ b.Off = 0 ∧ b.Bytes = [] ∧ b.Prev = 0) ∨
    (b.Kind = 2 ∧ (0 ≤ b.Id ∧ b.Id < 64) ∧ b.Heads = zheads ∧ b.Page = zpage ∧ 0 ≤ b.Off ∧ 1 ≤ b.Bytes.length ∧ b.Bytes.length ≤ 16 ∧ b.Off ≤ 32 - (b.Bytes.length : Int) ∧ b.Prev ≠ 0 ∧ headOk b.Prev = true) ∨
    (b.Kind = 3 ∧ (0 ≤ b.Id ∧ b.Id < 8) ∧ b.Page = zpage ∧ b.Off = 0 ∧ b.Bytes = [] ∧ b.Prev = 0 ∧ ∀ n ∈ b.Heads, headOk n = true) := by
  unfold blkOk at h
  split at h
  · simp only [Bool.and_eq_true, decide_eq_true_eq] at h
    exact .inl ⟨‹_›, h.1.1, h.1.2, h.2.1, h.2.2.1, h.2.2.2⟩
  split at h
  · simp only [Bool.and_eq_true, decide_eq_true_eq] at h
    obtain ⟨⟨⟨⟨h1, h2⟩, h3⟩, h4, h5, h6, h7, h8⟩, h9⟩ := h
    exact .inr (.inl ⟨‹_›, h1, h2, h3, h4, h5, h6, h7, h8, h9⟩)
  split at h
  · simp only [Bool.and_eq_true, decide_eq_true_eq, List.all_eq_true] at h
    obtain ⟨⟨⟨h1, h2⟩, h3⟩, h4⟩ := h
    exact .inr (.inr ⟨‹_›, h1, h2, h3.1, h3.2.1, h3.2.2, h4⟩)
  · cases h
theorem bbody_length {b : Blk} (w : IsBlk b) (h : blkOk b = true) : (bbody b).length = if b.Kind = 1 then 32 else if b.Kind = 2 then 20 else 16 := by
  rcases blkOk_kinds h with ⟨k, _⟩ | ⟨k, _, _, _, _, h1, h2, _⟩ | ⟨k, _⟩
  · simp [bbody, k, w.page.1]
  · simp [bbody, k, two]; omega
  · obtain ⟨a, c, d, e, f, g, i, j, e⟩ := list8 w.heads
    simp [bbody, k, e, two]
theorem bhead_length (b : Blk) (seq : Int) : (bhead b seq).length = 6 := rfl
theorem bsector_length {b : Blk} (w : IsBlk b) (h : blkOk b = true) (seq : Int) : (bsector b seq).length = 64 := by
  have := bbody_length w h
  unfold bsector
  rw [List.length_append, List.length_append, bhead_length, List.length_replicate]
  split at this
  · omega
  split at this <;> omega
theorem bbody_byte {b : Blk} (w : IsBlk b) : ∀ x ∈ bbody b, IsByte x := by
  intro x hx
  unfold bbody at hx
  split at hx
  · exact w.page.2 x hx
  split at hx
  · simp only [List.mem_append, List.mem_cons, two, List.not_mem_nil, or_false] at hx
    rcases hx with (rfl | rfl) | hx | hx | rfl | rfl
    · exact w8_byte _
    · exact w8_byte _
    · exact w.bytes x hx
    · rw [List.eq_of_mem_replicate hx]; unfold IsByte; omega
    · exact w8_byte _
    · exact w8_byte _
  split at hx
  · simp only [List.mem_flatMap, two, List.mem_cons, List.not_mem_nil, or_false] at hx
    obtain ⟨m, _, rfl | rfl⟩ := hx <;> exact w8_byte _
  · cases hx
theorem bsector_sec {b : Blk} (w : IsBlk b) (h : blkOk b = true) (seq : Int) : IsSec (bsector b seq) := by
  refine ⟨bsector_length w h seq, fun x hx => ?_⟩
  unfold bsector bhead four at hx
  simp only [List.mem_append, List.mem_cons, List.not_mem_nil, or_false] at hx
  rcases hx with (rfl | rfl | rfl | rfl | rfl | rfl) | hx | hx
  iterate 6 exact w8_byte _
  · exact bbody_byte w x hx
  · rw [List.eq_of_mem_replicate hx]; unfold IsByte; omega
/-- a place behind the head -/
theorem bsector_at (b : Blk) (seq : Int) (i : Nat) : (bsector b seq).getD (6 + i) 0 = (bbody b).getD i 0 := by
  unfold bsector
  rw [List.getD_eq_getElem?_getD, List.getElem?_append_right (by rw [bhead_length]; omega), bhead_length, show 6 + i - 6 = i by omega]
  by_cases h : i < (bbody b).length
  · rw [List.getElem?_append_left h, ← List.getD_eq_getElem?_getD]
  · rw [List.getElem?_append_right (by omega), List.getElem?_replicate, List.getD_eq_getElem?_getD, List.getElem?_eq_none (by omega)]
    split <;> rfl
theorem bsector_drop (b : Blk) (seq : Int) : (bsector b seq).drop 6 = bbody b ++ List.replicate (58 - (bbody b).length) 0 := by
  unfold bsector
  rw [List.drop_append, bhead_length]
  simp [bhead_length]
theorem bsector_seq {b : Blk} {seq : Int} (hs : 0 ≤ seq ∧ seq < 4294967296) : bseq (bsector b seq) = seq := four_val hs
/-- a sector of a block is read as it -/
theorem blkOf_bsector {b : Blk} (w : IsBlk b) (h : blkOk b = true) (seq : Int) : blkOf (bsector b seq) = b := by
  have h0 : (bsector b seq).getD 0 0 = IntKind.u8.wrap b.Kind := rfl
  have h1 : (bsector b seq).getD 1 0 = IntKind.u8.wrap b.Id := rfl
  have at_ := bsector_at b seq
  have dr := bsector_drop b seq
  have bl := bbody_length w h
  generalize bsector b seq = x at h0 h1 at_ dr
  obtain ⟨kind, id, page, off, bytes, prev, heads⟩ := b
  rcases blkOk_kinds h with ⟨k, i, hh, ho, hb, hp⟩ | ⟨k, i, hh, hpg, ho, hl1, hl2, ho2, hp, hph⟩ | ⟨k, i, hpg, ho, hb, hp, hall⟩
  · simp only at k i hh ho hb hp
    subst k hh ho hb hp
    have e0 : x.getD 0 0 = 1 := h0
    have e1 : x.getD 1 0 = id := by rw [h1]; exact w8_in (by simp only; omega)
    unfold blkOf
    rw [if_pos e0, e0, e1, dr]
    have : (bbody (.mk 1 id page 0 [] 0 zheads)) = page := rfl
    rw [this]
    have hl : page.length = 32 := w.page.1
    rw [← hl, List.take_left]
  · simp only at k i hh ho hp hpg hl1 hl2 ho2 hph
    subst k hh hpg
    have hpi := headOk_in hph
    have e0 : x.getD 0 0 = 2 := h0
    have e1 : x.getD 1 0 = id := by rw [h1]; exact w8_in (by simp only; omega)
    have e6 : x.getD 6 0 = off := by rw [at_ 0]; exact w8_in (by simp only; omega)
    have e7 : x.getD 7 0 = bytes.length := by rw [at_ 1]; exact w8_in (by simp only; omega)
    have body : bbody (.mk 2 id zpage off bytes prev zheads) = [IntKind.u8.wrap off, IntKind.u8.wrap (bytes.length : Int)] ++ (bytes ++ (List.replicate (16 - bytes.length) 0 ++ two prev)) := rfl
    have d8 : x.drop 8 = bytes ++ ((List.replicate (16 - bytes.length) 0 ++ two prev) ++ List.replicate (58 - (bbody (.mk 2 id zpage off bytes prev zheads)).length) 0) := by
      rw [show x.drop 8 = (x.drop 6).drop 2 by rw [List.drop_drop], dr, body]
      simp
    have ee : ∀ j, x.getD (24 + j) 0 = (two prev).getD j 0 := by
      intro j
      rw [show 24 + j = 6 + (2 + (bytes.length + ((16 - bytes.length) + j))) by omega, at_, body, getD_behind (n := 2) rfl, getD_behind (n := bytes.length) rfl, getD_behind (n := 16 - bytes.length) (by simp)]
    have e24 : x.getD 24 0 = IntKind.u8.wrap prev := ee 0
    have e25 : x.getD 25 0 = IntKind.u8.wrap (prev.fdiv 256) := ee 1
    unfold blkOf
    rw [if_neg (by rw [e0]; decide), if_pos e0, e0, e1, e6, e7, e24, e25, two_val (by omega), d8]
    have : min 16 (bytes.length : Int).toNat = bytes.length := by omega
    rw [this, List.take_left]
  · simp only at k i ho hb hp hpg hall
    subst k hpg ho hb hp
    have e0 : x.getD 0 0 = 3 := h0
    have e1 : x.getD 1 0 = id := by rw [h1]; exact w8_in (by simp only; omega)
    unfold blkOf
    rw [if_neg (by rw [e0]; decide), if_neg (by rw [e0]; decide), if_pos e0, e0, e1]
    have hl : heads.length = 8 := w.heads
    obtain ⟨a, b, c, d, e, f, g, j, rfl⟩ := list8 hl
    have key : (List.range 8).map (fun i => x.getD (6 + 2 * i) 0 + 256 * x.getD (7 + 2 * i) 0) = [a, b, c, d, e, f, g, j] := by
      simp only [List.mem_cons, List.not_mem_nil, or_false, forall_eq_or_imp, forall_eq] at hall
      obtain ⟨p1, p2, p3, p4, p5, p6, p7, p8⟩ := hall
      have hv : ∀ {n : Int}, headOk n = true → IntKind.u8.wrap n + 256 * IntKind.u8.wrap (n.fdiv 256) = n := fun h => two_val (by have := headOk_in h; omega)
      rw [← hv p1, ← hv p2, ← hv p3, ← hv p4, ← hv p5, ← hv p6, ← hv p7, ← hv p8]
      simp only [List.range, List.range.loop, List.map_cons, List.map_nil]
      rw [show 7 + 2 * 0 = 6 + 1 from rfl, show 7 + 2 * 1 = 6 + 3 from rfl, show 7 + 2 * 2 = 6 + 5 from rfl, show 7 + 2 * 3 = 6 + 7 from rfl, show 7 + 2 * 4 = 6 + 9 from rfl, show 7 + 2 * 5 = 6 + 11 from rfl, show 7 + 2 * 6 = 6 + 13 from rfl, show 7 + 2 * 7 = 6 + 15 from rfl]
      simp only [at_]
      simp only [hv p1, hv p2, hv p3, hv p4, hv p5, hv p6, hv p7, hv p8]
      rw [show bbody (.mk 3 id zpage 0 [] 0 [a, b, c, d, e, f, g, j]) = [a, b, c, d, e, f, g, j].flatMap two from rfl]
      simp only [List.flatMap_cons, two]
      simp [hv p1, hv p2, hv p3, hv p4, hv p5, hv p6, hv p7, hv p8]
    rw [key]
/-- what a sector reads as -/
def secOk (x : List Int) : Bool := blkOk (blkOf x) && decide (bsector (blkOf x) (bseq x) = x)
theorem secOk_bsector {b : Blk} {seq : Int} (w : IsBlk b) (h : blkOk b = true) (hs : 0 ≤ seq ∧ seq < 4294967296) : secOk (bsector b seq) = true := by
  unfold secOk
  rw [blkOf_bsector w h, bsector_seq hs, h]
  simp
theorem bsector_inj {b c : Blk} {m n : Int} (w : IsBlk b) (h : blkOk b = true) (hm : 0 ≤ m ∧ m < 4294967296) (w' : IsBlk c) (h' : blkOk c = true) (hn : 0 ≤ n ∧ n < 4294967296) : bsector b m = bsector c n ↔ b = c ∧ m = n := by
  constructor
  · intro e
    have e1 := blkOf_bsector w h m
    have e2 := bsector_seq (b := b) hm
    rw [e, blkOf_bsector w' h'] at e1
    rw [e, bsector_seq hn] at e2
    exact ⟨e1.symm, e2.symm⟩
  · rintro ⟨rfl, rfl⟩; rfl
theorem IsSec.mem_drop {x : List Int} (h : IsSec x) {n : Nat} : ∀ y ∈ x.drop n, IsByte y := fun y hy => h.byte y (List.mem_of_mem_drop hy)
theorem blkOf_is {x : List Int} (h : IsSec x) : IsBlk (blkOf x) := by
  have hz : zpage.length = 32 ∧ ∀ y ∈ zpage, IsByte y := ⟨by simp [zpage], fun y hy => by rw [List.eq_of_mem_replicate hy]; unfold IsByte; omega⟩
  have hn : ∀ y ∈ ([] : List Int), IsByte y := fun y hy => by cases hy
  have hh : zheads.length = 8 := by simp [zheads]
  unfold blkOf
  split
  · exact ⟨⟨by simp [h.len], fun y hy => h.mem_drop y (List.mem_of_mem_take hy)⟩, hn, hh⟩
  split
  · exact ⟨hz, fun y hy => h.mem_drop y (List.mem_of_mem_take hy), hh⟩
  split
  · exact ⟨hz, hn, by simp⟩
  · exact ⟨hz, hn, hh⟩
theorem val4_in {a b c d : Int} (ha : 0 ≤ a ∧ a ≤ 255) (hb : 0 ≤ b ∧ b ≤ 255) (hc : 0 ≤ c ∧ c ≤ 255) (hd : 0 ≤ d ∧ d ≤ 255) : 0 ≤ val4 a b c d ∧ val4 a b c d < 4294967296 := by unfold val4; omega
theorem bseq_in {x : List Int} (h : IsSec x) : 0 ≤ bseq x ∧ bseq x < 4294967296 := val4_in (h.get 2) (h.get 3) (h.get 4) (h.get 5)
/-! ### blocks: what the functions come to -/
theorem beq_ne {a b : Int} (h : ¬ a = b) : (a == b) = false := beq_eq_false_iff_ne.2 h
theorem head_eq (k : Nat) (n : Int) : F91 k (n, ()) = some (headOk n) := by
  unfold F91 headOk
  simp only
  by_cases h0 : n = 0
  · simp [h0]
  by_cases h1 : n = 1
  · simp [h1]
  by_cases h4 : 4 ≤ n
  · simp [h0, h1, h4, beq_ne h0, beq_ne h1]
  · simp [h0, h1, h4, beq_ne h0, beq_ne h1]
theorem rhead_eq (k : Nat) (n : Int) : F94 k (n, ()) = some (headOk n) := by
  unfold F94 headOk
  simp only
  by_cases h0 : n = 0
  · simp [h0]
  by_cases h1 : n = 1
  · simp [h1]
  by_cases h4 : 4 ≤ n
  · simp [h0, h1, h4, beq_ne h0, beq_ne h1]
  · simp [h0, h1, h4, beq_ne h0, beq_ne h1]
def plainB (b : Blk) : Bool :=
  bif b.Kind == 1 then decide (b.Heads = zheads) && (b.Off == 0 && ((b.Bytes.length : Int) == 0 && b.Prev == 0))
  else bif b.Kind == 2 then decide (b.Heads = zheads) && decide (b.Page = zpage)
  else decide (b.Page = zpage) && (b.Off == 0 && ((b.Bytes.length : Int) == 0 && b.Prev == 0))
theorem plain_eq (k : Nat) (b : Blk) : F90 k (b, ()) = some (plainB b) := by
  unfold F90 plainB zheads zpage
  simp only
  generalize (b.Off == 0) = A
  generalize ((b.Bytes.length : Int) == 0) = B
  generalize (b.Kind == 1) = C
  generalize (b.Kind == 2) = D
  generalize decide (b.Heads = List.replicate 8 0) = H
  generalize decide (b.Page = List.replicate 32 0) = G
  generalize (b.Prev == 0) = Q
  cases A <;> cases B <;> cases C <;> cases D <;> cases H <;> cases G <;> cases Q <;> rfl
theorem bad_loop {k n : Nat} {l : List Int} (hl : l.length ≤ 100) (hn : l.length < n) :
    ∃ o, L102_2 k n (l, l.length, 0) = some o ∧ (match o with | .inl i => 0 ≤ i ∧ l.all headOk = false | .inr _ => l.all headOk = true) := by
  unfold L102_2
  have := iter_post (R := R102_2 k) (fun x : List Int × Int × Int => x.1.length ≤ 100 ∧ x.2.1 = x.1.length ∧ 0 ≤ x.2.2 ∧ x.2.2 ≤ x.1.length)
    (fun x => x.1.length - x.2.2.toNat) (fun x (o : Int ⊕ Unit) => match o with | .inl i => 0 ≤ i ∧ (x.1.drop x.2.2.toNat).all headOk = false | .inr _ => (x.1.drop x.2.2.toNat).all headOk = true) (fun x h => by
      obtain ⟨l, len, i⟩ := x
      obtain ⟨h0, h1, h2, h3⟩ := h
      simp only at h0 h1 h2 h3
      subst h1
      by_cases hi : i < l.length
      · have hnat : i.toNat < l.length := by omega
        have e1 : IntKind.i64.wrap (i + 1) = i + 1 := wI_in (by omega)
        have e3 : (i + 1).toNat = i.toNat + 1 := by omega
        have hd := drop_cons (0 : Int) hnat
        have hR : ∀ again, R102_2 k again (l, (l.length : Int), i) = if headOk (l.getD i.toNat 0) = true then again (l, (l.length : Int), i + 1) else some (.inl i) := by
          intro again
          unfold R102_2 F93
          simp only [hi, decide_true, cond_true, inRange_true ⟨h2, hi⟩, head_eq, Option.bind_some, e1]
          cases headOk (l.getD i.toNat 0) <;> rfl
        by_cases hb : headOk (l.getD i.toNat 0) = true
        · right
          refine ⟨(l, l.length, i + 1), fun again => by rw [hR, if_pos hb], ⟨h0, rfl, by simp only; omega, by simp only; omega⟩, by simp only; omega, fun o ho => ?_⟩
          simp only [e3, hd, List.all_cons, hb, Bool.true_and] at ho ⊢
          exact ho
        · left
          refine ⟨.inl i, fun again => by rw [hR, if_neg hb], h2, ?_⟩
          simp only [hd, List.all_cons]
          simp only [Bool.not_eq_true] at hb
          rw [hb]; rfl
      · left
        refine ⟨.inr (), fun again => ?_, ?_⟩
        · unfold R102_2
          simp only [hi, decide_false, cond_false]
        · simp only
          rw [List.drop_eq_nil_of_le (by omega)]
          rfl) n (l, (l.length : Int), 0) ⟨hl, rfl, by simp, by simp⟩ (by simpa using hn)
  simpa using this
theorem bad_eq {k : Nat} {l : List Int} (hl : l.length ≤ 100) (hk : l.length < k) : F92 k (l, (), ()) = some (!(l.all headOk)) := by
  unfold F92 F102
  simp only
  obtain ⟨o, h1, h2⟩ := bad_loop (k := k) hl hk
  rw [h1]
  simp only [Option.bind_some]
  cases o with
  | inl i =>
    simp only at h2
    simp only [sumK, Option.bind_some, h2.2]
    simp [h2.1]
  | inr u =>
    simp only at h2
    simp only [sumK, Option.bind_some, h2]
    rfl
theorem nilB {l : List Int} : ((l.length : Int) == 0) = decide (l = []) := by
  cases l with
  | nil => rfl
  | cons a r => simp; omega
theorem good_eq {k : Nat} {b : Blk} (w : IsBlk b) (hk : 8 < k) : F59 k (b, ()) = some (blkOk b) := by
  obtain ⟨kind, id, page, off, bytes, prev, heads⟩ := b
  have hh : heads.length = 8 := w.heads
  unfold F59
  simp only [plain_eq, head_eq, Option.bind_some]
  have e8 : List.take ((((8 : Nat) : Int) - (0 : Int)).toNat) (List.drop (Int.toNat (0 : Int)) heads) = heads := by
    have : ((((8 : Nat) : Int) - (0 : Int)).toNat) = heads.length := by rw [hh]; rfl
    rw [this]; simp
  rw [e8, bad_eq (by omega) (by omega)]
  simp only [Option.bind_some, Bool.not_not]
  unfold blkOk plainB
  simp only [nilB]
  by_cases i0 : id < 0
  · have e : ¬ 0 ≤ id := by omega
    simp [i0, e]
  have i0' : 0 ≤ id := by omega
  by_cases k1 : kind = 1
  · subst k1
    simp only [i0, decide_false, cond_false]
    by_cases h4 : prev = 0 <;> by_cases h2 : off = 0 <;> by_cases h1 : heads = zheads <;> by_cases h3 : bytes = [] <;> simp [h1, h3, i0', beq_ne, h2, h4]
  by_cases k2 : kind = 2
  · subst k2
    simp only [i0, decide_false, cond_false]
    by_cases h1 : heads = zheads
    · by_cases h2 : page = zpage
      · by_cases o0 : off < 0
        · have e : ¬ 0 ≤ off := by omega
          simp [h1, h2, o0, e]
        have o0' : 0 ≤ off := by omega
        by_cases l1 : (bytes.length : Int) < 1
        · have e : ¬ 1 ≤ bytes.length := by omega
          simp [h1, h2, o0, l1, e]
        have l1' : 1 ≤ bytes.length := by omega
        by_cases l16 : (bytes.length : Int) > 16
        · have e : ¬ bytes.length ≤ 16 := by omega
          have l16' : 16 < (bytes.length : Int) := l16
          simp [h1, h2, o0, l1, l16, e]
        have l16' : bytes.length ≤ 16 := by omega
        have w32 : IntKind.i64.wrap (32 - (bytes.length : Int)) = 32 - bytes.length := wI_in (by omega)
        simp only [h1, h2, o0, l1, l16, w32]
        by_cases o32 : off > 32 - (bytes.length : Int)
        · have e : ¬ off ≤ 32 - (bytes.length : Int) := by omega
          simp [o32, e]
        have o32' : off ≤ 32 - (bytes.length : Int) := by omega
        by_cases p0 : prev = 0
        · simp [p0, o32]
        cases hp : headOk prev <;> simp [p0, o32, o0', l1', l16', o32', i0', beq_ne p0]
      · simp [h1, h2]
    · simp [h1]
  by_cases k3 : kind = 3
  · subst k3
    simp only [i0, decide_false, cond_false]
    by_cases h1 : page = zpage <;> by_cases h2 : off = 0 <;> by_cases h3 : bytes = [] <;> by_cases h4 : prev = 0 <;> by_cases h5 : id < 8 <;> simp [h1, h3, h5, i0', beq_ne, h2, h4]
  · have b1 : (kind == 1) = false := beq_eq_false_iff_ne.2 k1
    have b2 : (kind == 2) = false := beq_eq_false_iff_ne.2 k2
    have b3 : (kind == 3) = false := beq_eq_false_iff_ne.2 k3
    simp only [i0, b1, b2, b3, k1, k2, k3, decide_false, cond_false, if_false]
    generalize (decide (page = zpage) && (off == 0 && (decide (bytes = []) && prev == 0))) = X
    cases X <;> rfl
theorem rgood_loop {k n : Nat} {g : Bool} {a b d f : Int} {c e l : List Int} (hl : l.length = 8) (hn : 8 < n) :
    L60_10 k n (g, 0, a, b, c, d, e, f, l) = some (if l.all headOk = true then .inr (g, a, b, c, d, e, f, l) else .inl (false, g, a, b, c, d, e, f, l)) := by
  unfold L60_10
  have := iter_out (R := R60_10 k) (fun x : Bool × Int × Int × Int × List Int × Int × List Int × Int × List Int => x.1 = g ∧ x.2.2 = (a, b, c, d, e, f, l) ∧ 0 ≤ x.2.1 ∧ x.2.1 ≤ 8)
    (fun x => 8 - x.2.1.toNat) (fun x => if (l.drop x.2.1.toNat).all headOk = true then .inr (g, a, b, c, d, e, f, l) else .inl (false, g, a, b, c, d, e, f, l)) (fun x h => by
      obtain ⟨g', i, r⟩ := x
      obtain ⟨h1, h2, h3, h4⟩ := h
      simp only at h1 h2 h3 h4
      subst h1 h2
      by_cases hi : i < 8
      · have hnat : i.toNat < l.length := by omega
        have e1 : IntKind.i64.wrap (i + 1) = i + 1 := wI_in (by omega)
        have e3 : (i + 1).toNat = i.toNat + 1 := by omega
        have hd := drop_cons (0 : Int) hnat
        have hR : ∀ again, R60_10 k again (g', i, a, b, c, d, e, f, l) = if headOk (l.getD i.toNat 0) = true then again (g', i + 1, a, b, c, d, e, f, l) else some (.inl (false, g', a, b, c, d, e, f, l)) := by
          intro again
          unfold R60_10
          simp only [hi, decide_true, cond_true, inRange_true (i := i) (n := 8) ⟨h3, hi⟩, rhead_eq, Option.bind_some, e1]
          cases headOk (l.getD i.toNat 0) <;> rfl
        by_cases hb : headOk (l.getD i.toNat 0) = true
        · right
          refine ⟨(g', i + 1, a, b, c, d, e, f, l), fun again => by rw [hR, if_pos hb], ⟨rfl, rfl, by simp only; omega, by simp only; omega⟩, by simp only; omega, ?_⟩
          simp only [e3, hd, List.all_cons, hb, Bool.true_and]
        · left
          intro again
          rw [hR, if_neg hb]
          simp only [Bool.not_eq_true] at hb
          simp only [hd, List.all_cons, hb]
          simp
      · left
        intro again
        unfold R60_10
        simp only [hi, decide_false, cond_false]
        rw [List.drop_eq_nil_of_le (by omega)]
        rfl) (n := n) (x := (g, 0, a, b, c, d, e, f, l)) ⟨rfl, rfl, by simp, by simp⟩ (by simpa using hn)
  simpa using this
theorem rgood_eq {k : Nat} {b : Blk} (w : IsBlk b) (hk : 8 < k) : F60 k (b, ()) = some (blkOk b) := by
  obtain ⟨kind, id, page, off, bytes, prev, heads⟩ := b
  have hh : heads.length = 8 := w.heads
  unfold F60
  simp only [rgood_loop hh hk, rhead_eq, Option.bind_some, nilB]
  rw [show List.replicate 8 (0 : Int) = zheads from rfl, show List.replicate 32 (0 : Int) = zpage from rfl]
  unfold blkOk
  simp only
  by_cases k1 : kind = 1
  · subst k1
    by_cases i0 : 0 ≤ id
    · by_cases h4 : prev = 0 <;> by_cases h2 : off = 0 <;> by_cases h1 : heads = zheads <;> by_cases h3 : bytes = [] <;> by_cases h5 : id < 64 <;> simp [h1, h2, h3, h4, h5, i0, beq_ne]
    · simp [i0]
  by_cases k2 : kind = 2
  · subst k2
    have n21 : ((2 : Int) == 1) = false := rfl
    have n22 : ((2 : Int) == 2) = true := rfl
    simp only [n21, n22, cond_false, cond_true, Bool.cond_self, show ¬ ((2 : Int) = 1) by decide, if_false, if_true]
    by_cases i0 : 0 ≤ id
    · by_cases i64 : id < 64
      · by_cases h2 : page = zpage
        · by_cases h1 : heads = zheads
          · by_cases o0 : 0 ≤ off
            · by_cases o32 : off < 32
              · have w32 : IntKind.i64.wrap (32 - off) = 32 - off := wI_in (by omega)
                by_cases l1 : 1 ≤ bytes.length
                · by_cases l16 : bytes.length ≤ 16
                  · have l1' : (bytes.length : Int) ≥ 1 := by omega
                    have l16' : (bytes.length : Int) ≤ 16 := by omega
                    simp only [w32]
                    by_cases lo : (bytes.length : Int) ≤ 32 - off
                    · have lo' : off ≤ 32 - (bytes.length : Int) := by omega
                      by_cases p0 : prev = 0
                      · simp [p0]
                      · cases hp : headOk prev <;> simp [i0, i64, h2, h1, o0, o32, l1, l16, l1', l16', lo, lo', p0, beq_ne p0, bne]
                    · have lo' : ¬ off ≤ 32 - (bytes.length : Int) := by omega
                      simp [lo, lo']
                  · have l16' : ¬ (bytes.length : Int) ≤ 16 := by omega
                    simp [l16, l16']
                · have l1' : ¬ (bytes.length : Int) ≥ 1 := by omega
                  have l1'' : bytes = [] := List.eq_nil_of_length_eq_zero (by omega)
                  simp [l1'']
              · have : ¬ ((1 ≤ bytes.length) ∧ off ≤ 32 - (bytes.length : Int)) := by omega
                by_cases l1 : 1 ≤ bytes.length
                · have lo' : ¬ off ≤ 32 - (bytes.length : Int) := by omega
                  simp [o32, lo']
                · simp [o32, l1]
            · simp [o0]
          · simp [h1]
        · simp [h2]
      · simp [i64]
    · simp [i0]
  by_cases k3 : kind = 3
  · subst k3
    cases hall : heads.all headOk
    · simp [sumK]
    · simp only [if_true, sumK]
      by_cases i0 : 0 ≤ id
      · by_cases h1 : page = zpage <;> by_cases h2 : off = 0 <;> by_cases h3 : bytes = [] <;> by_cases h4 : prev = 0 <;> by_cases h5 : id < 8 <;> simp [h1, h2, h3, h4, h5, i0, beq_ne]
      · simp [i0]
  · simp [k1, k2, k3, beq_ne]

/-! ### sectors -/
theorem take_drop0 {l : List Int} {n : Nat} (h : l.length = n) : List.take ((((n : Nat) : Int) - (0 : Int)).toNat) (List.drop (Int.toNat (0 : Int)) l) = l := by
  have : ((((n : Nat) : Int) - (0 : Int)).toNat) = l.length := by omega
  rw [this]; simp
/-- a body laid over zeros -/
theorem splice_zeros {h l : List Int} {n : Nat} (hl : l.length ≤ n) : splice (h ++ List.replicate n 0) l h.length (min l.length n) = h ++ (l ++ List.replicate (n - l.length) 0) := by
  unfold splice
  have e1 : min l.length n = l.length := by omega
  rw [e1, List.take_left, List.take_length, List.drop_append, List.drop_eq_nil_of_le (by omega)]
  simp
theorem pow8 : (2 : Int) ^ min (Int.toNat 8) IntKind.u32.bits = 256 := by decide
theorem pow16 : (2 : Int) ^ min (Int.toNat 16) IntKind.u32.bits = 65536 := by decide
theorem pow24 : (2 : Int) ^ min (Int.toNat 24) IntKind.u32.bits = 16777216 := by decide
theorem pow8i : (2 : Int) ^ min (Int.toNat 8) IntKind.i64.bits = 256 := by decide
theorem head_zeros (a b seq : Int) : (((((((List.replicate 64 (0 : Int)).set 0 (IntKind.u8.wrap a)).set 1 (IntKind.u8.wrap b)).set 2 (IntKind.u8.wrap seq)).set 3 (IntKind.u8.wrap (seq.fdiv 256))).set 4 (IntKind.u8.wrap (seq.fdiv 65536))).set 5 (IntKind.u8.wrap (seq.fdiv 16777216))) =
    (IntKind.u8.wrap a :: IntKind.u8.wrap b :: four seq) ++ List.replicate 58 0 := rfl
/-- the heads of a mapping page, laid one by one -/
theorem heads_lay {h : List Int} (hh : h.length = 6) (l : List Int) (hl : l.length = 8) (j : Nat) (hj : j < 8) :
    ((h ++ ((l.take j).flatMap two ++ List.replicate (58 - 2 * j) 0)).set (6 + 2 * j) (IntKind.u8.wrap (l.getD j 0))).set (6 + 2 * j + 1) (IntKind.u8.wrap ((l.getD j 0).fdiv 256)) =
    h ++ ((l.take (j + 1)).flatMap two ++ List.replicate (58 - 2 * (j + 1)) 0) := by
  obtain ⟨a, b, c, d, e, f, g, i, rfl⟩ := list8 hl
  match h, hh with
  | [h0, h1, h2, h3, h4, h5], _ =>
    have : j = 0 ∨ j = 1 ∨ j = 2 ∨ j = 3 ∨ j = 4 ∨ j = 5 ∨ j = 6 ∨ j = 7 := by omega
    rcases this with rfl | rfl | rfl | rfl | rfl | rfl | rfl | rfl <;> rfl
theorem enc_loop {k n : Nat} {l z h : List Int} (hh : h.length = 6) (hl : l.length = 8) (hn : 8 < n) :
    L55_13 k n (l, 0, z, h ++ List.replicate 58 0) = some (z, h ++ (l.flatMap two ++ List.replicate 42 0)) := by
  have := iter_out (R := R55_13 k) (fun x : List Int × Int × List Int × List Int => x.1 = l ∧ x.2.2.1 = z ∧ 0 ≤ x.2.1 ∧ x.2.1 ≤ 8 ∧ x.2.2.2 = h ++ ((l.take x.2.1.toNat).flatMap two ++ List.replicate (58 - 2 * x.2.1.toNat) 0))
    (fun x => 8 - x.2.1.toNat) (fun _ => (z, h ++ (l.flatMap two ++ List.replicate 42 0))) (fun x hx => by
      obtain ⟨l', i, z', s⟩ := x
      obtain ⟨h1, h2, h3, h4, h5⟩ := hx
      simp only at h1 h2 h3 h4 h5
      subst h1 h2 h5
      by_cases hi : i < 8
      · right
        have e1 : IntKind.i64.wrap (i + 1) = i + 1 := wI_in (by omega)
        have e3 : (i + 1).toNat = i.toNat + 1 := by omega
        have e4 : IntKind.i64.wrap (2 * i) = 2 * i := wI_in (by omega)
        have e5 : IntKind.i64.wrap (6 + 2 * i) = 6 + 2 * i := wI_in (by omega)
        have e6 : IntKind.i64.wrap (6 + 2 * i + 1) = 6 + 2 * i + 1 := wI_in (by omega)
        have e7 : (6 + 2 * i).toNat = 6 + 2 * i.toNat := by omega
        have e8 : (6 + 2 * i + 1).toNat = 6 + 2 * i.toNat + 1 := by omega
        refine ⟨(l', i + 1, z', h ++ ((l'.take (i.toNat + 1)).flatMap two ++ List.replicate (58 - 2 * (i.toNat + 1)) 0)), fun again => ?_, ⟨rfl, rfl, by simp only; omega, by simp only; omega, by simp only [e3]⟩, by simp only; omega, rfl⟩
        unfold R55_13
        simp only [hi, decide_true, cond_true, inRange_true (i := i) (n := 8) ⟨h3, hi⟩, e1, e4, e5, e6, e7, e8, inRange_true (i := 6 + 2 * i) (n := 64) ⟨by omega, by omega⟩, inRange_true (i := 6 + 2 * i + 1) (n := 64) ⟨by omega, by omega⟩, pow8i, heads_lay hh l' hl i.toNat (by omega)]
      · left
        intro again
        unfold R55_13
        have : i = 8 := by omega
        subst this
        simp only [hi, decide_false, cond_false]
        have e : l'.take (Int.toNat 8) = l' := List.take_of_length_le (by rw [hl]; decide)
        rw [e]
        rfl) (n := n) (x := (l, 0, z, h ++ List.replicate 58 0)) ⟨rfl, rfl, by simp, by simp, by simp⟩ (by simpa using hn)
  simpa [L55_13] using this
theorem enc_eq {k : Nat} {b : Blk} {seq : Int} (w : IsBlk b) (hk : 8 < k) : F55 k (b, seq, ()) = some (if blkOk b = true then (bsector b seq, 0, ()) else (List.replicate 64 0, 11, ())) := by
  unfold F55
  simp only
  rw [show (T87.mk b.1 b.2 b.3 b.4 b.5 b.6 b.7, PUnit.unit) = (b, ()) from rfl, good_eq w hk]
  simp only [Option.bind_some, pow8, pow16, pow24, pow8i, head_zeros]
  cases hg : blkOk b with
  | false => rfl
  | true =>
    have bl := bbody_length w hg
    obtain ⟨kind, id, page, off, bytes, prev, heads⟩ := b
    rcases blkOk_kinds hg with ⟨k1, i, hh, ho, hb, hp⟩ | ⟨k1, i, hh, hpg, ho, hl1, hl2, ho2, hp, hph⟩ | ⟨k1, i, hpg, ho, hb, hp, hall⟩
    · simp only at k1
      subst k1
      have e : List.take ((((32 : Nat) : Int) - (0 : Int)).toNat) (List.drop (Int.toNat (0 : Int)) page) = page := take_drop0 w.page.1
      have hlen : page.length = 32 := w.page.1
      simp only [Bool.not_true, cond_false, if_true, e]
      have := splice_zeros (h := IntKind.u8.wrap 1 :: IntKind.u8.wrap id :: four seq) (l := page) (n := 58) (by omega)
      rw [show (((64 : Nat) : Int) - (6 : Int)).toNat = 58 from rfl]
      rw [show (IntKind.u8.wrap 1 :: IntKind.u8.wrap id :: four seq).length = Int.toNat 6 from rfl] at this
      rw [this]
      rfl
    · simp only at k1 hl2 hl1
      subst k1
      have e1 : ((2 : Int) == 1) = false := rfl
      have e2 : ((2 : Int) == 2) = true := rfl
      simp only [Bool.not_true, cond_false, if_true, e1, e2, cond_true]
      have h8 : ((IntKind.u8.wrap 2 :: IntKind.u8.wrap id :: four seq ++ List.replicate 58 0).set (Int.toNat 6) (IntKind.u8.wrap off)).set (Int.toNat 7) (IntKind.u8.wrap (bytes.length : Int)) =
        (IntKind.u8.wrap 2 :: IntKind.u8.wrap id :: four seq ++ [IntKind.u8.wrap off, IntKind.u8.wrap (bytes.length : Int)]) ++ List.replicate 56 0 := rfl
      rw [h8]
      have := splice_zeros (h := IntKind.u8.wrap 2 :: IntKind.u8.wrap id :: four seq ++ [IntKind.u8.wrap off, IntKind.u8.wrap (bytes.length : Int)]) (l := bytes) (n := 56) (by omega)
      rw [show (IntKind.u8.wrap 2 :: IntKind.u8.wrap id :: four seq ++ [IntKind.u8.wrap off, IntKind.u8.wrap (bytes.length : Int)]).length = Int.toNat 8 from rfl] at this
      rw [show (((64 : Nat) : Int) - (8 : Int)).toNat = 56 from rfl, this]
      have hrep : List.replicate (56 - bytes.length) (0 : Int) = List.replicate (16 - bytes.length) 0 ++ (0 :: 0 :: List.replicate 38 0) := by
        rw [show 56 - bytes.length = (16 - bytes.length) + 40 by omega, ← List.replicate_append_replicate]; rfl
      have hpre : ((IntKind.u8.wrap 2 :: IntKind.u8.wrap id :: four seq ++ [IntKind.u8.wrap off, IntKind.u8.wrap (bytes.length : Int)]) ++ (bytes ++ List.replicate (16 - bytes.length) 0)).length = 24 := by
        have h16 : (bytes ++ List.replicate (16 - bytes.length) (0 : Int)).length = 16 := by simp; omega
        rw [List.length_append, h16]; rfl
      have hs : (((IntKind.u8.wrap 2 :: IntKind.u8.wrap id :: four seq ++ [IntKind.u8.wrap off, IntKind.u8.wrap (bytes.length : Int)]) ++ (bytes ++ List.replicate (56 - bytes.length) 0)).set (Int.toNat 24) (IntKind.u8.wrap prev)).set (Int.toNat 25) (IntKind.u8.wrap (prev.fdiv 256)) =
          (IntKind.u8.wrap 2 :: IntKind.u8.wrap id :: four seq ++ [IntKind.u8.wrap off, IntKind.u8.wrap (bytes.length : Int)]) ++ (bytes ++ List.replicate (16 - bytes.length) 0) ++ (two prev ++ List.replicate 38 0) := by
        rw [hrep, ← List.append_assoc bytes, ← List.append_assoc]
        generalize (IntKind.u8.wrap 2 :: IntKind.u8.wrap id :: four seq ++ [IntKind.u8.wrap off, IntKind.u8.wrap (bytes.length : Int)]) ++ (bytes ++ List.replicate (16 - bytes.length) 0) = p at hpre
        rw [List.set_append_right _ _ (by rw [hpre]; decide), hpre, List.set_append_right _ _ (by rw [hpre]; decide), hpre]
        rfl
      rw [hs]
      have hb20 : (bbody (T87.mk 2 id page off bytes prev heads)).length = 20 := by rw [bl]; rfl
      unfold bsector
      rw [hb20]
      simp [bhead, bbody]
    · simp only at k1
      subst k1
      have e1 : ((3 : Int) == 1) = false := rfl
      have e2 : ((3 : Int) == 2) = false := rfl
      have e3 : ((3 : Int) == 3) = true := rfl
      simp only [Bool.not_true, cond_false, if_true, e1, e2, e3, cond_true]
      rw [enc_loop (h := IntKind.u8.wrap 3 :: IntKind.u8.wrap id :: four seq) rfl w.heads hk]
      simp only [Option.bind_some]
      have hb16 : (bbody (T87.mk 3 id page off bytes prev heads)).length = 16 := by rw [bl]; rfl
      unfold bsector
      rw [hb16]
      rfl
/-! ### bytes as a text, numbers of bytes -/
theorem bytesStr_data : ∀ (l : List Int) (r : ByteArray), (l.foldl (fun r n => r.push (UInt8.ofNat n.toNat)) r).data.toList = r.data.toList ++ l.map fun n => UInt8.ofNat n.toNat := by
  intro l
  induction l with
  | nil => intro r; simp
  | cons n l ih => intro r; rw [List.foldl_cons, ih]; simp [ByteArray.push]
theorem bytes_eq {a b : List Int} (ha : ∀ x ∈ a, IsByte x) (hb : ∀ x ∈ b, IsByte x) : ((bytesStr a).toList == (bytesStr b).toList) = decide (a = b) := by
  have h1 : ∀ l : List Int, (bytesStr l).toList = l.map fun n => UInt8.ofNat n.toNat := by
    intro l
    rw [ByteArray.toList_eq]
    unfold bytesStr
    rw [bytesStr_data]
    rfl
  rw [h1, h1]
  have key : ∀ (a b : List Int), (∀ x ∈ a, IsByte x) → (∀ x ∈ b, IsByte x) → (a.map (fun n => UInt8.ofNat n.toNat) = b.map (fun n => UInt8.ofNat n.toNat) ↔ a = b) := by
    intro a
    induction a with
    | nil => intro b _ _; cases b <;> simp
    | cons x a ih =>
      intro b ha hb
      cases b with
      | nil => simp
      | cons y b =>
        simp only [List.map_cons, List.cons.injEq]
        rw [ih b (fun z hz => ha z (by simp [hz])) (fun z hz => hb z (by simp [hz]))]
        have hx := ha x (by simp)
        have hy := hb y (by simp)
        unfold IsByte at hx hy
        have : (UInt8.ofNat x.toNat = UInt8.ofNat y.toNat) ↔ x = y := by
          constructor
          · intro e
            have := congrArg UInt8.toNat e
            simp only [UInt8.toNat_ofNat'] at this
            omega
          · intro e; rw [e]
        rw [this]
  by_cases e : a = b
  · subst e; simp
  · have : ¬ a.map (fun n => UInt8.ofNat n.toNat) = b.map (fun n => UInt8.ofNat n.toNat) := fun h => e ((key a b ha hb).1 h)
    simp only [decide_eq_false e]
    exact beq_eq_false_iff_ne.2 this
theorem keepBytes_eq {k : Nat} {a b : List Int} (ha : ∀ x ∈ a, IsByte x) (hb : ∀ x ∈ b, IsByte x) : F62 k (a, b, ()) = some (decide (a = b)) := by
  unfold F62
  simp only [List.map_id']
  rw [bytes_eq ha hb]
theorem keepBlock_eq {k : Nat} {a b : Blk} (ha : IsBlk a) (hb : IsBlk b) : F61 k (a, b, ()) = some (decide (a = b)) := by
  unfold F61
  simp only [keepBytes_eq ha.bytes hb.bytes, Option.bind_some]
  obtain ⟨a1, a2, a3, a4, a5, a6, a7⟩ := a
  obtain ⟨b1, b2, b3, b4, b5, b6, b7⟩ := b
  simp only [T87.mk.injEq]
  by_cases e1 : a1 = b1 <;> by_cases e2 : a2 = b2 <;> by_cases e3 : a3 = b3 <;> by_cases e4 : a4 = b4 <;> by_cases e5 : a5 = b5 <;> by_cases e6 : a6 = b6 <;> simp [e1, e2, e3, e4, e5, e6, beq_ne]
theorem roomMost_ge {n : Nat} (h : n ≤ 1000000) : decide (n ≤ roomMost) = true := decide_eq_true (show n ≤ 4294967296 by omega)
theorem own_eq {k : Nat} {b : Blk} (h : b.Bytes.length ≤ 1000) : F54 k (b, ()) = some b := by
  obtain ⟨a1, a2, a3, a4, a5, a6, a7⟩ := b
  unfold F54
  simp only at h ⊢
  have : decide ((List.replicate (0 : Nat) (0 : Int)).length + a5.length ≤ roomMost) = true := roomMost_ge (by simp; omega)
  rw [this]
  rfl

theorem or_val {w n : Nat} {x c : Int} (hx : 0 ≤ x ∧ x < 2 ^ n) (hc : 0 ≤ c) (hw : x + c * 2 ^ n < 2 ^ w) : ((BitVec.ofInt w x ||| BitVec.ofInt w (c * 2 ^ n)).toNat : Int) = x + c * 2 ^ n := by
  obtain ⟨a, rfl⟩ := Int.eq_ofNat_of_zero_le hx.1
  obtain ⟨b, rfl⟩ := Int.eq_ofNat_of_zero_le hc
  have hx2 : a < 2 ^ n := by have := hx.2; exact_mod_cast this
  have hw2 : a + b * 2 ^ n < 2 ^ w := by exact_mod_cast hw
  have e1 : (b : Int) * 2 ^ n = ((b * 2 ^ n : Nat) : Int) := by simp
  rw [e1, BitVec.toNat_or, BitVec.toNat_ofInt, BitVec.toNat_ofInt]
  have m1 : ((a : Int) % ((2 ^ w : Nat) : Int)).toNat = a := by
    rw [← Int.natCast_emod, Int.toNat_natCast, Nat.mod_eq_of_lt (by omega)]
  have m2 : (((b * 2 ^ n : Nat) : Int) % ((2 ^ w : Nat) : Int)).toNat = b * 2 ^ n := by
    rw [← Int.natCast_emod, Int.toNat_natCast, Nat.mod_eq_of_lt (by omega)]
  rw [m1, m2, Nat.or_comm, Nat.mul_comm b, ← Nat.two_pow_add_eq_or_of_lt hx2]
  push_cast
  omega
theorem two_eq {k : Nat} {l : List Int} (h0 : 0 ≤ l.getD 0 0 ∧ l.getD 0 0 ≤ 255) (h1 : 0 ≤ l.getD 1 0 ∧ l.getD 1 0 ≤ 255) (hl : 2 ≤ l.length) : F88 k (l, ()) = some (l.getD 0 0 + 256 * l.getD 1 0) := by
  unfold F88
  simp only [inRange_true (i := 0) (n := l.length) ⟨by omega, by omega⟩, inRange_true (i := 1) (n := l.length) ⟨by omega, by omega⟩, cond_true, pow8i]
  rw [show Int.toNat 0 = 0 from rfl, show Int.toNat 1 = 1 from rfl]
  generalize l.getD 0 0 = a at h0
  generalize l.getD 1 0 = b at h1
  rw [wI_in (x := a) (by omega), wI_in (x := b) (by omega), wI_in (x := b * 256) (by omega)]
  have := or_val (w := IntKind.i64.bits) (n := 8) (x := a) (c := b) (by omega) h1.1 (by show a + b * 256 < 18446744073709551616; omega)
  rw [show (2 : Int) ^ 8 = 256 from rfl] at this
  rw [this, wI_in (by omega)]
  congr 1
  omega
theorem seq_or {r s : Int} (hr : 0 ≤ r ∧ r < 65536) (hs : 0 ≤ s ∧ s < 65536) :
    IntKind.u32.wrap (((BitVec.ofInt IntKind.u32.bits (IntKind.u32.wrap r) ||| BitVec.ofInt IntKind.u32.bits (IntKind.u32.wrap (IntKind.u32.wrap s * 2 ^ min (Int.toNat 16) IntKind.u32.bits))).toNat : Nat) : Int) = r + 65536 * s := by
  rw [pow16]
  have w32 : ∀ {x : Int}, 0 ≤ x ∧ x < 4294967296 → IntKind.u32.wrap x = x := fun h => by rw [w32_eq]; omega
  rw [w32 (x := r) (by omega), w32 (x := s) (by omega), w32 (x := s * 65536) (by omega)]
  have := or_val (w := IntKind.u32.bits) (n := 16) (x := r) (c := s) (by omega) hs.1 (by show r + s * 65536 < 4294967296; omega)
  rw [show (2 : Int) ^ 16 = 65536 from rfl] at this
  rw [this, w32 (by omega)]
  omega
theorem getD_drop' (x : List Int) (n i : Nat) : (x.drop n).getD i 0 = x.getD (n + i) 0 := by
  rw [List.getD_eq_getElem?_getD, List.getElem?_drop, ← List.getD_eq_getElem?_getD]
theorem tail_eq {x : List Int} (h : x.length = 64) {a : Int} (ha : 0 ≤ a ∧ a ≤ 64) : List.take ((((64 : Nat) : Int) - a).toNat) (List.drop a.toNat x) = x.drop a.toNat := by
  apply List.take_of_length_le
  rw [List.length_drop, h]
  omega
theorem two_at {k : Nat} {x : List Int} (h : IsSec x) {a : Int} (ha : 0 ≤ a ∧ a ≤ 62) : F88 k (List.take ((((64 : Nat) : Int) - a).toNat) (List.drop a.toNat x), ()) = some (x.getD a.toNat 0 + 256 * x.getD (a.toNat + 1) 0) := by
  rw [tail_eq h.len (by omega), two_eq (by rw [getD_drop']; exact h.get _) (by rw [getD_drop']; exact h.get _) (by rw [List.length_drop, h.len]; omega), getD_drop', getD_drop']
  rfl
theorem byteI {x : List Int} (h : IsSec x) (i : Nat) : IntKind.i64.wrap (x.getD i 0) = x.getD i 0 := wI_in (by have := h.get i; omega)
theorem byte_nat {x : List Int} (h : IsSec x) (i : Nat) : 0 ≤ x.getD i 0 + 256 * x.getD (i + 1) 0 ∧ x.getD i 0 + 256 * x.getD (i + 1) 0 < 65536 := by
  have h0 := h.get i
  have h1 := h.get (i + 1)
  omega
def headsUpto (x : List Int) (n : Nat) : List Int := (List.range n).map (fun i => x.getD (6 + 2 * i) 0 + 256 * x.getD (7 + 2 * i) 0) ++ List.replicate (8 - n) 0
theorem headsUpto_next (x : List Int) (n : Nat) (h : n < 8) : (headsUpto x n).set n (x.getD (6 + 2 * n) 0 + 256 * x.getD (7 + 2 * n) 0) = headsUpto x (n + 1) := by
  have : n = 0 ∨ n = 1 ∨ n = 2 ∨ n = 3 ∨ n = 4 ∨ n = 5 ∨ n = 6 ∨ n = 7 := by omega
  rcases this with rfl | rfl | rfl | rfl | rfl | rfl | rfl | rfl <;> rfl
theorem dec_loop {k n : Nat} {x : List Int} {q a b d e g h i k1 k2 m o : Int} {c f p l r1 r2 : List Int} (hx : IsSec x) (hn : 8 < n) :
    L57_11 k n (q, 0, x, a, b, c, d, e, f, k1, k2, p, m, o, headsUpto x 0, r1, r2) = some (q, x, a, b, c, d, e, f, k1, k2, p, m, o, headsUpto x 8, r1, r2) := by
  have := iter_out (R := R57_11 k) (fun y : Int × Int × List Int × Int × Int × List Int × Int × Int × List Int × Int × Int × List Int × Int × Int × List Int × List Int × List Int => ∃ j : Nat, j ≤ 8 ∧ y = (q, (j : Int), x, a, b, c, d, e, f, k1, k2, p, m, o, headsUpto x j, r1, r2))
    (fun y => 8 - y.2.1.toNat) (fun _ => (q, x, a, b, c, d, e, f, k1, k2, p, m, o, headsUpto x 8, r1, r2)) (fun y hy => by
      obtain ⟨j, hj, rfl⟩ := hy
      by_cases hi : j < 8
      · right
        have e1 : IntKind.i64.wrap ((j : Int) + 1) = ((j + 1 : Nat) : Int) := by rw [wI_in (by omega)]; rfl
        have e4 : IntKind.i64.wrap (2 * (j : Int)) = 2 * j := wI_in (by omega)
        have e5 : IntKind.i64.wrap (6 + 2 * (j : Int)) = 6 + 2 * j := wI_in (by omega)
        have e7 : (6 + 2 * (j : Int)).toNat = 6 + 2 * j := by omega
        have e8 : decide ((j : Int) < 8) = true := by simp; omega
        have e9 : (decide ((0 : Int) ≤ 6 + 2 * (j : Int)) && decide (6 + 2 * (j : Int) ≤ ((64 : Nat) : Int)) && decide (((64 : Nat) : Int) ≤ ((64 : Nat) : Int))) = true := by simp; omega
        refine ⟨_, fun again => ?_, ⟨j + 1, by omega, rfl⟩, by simp only; omega, rfl⟩
        unfold R57_11
        simp only [e8, cond_true, e4, e5, e9]
        rw [two_at hx (a := 6 + 2 * (j : Int)) (by omega)]
        simp only [Option.bind_some, inRange_true (i := (j : Int)) (n := 8) ⟨by omega, by omega⟩, cond_true, e1, e7, Int.toNat_natCast]
        rw [show 6 + 2 * j + 1 = 7 + 2 * j by omega, headsUpto_next x j hi]
      · left
        intro again
        have : j = 8 := by omega
        subst this
        unfold R57_11
        rfl) (n := n) (x := (q, 0, x, a, b, c, d, e, f, k1, k2, p, m, o, headsUpto x 0, r1, r2)) ⟨0, by omega, rfl⟩ (by simpa using hn)
  simpa [L57_11] using this
theorem clone_eq (k : Nat) {l : List Int} (h : l.length ≤ 1000000) : F89 k (l, ()) = some l := by
  show (bif decide (l.length ≤ roomMost) then some l else none) = some l
  rw [roomMost_ge h]; rfl
theorem dec_eq {k : Nat} {x : List Int} (hx : IsSec x) (hk : 8 < k) : F57 k (x, ()) = some (if secOk x = true then (blkOf x, bseq x, 0, ()) else (zblk, 0, 11, ())) := by
  have wb := blkOf_is hx
  unfold F57
  simp only
  rw [two_at hx (a := 2) (by omega), two_at hx (a := 4) (by omega)]
  simp only [Option.bind_some]
  have hseq : IntKind.u32.wrap (((BitVec.ofInt IntKind.u32.bits (IntKind.u32.wrap (x.getD (Int.toNat 2) 0 + 256 * x.getD (Int.toNat 2 + 1) 0)) ||| BitVec.ofInt IntKind.u32.bits (IntKind.u32.wrap (IntKind.u32.wrap (x.getD (Int.toNat 4) 0 + 256 * x.getD (Int.toNat 4 + 1) 0) * 2 ^ min (Int.toNat 16) IntKind.u32.bits))).toNat : Nat) : Int) = bseq x := by
    rw [seq_or (byte_nat hx _) (byte_nat hx _)]
    unfold bseq val4
    show x.getD 2 0 + 256 * x.getD 3 0 + 65536 * (x.getD 4 0 + 256 * x.getD 5 0) = _
    omega
  rw [hseq]
  simp only [byteI hx]
  rw [show Int.toNat 0 = 0 from rfl, show Int.toNat 1 = 1 from rfl, show Int.toNat 7 = 7 from rfl, show Int.toNat 6 = 6 from rfl, show Int.toNat 8 = 8 from rfl]
  have fin : ∀ b : Blk, IsBlk b → b = blkOf x → ((F55 k (b, bseq x, ())).bind fun r_2 => bif r_2.snd.fst != (0 : Int) then some (zblk, (0 : Int), (11 : Int), ()) else bif !decide (r_2.fst = x) then some (zblk, (0 : Int), (11 : Int), ()) else some (b, bseq x, (0 : Int), ())) = some (if secOk x = true then (blkOf x, bseq x, 0, ()) else (zblk, 0, 11, ())) := by
    intro b w e
    rw [enc_eq w hk, e]
    unfold secOk
    cases hg : blkOk (blkOf x) with
    | false => rfl
    | true =>
      by_cases he : bsector (blkOf x) (bseq x) = x
      · simp [he]
      · simp [he]
  have h0 := hx.get 0
  generalize hk0 : x.getD 0 0 = kind
  by_cases k1 : kind = 1
  · have b1 : (kind == 1) = true := by simp [k1]
    have hl : (List.take ((38 : Int) - 6).toNat (List.drop 6 x)).length = 32 := by rw [List.length_take, List.length_drop, hx.len]; rfl
    have hb : (Nat.blt 0 32 && Nat.ble 32 (List.take ((38 : Int) - 6).toNat (List.drop 6 x)).length) = true := by rw [hl]; rfl
    simp only [b1, cond_true, hb]
    have e : List.take 32 (List.take ((38 : Int) - 6).toNat (List.drop 6 x)) = (x.drop 6).take 32 := by rw [List.take_take]; rfl
    rw [e]
    have e2 : blkOf x = .mk kind (x.getD 1 0) ((x.drop 6).take 32) 0 [] 0 zheads := by unfold blkOf; rw [hk0, if_pos k1]
    exact fin _ (by rw [e2] at wb; exact wb) e2.symm
  have b1 : (kind == 1) = false := beq_ne k1
  by_cases k2 : kind = 2
  · have b2 : (kind == 2) = true := by simp [k2]
    simp only [b1, b2, cond_true, cond_false]
    rw [two_at hx (a := 24) (by omega)]
    simp only [Option.bind_some]
    have h7 := hx.get 7
    have hm : (if (16 : Int) < x.getD 7 0 then (16 : Int) else x.getD 7 0) = ((min 16 (x.getD 7 0).toNat : Nat) : Int) := by split <;> omega
    rw [hm]
    have hw : IntKind.i64.wrap (8 + ((min 16 (x.getD 7 0).toNat : Nat) : Int)) = 8 + ((min 16 (x.getD 7 0).toNat : Nat) : Int) := wI_in (by omega)
    rw [hw]
    have hd : (decide ((0 : Int) ≤ 8) && decide ((8 : Int) ≤ 8 + ((min 16 (x.getD 7 0).toNat : Nat) : Int)) && decide (8 + ((min 16 (x.getD 7 0).toNat : Nat) : Int) ≤ ((64 : Nat) : Int))) = true := by simp; omega
    rw [hd]
    rw [cond_true, clone_eq k (by rw [List.length_take]; omega)]
    simp only [Option.bind_some]
    have ht : (8 + ((min 16 (x.getD 7 0).toNat : Nat) : Int) - 8).toNat = min 16 (x.getD 7 0).toNat := by omega
    rw [ht]
    have e2 : blkOf x = .mk kind (x.getD 1 0) zpage (x.getD 6 0) ((x.drop 8).take (min 16 (x.getD 7 0).toNat)) (x.getD 24 0 + 256 * x.getD 25 0) zheads := by unfold blkOf; rw [hk0, if_neg k1, if_pos k2]
    exact fin _ (by rw [e2] at wb; exact wb) e2.symm
  have b2 : (kind == 2) = false := beq_ne k2
  by_cases k3 : kind = 3
  · have b3 : (kind == 3) = true := by simp [k3]
    simp only [b1, b2, b3, cond_true, cond_false]
    have := dec_loop (k := k) (n := k) (q := bseq x) (a := 0) (b := 0) (c := List.replicate 32 0) (d := 0) (e := 0) (f := List.replicate 8 0) (k1 := kind) (k2 := x.getD 1 0) (p := List.replicate 32 0) (m := 0) (o := 0) (r1 := []) (r2 := []) (g := 0) (h := 0) (i := 0) (l := []) hx hk
    rw [show List.replicate 8 (0 : Int) = headsUpto x 0 from rfl] at this ⊢
    rw [this]
    simp only [Option.bind_some]
    have e2 : blkOf x = .mk kind (x.getD 1 0) zpage 0 [] 0 (headsUpto x 8) := by unfold blkOf; rw [hk0, if_neg k1, if_neg k2, if_pos k3]; rfl
    exact fin _ (by rw [e2] at wb; exact wb) e2.symm
  · have b3 : (kind == 3) = false := beq_ne k3
    simp only [b1, b2, b3, cond_false]
    have e2 : blkOf x = .mk kind (x.getD 1 0) zpage 0 [] 0 zheads := by unfold blkOf; rw [hk0, if_neg k1, if_neg k2, if_neg k3]
    exact fin _ (by rw [e2] at wb; exact wb) e2.symm
/-! ### the document's answer -/
theorem put4_eq {k : Nat} {v : Int} (hk : 8 < k) : F79 k (v, 4, ()) = some (four v) := by
  obtain ⟨m, rfl⟩ : ∃ m, k = m + 9 := ⟨k - 9, by omega⟩
  have : F79 (m + 9) (v, 4, ()) = some [IntKind.u8.wrap (v.fdiv 1), IntKind.u8.wrap (v.fdiv 256), IntKind.u8.wrap (v.fdiv 65536), IntKind.u8.wrap (v.fdiv 16777216)] := by kernel_rfl
  rw [this, Int.fdiv_one]; rfl
theorem put2_eq {k : Nat} {v : Int} (hk : 8 < k) : F79 k (v, 2, ()) = some (two v) := by
  obtain ⟨m, rfl⟩ : ∃ m, k = m + 9 := ⟨k - 9, by omega⟩
  have : F79 (m + 9) (v, 2, ()) = some [IntKind.u8.wrap (v.fdiv 1), IntKind.u8.wrap (v.fdiv 256)] := by kernel_rfl
  rw [this, Int.fdiv_one]; rfl
theorem rsector_eq {k : Nat} {l : List Int} (h : l.length ≤ 64) : F81 k (l, ()) = some (l ++ List.replicate (64 - l.length) 0) := by
  have := splice_zeros (h := []) (l := l) (n := 64) h
  simp only [List.nil_append, List.length_nil] at this
  unfold F81
  simp only
  rw [show ((((64 : Nat) : Int) - (0 : Int)).toNat) = 64 from rfl, show Int.toNat (0 : Int) = 0 from rfl, this]
theorem w32_in {x : Int} (h : 0 ≤ x ∧ x < 4294967296) : IntKind.u32.wrap x = x := by rw [w32_eq]; omega
theorem renc_loop {k n : Nat} {a b d f : Int} {c e l z h : List Int} (hl : l.length = 8) (hall : ∀ x ∈ l, headOk x = true) (hh : h.length ≤ 100) (hk : 8 < k) (hn : 8 < n) :
    L56_12 k n (0, a, b, c, d, e, f, l, z, h) = some (z, h ++ l.flatMap two) := by
  have := iter_out (R := R56_12 k) (fun x : Int × Int × Int × List Int × Int × List Int × Int × List Int × List Int × List Int => ∃ j : Nat, j ≤ 8 ∧ x = ((j : Int), a, b, c, d, e, f, l, z, h ++ (l.take j).flatMap two))
    (fun x => 8 - x.1.toNat) (fun _ => (z, h ++ l.flatMap two)) (fun x hx => by
      obtain ⟨j, hj, rfl⟩ := hx
      by_cases hi : j < 8
      · right
        have e1 : IntKind.i64.wrap ((j : Int) + 1) = ((j + 1 : Nat) : Int) := by rw [wI_in (by omega)]; rfl
        have e8 : decide ((j : Int) < 8) = true := by simp; omega
        have hlt : j < l.length := by omega
        have hget : l.getD j 0 = l[j] := by rw [List.getD_eq_getElem?_getD, List.getElem?_eq_getElem hlt]; rfl
        have hr := headOk_in (hall (l.getD j 0) (by rw [hget]; exact List.getElem_mem _))
        have hlen : (h ++ (l.take j).flatMap two).length + (two (l.getD j 0)).length ≤ 1000000 := by
          have : ((l.take j).flatMap two).length ≤ 16 := by
            have : ∀ q : List Int, (q.flatMap two).length = 2 * q.length := by
              intro q
              induction q with
              | nil => rfl
              | cons y q ih => rw [List.flatMap_cons, List.length_append, ih, List.length_cons]; show 2 + 2 * q.length = _; omega
            rw [this, List.length_take]; omega
          rw [List.length_append]
          show _ + 2 ≤ _
          omega
        have hnext : (h ++ (l.take j).flatMap two) ++ two (l.getD j 0) = h ++ (l.take (j + 1)).flatMap two := by
          rw [List.take_add_one, List.flatMap_append, List.append_assoc, List.getElem?_eq_getElem hlt, hget]
          simp
        refine ⟨_, fun again => ?_, ⟨j + 1, by omega, rfl⟩, by simp only; omega, rfl⟩
        unfold R56_12
        simp only [e8, cond_true, inRange_true (i := (j : Int)) (n := 8) ⟨by omega, by omega⟩, Int.toNat_natCast, w32_in (x := l.getD j 0) (by omega)]
        rw [put2_eq hk]
        simp only [Option.bind_some, roomMost_ge hlen, cond_true, e1, hnext]
      · left
        intro again
        have : j = 8 := by omega
        subst this
        unfold R56_12
        rw [show l.take 8 = l from List.take_of_length_le (by omega)]
        rfl) (n := n) (x := (0, a, b, c, d, e, f, l, z, h)) ⟨0, by omega, by simp⟩ (by simpa using hn)
  simpa [L56_12] using this
theorem renc_eq {k : Nat} {b : Blk} {seq : Int} (w : IsBlk b) (hk : 8 < k) : F56 k (b, seq, ()) = some (if blkOk b = true then (bsector b seq, 0, ()) else (List.replicate 64 0, 11, ())) := by
  unfold F56
  simp only
  rw [show (T87.mk b.1 b.2 b.3 b.4 b.5 b.6 b.7, PUnit.unit) = (b, ()) from rfl, rgood_eq w hk, put4_eq hk]
  simp only [Option.bind_some]
  cases hg : blkOk b with
  | false => rfl
  | true =>
    have bl := bbody_length w hg
    obtain ⟨kind, id, page, off, bytes, prev, heads⟩ := b
    have hset : ∀ p q : Int, ((List.replicate (2 : Nat) (0 : Int)).set 0 p).set 1 q = [p, q] := fun p q => rfl
    simp only [hset, Bool.not_true, cond_false, if_true]
    have hd6 : [IntKind.u8.wrap kind, IntKind.u8.wrap id] ++ four seq = bhead (T87.mk kind id page off bytes prev heads) seq := rfl
    have h6 : ([IntKind.u8.wrap kind, IntKind.u8.wrap id] ++ four seq).length = 6 := rfl
    have hr0 : decide ([IntKind.u8.wrap kind, IntKind.u8.wrap id].length + (four seq).length ≤ roomMost) = true := roomMost_ge (by show 2 + 4 ≤ _; omega)
    simp only [hr0, cond_true]
    generalize hH : [IntKind.u8.wrap kind, IntKind.u8.wrap id] ++ four seq = H at hd6 h6
    have fin : ∀ l, l = bbody (T87.mk kind id page off bytes prev heads) → ((F81 k (H ++ l, ())).bind fun r => some (r, (0 : Int), ())) = some (bsector (T87.mk kind id page off bytes prev heads) seq, 0, ()) := by
      intro l hl
      have hlb : l.length ≤ 32 := by rw [hl, bl]; split <;> (try split) <;> omega
      rw [rsector_eq (by rw [List.length_append, h6]; omega)]
      simp only [Option.bind_some]
      unfold bsector
      rw [← hd6, ← hl, List.length_append, h6, List.append_assoc, show 64 - (6 + l.length) = 58 - l.length by omega]
    rcases blkOk_kinds hg with ⟨k1, i, hh, ho, hb, hp⟩ | ⟨k1, i, hh, hpg, ho, hl1, hl2, ho2, hp, hph⟩ | ⟨k1, i, hpg, ho, hb, hp, hall⟩
    · simp only at k1
      subst k1
      have e : List.take ((((32 : Nat) : Int) - (0 : Int)).toNat) (List.drop (Int.toNat (0 : Int)) page) = page := take_drop0 w.page.1
      have hlen : page.length = 32 := w.page.1
      have hr : decide (H.length + page.length ≤ roomMost) = true := roomMost_ge (by omega)
      simp only [e, hr, beq_self_eq_true, cond_true]
      exact fin page rfl
    · simp only at k1 hl2 hl1 hph
      subst k1
      have e1 : ((2 : Int) == 1) = false := rfl
      have e2 : ((2 : Int) == 2) = true := rfl
      have hpi := headOk_in hph
      have w16 : IntKind.i64.wrap (16 - (bytes.length : Int)) = ((16 - bytes.length : Nat) : Int) := by rw [wI_in (by omega)]; omega
      have r1 : decide (H.length + [IntKind.u8.wrap off, IntKind.u8.wrap (bytes.length : Int)].length ≤ roomMost) = true := roomMost_ge (by show _ + 2 ≤ _; omega)
      have hl8 : (H ++ [IntKind.u8.wrap off, IntKind.u8.wrap (bytes.length : Int)]).length = 8 := by rw [List.length_append, h6]; rfl
      have r2 : decide ((H ++ [IntKind.u8.wrap off, IntKind.u8.wrap (bytes.length : Int)]).length + bytes.length ≤ roomMost) = true := roomMost_ge (by rw [hl8]; omega)
      have hl24 : ((H ++ [IntKind.u8.wrap off, IntKind.u8.wrap (bytes.length : Int)]) ++ bytes).length ≤ 24 := by rw [List.length_append, hl8]; omega
      have r3 : decide (((H ++ [IntKind.u8.wrap off, IntKind.u8.wrap (bytes.length : Int)]) ++ bytes).length + (16 - bytes.length) ≤ roomMost) = true := roomMost_ge (by omega)
      have r4 : decide ((((H ++ [IntKind.u8.wrap off, IntKind.u8.wrap (bytes.length : Int)]) ++ bytes) ++ List.replicate (16 - bytes.length) (0 : Int)).length + (two prev).length ≤ roomMost) = true := roomMost_ge (by rw [List.length_append, List.length_replicate]; show _ + 2 ≤ _; omega)
      have hp0 : decide ((0 : Int) ≤ ((16 - bytes.length : Nat) : Int)) = true := by simp
      simp only [e1, e2, cond_true, cond_false, r1, r2, w16, Int.toNat_natCast, r3, hp0, Bool.and_self, w32_in (x := prev) (by omega)]
      rw [put2_eq hk]
      simp only [Option.bind_some, r4, cond_true]
      have := fin ([IntKind.u8.wrap off, IntKind.u8.wrap (bytes.length : Int)] ++ (bytes ++ (List.replicate (16 - bytes.length) 0 ++ two prev))) rfl
      simpa [List.append_assoc] using this
    · simp only at k1
      subst k1
      have e1 : ((3 : Int) == 1) = false := rfl
      have e2 : ((3 : Int) == 2) = false := rfl
      have e3 : ((3 : Int) == 3) = true := rfl
      simp only [e1, e2, e3, cond_true, cond_false]
      rw [renc_loop w.heads hall (by omega) hk hk]
      simp only [Option.bind_some]
      exact fin (heads.flatMap two) rfl
theorem num4_eq {k : Nat} {a b c d : Int} (ha : 0 ≤ a ∧ a ≤ 255) (hb : 0 ≤ b ∧ b ≤ 255) (hc : 0 ≤ c ∧ c ≤ 255) (hd : 0 ≤ d ∧ d ≤ 255) (hk : 8 < k) : F82 k ([a, b, c, d], ()) = some (val4 a b c d) := by
  obtain ⟨m, rfl⟩ : ∃ m, k = m + 9 := ⟨k - 9, by omega⟩
  have : F82 (m + 9) ([a, b, c, d], ()) = some (IntKind.u32.wrap (IntKind.u32.wrap (IntKind.u32.wrap (IntKind.u32.wrap (IntKind.u32.wrap (IntKind.u32.wrap (IntKind.u32.wrap (IntKind.u32.wrap (0 * 256) + IntKind.u32.wrap d) * 256) + IntKind.u32.wrap c) * 256) + IntKind.u32.wrap b) * 256) + IntKind.u32.wrap a)) := by kernel_rfl
  rw [this]
  simp only [w32_eq]
  unfold val4
  congr 1
  omega
theorem num2_eq {k : Nat} {a b : Int} (ha : 0 ≤ a ∧ a ≤ 255) (hb : 0 ≤ b ∧ b ≤ 255) (hk : 8 < k) : F82 k ([a, b], ()) = some (a + 256 * b) := by
  obtain ⟨m, rfl⟩ : ∃ m, k = m + 9 := ⟨k - 9, by omega⟩
  have : F82 (m + 9) ([a, b], ()) = some (IntKind.u32.wrap (IntKind.u32.wrap (IntKind.u32.wrap (IntKind.u32.wrap (0 * 256) + IntKind.u32.wrap b) * 256) + IntKind.u32.wrap a)) := by kernel_rfl
  rw [this]
  simp only [w32_eq]
  congr 1
  omega
theorem take2 {x : List Int} {i : Nat} (h : i + 2 ≤ x.length) : List.take 2 (List.drop i x) = [x.getD i 0, x.getD (i + 1) 0] := by
  rw [drop_cons (i := i) (0 : Int) (by omega), drop_cons (i := i + 1) (0 : Int) (by omega)]
  rfl
theorem rdec_loop {k n : Nat} {x : List Int} {q a b d e g h k1 k2 m o : Int} {c f p r1 r2 : List Int} (hx : IsSec x) (hk : 8 < k) (hn : 8 < n) :
    L58_11 k n (q, 0, x, a, b, c, d, e, f, g, h, k1, k2, p, m, o, headsUpto x 0, r1, r2) = some (q, x, a, b, c, d, e, f, g, h, k1, k2, p, m, o, headsUpto x 8, r1, r2) := by
  have := iter_out (R := R58_11 k) (fun y : Int × Int × List Int × Int × Int × List Int × Int × Int × List Int × Int × Int × Int × Int × List Int × Int × Int × List Int × List Int × List Int => ∃ j : Nat, j ≤ 8 ∧ y = (q, (j : Int), x, a, b, c, d, e, f, g, h, k1, k2, p, m, o, headsUpto x j, r1, r2))
    (fun y => 8 - y.2.1.toNat) (fun _ => (q, x, a, b, c, d, e, f, g, h, k1, k2, p, m, o, headsUpto x 8, r1, r2)) (fun y hy => by
      obtain ⟨j, hj, rfl⟩ := hy
      by_cases hi : j < 8
      · right
        have e1 : IntKind.i64.wrap ((j : Int) + 1) = ((j + 1 : Nat) : Int) := by rw [wI_in (by omega)]; rfl
        have e4 : IntKind.i64.wrap (2 * (j : Int)) = 2 * j := wI_in (by omega)
        have e5 : IntKind.i64.wrap (6 + 2 * (j : Int)) = 6 + 2 * j := wI_in (by omega)
        have e6 : IntKind.i64.wrap (8 + 2 * (j : Int)) = 8 + 2 * j := wI_in (by omega)
        have e7 : (6 + 2 * (j : Int)).toNat = 6 + 2 * j := by omega
        have e10 : (8 + 2 * (j : Int) - (6 + 2 * (j : Int))).toNat = 2 := by omega
        have e8 : decide ((j : Int) < 8) = true := by simp; omega
        have e9 : (decide ((0 : Int) ≤ 6 + 2 * (j : Int)) && decide (6 + 2 * (j : Int) ≤ 8 + 2 * (j : Int)) && decide (8 + 2 * (j : Int) ≤ ((64 : Nat) : Int))) = true := by simp; omega
        refine ⟨_, fun again => ?_, ⟨j + 1, by omega, rfl⟩, by simp only; omega, rfl⟩
        unfold R58_11
        simp only [e8, cond_true, e4, e5, e6, e9, e7, e10]
        rw [take2 (by rw [hx.len]; omega), num2_eq (hx.get _) (hx.get _) hk]
        have hb := byte_nat hx (6 + 2 * j)
        simp only [Option.bind_some, inRange_true (i := (j : Int)) (n := 8) ⟨by omega, by omega⟩, cond_true, e1, Int.toNat_natCast, wI_in (x := x.getD (6 + 2 * j) 0 + 256 * x.getD (6 + 2 * j + 1) 0) (by omega)]
        rw [show 6 + 2 * j + 1 = 7 + 2 * j by omega, headsUpto_next x j hi]
      · left
        intro again
        have : j = 8 := by omega
        subst this
        unfold R58_11
        rfl) (n := n) (x := (q, 0, x, a, b, c, d, e, f, g, h, k1, k2, p, m, o, headsUpto x 0, r1, r2)) ⟨0, by omega, rfl⟩ (by simpa using hn)
  simpa [L58_11] using this
theorem rdec_eq {k : Nat} {x : List Int} (hx : IsSec x) (hk : 8 < k) : F58 k (x, ()) = some (if secOk x = true then .mk (blkOf x) (bseq x) 0 else .mk zblk 0 11) := by
  have wb := blkOf_is hx
  unfold F58
  simp only
  have h4 : List.take ((6 : Int) - (2 : Int)).toNat (List.drop (Int.toNat (2 : Int)) x) = [x.getD 2 0, x.getD 3 0, x.getD 4 0, x.getD 5 0] := by
    have e1 : ((6 : Int) - (2 : Int)).toNat = 4 := rfl
    have e2 : Int.toNat (2 : Int) = 2 := rfl
    have := hx.len
    rw [e1, e2, drop_cons (i := 2) (0 : Int) (by omega), drop_cons (i := 3) (0 : Int) (by omega), drop_cons (i := 4) (0 : Int) (by omega), drop_cons (i := 5) (0 : Int) (by omega)]
    rfl
  rw [h4, num4_eq (hx.get _) (hx.get _) (hx.get _) (hx.get _) hk]
  simp only [Option.bind_some, byteI hx]
  rw [show val4 (x.getD 2 0) (x.getD 3 0) (x.getD 4 0) (x.getD 5 0) = bseq x from rfl]
  rw [show Int.toNat 0 = 0 from rfl, show Int.toNat 1 = 1 from rfl, show Int.toNat 7 = 7 from rfl, show Int.toNat 6 = 6 from rfl, show Int.toNat 8 = 8 from rfl, show Int.toNat 24 = 24 from rfl]
  have fin : ∀ b : Blk, IsBlk b → b = blkOf x → ((F56 k (b, bseq x, ())).bind fun r_1 => bif r_1.snd.fst != (0 : Int) then some (T94.mk zblk 0 11) else bif !decide (r_1.fst = x) then some (T94.mk zblk 0 11) else some (T94.mk b (bseq x) 0)) = some (if secOk x = true then .mk (blkOf x) (bseq x) 0 else .mk zblk 0 11) := by
    intro b w e
    rw [renc_eq w hk, e]
    unfold secOk
    cases hg : blkOk (blkOf x) with
    | false => rfl
    | true =>
      by_cases he : bsector (blkOf x) (bseq x) = x
      · simp [he]
      · simp [he]
  have h0 := hx.get 0
  generalize hk0 : x.getD 0 0 = kind
  by_cases k1 : kind = 1
  · have b1 : (kind == 1) = true := by simp [k1]
    have hl : (List.take ((38 : Int) - 6).toNat (List.drop 6 x)).length = 32 := by rw [List.length_take, List.length_drop, hx.len]; rfl
    have e : splice (List.replicate 32 (0 : Int)) (List.take ((38 : Int) - 6).toNat (List.drop 6 x)) 0 (min (List.take ((38 : Int) - 6).toNat (List.drop 6 x)).length ((((32 : Nat) : Int) - (0 : Int)).toNat)) = (x.drop 6).take 32 := by
      have := splice_zeros (h := []) (l := List.take ((38 : Int) - 6).toNat (List.drop 6 x)) (n := 32) (by omega)
      simp only [List.nil_append, List.length_nil] at this
      rw [show ((((32 : Nat) : Int) - (0 : Int)).toNat) = 32 from rfl, this, hl]
      simp
    simp only [b1, cond_true, e]
    have e2 : blkOf x = .mk kind (x.getD 1 0) ((x.drop 6).take 32) 0 [] 0 zheads := by unfold blkOf; rw [hk0, if_pos k1]
    exact fin _ (by rw [e2] at wb; exact wb) e2.symm
  have b1 : (kind == 1) = false := beq_ne k1
  by_cases k2 : kind = 2
  · have b2 : (kind == 2) = true := by simp [k2]
    simp only [b1, b2, cond_true, cond_false]
    rw [show ((26 : Int) - 24).toNat = 2 from rfl, take2 (by rw [hx.len]; omega), num2_eq (hx.get _) (hx.get _) hk]
    have hb := byte_nat hx 24
    simp only [Option.bind_some, wI_in (x := x.getD 24 0 + 256 * x.getD (24 + 1) 0) (by omega)]
    have h7 := hx.get 7
    have hm : (if x.getD 7 0 < (16 : Int) then x.getD 7 0 else (16 : Int)) = ((min 16 (x.getD 7 0).toNat : Nat) : Int) := by split <;> omega
    rw [hm]
    have hw : IntKind.i64.wrap (8 + ((min 16 (x.getD 7 0).toNat : Nat) : Int)) = 8 + ((min 16 (x.getD 7 0).toNat : Nat) : Int) := wI_in (by omega)
    rw [hw]
    have hd : (decide ((0 : Int) ≤ 8) && decide ((8 : Int) ≤ 8 + ((min 16 (x.getD 7 0).toNat : Nat) : Int)) && decide (8 + ((min 16 (x.getD 7 0).toNat : Nat) : Int) ≤ ((64 : Nat) : Int))) = true := by simp; omega
    have ht : (8 + ((min 16 (x.getD 7 0).toNat : Nat) : Int) - 8).toNat = min 16 (x.getD 7 0).toNat := by omega
    rw [hd, ht]
    have hr : decide ((List.replicate (0 : Nat) (0 : Int)).length + (List.take (min 16 (x.getD 7 0).toNat) (List.drop 8 x)).length ≤ roomMost) = true := roomMost_ge (by rw [List.length_take]; simp; omega)
    rw [hr]
    simp only [cond_true]
    have e2 : blkOf x = .mk kind (x.getD 1 0) zpage (x.getD 6 0) ((x.drop 8).take (min 16 (x.getD 7 0).toNat)) (x.getD 24 0 + 256 * x.getD 25 0) zheads := by unfold blkOf; rw [hk0, if_neg k1, if_pos k2]
    exact fin _ (by rw [e2] at wb; exact wb) e2.symm
  have b2 : (kind == 2) = false := beq_ne k2
  by_cases k3 : kind = 3
  · have b3 : (kind == 3) = true := by simp [k3]
    simp only [b1, b2, b3, cond_true, cond_false]
    have := rdec_loop (k := k) (n := k) (q := bseq x) (a := 0) (b := 0) (c := List.replicate 32 0) (d := 0) (e := 0) (f := List.replicate 8 0) (g := 0) (h := 0) (k1 := kind) (k2 := x.getD 1 0) (p := List.replicate 32 0) (m := 0) (o := 0) (r1 := []) (r2 := []) hx hk hk
    rw [show List.replicate 8 (0 : Int) = headsUpto x 0 from rfl] at this ⊢
    rw [this]
    simp only [Option.bind_some]
    have e2 : blkOf x = .mk kind (x.getD 1 0) zpage 0 [] 0 (headsUpto x 8) := by unfold blkOf; rw [hk0, if_neg k1, if_neg k2, if_pos k3]; rfl
    exact fin _ (by rw [e2] at wb; exact wb) e2.symm
  · have b3 : (kind == 3) = false := beq_ne k3
    simp only [b1, b2, b3, cond_false]
    have e2 : blkOf x = .mk kind (x.getD 1 0) zpage 0 [] 0 zheads := by unfold blkOf; rw [hk0, if_neg k1, if_neg k2, if_neg k3]
    exact fin _ (by rw [e2] at wb; exact wb) e2.symm
/-! ### the laws -/
theorem wakes : F53 400 () = some true := by kernel_rfl
theorem wakes_tail : ((F53 400 ()).bind fun r => some r) = some true := by rw [wakes]; rfl
theorem isBlk_of {b : Blk} (h : WT87 b) : IsBlk b := by
  obtain ⟨_, _, h3, _, h5, _, h7, _⟩ := h
  exact ⟨⟨h3.1, h3.2⟩, h5.2, h7.1⟩
theorem isSec_of {x : List Int} (h : WA64_I_u8 x) : IsSec x := ⟨h.1, h.2⟩
theorem keepSame {k : Nat} {b : Blk} (w : IsBlk b) : F61 k (b, b, ()) = some true := by rw [keepBlock_eq w w]; simp
theorem zblk_is : IsBlk zblk where
  page := ⟨by simp [zblk, zpage], fun y hy => by
    have : y ∈ List.replicate 32 (0 : Int) := hy
    rw [List.eq_of_mem_replicate this]; unfold IsByte; omega⟩
  bytes := fun y hy => by cases hy
  heads := by simp [zblk, zheads]
theorem blockCodes_plain (a0 : Blk) (a1 : Int) (a2 : List Int) (h0 : WT87 a0) (_ : WI_u32 a1) (h2 : WA64_I_u8 a2) : ∃ k, F14 k (a0, a1, a2, ()) = some true := by
  refine ⟨400, ?_⟩
  have hx := isSec_of h2
  have w := isBlk_of h0
  unfold F14
  simp only
  by_cases h300 : (a0.Bytes.length : Int) > 300
  · simp only [h300, decide_true, cond_true]
    exact wakes_tail
  have hu : (PUnit.unit : Unit) = () := rfl
  simp only [h300, decide_false, cond_false]
  have eta : ∀ b : Blk, T87.mk b.1 b.2 b.3 b.4 b.5 b.6 b.7 = b := fun b => rfl
  simp only [eta]
  rw [own_eq (by omega)]
  simp only [Option.bind_some]
  rw [enc_eq w (by decide)]
  simp only [Option.bind_some]
  rw [renc_eq w (by decide)]
  simp only [Option.bind_some]
  rw [dec_eq hx (by decide)]
  simp only [Option.bind_some]
  rw [rdec_eq hx (by decide)]
  simp only [Option.bind_some]
  rw [good_eq w (by decide)]
  simp only [Option.bind_some]
  rw [rgood_eq w (by decide)]
  simp only [Option.bind_some, beq_self_eq_true, cond_true, decide_true]
  have tail : ((F61 400 (a0, a0, ())).bind fun r => bif r then (F53 400 ()).bind fun r => some r else some false) = some true := by
    rw [keepSame w]
    simp only [Option.bind_some, cond_true]
    rw [wakes]; rfl
  cases hs : secOk a2 with
  | true =>
    simp only [if_true]
    rw [keepSame (blkOf_is hx)]
    simp only [Option.bind_some, beq_self_eq_true, cond_true]
    exact tail
  | false =>
    simp only [Bool.false_eq_true, if_false]
    rw [keepSame zblk_is]
    simp only [Option.bind_some, beq_self_eq_true, cond_true]
    exact tail

theorem blockBack_plain (a0 a1 : Blk) (a2 : List Int) (h0 : WT87 a0) (h1 : WT87 a1) (h2 : WA2_I_u32 a2) : ∃ k, F15 k (a0, a1, a2, ()) = some true := by
  refine ⟨400, ?_⟩
  have w := isBlk_of h0
  have w' := isBlk_of h1
  obtain ⟨m, n, rfl⟩ : ∃ m n, a2 = [m, n] := by
    match a2, h2.1 with
    | [m, n], _ => exact ⟨m, n, rfl⟩
  have hm : 0 ≤ m ∧ m < 4294967296 := by have := h2.2 m (by simp); unfold WI_u32 at this; omega
  have hn : 0 ≤ n ∧ n < 4294967296 := by have := h2.2 n (by simp); unfold WI_u32 at this; omega
  unfold F15
  simp only
  have hu : (PUnit.unit : Unit) = () := rfl
  have eta : ∀ b : Blk, T87.mk b.1 b.2 b.3 b.4 b.5 b.6 b.7 = b := fun b => rfl
  by_cases h300 : (a0.Bytes.length : Int) > 300
  · simp only [h300, decide_true, cond_true]
    rw [wakes]; rfl
  by_cases h300' : (a1.Bytes.length : Int) > 300
  · simp only [h300, h300', decide_true, decide_false, cond_true, cond_false]
    rw [wakes]; rfl
  simp only [h300, h300', decide_false, cond_false, eta]
  rw [show List.getD [m, n] (Int.toNat 0) 0 = m from rfl, show List.getD [m, n] (Int.toNat 1) 0 = n from rfl]
  rw [enc_eq w (by decide)]
  simp only [Option.bind_some]
  rw [enc_eq w' (by decide)]
  simp only [Option.bind_some]
  rw [good_eq w (by decide)]
  simp only [Option.bind_some]
  rw [good_eq w' (by decide)]
  simp only [Option.bind_some]
  cases hg : blkOk a0 with
  | false =>
    cases hg' : blkOk a1 with
    | false => exact wakes_tail
    | true => exact wakes_tail
  | true =>
    simp only [if_true]
    rw [dec_eq (bsector_sec w hg m) (by decide), secOk_bsector w hg hm, blkOf_bsector w hg, bsector_seq hm]
    have e1 : (!((0 : Int) == 0) == true) = false := rfl
    simp only [if_true, Option.bind_some, cond_false, beq_self_eq_true, cond_true, bne_self_eq_false]
    rw [keepSame w]
    simp only [Option.bind_some, Bool.not_true, cond_false]
    cases hg' : blkOk a1 with
    | false => exact wakes_tail
    | true =>
      simp only [if_true, e1, cond_false, bne_self_eq_false]
      rw [keepBlock_eq w w']
      simp only [Option.bind_some]
      have inj := bsector_inj w hg hm w' hg' hn
      by_cases eb : a0 = a1
      · have : (decide (bsector a0 m = bsector a1 n) == (m == n)) = true := by
          by_cases en : m = n
          · simp [en, eb]
          · have : ¬ bsector a0 m = bsector a1 n := fun e => en (inj.1 e).2
            simp [this, en]
        simp only [eb, decide_true, cond_true] at this ⊢
        rw [this]
        exact wakes_tail
      · have : ¬ bsector a0 m = bsector a1 n := fun e => eb (inj.1 e).1
        simp only [eb, this, decide_false, cond_false]
        exact wakes_tail

theorem xor_zero8 {a b : Int} (ha : 0 ≤ a ∧ a ≤ 255) (hb : 0 ≤ b ∧ b ≤ 255) : IntKind.u8.wrap (((BitVec.ofInt IntKind.u8.bits a ^^^ BitVec.ofInt IntKind.u8.bits b).toNat : Nat) : Int) = a ↔ b = 0 := by
  obtain ⟨x, rfl⟩ := Int.eq_ofNat_of_zero_le ha.1
  obtain ⟨y, rfl⟩ := Int.eq_ofNat_of_zero_le hb.1
  have hx : x < 256 := by omega
  have hy : y < 256 := by omega
  have e : IntKind.u8.bits = 8 := rfl
  rw [e, BitVec.toNat_xor, BitVec.toNat_ofInt, BitVec.toNat_ofInt]
  have m1 : ((x : Int) % ((2 ^ 8 : Nat) : Int)).toNat = x := by omega
  have m2 : ((y : Int) % ((2 ^ 8 : Nat) : Int)).toNat = y := by omega
  rw [m1, m2]
  have hlt : x ^^^ y < 256 := Nat.xor_lt_two_pow (n := 8) hx hy
  rw [w8_eq]
  constructor
  · intro h
    have h2 : x ^^^ y = x := by omega
    have h3 : x ^^^ (x ^^^ y) = x ^^^ x := by rw [h2]
    rw [← Nat.xor_assoc, Nat.xor_self, Nat.zero_xor] at h3
    simp [h3]
  · intro h
    have : y = 0 := by omega
    subst this
    simp
    omega
theorem bsector_end {b : Blk} (w : IsBlk b) (h : blkOk b = true) (seq : Int) {i : Nat} (h1 : 38 ≤ i) : (bsector b seq).getD i 0 = 0 := by
  have bl := bbody_length w h
  have : (bbody b).length ≤ 32 := by split at bl <;> (try split at bl) <;> omega
  rw [show i = 6 + (i - 6) by omega, bsector_at, List.getD_eq_getElem?_getD, List.getElem?_eq_none (by omega)]
  rfl
theorem getD_set_ne {x : List Int} {i j : Nat} (v : Int) (h : i ≠ j) : (x.set i v).getD j 0 = x.getD j 0 := by
  rw [List.getD_eq_getElem?_getD, List.getElem?_set_ne h, ← List.getD_eq_getElem?_getD]
theorem getD_set_same {x : List Int} {i : Nat} (v : Int) (h : i < x.length) : (x.set i v).getD i 0 = v := by
  rw [List.getD_eq_getElem?_getD, List.getElem?_set_self h]; rfl
theorem set_same_eq {x : List Int} {i : Nat} (h : i < x.length) : x.set i (x.getD i 0) = x := by
  rw [List.getD_eq_getElem?_getD, List.getElem?_eq_getElem h]
  exact List.set_getElem_self h
theorem blockReads_plain (a0 : List Int) (a1 a2 : Int) (h0 : WA64_I_u8 a0) (h1 : WI_u8 a1) (h2 : WI_u8 a2) : ∃ k, F16 k (a0, a1, a2, ()) = some true := by
  refine ⟨400, ?_⟩
  have hx := isSec_of h0
  unfold WI_u8 at h1 h2
  unfold F16
  simp only
  have hu : (PUnit.unit : Unit) = () := rfl
  have eta : ∀ b : Blk, T87.mk b.1 b.2 b.3 b.4 b.5 b.6 b.7 = b := fun b => rfl
  simp only [eta]
  rw [dec_eq hx (by decide)]
  simp only [Option.bind_some]
  cases hs : secOk a0 with
  | false =>
    have e1 : ((11 : Int) != 0) = true := rfl
    simp only [Bool.false_eq_true, if_false, e1, cond_true, beq_self_eq_true]
    rw [show (T87.mk 0 0 (List.replicate 32 0) 0 [] 0 (List.replicate 8 0)) = zblk from rfl, keepSame zblk_is]
    exact wakes_tail
  | true =>
    have hs' := hs
    unfold secOk at hs
    simp only [Bool.and_eq_true, decide_eq_true_eq] at hs
    obtain ⟨g1, g2⟩ := hs
    simp only [if_true, bne_self_eq_false, cond_false]
    rw [enc_eq (blkOf_is hx) (by decide)]
    simp only [Option.bind_some, g1, if_true, g2, bne_self_eq_false, cond_false, decide_true, Bool.not_true]
    have hw1 : IntKind.i64.wrap a1 = a1 := wI_in (by omega)
    have hm1 : a1.tmod 26 = a1 % 26 := by rw [Int.tmod_eq_emod_of_nonneg h1.1]
    have hw2 : IntKind.i64.wrap (38 + a1 % 26) = 38 + a1 % 26 := wI_in (by omega)
    simp only [hw1, hm1, hw2, inRange_true (i := 38 + a1 % 26) (n := 64) ⟨by omega, by omega⟩, cond_true]
    obtain ⟨i, hi⟩ : ∃ i : Nat, 38 + a1 % 26 = i := ⟨(38 + a1 % 26).toNat, by omega⟩
    have hi1 : 38 ≤ i ∧ i < 64 := by omega
    rw [hi]
    simp only [Int.toNat_natCast]
    have hz : a0.getD i 0 = 0 := by rw [← g2]; exact bsector_end (blkOf_is hx) g1 _ hi1.1
    have hxx := xor_zero8 (a := a0.getD i 0) (b := a2) (hx.get i) h2
    generalize hv : IntKind.u8.wrap (((BitVec.ofInt IntKind.u8.bits (a0.getD i 0) ^^^ BitVec.ofInt IntKind.u8.bits a2).toNat : Nat) : Int) = v at hxx
    have hvb : IsByte v := by rw [← hv]; exact w8_byte _
    have hlen : i < a0.length := by rw [hx.len]; exact hi1.2
    have hx2 : IsSec (a0.set i v) := ⟨by rw [List.length_set]; exact hx.len, fun y hy => by
      rcases List.mem_or_eq_of_mem_set hy with h | h
      · exact hx.byte y h
      · rw [h]; exact hvb⟩
    rw [dec_eq hx2 (by decide)]
    simp only [Option.bind_some]
    by_cases ha : a2 = 0
    · have : a0.set i v = a0 := by rw [hxx.2 ha]; exact set_same_eq hlen
      rw [this, hs']
      subst ha
      exact wakes_tail
    · have hne : secOk (a0.set i v) = false := by
        cases hc : secOk (a0.set i v) with
        | false => rfl
        | true =>
          exfalso
          unfold secOk at hc
          simp only [Bool.and_eq_true, decide_eq_true_eq] at hc
          have := bsector_end (blkOf_is hx2) hc.1 (bseq (a0.set i v)) hi1.1
          rw [hc.2, getD_set_same v hlen] at this
          exact ha (hxx.1 (by rw [this, hz]))
      rw [hne]
      have e2 : (((11 : Int) == 0) == (a2 == 0)) = true := by rw [beq_ne ha]; rfl
      simp only [Bool.false_eq_true, if_false, e2, cond_true]
      exact wakes_tail

/-! ### the places -/
theorem places_seq {k n : Nat} {seq b1 b2 b4 b6 : Int} {b3 b5 b7 s : List Int} (hn : 4 < n) (h : ∀ i : Nat, i < 4 → s.getD (2 + i) 0 = IntKind.u8.wrap (seq.fdiv (2 ^ (8 * i)))) :
    L17_9 k n (seq, 0, b1, b2, b3, b4, b5, b6, b7, s) = some (.inr (b1, b2, b3, b4, b5, b6, b7, s)) := by
  unfold L17_9
  refine iter_out (R := R17_9 k) (fun y : Int × Int × Int × Int × List Int × Int × List Int × Int × List Int × List Int => ∃ j : Nat, j ≤ 4 ∧ y = (seq, (j : Int), b1, b2, b3, b4, b5, b6, b7, s))
    (fun y => 4 - y.2.1.toNat) (fun _ => .inr (b1, b2, b3, b4, b5, b6, b7, s)) (fun y hy => ?_) ⟨0, by omega, rfl⟩ (by simpa using hn)
  obtain ⟨j, hj, rfl⟩ := hy
  by_cases hi : j < 4
  · right
    have e1 : IntKind.i64.wrap ((j : Int) + 1) = ((j + 1 : Nat) : Int) := by rw [wI_in (by omega)]; rfl
    have e2 : IntKind.i64.wrap (2 + (j : Int)) = 2 + j := wI_in (by omega)
    have e3 : IntKind.i64.wrap (8 * (j : Int)) = 8 * j := wI_in (by omega)
    have e4 : IntKind.u64.wrap (8 * (j : Int)) = 8 * j := w64_in (by omega)
    have e5 : (2 + (j : Int)).toNat = 2 + j := by omega
    have e6 : (8 * (j : Int)).toNat = 8 * j := by omega
    have e7 : min (8 * j) IntKind.u32.bits = 8 * j := by show min (8 * j) 32 = 8 * j; omega
    have e8 : decide ((j : Int) < 4) = true := by simp; omega
    have e9 : decide ((0 : Int) ≤ 8 * (j : Int)) = true := by simp; omega
    refine ⟨_, fun again => ?_, ⟨j + 1, by omega, rfl⟩, by simp only; omega, rfl⟩
    unfold R17_9
    simp only [e8, cond_true, e2, e3, e4, e5, e6, e7, e9, inRange_true (i := 2 + (j : Int)) (n := 64) ⟨by omega, by omega⟩, h j hi, bne_self_eq_false, cond_false, e1]
  · left
    intro again
    have : j = 4 := by omega
    subst this
    unfold R17_9
    rfl
theorem places_end {k n c : Nat} {s : List Int} (hn : 64 < n) (hc : c ≤ 64) (h : ∀ i : Nat, c ≤ i → s.getD i 0 = 0) : L17_36 k n ((c : Int), s) = some (.inr ()) := by
  unfold L17_36
  refine iter_out (R := R17_36 k) (fun y : Int × List Int => ∃ j : Nat, c ≤ j ∧ j ≤ 64 ∧ y = ((j : Int), s))
    (fun y => 64 - y.1.toNat) (fun _ => .inr ()) (fun y hy => ?_) ⟨c, by omega, hc, rfl⟩ (by simp only; omega)
  obtain ⟨j, hcj, hj, rfl⟩ := hy
  by_cases hi : j < 64
  · right
    have e1 : IntKind.i64.wrap ((j : Int) + 1) = ((j + 1 : Nat) : Int) := by rw [wI_in (by omega)]; rfl
    have e8 : decide ((j : Int) < 64) = true := by simp; omega
    refine ⟨_, fun again => ?_, ⟨j + 1, by omega, by omega, rfl⟩, by simp only; omega, rfl⟩
    unfold R17_36
    simp only [e8, cond_true, Int.toNat_natCast, inRange_true (i := (j : Int)) (n := 64) ⟨by omega, by omega⟩, h j hcj, bne_self_eq_false, cond_false, e1]
  · left
    intro again
    have : j = 64 := by omega
    subst this
    unfold R17_36
    rfl
theorem places_gap {k n c : Nat} {s : List Int} {v : Int} (hn : 24 < n) (hc : c ≤ 24) (h : ∀ i : Nat, c ≤ i → i < 24 → s.getD i 0 = 0) : L17_24 k n (v, (c : Int), s) = some (.inr (v, s)) := by
  unfold L17_24
  refine iter_out (R := R17_24 k) (fun y : Int × Int × List Int => ∃ j : Nat, c ≤ j ∧ j ≤ 24 ∧ y = (v, (j : Int), s))
    (fun y => 24 - y.2.1.toNat) (fun _ => .inr (v, s)) (fun y hy => ?_) ⟨c, by omega, hc, rfl⟩ (by simp only; omega)
  obtain ⟨j, hcj, hj, rfl⟩ := hy
  by_cases hi : j < 24
  · right
    have e1 : IntKind.i64.wrap ((j : Int) + 1) = ((j + 1 : Nat) : Int) := by rw [wI_in (by omega)]; rfl
    have e8 : decide ((j : Int) < 24) = true := by simp; omega
    refine ⟨_, fun again => ?_, ⟨j + 1, by omega, by omega, rfl⟩, by simp only; omega, rfl⟩
    unfold R17_24
    simp only [e8, cond_true, Int.toNat_natCast, inRange_true (i := (j : Int)) (n := 64) ⟨by omega, by omega⟩, h j hcj hi, bne_self_eq_false, cond_false, e1]
  · left
    intro again
    have : j = 24 := by omega
    subst this
    unfold R17_24
    rfl
theorem places_heads {k n : Nat} {v b1 b2 b4 b6 : Int} {b3 b5 l s : List Int} (hn : 8 < n) (hb : ∀ i, 0 ≤ s.getD i 0 ∧ s.getD i 0 ≤ 255) (h : ∀ i : Nat, i < 8 → s.getD (6 + 2 * i) 0 + 256 * s.getD (7 + 2 * i) 0 = l.getD i 0) :
    L17_31 k n (v, 0, b1, b2, b3, b4, b5, b6, l, s) = some (.inr (v, s)) := by
  unfold L17_31
  refine iter_out (R := R17_31 k) (fun y : Int × Int × Int × Int × List Int × Int × List Int × Int × List Int × List Int => ∃ j : Nat, j ≤ 8 ∧ y = (v, (j : Int), b1, b2, b3, b4, b5, b6, l, s))
    (fun y => 8 - y.2.1.toNat) (fun _ => .inr (v, s)) (fun y hy => ?_) ⟨0, by omega, rfl⟩ (by simpa using hn)
  obtain ⟨j, hj, rfl⟩ := hy
  by_cases hi : j < 8
  · right
    have e1 : IntKind.i64.wrap ((j : Int) + 1) = ((j + 1 : Nat) : Int) := by rw [wI_in (by omega)]; rfl
    have e2 : IntKind.i64.wrap (2 * (j : Int)) = 2 * j := wI_in (by omega)
    have e3 : IntKind.i64.wrap (6 + 2 * (j : Int)) = 6 + 2 * j := wI_in (by omega)
    have e4 : IntKind.i64.wrap (7 + 2 * (j : Int)) = 7 + 2 * j := wI_in (by omega)
    have e5 : (6 + 2 * (j : Int)).toNat = 6 + 2 * j := by omega
    have e6 : (7 + 2 * (j : Int)).toNat = 7 + 2 * j := by omega
    have e8 : decide ((j : Int) < 8) = true := by simp; omega
    have q1 := hb (6 + 2 * j)
    have q2 := hb (7 + 2 * j)
    have w1 : IntKind.i64.wrap (s.getD (6 + 2 * j) 0) = s.getD (6 + 2 * j) 0 := wI_in (by omega)
    have w2 : IntKind.i64.wrap (s.getD (7 + 2 * j) 0) = s.getD (7 + 2 * j) 0 := wI_in (by omega)
    have w3 : IntKind.i64.wrap (256 * s.getD (7 + 2 * j) 0) = 256 * s.getD (7 + 2 * j) 0 := wI_in (by omega)
    have w4 : IntKind.i64.wrap (s.getD (6 + 2 * j) 0 + 256 * s.getD (7 + 2 * j) 0) = s.getD (6 + 2 * j) 0 + 256 * s.getD (7 + 2 * j) 0 := wI_in (by omega)
    refine ⟨_, fun again => ?_, ⟨j + 1, by omega, rfl⟩, by simp only; omega, rfl⟩
    unfold R17_31
    simp only [e8, cond_true, e2, e3, e4, e5, e6, inRange_true (i := 6 + 2 * (j : Int)) (n := 64) ⟨by omega, by omega⟩, inRange_true (i := 7 + 2 * (j : Int)) (n := 64) ⟨by omega, by omega⟩, inRange_true (i := (j : Int)) (n := 8) ⟨by omega, by omega⟩, w1, w2, w3, w4, Int.toNat_natCast]
    rw [h j hi]
    simp only [bne_self_eq_false, cond_false, e1]
  · left
    intro again
    have : j = 8 := by omega
    subst this
    unfold R17_31
    rfl
theorem bsector_gap {b : Blk} (seq : Int) {i : Nat} (h1 : 6 + (bbody b).length ≤ i) : (bsector b seq).getD i 0 = 0 := by
  rw [show i = 6 + (i - 6) by omega, bsector_at, List.getD_eq_getElem?_getD, List.getElem?_eq_none (by omega)]
  rfl
theorem blockPlaces_plain (a0 : Blk) (a1 : Int) (h0 : WT87 a0) (_ : WI_u32 a1) : ∃ k, F17 k (a0, a1, ()) = some true := by
  refine ⟨400, ?_⟩
  have w := isBlk_of h0
  unfold F17
  simp only
  have hu : (PUnit.unit : Unit) = () := rfl
  have eta : ∀ b : Blk, T87.mk b.1 b.2 b.3 b.4 b.5 b.6 b.7 = b := fun b => rfl
  by_cases h300 : (a0.Bytes.length : Int) > 300
  · simp only [h300, decide_true, cond_true]
    exact wakes_tail
  simp only [h300, decide_false, cond_false, eta]
  rw [enc_eq w (by decide)]
  simp only [Option.bind_some]
  cases hg : blkOk a0 with
  | false =>
    have e1 : ((11 : Int) != 0) = true := rfl
    simp only [Bool.false_eq_true, if_false, e1, cond_true, decide_true, beq_self_eq_true]
    rw [good_eq w (by decide), hg]
    exact wakes_tail
  | true =>
    simp only [if_true, bne_self_eq_false, cond_false]
    have hsec := bsector_sec w hg a1
    have hk : 1 ≤ a0.Kind ∧ a0.Kind ≤ 3 := by rcases blkOk_kinds hg with h | h | h <;> omega
    have hid : 0 ≤ a0.Id ∧ a0.Id < 64 := by rcases blkOk_kinds hg with h | h | h <;> omega
    have g0 : IntKind.i64.wrap ((bsector a0 a1).getD (Int.toNat 0) 0) = a0.Kind := by
      rw [byteI hsec]
      show IntKind.u8.wrap a0.Kind = a0.Kind
      exact w8_in (by omega)
    have g1 : IntKind.i64.wrap ((bsector a0 a1).getD (Int.toNat 1) 0) = a0.Id := by
      rw [byteI hsec]
      show IntKind.u8.wrap a0.Id = a0.Id
      exact w8_in (by omega)
    rw [g0, g1, places_seq (by decide) (fun i hi => by
      have : i = 0 ∨ i = 1 ∨ i = 2 ∨ i = 3 := by omega
      rcases this with rfl | rfl | rfl | rfl
      · show IntKind.u8.wrap a1 = IntKind.u8.wrap (a1.fdiv 1)
        rw [Int.fdiv_one]
      · rfl
      · rfl
      · rfl)]
    have bl := bbody_length w hg
    simp only [bne_self_eq_false, cond_false, Option.bind_some, sumK]
    rcases blkOk_kinds hg with ⟨k1, i, hh, ho, hb, hp⟩ | ⟨k1, i, hh, hpg, ho, hl1, hl2, ho2, hp, hph⟩ | ⟨k1, i, hpg, ho, hb, hp, hall⟩
    · have e : List.take ((((32 : Nat) : Int) - (0 : Int)).toNat) (List.drop (Int.toNat (0 : Int)) a0.Page) = a0.Page := take_drop0 w.page.1
      have e2 : List.take (((38 : Int) - 6).toNat) (List.drop (Int.toNat 6) (bsector a0 a1)) = a0.Page := by
        rw [show Int.toNat 6 = 6 from rfl, bsector_drop, show bbody a0 = a0.Page by unfold bbody; rw [if_pos k1], show ((38 : Int) - 6).toNat = a0.Page.length by rw [w.page.1]; rfl]
        exact List.take_left
      have b1 : (a0.Kind == 1) = true := by simp [k1]
      rw [k1] at bl
      simp only [b1, cond_true, e, e2]
      rw [keepBytes_eq w.page.2 w.page.2]
      simp only [decide_true, Option.bind_some, Bool.not_true, cond_false]
      have := places_end (k := 400) (n := 400) (c := 38) (s := bsector a0 a1) (by decide) (by decide) fun i hi => bsector_gap a1 (by rw [bl, if_pos rfl]; omega)
      rw [show ((38 : Nat) : Int) = 38 from rfl] at this
      rw [this]
      exact wakes_tail
    · have b1 : (a0.Kind == 1) = false := beq_ne (by omega)
      have b2 : (a0.Kind == 2) = true := by simp [k1]
      have hbody : bbody a0 = [IntKind.u8.wrap a0.Off, IntKind.u8.wrap (a0.Bytes.length : Int)] ++ (a0.Bytes ++ (List.replicate (16 - a0.Bytes.length) 0 ++ two a0.Prev)) := by unfold bbody; rw [if_neg (by omega), if_pos k1]
      have hpi := headOk_in hph
      have f6 : (bsector a0 a1).getD 6 0 = a0.Off := by rw [show 6 = 6 + 0 from rfl, bsector_at, hbody]; exact w8_in (by omega)
      have f7 : (bsector a0 a1).getD 7 0 = a0.Bytes.length := by rw [show 7 = 6 + 1 from rfl, bsector_at, hbody]; exact w8_in (by omega)
      have fg : ∀ j, (bsector a0 a1).getD (8 + a0.Bytes.length + j) 0 = (List.replicate (16 - a0.Bytes.length) 0 ++ two a0.Prev).getD j 0 := by
        intro j
        rw [show 8 + a0.Bytes.length + j = 6 + (2 + (a0.Bytes.length + j)) by omega, bsector_at, hbody, getD_behind (n := 2) rfl, getD_behind (n := a0.Bytes.length) rfl]
      have f24 : ∀ j, (bsector a0 a1).getD (24 + j) 0 = (two a0.Prev).getD j 0 := by
        intro j
        rw [show 24 + j = 8 + a0.Bytes.length + ((16 - a0.Bytes.length) + j) by omega, fg, getD_behind (n := 16 - a0.Bytes.length) (by simp)]
      have w8l : IntKind.i64.wrap (8 + (a0.Bytes.length : Int)) = ((8 + a0.Bytes.length : Nat) : Int) := by rw [wI_in (by omega)]; omega
      have hd : (decide ((0 : Int) ≤ 8) && decide ((8 : Int) ≤ ((8 + a0.Bytes.length : Nat) : Int)) && decide (((8 + a0.Bytes.length : Nat) : Int) ≤ ((64 : Nat) : Int))) = true := by simp; omega
      have ht : (((8 + a0.Bytes.length : Nat) : Int) - 8).toNat = a0.Bytes.length := by omega
      have hbt : List.take a0.Bytes.length (List.drop (Int.toNat 8) (bsector a0 a1)) = a0.Bytes := by
        rw [show List.drop (Int.toNat 8) (bsector a0 a1) = ((bsector a0 a1).drop 6).drop 2 by rw [List.drop_drop]; rfl, bsector_drop, hbody]
        simp
      rw [k1] at bl
      have g6 : IntKind.i64.wrap ((bsector a0 a1).getD (Int.toNat 6) 0) = a0.Off := by rw [byteI hsec]; exact f6
      have g7 : IntKind.i64.wrap ((bsector a0 a1).getD (Int.toNat 7) 0) = a0.Bytes.length := by rw [byteI hsec]; exact f7
      have f24' : (bsector a0 a1).getD (Int.toNat 24) 0 = IntKind.u8.wrap a0.Prev := f24 0
      have f25' : (bsector a0 a1).getD (Int.toNat 25) 0 = IntKind.u8.wrap (a0.Prev.fdiv 256) := f24 1
      have g24 : IntKind.i64.wrap (IntKind.i64.wrap ((bsector a0 a1).getD (Int.toNat 24) 0) + IntKind.i64.wrap (256 * IntKind.i64.wrap ((bsector a0 a1).getD (Int.toNat 25) 0))) = a0.Prev := by
        rw [byteI hsec, byteI hsec, f24', f25']
        have q1 := w8_byte a0.Prev
        have q2 := w8_byte (a0.Prev.fdiv 256)
        have q3 := two_val (n := a0.Prev) (by omega)
        unfold IsByte at q1 q2
        rw [wI_in (x := 256 * IntKind.u8.wrap (a0.Prev.fdiv 256)) (by omega), wI_in (by omega)]
        exact q3
      simp only [b1, b2, cond_true, cond_false, g6, g7, bne_self_eq_false, w8l, hd, ht, hbt]
      rw [keepBytes_eq w.bytes w.bytes]
      simp only [decide_true, Option.bind_some, Bool.not_true, cond_false, g24, bne_self_eq_false]
      rw [places_gap (by decide) (by omega) fun i h1 h2 => by
        rw [show i = 8 + a0.Bytes.length + (i - (8 + a0.Bytes.length)) by omega, fg, List.getD_eq_getElem?_getD, List.getElem?_append_left (by rw [List.length_replicate]; omega), List.getElem?_replicate]
        split <;> rfl]
      simp only [Option.bind_some]
      have := places_end (k := 400) (n := 400) (c := 26) (s := bsector a0 a1) (by decide) (by decide) fun i hi => bsector_gap a1 (by rw [bl]; show 6 + 20 ≤ i; omega)
      rw [show ((26 : Nat) : Int) = 26 from rfl] at this
      rw [this]
      exact wakes_tail
    · have b1 : (a0.Kind == 1) = false := beq_ne (by omega)
      have b2 : (a0.Kind == 2) = false := beq_ne (by omega)
      have b3 : (a0.Kind == 3) = true := by simp [k1]
      rw [k1] at bl
      have back := blkOf_bsector w hg a1
      have hkd : (bsector a0 a1).getD 0 0 = 3 := by show IntKind.u8.wrap a0.Kind = 3; rw [k1]; rfl
      unfold blkOf at back
      rw [hkd, if_neg (by decide), if_neg (by decide), if_pos rfl] at back
      have hheads : (List.range 8).map (fun i => (bsector a0 a1).getD (6 + 2 * i) 0 + 256 * (bsector a0 a1).getD (7 + 2 * i) 0) = a0.Heads := congrArg T87.Heads back
      simp only [b1, b2, b3, cond_true, cond_false]
      rw [places_heads (by decide) (fun i => hsec.get i) fun i hi => by
        rw [← hheads, List.getD_eq_getElem?_getD (l := List.map _ _), List.getElem?_map, List.getElem?_range hi]
        rfl]
      simp only [Option.bind_some]
      have := places_end (k := 400) (n := 400) (c := 22) (s := bsector a0 a1) (by decide) (by decide) fun i hi => bsector_gap a1 (by rw [bl]; show 6 + 16 ≤ i; omega)
      rw [show ((22 : Nat) : Int) = 22 from rfl] at this
      rw [this]
      exact wakes_tail
theorem blockPlaces : Rows.BlockPlacesSaid := blockPlaces_row blockPlaces_plain

/-! ### the numbers -/
theorem numbers_loop {k n : Nat} {b1 b2 b4 b6 : Int} {b3 b5 b7 c x y : List Int} (hn : 64 < n) (h : ∀ i : Nat, i < 2 ∨ 5 < i → x.getD i 0 = y.getD i 0) :
    L18_8 k n (0, b1, b2, b3, b4, b5, b6, b7, c, x, y) = some (.inr (b1, b2, b3, b4, b5, b6, b7, c, x, y)) := by
  unfold L18_8
  refine iter_out (R := R18_8 k) (fun z : Int × Int × Int × List Int × Int × List Int × Int × List Int × List Int × List Int × List Int => ∃ j : Nat, j ≤ 64 ∧ z = ((j : Int), b1, b2, b3, b4, b5, b6, b7, c, x, y))
    (fun z => 64 - z.1.toNat) (fun _ => .inr (b1, b2, b3, b4, b5, b6, b7, c, x, y)) (fun z hz => ?_) ⟨0, by omega, rfl⟩ (by simpa using hn)
  obtain ⟨j, hj, rfl⟩ := hz
  by_cases hi : j < 64
  · right
    have e1 : IntKind.i64.wrap ((j : Int) + 1) = ((j + 1 : Nat) : Int) := by rw [wI_in (by omega)]; rfl
    have e8 : decide ((j : Int) < 64) = true := by simp; omega
    refine ⟨_, fun again => ?_, ⟨j + 1, by omega, rfl⟩, by simp only; omega, rfl⟩
    unfold R18_8
    simp only [e8, cond_true, e1, inRange_true (i := (j : Int)) (n := 64) ⟨by omega, by omega⟩, Int.toNat_natCast]
    by_cases h2 : j < 2
    · have d2 : decide ((j : Int) < 2) = true := by simp; omega
      simp only [d2, cond_true, h j (.inl h2), bne_self_eq_false, cond_false]
    · have d2 : decide ((j : Int) < 2) = false := by simp; omega
      by_cases h5 : 5 < j
      · have d5 : decide ((j : Int) > 5) = true := by simp; omega
        simp only [d2, d5, cond_true, cond_false, h j (.inr h5), bne_self_eq_false]
      · have d5 : decide ((j : Int) > 5) = false := by simp; omega
        simp only [d2, d5, cond_false]
  · left
    intro again
    have : j = 64 := by omega
    subst this
    unfold R18_8
    rfl
theorem blockNumbers_plain (a0 : Blk) (a1 : List Int) (h0 : WT87 a0) (h1 : WA2_I_u32 a1) : ∃ k, F18 k (a0, a1, ()) = some true := by
  refine ⟨400, ?_⟩
  have w := isBlk_of h0
  obtain ⟨m, n, rfl⟩ : ∃ m n, a1 = [m, n] := by
    match a1, h1.1 with
    | [m, n], _ => exact ⟨m, n, rfl⟩
  have hm : 0 ≤ m ∧ m < 4294967296 := by have := h1.2 m (by simp); unfold WI_u32 at this; omega
  have hn : 0 ≤ n ∧ n < 4294967296 := by have := h1.2 n (by simp); unfold WI_u32 at this; omega
  unfold F18
  simp only
  have hu : (PUnit.unit : Unit) = () := rfl
  have eta : ∀ b : Blk, T87.mk b.1 b.2 b.3 b.4 b.5 b.6 b.7 = b := fun b => rfl
  by_cases h300 : (a0.Bytes.length : Int) > 300
  · simp only [h300, decide_true, cond_true]
    exact wakes_tail
  simp only [h300, decide_false, cond_false, eta]
  rw [rgood_eq w (by decide)]
  simp only [Option.bind_some]
  cases hg : blkOk a0 with
  | false => exact wakes_tail
  | true =>
    rw [show List.getD [m, n] (Int.toNat 0) 0 = m from rfl, show List.getD [m, n] (Int.toNat 1) 0 = n from rfl]
    simp only [Bool.not_true, cond_false]
    rw [enc_eq w (by decide)]
    simp only [Option.bind_some]
    rw [enc_eq w (by decide)]
    simp only [Option.bind_some, hg, if_true, bne_self_eq_false, cond_false]
    rw [numbers_loop (by decide) fun i hi => by
      rcases hi with h | h
      · have : i = 0 ∨ i = 1 := by omega
        rcases this with rfl | rfl <;> rfl
      · rw [show i = 6 + (i - 6) by omega, bsector_at, bsector_at]]
    simp only [Option.bind_some, sumK]
    rw [dec_eq (bsector_sec w hg n) (by decide), secOk_bsector w hg hn, blkOf_bsector w hg, bsector_seq hn]
    simp only [if_true, Option.bind_some, beq_self_eq_true, cond_true, eta]
    rw [show List.getD [m, n] (Int.toNat 0) 0 = m from rfl, show List.getD [m, n] (Int.toNat 1) 0 = n from rfl]
    simp only [beq_self_eq_true, cond_true]
    rw [keepSame w]
    simp only [Option.bind_some, cond_true]
    have inj := bsector_inj w hg hm w hg hn
    have : (decide (bsector a0 m = bsector a0 n) == (m == n)) = true := by
      by_cases en : m = n
      · simp [en]
      · have : ¬ bsector a0 m = bsector a0 n := fun e => en (inj.1 e).2
        simp [this, en]
    rw [this]
    exact wakes_tail
end Go.Proofs.Ytbhnkjnjeifdhaa.W
