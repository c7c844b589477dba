/-
  MapPages: for every input that the statement lets in the law returns true; its tied card. No conditions.
-/
import Derived.Test.YtpnnmpdjgnbkhaaDoorVR
set_option linter.unusedVariables false
namespace Go.Proofs.YtpnnmpdjgnbkhaaDoor.W
open Go V
/-! ### blocks: plain -/
abbrev Blk := T89
def zpage : List Int := List.replicate 32 0
def zheads : List Int := List.replicate 8 0
def zblk : Blk := .mk 0 0 zpage 0 [] 0 zheads
def headOk (n : Int) : Bool := decide (n = 0) || decide (n = 1) || (decide (4 ≤ n) && decide (n ≤ 1023))
/-- a block that may be -/
def blkOk (b : Blk) : Bool :=
  if b.Kind = 1 then decide (0 ≤ b.Id ∧ b.Id < 64) && decide (b.Heads = zheads) && decide (b.Off = 0 ∧ b.Bytes = [] ∧ b.Prev = 0)
  else if b.Kind = 2 then decide (0 ≤ b.Id ∧ b.Id < 64) && decide (b.Heads = zheads) && decide (b.Page = zpage) &&
    decide (0 ≤ b.Off ∧ 1 ≤ b.Bytes.length ∧ b.Bytes.length ≤ 16 ∧ b.Off ≤ 32 - (b.Bytes.length : Int) ∧ b.Prev ≠ 0) && headOk b.Prev
  else if b.Kind = 3 then decide (0 ≤ b.Id ∧ b.Id < 8) && decide (b.Page = zpage) && decide (b.Off = 0 ∧ b.Bytes = [] ∧ b.Prev = 0) && b.Heads.all headOk
  else false
def IsByte (x : Int) : Prop := 0 ≤ x ∧ x ≤ 255
/-- of a block's type -/
structure IsBlk (b : Blk) : Prop where
  page : b.Page.length = 32 ∧ ∀ x ∈ b.Page, IsByte x
  bytes : ∀ x ∈ b.Bytes, IsByte x
  heads : b.Heads.length = 8
def two (n : Int) : List Int := [IntKind.u8.wrap n, IntKind.u8.wrap (n.fdiv 256)]
def four (n : Int) : List Int := [IntKind.u8.wrap n, IntKind.u8.wrap (n.fdiv 256), IntKind.u8.wrap (n.fdiv 65536), IntKind.u8.wrap (n.fdiv 16777216)]
def bbody (b : Blk) : List Int :=
  if b.Kind = 1 then b.Page
  else if b.Kind = 2 then [IntKind.u8.wrap b.Off, IntKind.u8.wrap (b.Bytes.length : Int)] ++ (b.Bytes ++ (List.replicate (16 - b.Bytes.length) 0 ++ two b.Prev))
  else if b.Kind = 3 then b.Heads.flatMap two
  else []
def bhead (b : Blk) (seq : Int) : List Int := IntKind.u8.wrap b.Kind :: IntKind.u8.wrap b.Id :: four seq
def bsector (b : Blk) (seq : Int) : List Int := bhead b seq ++ (bbody b ++ List.replicate (58 - (bbody b).length) 0)
def val4 (a b c d : Int) : Int := a + 256 * b + 65536 * c + 16777216 * d
def bseq (x : List Int) : Int := val4 (x.getD 2 0) (x.getD 3 0) (x.getD 4 0) (x.getD 5 0)
def blkOf (x : List Int) : Blk :=
  if x.getD 0 0 = 1 then .mk (x.getD 0 0) (x.getD 1 0) ((x.drop 6).take 32) 0 [] 0 zheads
  else if x.getD 0 0 = 2 then .mk (x.getD 0 0) (x.getD 1 0) zpage (x.getD 6 0) ((x.drop 8).take (min 16 (x.getD 7 0).toNat)) (x.getD 24 0 + 256 * x.getD 25 0) zheads
  else if x.getD 0 0 = 3 then .mk (x.getD 0 0) (x.getD 1 0) zpage 0 [] 0 ((List.range 8).map fun i => x.getD (6 + 2 * i) 0 + 256 * x.getD (7 + 2 * i) 0)
  else .mk (x.getD 0 0) (x.getD 1 0) zpage 0 [] 0 zheads
structure IsSec (x : List Int) : Prop where
  len : x.length = 64
  byte : ∀ y ∈ x, IsByte y
theorem IsSec.get {x : List Int} (h : IsSec x) (i : Nat) : 0 ≤ x.getD i 0 ∧ x.getD i 0 ≤ 255 := by
  rw [List.getD_eq_getElem?_getD]
  cases e : x[i]? with
  | none => simp
  | some y => exact h.byte y (List.mem_of_getElem? e)
theorem w8_in {x : Int} (h : 0 ≤ x ∧ x ≤ 255) : IntKind.u8.wrap x = x := by rw [w8_eq]; omega
theorem w8_byte (x : Int) : IsByte (IntKind.u8.wrap x) := by rw [w8_eq]; unfold IsByte; omega
theorem fdiv256 (n : Int) : n.fdiv 256 = n / 256 := Int.fdiv_eq_ediv_of_nonneg _ (by decide)
theorem fdiv65536 (n : Int) : n.fdiv 65536 = n / 65536 := Int.fdiv_eq_ediv_of_nonneg _ (by decide)
theorem fdiv16777216 (n : Int) : n.fdiv 16777216 = n / 16777216 := Int.fdiv_eq_ediv_of_nonneg _ (by decide)
theorem two_val {n : Int} (h : 0 ≤ n ∧ n ≤ 65535) : IntKind.u8.wrap n + 256 * IntKind.u8.wrap (n.fdiv 256) = n := by
  rw [w8_eq, w8_eq, fdiv256]; omega
theorem four_val {n : Int} (h : 0 ≤ n ∧ n < 4294967296) : val4 (IntKind.u8.wrap n) (IntKind.u8.wrap (n.fdiv 256)) (IntKind.u8.wrap (n.fdiv 65536)) (IntKind.u8.wrap (n.fdiv 16777216)) = n := by
  unfold val4
  rw [w8_eq, w8_eq, w8_eq, w8_eq, fdiv256, fdiv65536, fdiv16777216]; omega
theorem headOk_in {n : Int} (h : headOk n = true) : 0 ≤ n ∧ n ≤ 1023 := by
  unfold headOk at h
  simp only [Bool.or_eq_true, Bool.and_eq_true, decide_eq_true_eq] at h
  omega
theorem list8 {l : List Int} (h : l.length = 8) : ∃ a b c d e f g i, l = [a, b, c, d, e, f, g, i] := by
  match l, h with
  | [a, b, c, d, e, f, g, i], _ => exact ⟨a, b, c, d, e, f, g, i, rfl⟩
theorem getD_behind {a : List Int} {n : Nat} (h : a.length = n) (b : List Int) (j : Nat) : (a ++ b).getD (n + j) 0 = b.getD j 0 := by
  subst h
  rw [List.getD_eq_getElem?_getD, List.getElem?_append_right (by omega), show a.length + j - a.length = j by omega, ← List.getD_eq_getElem?_getD]
/-- what a block that may be is, kind by kind -/
theorem blkOk_kinds {b : Blk} (h : blkOk b = true) :
    (b.Kind = 1 ∧ (0 ≤ b.Id ∧ b.Id < 64) ∧ b.Heads = zheads ∧ b.Off = 0 ∧ b.Bytes = [] ∧ b.Prev = 0) ∨
    (b.Kind = 2 ∧ (0 ≤ b.Id ∧ b.Id < 64) ∧ b.Heads = zheads ∧ b.Page = zpage ∧ 0 ≤ b.Off ∧ 1 ≤ b.Bytes.length ∧ b.Bytes.length ≤ 16 ∧ b.Off ≤ 32 - (b.Bytes.length : Int) ∧ b.Prev ≠ 0 ∧ headOk b.Prev = true) ∨
    (b.Kind = 3 ∧ (0 ≤ b.Id ∧ b.Id < 8) ∧ b.Page = zpage ∧ b.Off = 0 ∧ b.Bytes = [] ∧ b.Prev = 0 ∧ ∀ n ∈ b.Heads, headOk n = true) := by
  unfold blkOk at h
  split at h
  · simp only [Bool.and_eq_true, decide_eq_true_eq] at h
    exact .inl ⟨‹_›, h.1.1, h.1.2, h.2.1, h.2.2.1, h.2.2.2⟩
  split at h
  · simp only [Bool.and_eq_true, decide_eq_true_eq] at h
    obtain ⟨⟨⟨⟨h1, h2⟩, h3⟩, h4, h5, h6, h7, h8⟩, h9⟩ := h
    exact .inr (.inl ⟨‹_›, h1, h2, h3, h4, h5, h6, h7, h8, h9⟩)
  split at h
  · simp only [Bool.and_eq_true, decide_eq_true_eq, List.all_eq_true] at h
    obtain ⟨⟨⟨h1, h2⟩, h3⟩, h4⟩ := h
    exact .inr (.inr ⟨‹_›, h1, h2, h3.1, h3.2.1, h3.2.2, h4⟩)
  · cases h
theorem bbody_length {b : Blk} (w : IsBlk b) (h : blkOk b = true) : (bbody b).length = if b.Kind = 1 then 32 else if b.Kind = 2 then 20 else 16 := by
  rcases blkOk_kinds h with ⟨k, _⟩ | ⟨k, _, _, _, _, h1, h2, _⟩ | ⟨k, _⟩
  · simp [bbody, k, w.page.1]
  · simp [bbody, k, two]; omega
  · obtain ⟨a, c, d, e, f, g, i, j, e⟩ := list8 w.heads
    simp [bbody, k, e, two]
theorem bhead_length (b : Blk) (seq : Int) : (bhead b seq).length = 6 := rfl
theorem bsector_length {b : Blk} (w : IsBlk b) (h : blkOk b = true) (seq : Int) : (bsector b seq).length = 64 := by
  have := bbody_length w h
  unfold bsector
  rw [List.length_append, List.length_append, bhead_length, List.length_replicate]
  split at this
  · omega
  split at this <;> omega
theorem bbody_byte {b : Blk} (w : IsBlk b) : ∀ x ∈ bbody b, IsByte x := by
  intro x hx
  unfold bbody at hx
  split at hx
  · exact w.page.2 x hx
  split at hx
  · simp only [List.mem_append, List.mem_cons, two, List.not_mem_nil, or_false] at hx
    rcases hx with (rfl | rfl) | hx | hx | rfl | rfl
    · exact w8_byte _
    · exact w8_byte _
    · exact w.bytes x hx
    · rw [List.eq_of_mem_replicate hx]; unfold IsByte; omega
    · exact w8_byte _
    · exact w8_byte _
  split at hx
  · simp only [List.mem_flatMap, two, List.mem_cons, List.not_mem_nil, or_false] at hx
    obtain ⟨m, _, rfl | rfl⟩ := hx <;> exact w8_byte _
  · cases hx
theorem bsector_sec {b : Blk} (w : IsBlk b) (h : blkOk b = true) (seq : Int) : IsSec (bsector b seq) := by
  refine ⟨bsector_length w h seq, fun x hx => ?_⟩
  unfold bsector bhead four at hx
  simp only [List.mem_append, List.mem_cons, List.not_mem_nil, or_false] at hx
  rcases hx with (rfl | rfl | rfl | rfl | rfl | rfl) | hx | hx
  iterate 6 exact w8_byte _
  · exact bbody_byte w x hx
  · rw [List.eq_of_mem_replicate hx]; unfold IsByte; omega
/-- a place behind the head -/
theorem bsector_at (b : Blk) (seq : Int) (i : Nat) : (bsector b seq).getD (6 + i) 0 = (bbody b).getD i 0 := by
  unfold bsector
  rw [List.getD_eq_getElem?_getD, List.getElem?_append_right (by rw [bhead_length]; omega), bhead_length, show 6 + i - 6 = i by omega]
  by_cases h : i < (bbody b).length
  · rw [List.getElem?_append_left h, ← List.getD_eq_getElem?_getD]
  · rw [List.getElem?_append_right (by omega), List.getElem?_replicate, List.getD_eq_getElem?_getD, List.getElem?_eq_none (by omega)]
    split <;> rfl
theorem bsector_drop (b : Blk) (seq : Int) : (bsector b seq).drop 6 = bbody b ++ List.replicate (58 - (bbody b).length) 0 := by
  unfold bsector
  rw [List.drop_append, bhead_length]
  simp [bhead_length]
theorem bsector_seq {b : Blk} {seq : Int} (hs : 0 ≤ seq ∧ seq < 4294967296) : bseq (bsector b seq) = seq := four_val hs
/-- a sector of a block is read as it -/
theorem blkOf_bsector {b : Blk} (w : IsBlk b) (h : blkOk b = true) (seq : Int) : blkOf (bsector b seq) = b := by
  have h0 : (bsector b seq).getD 0 0 = IntKind.u8.wrap b.Kind := rfl
  have h1 : (bsector b seq).getD 1 0 = IntKind.u8.wrap b.Id := rfl
  have at_ := bsector_at b seq
  have dr := bsector_drop b seq
  have bl := bbody_length w h
  generalize bsector b seq = x at h0 h1 at_ dr
  obtain ⟨kind, id, page, off, bytes, prev, heads⟩ := b
  rcases blkOk_kinds h with ⟨k, i, hh, ho, hb, hp⟩ | ⟨k, i, hh, hpg, ho, hl1, hl2, ho2, hp, hph⟩ | ⟨k, i, hpg, ho, hb, hp, hall⟩
  · simp only at k i hh ho hb hp
    subst k hh ho hb hp
    have e0 : x.getD 0 0 = 1 := h0
    have e1 : x.getD 1 0 = id := by rw [h1]; exact w8_in (by simp only; omega)
    unfold blkOf
    rw [if_pos e0, e0, e1, dr]
    have : (bbody (.mk 1 id page 0 [] 0 zheads)) = page := rfl
    rw [this]
    have hl : page.length = 32 := w.page.1
    rw [← hl, List.take_left]
  · simp only at k i hh ho hp hpg hl1 hl2 ho2 hph
    subst k hh hpg
    have hpi := headOk_in hph
    have e0 : x.getD 0 0 = 2 := h0
    have e1 : x.getD 1 0 = id := by rw [h1]; exact w8_in (by simp only; omega)
    have e6 : x.getD 6 0 = off := by rw [at_ 0]; exact w8_in (by simp only; omega)
    have e7 : x.getD 7 0 = bytes.length := by rw [at_ 1]; exact w8_in (by simp only; omega)
    have body : bbody (.mk 2 id zpage off bytes prev zheads) = [IntKind.u8.wrap off, IntKind.u8.wrap (bytes.length : Int)] ++ (bytes ++ (List.replicate (16 - bytes.length) 0 ++ two prev)) := rfl
    have d8 : x.drop 8 = bytes ++ ((List.replicate (16 - bytes.length) 0 ++ two prev) ++ List.replicate (58 - (bbody (.mk 2 id zpage off bytes prev zheads)).length) 0) := by
      rw [show x.drop 8 = (x.drop 6).drop 2 by rw [List.drop_drop], dr, body]
      simp
    have ee : ∀ j, x.getD (24 + j) 0 = (two prev).getD j 0 := by
      intro j
      rw [show 24 + j = 6 + (2 + (bytes.length + ((16 - bytes.length) + j))) by omega, at_, body, getD_behind (n := 2) rfl, getD_behind (n := bytes.length) rfl, getD_behind (n := 16 - bytes.length) (by simp)]
    have e24 : x.getD 24 0 = IntKind.u8.wrap prev := ee 0
    have e25 : x.getD 25 0 = IntKind.u8.wrap (prev.fdiv 256) := ee 1
    unfold blkOf
    rw [if_neg (by rw [e0]; decide), if_pos e0, e0, e1, e6, e7, e24, e25, two_val (by omega), d8]
    have : min 16 (bytes.length : Int).toNat = bytes.length := by omega
    rw [this, List.take_left]
  · simp only at k i ho hb hp hpg hall
    subst k hpg ho hb hp
    have e0 : x.getD 0 0 = 3 := h0
    have e1 : x.getD 1 0 = id := by rw [h1]; exact w8_in (by simp only; omega)
    unfold blkOf
    rw [if_neg (by rw [e0]; decide), if_neg (by rw [e0]; decide), if_pos e0, e0, e1]
    have hl : heads.length = 8 := w.heads
    obtain ⟨a, b, c, d, e, f, g, j, rfl⟩ := list8 hl
    have key : (List.range 8).map (fun i => x.getD (6 + 2 * i) 0 + 256 * x.getD (7 + 2 * i) 0) = [a, b, c, d, e, f, g, j] := by
      simp only [List.mem_cons, List.not_mem_nil, or_false, forall_eq_or_imp, forall_eq] at hall
      obtain ⟨p1, p2, p3, p4, p5, p6, p7, p8⟩ := hall
      have hv : ∀ {n : Int}, headOk n = true → IntKind.u8.wrap n + 256 * IntKind.u8.wrap (n.fdiv 256) = n := fun h => two_val (by have := headOk_in h; omega)
      rw [← hv p1, ← hv p2, ← hv p3, ← hv p4, ← hv p5, ← hv p6, ← hv p7, ← hv p8]
      simp only [List.range, List.range.loop, List.map_cons, List.map_nil]
      rw [show 7 + 2 * 0 = 6 + 1 from rfl, show 7 + 2 * 1 = 6 + 3 from rfl, show 7 + 2 * 2 = 6 + 5 from rfl, show 7 + 2 * 3 = 6 + 7 from rfl, show 7 + 2 * 4 = 6 + 9 from rfl, show 7 + 2 * 5 = 6 + 11 from rfl, show 7 + 2 * 6 = 6 + 13 from rfl, show 7 + 2 * 7 = 6 + 15 from rfl]
      simp only [at_]
      simp only [hv p1, hv p2, hv p3, hv p4, hv p5, hv p6, hv p7, hv p8]
      rw [show bbody (.mk 3 id zpage 0 [] 0 [a, b, c, d, e, f, g, j]) = [a, b, c, d, e, f, g, j].flatMap two from rfl]
      simp only [List.flatMap_cons, two]
      simp [hv p1, hv p2, hv p3, hv p4, hv p5, hv p6, hv p7, hv p8]
    rw [key]
/-- what a sector reads as -/
def secOk (x : List Int) : Bool := blkOk (blkOf x) && decide (bsector (blkOf x) (bseq x) = x)
theorem secOk_bsector {b : Blk} {seq : Int} (w : IsBlk b) (h : blkOk b = true) (hs : 0 ≤ seq ∧ seq < 4294967296) : secOk (bsector b seq) = true := by
  unfold secOk
  rw [blkOf_bsector w h, bsector_seq hs, h]
  simp
theorem bsector_inj {b c : Blk} {m n : Int} (w : IsBlk b) (h : blkOk b = true) (hm : 0 ≤ m ∧ m < 4294967296) (w' : IsBlk c) (h' : blkOk c = true) (hn : 0 ≤ n ∧ n < 4294967296) : bsector b m = bsector c n ↔ b = c ∧ m = n := by
  constructor
  · intro e
    have e1 := blkOf_bsector w h m
    have e2 := bsector_seq (b := b) hm
    rw [e, blkOf_bsector w' h'] at e1
    rw [e, bsector_seq hn] at e2
    exact ⟨e1.symm, e2.symm⟩
  · rintro ⟨rfl, rfl⟩; rfl
theorem IsSec.mem_drop {x : List Int} (h : IsSec x) {n : Nat} : ∀ y ∈ x.drop n, IsByte y := fun y hy => h.byte y (List.mem_of_mem_drop hy)
theorem blkOf_is {x : List Int} (h : IsSec x) : IsBlk (blkOf x) := by
  have hz : zpage.length = 32 ∧ ∀ y ∈ zpage, IsByte y := ⟨by simp [zpage], fun y hy => by rw [List.eq_of_mem_replicate hy]; unfold IsByte; omega⟩
  have hn : ∀ y ∈ ([] : List Int), IsByte y := fun y hy => by cases hy
  have hh : zheads.length = 8 := by simp [zheads]
  unfold blkOf
  split
  · exact ⟨⟨by simp [h.len], fun y hy => h.mem_drop y (List.mem_of_mem_take hy)⟩, hn, hh⟩
  split
  · exact ⟨hz, fun y hy => h.mem_drop y (List.mem_of_mem_take hy), hh⟩
  split
  · exact ⟨hz, hn, by simp⟩
  · exact ⟨hz, hn, hh⟩
theorem val4_in {a b c d : Int} (ha : 0 ≤ a ∧ a ≤ 255) (hb : 0 ≤ b ∧ b ≤ 255) (hc : 0 ≤ c ∧ c ≤ 255) (hd : 0 ≤ d ∧ d ≤ 255) : 0 ≤ val4 a b c d ∧ val4 a b c d < 4294967296 := by unfold val4; omega
theorem bseq_in {x : List Int} (h : IsSec x) : 0 ≤ bseq x ∧ bseq x < 4294967296 := val4_in (h.get 2) (h.get 3) (h.get 4) (h.get 5)
/-! ### blocks: what the functions come to -/
theorem beq_ne {a b : Int} (h : ¬ a = b) : (a == b) = false := beq_eq_false_iff_ne.2 h
theorem head_eq (k : Nat) (n : Int) : F76 k (n, ()) = some (headOk n) := by
  unfold F76 headOk
  simp only
  by_cases h0 : n = 0
  · simp [h0]
  by_cases h1 : n = 1
  · simp [h1]
  by_cases h4 : 4 ≤ n
  · simp [h0, h1, h4, beq_ne h0, beq_ne h1]
  · simp [h0, h1, h4, beq_ne h0, beq_ne h1]
def plainB (b : Blk) : Bool :=
  bif b.Kind == 1 then decide (b.Heads = zheads) && (b.Off == 0 && ((b.Bytes.length : Int) == 0 && b.Prev == 0))
  else bif b.Kind == 2 then decide (b.Heads = zheads) && decide (b.Page = zpage)
  else decide (b.Page = zpage) && (b.Off == 0 && ((b.Bytes.length : Int) == 0 && b.Prev == 0))
theorem plain_eq (k : Nat) (b : Blk) : F75 k (b, ()) = some (plainB b) := by
  unfold F75 plainB zheads zpage
  simp only
  generalize (b.Off == 0) = A
  generalize ((b.Bytes.length : Int) == 0) = B
  generalize (b.Kind == 1) = C
  generalize (b.Kind == 2) = D
  generalize decide (b.Heads = List.replicate 8 0) = H
  generalize decide (b.Page = List.replicate 32 0) = G
  generalize (b.Prev == 0) = Q
  cases A <;> cases B <;> cases C <;> cases D <;> cases H <;> cases G <;> cases Q <;> rfl
theorem bad_loop {k n : Nat} {l : List Int} (hl : l.length ≤ 100) (hn : l.length < n) :
    ∃ o, L95_2 k n (l, l.length, 0) = some o ∧ (match o with | .inl i => 0 ≤ i ∧ l.all headOk = false | .inr _ => l.all headOk = true) := by
  unfold L95_2
  have := iter_post (R := R95_2 k) (fun x : List Int × Int × Int => x.1.length ≤ 100 ∧ x.2.1 = x.1.length ∧ 0 ≤ x.2.2 ∧ x.2.2 ≤ x.1.length)
    (fun x => x.1.length - x.2.2.toNat) (fun x (o : Int ⊕ Unit) => match o with | .inl i => 0 ≤ i ∧ (x.1.drop x.2.2.toNat).all headOk = false | .inr _ => (x.1.drop x.2.2.toNat).all headOk = true) (fun x h => by
      obtain ⟨l, len, i⟩ := x
      obtain ⟨h0, h1, h2, h3⟩ := h
      simp only at h0 h1 h2 h3
      subst h1
      by_cases hi : i < l.length
      · have hnat : i.toNat < l.length := by omega
        have e1 : IntKind.i64.wrap (i + 1) = i + 1 := wI_in (by omega)
        have e3 : (i + 1).toNat = i.toNat + 1 := by omega
        have hd := drop_cons (0 : Int) hnat
        have hR : ∀ again, R95_2 k again (l, (l.length : Int), i) = if headOk (l.getD i.toNat 0) = true then again (l, (l.length : Int), i + 1) else some (.inl i) := by
          intro again
          unfold R95_2 F78
          simp only [hi, decide_true, cond_true, inRange_true ⟨h2, hi⟩, head_eq, Option.bind_some, e1]
          cases headOk (l.getD i.toNat 0) <;> rfl
        by_cases hb : headOk (l.getD i.toNat 0) = true
        · right
          refine ⟨(l, l.length, i + 1), fun again => by rw [hR, if_pos hb], ⟨h0, rfl, by simp only; omega, by simp only; omega⟩, by simp only; omega, fun o ho => ?_⟩
          simp only [e3, hd, List.all_cons, hb, Bool.true_and] at ho ⊢
          exact ho
        · left
          refine ⟨.inl i, fun again => by rw [hR, if_neg hb], h2, ?_⟩
          simp only [hd, List.all_cons]
          simp only [Bool.not_eq_true] at hb
          rw [hb]; rfl
      · left
        refine ⟨.inr (), fun again => ?_, ?_⟩
        · unfold R95_2
          simp only [hi, decide_false, cond_false]
        · simp only
          rw [List.drop_eq_nil_of_le (by omega)]
          rfl) n (l, (l.length : Int), 0) ⟨hl, rfl, by simp, by simp⟩ (by simpa using hn)
  simpa using this
theorem bad_eq {k : Nat} {l : List Int} (hl : l.length ≤ 100) (hk : l.length < k) : F77 k (l, (), ()) = some (!(l.all headOk)) := by
  unfold F77 F95
  simp only
  obtain ⟨o, h1, h2⟩ := bad_loop (k := k) hl hk
  rw [h1]
  simp only [Option.bind_some]
  cases o with
  | inl i =>
    simp only at h2
    simp only [sumK, Option.bind_some, h2.2]
    simp [h2.1]
  | inr u =>
    simp only at h2
    simp only [sumK, Option.bind_some, h2]
    rfl
theorem nilB {l : List Int} : ((l.length : Int) == 0) = decide (l = []) := by
  cases l with
  | nil => rfl
  | cons a r => simp; omega
theorem good_eq {k : Nat} {b : Blk} (w : IsBlk b) (hk : 8 < k) : F47 k (b, ()) = some (blkOk b) := by
  obtain ⟨kind, id, page, off, bytes, prev, heads⟩ := b
  have hh : heads.length = 8 := w.heads
  unfold F47
  simp only [plain_eq, head_eq, Option.bind_some]
  have e8 : List.take ((((8 : Nat) : Int) - (0 : Int)).toNat) (List.drop (Int.toNat (0 : Int)) heads) = heads := by
    have : ((((8 : Nat) : Int) - (0 : Int)).toNat) = heads.length := by rw [hh]; rfl
    rw [this]; simp
  rw [e8, bad_eq (by omega) (by omega)]
  simp only [Option.bind_some, Bool.not_not]
  unfold blkOk plainB
  simp only [nilB]
  by_cases i0 : id < 0
  · have e : ¬ 0 ≤ id := by omega
    simp [i0, e]
  have i0' : 0 ≤ id := by omega
  by_cases k1 : kind = 1
  · subst k1
    simp only [i0, decide_false, cond_false]
    by_cases h4 : prev = 0 <;> by_cases h2 : off = 0 <;> by_cases h1 : heads = zheads <;> by_cases h3 : bytes = [] <;> simp [h1, h3, i0', beq_ne, h2, h4]
  by_cases k2 : kind = 2
  · subst k2
    simp only [i0, decide_false, cond_false]
    by_cases h1 : heads = zheads
    · by_cases h2 : page = zpage
      · by_cases o0 : off < 0
        · have e : ¬ 0 ≤ off := by omega
          simp [h1, h2, o0, e]
        have o0' : 0 ≤ off := by omega
        by_cases l1 : (bytes.length : Int) < 1
        · have e : ¬ 1 ≤ bytes.length := by omega
          simp [h1, h2, o0, l1, e]
        have l1' : 1 ≤ bytes.length := by omega
        by_cases l16 : (bytes.length : Int) > 16
        · have e : ¬ bytes.length ≤ 16 := by omega
          have l16' : 16 < (bytes.length : Int) := l16
          simp [h1, h2, o0, l1, l16, e]
        have l16' : bytes.length ≤ 16 := by omega
        have w32 : IntKind.i64.wrap (32 - (bytes.length : Int)) = 32 - bytes.length := wI_in (by omega)
        simp only [h1, h2, o0, l1, l16, w32]
        by_cases o32 : off > 32 - (bytes.length : Int)
        · have e : ¬ off ≤ 32 - (bytes.length : Int) := by omega
          simp [o32, e]
        have o32' : off ≤ 32 - (bytes.length : Int) := by omega
        by_cases p0 : prev = 0
        · simp [p0, o32]
        cases hp : headOk prev <;> simp [p0, o32, o0', l1', l16', o32', i0', beq_ne p0]
      · simp [h1, h2]
    · simp [h1]
  by_cases k3 : kind = 3
  · subst k3
    simp only [i0, decide_false, cond_false]
    by_cases h1 : page = zpage <;> by_cases h2 : off = 0 <;> by_cases h3 : bytes = [] <;> by_cases h4 : prev = 0 <;> by_cases h5 : id < 8 <;> simp [h1, h3, h5, i0', beq_ne, h2, h4]
  · have b1 : (kind == 1) = false := beq_eq_false_iff_ne.2 k1
    have b2 : (kind == 2) = false := beq_eq_false_iff_ne.2 k2
    have b3 : (kind == 3) = false := beq_eq_false_iff_ne.2 k3
    simp only [i0, b1, b2, b3, k1, k2, k3, decide_false, cond_false, if_false]
    generalize (decide (page = zpage) && (off == 0 && (decide (bytes = []) && prev == 0))) = X
    cases X <;> rfl
theorem roomMost_ge {n : Nat} (h : n ≤ 1000000) : decide (n ≤ roomMost) = true := decide_eq_true (show n ≤ 4294967296 by omega)
/-! ### geometries -/
abbrev Geo := T64
def gOk (g : Geo) : Bool := decide (g.1 ≥ 1) && (decide (g.1 ≤ 64) && (decide (g.2 ≥ 6) && (decide (g.2 ≤ 16) && (decide (g.3 ≥ 24) && (decide (g.3 ≤ 32) && (decide (g.4 ≥ 2) && decide (g.4 ≤ 16)))))))
theorem condF (a b : Bool) : (bif a then some b else some false) = some (a && b) := by cases a <;> rfl
theorem pgood_eq (k : Nat) (g : Geo) : F82 k (g, ()) = some (gOk g) := by
  unfold F82 gOk; simp only [condF]
theorem rgood3_eq (k : Nat) (g : Geo) : F69 k (g, ()) = some (gOk g) := by
  unfold F69 gOk; simp only [condF]
theorem gOk_spec {g : Geo} (h : gOk g = true) : 1 ≤ g.1 ∧ g.1 ≤ 64 ∧ 6 ≤ g.2 ∧ g.2 ≤ 16 ∧ 24 ≤ g.3 ∧ g.3 ≤ 32 ∧ 2 ≤ g.4 ∧ g.4 ≤ 16 := by
  unfold gOk at h; simpa only [Bool.and_eq_true, decide_eq_true_eq, ge_iff_le] using h
theorem area {g : Geo} (h : gOk g = true) : 0 ≤ g.2 * g.3 ∧ g.2 * g.3 ≤ 512 := by
  have := gOk_spec h
  refine ⟨Int.mul_nonneg (by omega) (by omega), ?_⟩
  have := Int.mul_le_mul (a := g.2) (b := g.3) (c := 16) (d := 32) (by omega) (by omega) (by omega) (by omega)
  omega
theorem maps_eq (k : Nat) {g : Geo} (hg : gOk g = true) : F83 k (g, ()) = some ((g.1 + 7) / 8) := by
  have hs := gOk_spec hg
  obtain ⟨g1, g2, g3, g4⟩ := g
  simp only at hs
  unfold F83
  simp only [pgood_eq, hg, Option.bind_some, Bool.not_true, cond_false]
  have w1 : IntKind.i64.wrap (g1 - 1) = g1 - 1 := wI_in (by omega)
  rw [w1, Int.tdiv_eq_ediv_of_nonneg (by omega), wI_in (x := (g1 - 1) / 8) (by omega), wI_in (by omega)]
  congr 1; omega
theorem rof_eq (k : Nat) {g : Geo} (hg : gOk g = true) : ∃ c, F53 k (g, ()) = some (.mk ((g.1 + 7) / 8) (4 + g.2 * g.3) c) := by
  have hs := gOk_spec hg
  have ha := area hg
  obtain ⟨g1, g2, g3, g4⟩ := g
  simp only at hs ha
  unfold F53
  have w0 : IntKind.i64.wrap (g2 * g3) = g2 * g3 := wI_in (by omega)
  have w2 : IntKind.i64.wrap (4 + g2 * g3) = 4 + g2 * g3 := wI_in (by omega)
  have w1 : IntKind.i64.wrap (g1 + 7) = g1 + 7 := wI_in (by omega)
  have w3 : IntKind.i64.wrap ((g1 + 7).tdiv 8) = (g1 + 7) / 8 := by rw [Int.tdiv_eq_ediv_of_nonneg (by omega), wI_in (by omega)]
  simp only [rgood3_eq, hg, Option.bind_some, Bool.not_true, cond_false, w0, w1, w2, w3]
  exact ⟨_, rfl⟩
/-! ### mapping pages -/
def chunk (l : List Int) (j : Nat) : List Int := (List.range 8).map fun i => l.getD (8 * j + i) 0
def mblk (l : List Int) (j : Nat) : Blk := .mk 3 j zpage 0 [] 0 (chunk l j)
def nmaps (l : List Int) : Nat := (l.length + 7) / 8
def cutP (l : List Int) : List Blk := (List.range (nmaps l)).map (mblk l)
theorem chunk_length (l : List Int) (j : Nat) : (chunk l j).length = 8 := by simp [chunk]
theorem cutP_length (l : List Int) : (cutP l).length = nmaps l := by simp [cutP]
theorem cutP_get {l : List Int} {j : Nat} (h : j < nmaps l) (d : Blk) : (cutP l).getD j d = mblk l j := by
  rw [List.getD_eq_getElem?_getD, List.getElem?_eq_getElem (by rw [cutP_length]; exact h)]
  simp [cutP]
theorem chunk_get {l : List Int} {j i : Nat} (h : i < 8) : (chunk l j).getD i 0 = l.getD (8 * j + i) 0 := by
  rw [List.getD_eq_getElem?_getD, List.getElem?_eq_getElem (by rw [chunk_length]; exact h)]
  simp [chunk]
theorem chunk_splice (l : List Int) (j : Nat) : splice (List.replicate 8 (0 : Int)) (List.drop (8 * j) l) 0 (min (List.drop (8 * j) l).length 8) = chunk l j := by
  apply List.ext_getElem
  · rw [chunk_length]; simp [splice]; omega
  · intro i h1 h2
    rw [chunk_length] at h2
    have : (chunk l j)[i]'(by rw [chunk_length]; exact h2) = l.getD (8 * j + i) 0 := by simp [chunk]
    rw [this]
    unfold splice
    by_cases h : i < l.length - 8 * j
    · have hh : i < (List.take (min (List.drop (8 * j) l).length 8) (List.drop (8 * j) l)).length := by simp; omega
      simp only [List.take_zero, List.nil_append]
      rw [List.getElem_append_left hh]
      simp only [List.getElem_take, List.getElem_drop, List.getD_eq_getElem?_getD]
      rw [List.getElem?_eq_getElem (by omega)]; rfl
    · have hh : (List.take (min (List.drop (8 * j) l).length 8) (List.drop (8 * j) l)).length ≤ i := by simp; omega
      simp only [List.take_zero, List.nil_append]
      rw [List.getElem_append_right hh]
      simp only [List.getElem_drop, List.getElem_replicate]
      rw [List.getD_eq_getElem?_getD, List.getElem?_eq_none (by omega)]; rfl
theorem cut_eq {k : Nat} {l : List Int} (hl : l.length ≤ 100) (hk : 200 < k) : F81 k (l, ()) = some (cutP l) := by
  have := iter_out (R := R81_3 k) (fun x => ∃ j : Nat, j ≤ nmaps l ∧ x = (l, 8 * (j : Int), (List.range j).map (mblk l)))
    (fun x => l.length + 8 - x.2.1.toNat) (fun _ => cutP l) (fun x hx => by
      obtain ⟨j, hj, rfl⟩ := hx
      unfold nmaps at hj
      by_cases hi : 8 * j < l.length
      · right
        have e1 : IntKind.i64.wrap (8 * (j : Int) + 8) = 8 * ((j + 1 : Nat) : Int) := by rw [wI_in (by omega)]; omega
        have e2 : IntKind.i64.wrap ((8 * (j : Int)).tdiv 8) = (j : Int) := by
          rw [Int.tdiv_eq_ediv_of_nonneg (by omega), wI_in (by omega)]; omega
        have e8 : decide (8 * (j : Int) < (l.length : Int)) = true := decide_eq_true (by omega)
        have e9 : decide (0 ≤ 8 * (j : Int)) = true := decide_eq_true (by omega)
        have e10 : decide (8 * (j : Int) ≤ (l.length : Int)) = true := decide_eq_true (by omega)
        have e11 : (8 * (j : Int)).toNat = 8 * j := by omega
        have e12 : List.take (((l.length : Nat) : Int).toNat) l = l := by rw [Int.toNat_natCast, List.take_length]
        have e13 : (((8 : Nat) : Int) - 0).toNat = 8 := rfl
        have e14 : Int.toNat 0 = 0 := rfl
        have c1 : ∀ b : Blk, decide (((List.range j).map (mblk l)).length + ((List.replicate 1 (T89.mk 0 0 (List.replicate 32 0) 0 [] 0 (List.replicate 8 0))).set 0 b).length ≤ roomMost) = true := fun b => roomMost_ge (by simp; omega)
        refine ⟨_, fun again => ?_, ⟨j + 1, by unfold nmaps; omega, rfl⟩, by simp only; omega, rfl⟩
        unfold R81_3
        simp only [e8, e9, e10, Int.le_refl, decide_true, Bool.and_true, cond_true, e11, e12, e13, e14, chunk_splice, e2, c1, e1]
        rw [List.range_succ, List.map_append]
        rfl
      · left
        intro again
        have hj' : j = nmaps l := by unfold nmaps; omega
        have e8 : decide (8 * (j : Int) < (l.length : Int)) = false := decide_eq_false (by omega)
        unfold R81_3
        simp only [e8, cond_false]
        rw [hj']; rfl) (n := k) (x := (l, 0, [])) ⟨0, by omega, rfl⟩ (by show l.length + 8 - (0 : Int).toNat < k; omega)
  unfold F81
  simp only [L81_3, this, Option.bind_some]

theorem headOk0 : headOk 0 = true := rfl
theorem chunks_all {l : List Int} : (∀ j, j < nmaps l → (chunk l j).all headOk = true) ↔ l.all headOk = true := by
  constructor
  · intro h
    rw [List.all_eq_true]
    intro x hx
    obtain ⟨i, hi, rfl⟩ := List.getElem_of_mem hx
    have := h (i / 8) (by unfold nmaps; omega)
    rw [List.all_eq_true] at this
    apply this
    unfold chunk
    rw [List.mem_map]
    refine ⟨i % 8, List.mem_range.2 (by omega), ?_⟩
    rw [show 8 * (i / 8) + i % 8 = i by omega, List.getD_eq_getElem?_getD, List.getElem?_eq_getElem hi]; rfl
  · intro h j _
    rw [List.all_eq_true] at h ⊢
    intro x hx
    unfold chunk at hx
    rw [List.mem_map] at hx
    obtain ⟨i, _, rfl⟩ := hx
    rw [List.getD_eq_getElem?_getD]
    cases e : l[8 * j + i]? with
    | none => rfl
    | some y => exact h y (List.mem_of_getElem? e)
theorem mblk_is (l : List Int) (j : Nat) : IsBlk (mblk l j) := by
  refine ⟨⟨rfl, fun x hx => ?_⟩, (fun x hx => nomatch hx), chunk_length l j⟩
  have := (List.mem_replicate.1 hx).2
  rw [this]; exact ⟨by decide, by decide⟩
theorem mblk_ok {l : List Int} {j : Nat} (hj : j < 8) : blkOk (mblk l j) = (chunk l j).all headOk := by
  have h1 : ((3 : Int) = 1) = False := by simp
  have h2 : ((3 : Int) = 2) = False := by simp
  have h3 : (0 ≤ (j : Int) ∧ (j : Int) < 8) = True := by simp; omega
  unfold blkOk mblk
  simp only [h1, h2, if_false, if_true, h3]
  rfl
def cutOk (g : Geo) (l : List Int) : Bool := gOk g && (decide ((l.length : Int) = g.1) && l.all headOk)
theorem bad_cut {k n : Nat} {l : List Int} (hl : l.length ≤ 64) (hk : 100 < k) (hn : 8 < n) :
    ∃ o, L80_4 k n (cutP l, (nmaps l : Int), 0) = some o ∧ ((l.all headOk = true ∧ o = .inr ()) ∨ (l.all headOk = false ∧ ∃ e, o = .inl e ∧ e.isNil = false ∧ e.first = some 1)) := by
  have hnm : nmaps l ≤ 8 := by unfold nmaps; omega
  have := iter_post (R := R80_4 k) (fun x => ∃ j : Nat, j ≤ nmaps l ∧ x = (cutP l, (nmaps l : Int), (j : Int)) ∧ ∀ i, i < j → (chunk l i).all headOk = true)
    (fun x => nmaps l - x.2.2.toNat) (fun _ o => (l.all headOk = true ∧ o = .inr ()) ∨ (l.all headOk = false ∧ ∃ e, o = .inl e ∧ e.isNil = false ∧ e.first = some 1)) (fun x hx => by
      obtain ⟨j, hj, rfl, hall⟩ := hx
      by_cases hi : j < nmaps l
      · have e1 : IntKind.i64.wrap ((j : Int) + 1) = ((j + 1 : Nat) : Int) := by rw [wI_in (by omega)]; rfl
        have e8 : decide ((j : Int) < (nmaps l : Int)) = true := decide_eq_true (by omega)
        have hg := good_eq (k := k) (mblk_is l j) (by omega)
        rw [mblk_ok (by omega)] at hg
        have hg' : F47 k (T89.mk (mblk l j).1 (mblk l j).2 (mblk l j).3 (mblk l j).4 (mblk l j).5 (mblk l j).6 (mblk l j).7, PUnit.unit) = some ((chunk l j).all headOk) := hg
        cases hr : (chunk l j).all headOk with
        | true =>
          right
          refine ⟨(cutP l, (nmaps l : Int), ((j + 1 : Nat) : Int)), fun again => ?_, ⟨j + 1, by omega, rfl, fun i h => ?_⟩, by simp only; omega, fun o h => h⟩
          · unfold R80_4
            simp only [e8, cond_true, inRange_true (i := (j : Int)) (n := (cutP l).length) ⟨by omega, by rw [cutP_length]; omega⟩, Int.toNat_natCast, cutP_get hi, hg', hr, Option.bind_some, Bool.not_true, cond_false, e1]
          · by_cases hij : i = j
            · subst hij; exact hr
            · exact hall i (by omega)
        | false =>
          left
          have hno : l.all headOk = false := by
            cases hc : l.all headOk with
            | false => rfl
            | true => rw [chunks_all.2 hc j hi] at hr; cases hr
          refine ⟨.inl (.flt (ByteArray.mk (Array.mk ([(109 : UInt8), (97 : UInt8), (112 : UInt8), (112 : UInt8), (105 : UInt8), (110 : UInt8), (103 : UInt8), (32 : UInt8), (112 : UInt8), (97 : UInt8), (103 : UInt8), (101 : UInt8), (32 : UInt8)] ++ [].concat (UInt8.ofNat (IntKind.u8.wrap (IntKind.i64.wrap (48 + (j : Int)))).toNat)))) (.flt (ByteArray.mk (Array.mk [(104 : UInt8), (101 : UInt8), (97 : UInt8), (100 : UInt8)])) (.num 1) false) true), fun again => ?_, .inr ⟨hno, _, rfl, rfl, rfl⟩⟩
          unfold R80_4
          simp only [e8, cond_true, inRange_true (i := (j : Int)) (n := (cutP l).length) ⟨by omega, by rw [cutP_length]; omega⟩, Int.toNat_natCast, cutP_get hi, hg', hr, Option.bind_some, Bool.not_false]
          rfl
      · left
        have hj' : j = nmaps l := by omega
        subst hj'
        refine ⟨.inr (), fun again => ?_, .inl ⟨chunks_all.1 hall, rfl⟩⟩
        unfold R80_4
        simp only [Int.lt_irrefl, decide_false, cond_false]) n (cutP l, (nmaps l : Int), 0) ⟨0, by omega, rfl, fun i h => by omega⟩ (by show nmaps l - 0 < n; omega)
  exact this
theorem mwrong_eq {k : Nat} {g : Geo} {l : List Int} (hk : 200 < k) : ∃ e, F80 k (g, l, ()) = some e ∧ F79 k (e, ()) = some (if cutOk g l = true then 0 else 1) := by
  unfold F80 cutOk
  have e : (T64.mk g.1 g.2 g.3 g.4, PUnit.unit) = (g, ()) := rfl
  simp only [e, pgood_eq, Option.bind_some]
  cases hg : gOk g with
  | false => exact ⟨_, rfl, rfl⟩
  | true =>
    simp only [Bool.not_true, cond_false, Bool.true_and]
    by_cases hp : (l.length : Int) = g.1
    · have hs := gOk_spec hg
      simp only [hp, bne_self_eq_false, cond_false, decide_true, Bool.true_and]
      rw [cut_eq (by omega) hk]
      simp only [Option.bind_some, cutP_length]
      obtain ⟨o, h1, h2⟩ := bad_cut (k := k) (n := k) (l := l) (by omega) (by omega) (by omega)
      rw [h1]
      simp only [Option.bind_some]
      rcases h2 with ⟨h3, rfl⟩ | ⟨h3, e, rfl, h4, h5⟩
      · exact ⟨.nil, rfl, by rw [h3]; rfl⟩
      · refine ⟨e, rfl, ?_⟩
        unfold F79
        simp only [h5, h3]
        rfl
    · have : ((l.length : Int) != g.1) = true := bne_iff_ne.2 hp
      simp only [this, cond_true, hp, decide_false, Bool.false_and]
      exact ⟨_, rfl, rfl⟩
theorem Cut_eq {k : Nat} {g : Geo} {l : List Int} (hl : l.length ≤ 100) (hk : 200 < k) : F50 k (g, l, ()) = some (if cutOk g l = true then (cutP l, 0, ()) else ([], 1, ())) := by
  obtain ⟨e, h1, h2⟩ := mwrong_eq (g := g) (l := l) hk
  have h1' : F80 k (T64.mk g.1 g.2 g.3 g.4, l, PUnit.unit) = some e := h1
  have h2' : F79 k (e, PUnit.unit) = some (if cutOk g l = true then 0 else 1) := h2
  unfold F50
  simp only [h1', h2', Option.bind_some]
  cases cutOk g l with
  | false => rfl
  | true =>
    simp only [if_true, bne_self_eq_false, cond_false]
    rw [cut_eq hl hk]; rfl
theorem chunks_flat (l : List Int) (n : Nat) : (List.range n).flatMap (chunk l) = (List.range (8 * n)).map fun i => l.getD i 0 := by
  induction n with
  | zero => rfl
  | succ n ih =>
    rw [List.range_succ, List.flatMap_append, ih, show 8 * (n + 1) = 8 * n + 8 by omega, List.range_add, List.map_append]
    simp [chunk]
theorem chunks_take (l : List Int) : ((List.range (nmaps l)).flatMap (chunk l)).take l.length = l := by
  rw [chunks_flat]
  apply List.ext_getElem
  · simp only [List.length_take, List.length_map, List.length_range, nmaps]; omega
  · intro i h1 h2
    simp only [List.getElem_take, List.getElem_map, List.getElem_range, List.getD_eq_getElem?_getD, List.getElem?_eq_getElem h2]
    rfl
theorem chunks_len (l : List Int) (n : Nat) : ((List.range n).flatMap (chunk l)).length = 8 * n := by
  rw [chunks_flat]; simp
theorem join_loop {k n : Nat} {l : List Int} {q : List Blk} {a b c d : Int} (hl : nmaps l ≤ 100) (hn : nmaps l < n) :
    L51_7 k n (q, cutP l, (nmaps l : Int), 0, a, b, c, d, []) = some (q, a, b, c, d, (List.range (nmaps l)).flatMap (chunk l)) := by
  have := iter_out (R := R51_7 k) (fun x => ∃ j : Nat, j ≤ nmaps l ∧ x = (q, cutP l, (nmaps l : Int), (j : Int), a, b, c, d, (List.range j).flatMap (chunk l)))
    (fun x => nmaps l - x.2.2.2.1.toNat) (fun _ => (q, a, b, c, d, (List.range (nmaps l)).flatMap (chunk l))) (fun x hx => by
      obtain ⟨j, hj, rfl⟩ := hx
      by_cases hi : j < nmaps l
      · right
        have e1 : IntKind.i64.wrap ((j : Int) + 1) = ((j + 1 : Nat) : Int) := by rw [wI_in (by omega)]; rfl
        have e8 : decide ((j : Int) < (nmaps l : Int)) = true := decide_eq_true (by omega)
        have e9 : List.take ((((8 : Nat) : Int) - 0).toNat) (List.drop (Int.toNat 0) (mblk l j).7) = chunk l j := List.take_of_length_le (by show (chunk l j).length ≤ 8; rw [chunk_length]; omega)
        have c1 : decide (((List.range j).flatMap (chunk l)).length + (chunk l j).length ≤ roomMost) = true := roomMost_ge (by rw [chunks_len, chunk_length]; omega)
        refine ⟨_, fun again => ?_, ⟨j + 1, by omega, rfl⟩, by simp only; omega, rfl⟩
        unfold R51_7
        simp only [e8, cond_true, inRange_true (i := (j : Int)) (n := (cutP l).length) ⟨by omega, by rw [cutP_length]; omega⟩, Int.toNat_natCast, cutP_get hi, e9, c1, e1]
        rw [List.range_succ, List.flatMap_append, List.flatMap_cons, List.flatMap_nil, List.append_nil]
      · left
        intro again
        have hj' : j = nmaps l := by omega
        subst hj'
        unfold R51_7
        simp only [Int.lt_irrefl, decide_false, cond_false]) (n := n) (x := (q, cutP l, (nmaps l : Int), 0, a, b, c, d, [])) ⟨0, by omega, rfl⟩ (by show nmaps l - 0 < n; omega)
  exact this
theorem alike_loop {k n : Nat} {l m : List Int} (hl : nmaps l ≤ 100) (hn : nmaps l < n) :
    L51_16 k n (cutP l, m, cutP l, (nmaps l : Int), 0) = some (.inr m) := by
  have := iter_out (R := R51_16 k) (fun x => ∃ j : Nat, j ≤ nmaps l ∧ x = (cutP l, m, cutP l, (nmaps l : Int), (j : Int)))
    (fun x => nmaps l - x.2.2.2.2.toNat) (fun _ => .inr m) (fun x hx => by
      obtain ⟨j, hj, rfl⟩ := hx
      by_cases hi : j < nmaps l
      · right
        have e1 : IntKind.i64.wrap ((j : Int) + 1) = ((j + 1 : Nat) : Int) := by rw [wI_in (by omega)]; rfl
        have e8 : decide ((j : Int) < (nmaps l : Int)) = true := decide_eq_true (by omega)
        have hal : F84 k (T89.mk (mblk l j).1 (mblk l j).2 (mblk l j).3 (mblk l j).4 (mblk l j).5 (mblk l j).6 (mblk l j).7, T89.mk (mblk l j).1 (mblk l j).2 (mblk l j).3 (mblk l j).4 (mblk l j).5 (mblk l j).6 (mblk l j).7, PUnit.unit) = some true := by
          unfold F84 mblk
          simp
        refine ⟨_, fun again => ?_, ⟨j + 1, by omega, rfl⟩, by simp only; omega, rfl⟩
        unfold R51_16
        simp only [e8, cond_true, inRange_true (i := (j : Int)) (n := (cutP l).length) ⟨by omega, by rw [cutP_length]; omega⟩, Int.toNat_natCast, cutP_get hi, hal, Option.bind_some, Bool.not_true, cond_false, e1]
      · left
        intro again
        have hj' : j = nmaps l := by omega
        subst hj'
        unfold R51_16
        simp only [Int.lt_irrefl, decide_false, cond_false]) (n := n) (x := (cutP l, m, cutP l, (nmaps l : Int), 0)) ⟨0, by omega, rfl⟩ (by show nmaps l - 0 < n; omega)
  exact this
theorem cutOk_spec {g : Geo} {l : List Int} (h : cutOk g l = true) : gOk g = true ∧ (l.length : Int) = g.1 ∧ l.all headOk = true := by
  unfold cutOk at h; simpa only [Bool.and_eq_true, decide_eq_true_eq] using h
theorem nmaps_g {g : Geo} {l : List Int} (h : cutOk g l = true) : (nmaps l : Int) = (g.1 + 7) / 8 := by
  obtain ⟨_, h2, _⟩ := cutOk_spec h
  unfold nmaps; omega
theorem join_eq {k : Nat} {g : Geo} {l : List Int} (h : cutOk g l = true) (hk : 200 < k) : F51 k (g, cutP l, ()) = some (l, 0, ()) := by
  obtain ⟨h1, h2, h3⟩ := cutOk_spec h
  have hs := gOk_spec h1
  have hm := nmaps_g h
  have hnm : nmaps l ≤ 8 := by omega
  have e : (T64.mk g.1 g.2 g.3 g.4, PUnit.unit) = (g, ()) := rfl
  unfold F51
  simp only [e, pgood_eq, h1, Option.bind_some, Bool.not_true, cond_false, maps_eq k h1, cutP_length, hm, bne_self_eq_false]
  have hj := join_loop (k := k) (n := k) (l := l) (q := cutP l) (a := g.1) (b := g.2) (c := g.3) (d := g.4) (by omega) (by omega)
  rw [hm] at hj
  rw [hj]
  simp only [Option.bind_some]
  have d1 : decide (0 ≤ g.1) = true := decide_eq_true (by omega)
  have d2 : decide (g.1 ≤ (((List.range (nmaps l)).flatMap (chunk l)).length : Int)) = true := decide_eq_true (by rw [chunks_len]; omega)
  have d3 : List.drop (Int.toNat 0) (List.take g.1.toNat ((List.range (nmaps l)).flatMap (chunk l))) = l := by
    rw [show g.1.toNat = l.length by omega, chunks_take]; rfl
  have d4 : decide ((0 : Int) ≤ 0) = true := rfl
  simp only [d1, d2, d3, d4, Bool.and_true, cond_true]
  have hc := Cut_eq (g := g) (l := l) (k := k) (by omega) hk
  have hc' : F50 k (T64.mk g.1 g.2 g.3 g.4, l, PUnit.unit) = some (if cutOk g l = true then (cutP l, 0, ()) else ([], 1, ())) := hc
  rw [hc']
  have d0 : ((0 : Int) != 0) = false := rfl
  simp only [h, if_true, Option.bind_some, d0, cond_false, cutP_length]
  rw [alike_loop (by omega) (by omega)]
  rfl
theorem ints_loop {k n : Nat} {l : List Int} (hl : l.length ≤ 1000) (hn : l.length < n) : L52_4 k n (l, l, 0) = some (.inr ()) := by
  have := iter_out (R := R52_4 k) (fun x => ∃ j : Nat, j ≤ l.length ∧ x = (l, l, (j : Int)))
    (fun x => l.length - x.2.2.toNat) (fun _ => .inr ()) (fun x hx => by
      obtain ⟨j, hj, rfl⟩ := hx
      by_cases hi : j < l.length
      · right
        have e1 : IntKind.i64.wrap ((j : Int) + 1) = ((j + 1 : Nat) : Int) := by rw [wI_in (by omega)]; rfl
        have e8 : decide ((j : Int) < (l.length : Int)) = true := decide_eq_true (by omega)
        refine ⟨_, fun again => ?_, ⟨j + 1, by omega, rfl⟩, by simp only; omega, rfl⟩
        unfold R52_4
        simp only [e8, cond_true, inRange_true (i := (j : Int)) (n := l.length) ⟨by omega, by omega⟩, bne_self_eq_false, cond_false, e1]
      · left
        intro again
        have hj' : j = l.length := by omega
        subst hj'
        unfold R52_4
        simp only [Int.lt_irrefl, decide_false, cond_false]) (n := n) (x := (l, l, 0)) ⟨0, by omega, rfl⟩ (by show l.length - 0 < n; omega)
  exact this
theorem ints_eq {k : Nat} {l : List Int} (hl : l.length ≤ 1000) (hk : l.length < k) : F52 k (l, l, ()) = some true := by
  unfold F52
  simp only [bne_self_eq_false, cond_false, ints_loop hl hk, Option.bind_some]
  rfl
set_option maxRecDepth 100000 in
theorem wakes : F48 400 () = some true := by kernel_rfl
theorem wakes_tail : ((F48 400 ()).bind fun r => some r) = some true := by rw [wakes]; rfl
theorem set_get {l : List Int} {p i : Nat} (v : Int) (hp : p < l.length) : (l.set p v).getD i 0 = if p = i then v else l.getD i 0 := by
  rw [List.getD_eq_getElem?_getD, List.getElem?_set, List.getD_eq_getElem?_getD]
  by_cases h : p = i
  · subst h; simp [hp]
  · simp [h]
theorem turn_inner {k n : Nat} {l : List Int} {p i : Nat} (v : Int) (hp : p < l.length) (hi : i < nmaps l) (hl : l.length ≤ 64) (hn : 8 < n) :
    L16_27 k n (((p / 8 : Nat) : Int), ((p % 8 : Nat) : Int), cutP l, cutP (l.set p v), (i : Int), 0) = some (.inr (((p / 8 : Nat) : Int), ((p % 8 : Nat) : Int), cutP l, cutP (l.set p v), (i : Int))) := by
  have hset : nmaps (l.set p v) = nmaps l := by unfold nmaps; rw [List.length_set]
  have hnm : nmaps l ≤ 8 := by unfold nmaps; omega
  have := iter_out (R := R16_27 k) (fun x => ∃ j : Nat, j ≤ 8 ∧ x = (((p / 8 : Nat) : Int), ((p % 8 : Nat) : Int), cutP l, cutP (l.set p v), (i : Int), (j : Int)))
    (fun x => 8 - x.2.2.2.2.2.toNat) (fun _ => .inr (((p / 8 : Nat) : Int), ((p % 8 : Nat) : Int), cutP l, cutP (l.set p v), (i : Int))) (fun x hx => by
      obtain ⟨j, hj, rfl⟩ := hx
      by_cases hj8 : j < 8
      · right
        have e1 : IntKind.i64.wrap ((j : Int) + 1) = ((j + 1 : Nat) : Int) := by rw [wI_in (by omega)]; rfl
        have e8 : decide ((j : Int) < 8) = true := decide_eq_true (by omega)
        have e9 : (mblk l i).7.getD j 0 = l.getD (8 * i + j) 0 := chunk_get hj8
        have e10 : (mblk (l.set p v) i).7.getD j 0 = if p = 8 * i + j then v else l.getD (8 * i + j) 0 := by
          rw [← set_get v hp]; exact chunk_get hj8
        refine ⟨_, fun again => ?_, ⟨j + 1, by omega, rfl⟩, by simp only; omega, rfl⟩
        unfold R16_27
        simp only [e8, cond_true, inRange_true (i := (i : Int)) (n := (cutP l).length) ⟨by omega, by rw [cutP_length]; omega⟩, inRange_true (i := (i : Int)) (n := (cutP (l.set p v)).length) ⟨by omega, by rw [cutP_length, hset]; omega⟩, inRange_true (i := (j : Int)) (n := 8) ⟨by omega, by omega⟩, Int.toNat_natCast, cutP_get hi, cutP_get (hset ▸ hi : i < nmaps (l.set p v)), e9, e10, e1]
        by_cases h1 : (i : Int) = ((p / 8 : Nat) : Int)
        · simp only [h1, bne_self_eq_false, cond_false]
          by_cases h2 : (j : Int) = ((p % 8 : Nat) : Int)
          · simp only [h2, bne_self_eq_false, cond_false]
          · have hne : ¬ p = 8 * i + j := by omega
            simp only [bne_iff_ne.2 h2, cond_true, hne, if_false, bne_self_eq_false, cond_false]
        · have hne : ¬ p = 8 * i + j := by omega
          simp only [bne_iff_ne.2 h1, cond_true, hne, if_false, bne_self_eq_false, cond_false]
      · left
        intro again
        have : j = 8 := by omega
        subst this
        rfl) (n := n) (x := (((p / 8 : Nat) : Int), ((p % 8 : Nat) : Int), cutP l, cutP (l.set p v), (i : Int), 0)) ⟨0, by omega, rfl⟩ (by show 8 - 0 < n; omega)
  exact this
theorem turn_loop {k n : Nat} {l : List Int} {p : Nat} (v : Int) (hp : p < l.length) (hl : l.length ≤ 64) (hk : 8 < k) (hn : 8 < n) :
    L16_24 k n (((p / 8 : Nat) : Int), ((p % 8 : Nat) : Int), cutP l, cutP (l.set p v), 0) = some (.inr (((p / 8 : Nat) : Int), ((p % 8 : Nat) : Int), cutP (l.set p v))) := by
  have hnm : nmaps l ≤ 8 := by unfold nmaps; omega
  have := iter_out (R := R16_24 k) (fun x => ∃ j : Nat, j ≤ nmaps l ∧ x = (((p / 8 : Nat) : Int), ((p % 8 : Nat) : Int), cutP l, cutP (l.set p v), (j : Int)))
    (fun x => nmaps l - x.2.2.2.2.toNat) (fun _ => .inr (((p / 8 : Nat) : Int), ((p % 8 : Nat) : Int), cutP (l.set p v))) (fun x hx => by
      obtain ⟨j, hj, rfl⟩ := hx
      by_cases hi : j < nmaps l
      · right
        have e1 : IntKind.i64.wrap ((j : Int) + 1) = ((j + 1 : Nat) : Int) := by rw [wI_in (by omega)]; rfl
        have e8 : decide ((j : Int) < ((cutP l).length : Int)) = true := decide_eq_true (by rw [cutP_length]; omega)
        refine ⟨_, fun again => ?_, ⟨j + 1, by omega, rfl⟩, by simp only; omega, rfl⟩
        unfold R16_24
        simp only [e8, cond_true]
        rw [turn_inner v hp hi hl hk]
        simp only [Option.bind_some, sumK, e1]
      · left
        intro again
        have e8 : decide ((j : Int) < ((cutP l).length : Int)) = false := decide_eq_false (by rw [cutP_length]; omega)
        unfold R16_24
        simp only [e8, cond_false]) (n := n) (x := (((p / 8 : Nat) : Int), ((p % 8 : Nat) : Int), cutP l, cutP (l.set p v), 0)) ⟨0, by omega, rfl⟩ (by show nmaps l - 0 < n; omega)
  exact this
theorem back_plain (g : Geo) (l : List Int) (p : Int) : ∃ k, F16 k (g, l, p, ()) = some true := by
  refine ⟨400, ?_⟩
  have hk : 200 < 400 := by decide
  unfold F16
  have e : (T64.mk g.1 g.2 g.3 g.4, PUnit.unit) = (g, ()) := rfl
  by_cases h100 : (l.length : Int) > 100
  · simp only [h100, decide_true, cond_true]
    exact wakes_tail
  simp only [h100, decide_false, cond_false]
  unfold F49
  by_cases p0 : p < 0
  · simp only [p0, decide_true, cond_true, Option.bind_some, beq_self_eq_true]
    exact wakes_tail
  by_cases p64 : p ≥ 64
  · simp only [p0, p64, decide_true, decide_false, cond_false, cond_true, Option.bind_some, beq_self_eq_true]
    exact wakes_tail
  obtain ⟨q, rfl⟩ := Int.eq_ofNat_of_zero_le (show 0 ≤ p by omega)
  have w1 : IntKind.i64.wrap ((q : Int).tdiv 8) = ((q / 8 : Nat) : Int) := by rw [Int.tdiv_eq_ediv_of_nonneg (by omega), wI_in (by omega)]; rfl
  have w2 : (q : Int).tmod 8 = ((q % 8 : Nat) : Int) := by rw [Int.tmod_eq_emod_of_nonneg (by omega)]; rfl
  simp only [p0, p64, decide_false, cond_false, Option.bind_some, w1, w2, bne_self_eq_false]
  have hc := Cut_eq (g := g) (l := l) (k := 400) (by omega) hk
  have hu : ∀ (y : Int), (l, PUnit.unit) = (l, ()) := fun _ => rfl
  have hc' : F50 400 (T64.mk g.1 g.2 g.3 g.4, l, PUnit.unit) = some (if cutOk g l = true then (cutP l, 0, ()) else ([], 1, ())) := hc
  simp only [hc', Option.bind_some]
  cases hok : cutOk g l with
  | false =>
    have d1 : ((1 : Int) != 0) = true := rfl
    have d2 : ((([] : List Blk).length : Int) == 0) = true := rfl
    simp only [Bool.false_eq_true, if_false, d1, cond_true, d2, beq_self_eq_true]
    exact wakes_tail
  | true =>
    obtain ⟨h1, h2, h3⟩ := cutOk_spec hok
    have hs := gOk_spec h1
    have hm := nmaps_g hok
    have hj : F51 400 (T64.mk g.1 g.2 g.3 g.4, cutP l, PUnit.unit) = some (l, 0, ()) := join_eq hok hk
    have hi : F52 400 (l, l, PUnit.unit) = some true := ints_eq (by omega) (by omega)
    obtain ⟨cc, hof⟩ := rof_eq 400 h1
    have hof' : F53 400 (T64.mk g.1 g.2 g.3 g.4, PUnit.unit) = some (.mk ((g.1 + 7) / 8) (4 + g.2 * g.3) cc) := hof
    have d0 : ((0 : Int) != 0) = false := rfl
    simp only [if_true, d0, cond_false, hj, Option.bind_some, hi, Bool.not_true, hof', cutP_length, hm, bne_self_eq_false]
    by_cases hp : (q : Int) ≥ g.1
    · simp only [hp, decide_true, cond_true]
      exact wakes_tail
    have hql : q < l.length := by omega
    have hqn : q / 8 < nmaps l := by unfold nmaps; omega
    have f1 : decide (((q / 8 : Nat) : Int) ≥ (g.1 + 7) / 8) = false := decide_eq_false (by omega)
    have e1 : (mblk l (q / 8)).7.getD (q % 8) 0 = l.getD q 0 := by
      have := chunk_get (l := l) (j := q / 8) (i := q % 8) (by omega)
      rw [show 8 * (q / 8) + q % 8 = q by omega] at this
      exact this
    have c1 : decide ((List.replicate 0 (0 : Int)).length + l.length ≤ roomMost) = true := roomMost_ge (by simp; omega)
    have e2 : List.replicate 0 (0 : Int) ++ l = l := rfl
    simp only [hp, decide_false, cond_false, f1, inRange_true (i := ((q % 8 : Nat) : Int)) (n := 8) ⟨by omega, by omega⟩, inRange_true (i := (q : Int)) (n := l.length) ⟨by omega, by omega⟩, cond_true, Int.toNat_natCast, cutP_get hqn, e1, bne_self_eq_false, c1, e2]
    have hok2 : cutOk g (l.set q 1000) = true := by
      unfold cutOk
      rw [h1, List.length_set, decide_eq_true h2]
      simp only [Bool.true_and]
      rw [List.all_eq_true] at h3 ⊢
      intro x hx
      rcases List.mem_or_eq_of_mem_set hx with h | rfl
      · exact h3 x h
      · rfl
    have hc2 : F50 400 (T64.mk g.1 g.2 g.3 g.4, l.set q 1000, PUnit.unit) = some (if cutOk g (l.set q 1000) = true then (cutP (l.set q 1000), 0, ()) else ([], 1, ())) := Cut_eq (by rw [List.length_set]; omega) hk
    have hn2 : nmaps (l.set q 1000) = nmaps l := by unfold nmaps; rw [List.length_set]
    simp only [hc2, hok2, if_true, Option.bind_some, d0, cond_false, cutP_length, hn2, hm, bne_self_eq_false]
    rw [turn_loop 1000 hql (by omega) (by decide) (by decide)]
    have e3 : (mblk (l.set q 1000) (q / 8)).7.getD (q % 8) 0 = 1000 := by
      have := chunk_get (l := l.set q 1000) (j := q / 8) (i := q % 8) (by omega)
      rw [show 8 * (q / 8) + q % 8 = q by omega, set_get 1000 hql, if_pos rfl] at this
      exact this
    simp only [Option.bind_some, sumK, cutP_length, hn2, inRange_true (i := ((q / 8 : Nat) : Int)) (n := nmaps l) ⟨by omega, by omega⟩, inRange_true (i := ((q % 8 : Nat) : Int)) (n := 8) ⟨by omega, by omega⟩, cond_true, Int.toNat_natCast, cutP_get (hn2 ▸ hqn : q / 8 < nmaps (l.set q 1000)), e3, beq_self_eq_true]
    exact wakes_tail
def sameTo (a b : List Int) (i k : Nat) : Bool := (List.range k).all fun m => a.getD (8 * i + m) 0 == b.getD (8 * i + m) 0
theorem sameTo_next (a b : List Int) (i k : Nat) : sameTo a b i (k + 1) = (sameTo a b i k && (a.getD (8 * i + k) 0 == b.getD (8 * i + k) 0)) := by
  unfold sameTo; rw [List.range_succ, List.all_append]; simp
theorem sameTo_chunk (a b : List Int) (i : Nat) : sameTo a b i 8 = decide (chunk a i = chunk b i) := by
  apply Bool.eq_iff_iff.2
  rw [decide_eq_true_eq]
  unfold sameTo chunk
  rw [List.all_eq_true]
  constructor
  · intro h
    apply List.map_congr_left
    intro m hm
    exact beq_iff_eq.1 (h m hm)
  · intro h m hm
    have := List.map_inj_left.1 h m hm
    exact beq_iff_eq.2 this
theorem pages_inner {k n : Nat} {a b : List Int} {g : Geo} {i : Nat} (ha : (a.length : Int) = g.1) (hb : (b.length : Int) = g.1) (hl : a.length ≤ 64) (hi : i < nmaps a) (hn : 8 < n) :
    L17_14 k n (a, b, cutP a, cutP b, (i : Int), true, 0, g.1, g.2, g.3, g.4) = some (.inr (a, b, cutP a, cutP b, (i : Int), sameTo a b i 8, g.1, g.2, g.3, g.4)) := by
  have hnm : nmaps a ≤ 8 := by unfold nmaps; omega
  have := iter_out (R := R17_14 k) (fun x => ∃ j : Nat, j ≤ 8 ∧ x = (a, b, cutP a, cutP b, (i : Int), sameTo a b i j, (j : Int), g.1, g.2, g.3, g.4))
    (fun x => 8 - x.2.2.2.2.2.2.1.toNat) (fun _ => .inr (a, b, cutP a, cutP b, (i : Int), sameTo a b i 8, g.1, g.2, g.3, g.4)) (fun x hx => by
      obtain ⟨j, hj, rfl⟩ := hx
      by_cases hj8 : j < 8
      · right
        have e1 : IntKind.i64.wrap ((j : Int) + 1) = ((j + 1 : Nat) : Int) := by rw [wI_in (by omega)]; rfl
        have e8 : decide ((j : Int) < 8) = true := decide_eq_true (by omega)
        have e2 : IntKind.i64.wrap (IntKind.i64.wrap (8 * (i : Int)) + (j : Int)) = ((8 * i + j : Nat) : Int) := by rw [wI_in (x := 8 * (i : Int)) (by omega), wI_in (by omega)]; omega
        have e9 : (mblk a i).7.getD j 0 = a.getD (8 * i + j) 0 := chunk_get hj8
        refine ⟨_, fun again => ?_, ⟨j + 1, by omega, rfl⟩, by simp only; omega, rfl⟩
        unfold R17_14
        simp only [e8, cond_true, e2, e1]
        by_cases hp : ((8 * i + j : Nat) : Int) < g.1
        · simp only [hp, decide_true, cond_true, inRange_true (i := ((8 * i + j : Nat) : Int)) (n := a.length) ⟨by omega, by omega⟩, inRange_true (i := ((8 * i + j : Nat) : Int)) (n := b.length) ⟨by omega, by omega⟩, Int.toNat_natCast]
          rw [sameTo_next]
          cases sameTo a b i j <;> rfl
        · have z1 : a.getD (8 * i + j) 0 = 0 := by rw [List.getD_eq_getElem?_getD, List.getElem?_eq_none (by omega)]; rfl
          have z2 : b.getD (8 * i + j) 0 = 0 := by rw [List.getD_eq_getElem?_getD, List.getElem?_eq_none (by omega)]; rfl
          simp only [hp, decide_false, cond_false, inRange_true (i := (i : Int)) (n := (cutP a).length) ⟨by omega, by rw [cutP_length]; omega⟩, inRange_true (i := (j : Int)) (n := 8) ⟨by omega, by omega⟩, cond_true, Int.toNat_natCast, cutP_get hi, e9, z1, bne_self_eq_false]
          rw [sameTo_next, z1, z2, beq_self_eq_true, Bool.and_true]
      · left
        intro again
        have : j = 8 := by omega
        subst this
        rfl) (n := n) (x := (a, b, cutP a, cutP b, (i : Int), true, 0, g.1, g.2, g.3, g.4)) ⟨0, by omega, rfl⟩ (by show 8 - 0 < n; omega)
  exact this
theorem block_same {k : Nat} (a b : List Int) (i : Nat) : F54 k (mblk a i, mblk b i, ()) = some (decide (chunk a i = chunk b i)) := by
  unfold F54 F27 mblk
  simp
theorem pages_loop {k n : Nat} {a b : List Int} {g : Geo} (ha : (a.length : Int) = g.1) (hb : (b.length : Int) = g.1) (hl : a.length ≤ 64) (hk : 8 < k) (hn : 8 < n) :
    L17_10 k n (a, b, cutP a, cutP b, 0, g.1, g.2, g.3, g.4) = some (.inr ()) := by
  have hnm : nmaps a ≤ 8 := by unfold nmaps; omega
  have hab : nmaps b = nmaps a := by unfold nmaps; omega
  have := iter_out (R := R17_10 k) (fun x => ∃ j : Nat, j ≤ nmaps a ∧ x = (a, b, cutP a, cutP b, (j : Int), g.1, g.2, g.3, g.4))
    (fun x => nmaps a - x.2.2.2.2.1.toNat) (fun _ => .inr ()) (fun x hx => by
      obtain ⟨j, hj, rfl⟩ := hx
      by_cases hi : j < nmaps a
      · right
        have e1 : IntKind.i64.wrap ((j : Int) + 1) = ((j + 1 : Nat) : Int) := by rw [wI_in (by omega)]; rfl
        have e8 : decide ((j : Int) < ((cutP a).length : Int)) = true := decide_eq_true (by rw [cutP_length]; omega)
        refine ⟨_, fun again => ?_, ⟨j + 1, by omega, rfl⟩, by simp only; omega, rfl⟩
        unfold R17_10
        simp only [e8, cond_true]
        rw [pages_inner ha hb hl hi hk]
        have hbs : F54 k (T89.mk (mblk a j).1 (mblk a j).2 (mblk a j).3 (mblk a j).4 (mblk a j).5 (mblk a j).6 (mblk a j).7, T89.mk (mblk b j).1 (mblk b j).2 (mblk b j).3 (mblk b j).4 (mblk b j).5 (mblk b j).6 (mblk b j).7, PUnit.unit) = some (decide (chunk a j = chunk b j)) := block_same a b j
        simp only [Option.bind_some, sumK, inRange_true (i := (j : Int)) (n := (cutP a).length) ⟨by omega, by rw [cutP_length]; omega⟩, inRange_true (i := (j : Int)) (n := (cutP b).length) ⟨by omega, by rw [cutP_length, hab]; omega⟩, cond_true, Int.toNat_natCast, cutP_get hi, cutP_get (hab ▸ hi : j < nmaps b), hbs, sameTo_chunk, e1]
        have k1 : (mblk a j).1 = 3 := rfl
        have k2 : (mblk a j).2 = (j : Int) := rfl
        simp only [k1, k2, bne_self_eq_false, cond_false]
        cases decide (chunk a j = chunk b j) <;> rfl
      · left
        intro again
        have e8 : decide ((j : Int) < ((cutP a).length : Int)) = false := decide_eq_false (by rw [cutP_length]; omega)
        unfold R17_10
        simp only [e8, cond_false]) (n := n) (x := (a, b, cutP a, cutP b, 0, g.1, g.2, g.3, g.4)) ⟨0, by omega, rfl⟩ (by show nmaps a - 0 < n; omega)
  exact this
theorem pages_plain (g : Geo) (a b : List Int) : ∃ k, F17 k (g, a, b, ()) = some true := by
  refine ⟨400, ?_⟩
  have hk : 200 < 400 := by decide
  unfold F17
  by_cases h1 : (a.length : Int) > 100
  · simp only [h1, decide_true, cond_true]
    exact wakes_tail
  by_cases h2 : (b.length : Int) > 100
  · simp only [h1, h2, decide_true, decide_false, cond_false, cond_true]
    exact wakes_tail
  have hc : F50 400 (T64.mk g.1 g.2 g.3 g.4, a, PUnit.unit) = some (if cutOk g a = true then (cutP a, 0, ()) else ([], 1, ())) := Cut_eq (by omega) hk
  have hc2 : F50 400 (T64.mk g.1 g.2 g.3 g.4, b, PUnit.unit) = some (if cutOk g b = true then (cutP b, 0, ()) else ([], 1, ())) := Cut_eq (by omega) hk
  have d0 : ((0 : Int) != 0) = false := rfl
  have d1 : ((1 : Int) != 0) = true := rfl
  have z : ∀ x : Int, (IntKind.i64.wrap ((([] : List Blk).length : Int) * x) == 0) = true := fun x => by
    rw [show (([] : List Blk).length : Int) = 0 from rfl, Int.zero_mul]; rfl
  have z' : ∀ x : Int, (IntKind.i64.wrap (x * (([] : List Blk).length : Int)) == 0) = true := fun x => by
    rw [show (([] : List Blk).length : Int) = 0 from rfl, Int.mul_zero]; rfl
  simp only [h1, h2, decide_false, cond_false, hc, hc2, Option.bind_some]
  cases ha : cutOk g a with
  | false =>
    simp only [Bool.false_eq_true, if_false, d1, cond_true, z]
    exact wakes_tail
  | true =>
    cases hb : cutOk g b with
    | false =>
      simp only [Bool.false_eq_true, if_false, if_true, d0, d1, cond_true, cond_false, z']
      exact wakes_tail
    | true =>
      obtain ⟨a1, a2, a3⟩ := cutOk_spec ha
      obtain ⟨b1, b2, b3⟩ := cutOk_spec hb
      have hs := gOk_spec a1
      have hab : nmaps b = nmaps a := by unfold nmaps; omega
      have e1 : ((a.length : Int) != g.1) = false := by rw [a2]; exact bne_self_eq_false ..
      have e2 : ((b.length : Int) != g.1) = false := by rw [b2]; exact bne_self_eq_false ..
      simp only [if_true, d0, cond_false, cutP_length, hab, bne_self_eq_false, e1, e2]
      rw [pages_loop a2 b2 (by omega) (by decide) (by decide)]
      exact wakes_tail
theorem mapPages : Rows.MapPagesCardSaid := mapPages_card (mapPages_row fun a0 a1 a2 _ _ _ => pages_plain a0 a1 a2)
end Go.Proofs.YtpnnmpdjgnbkhaaDoor.W
