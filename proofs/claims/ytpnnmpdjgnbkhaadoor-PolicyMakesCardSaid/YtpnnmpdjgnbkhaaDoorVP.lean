/-
  PolicyMakes: for every input that the statement lets in the law returns true; its tied card. No conditions.
-/
import Derived.Test.YtpnnmpdjgnbkhaaDoorVR
set_option linter.unusedVariables false
namespace Go.Proofs.YtpnnmpdjgnbkhaaDoor.W
open Go V
/-! ### blocks: plain -/
abbrev Blk := T89
def zpage : List Int := List.replicate 32 0
def zheads : List Int := List.replicate 8 0
def zblk : Blk := .mk 0 0 zpage 0 [] 0 zheads
def headOk (n : Int) : Bool := decide (n = 0) || decide (n = 1) || (decide (4 ≤ n) && decide (n ≤ 1023))
/-- a block that may be -/
def blkOk (b : Blk) : Bool :=
  if b.Kind = 1 then decide (0 ≤ b.Id ∧ b.Id < 64) && decide (b.Heads = zheads) && decide (b.Off = 0 ∧ b.Bytes = [] ∧ b.Prev = 0)
  else if b.Kind = 2 then decide (0 ≤ b.Id ∧ b.Id < 64) && decide (b.Heads = zheads) && decide (b.Page = zpage) &&
    decide (0 ≤ b.Off ∧ 1 ≤ b.Bytes.length ∧ b.Bytes.length ≤ 16 ∧ b.Off ≤ 32 - (b.Bytes.length : Int) ∧ b.Prev ≠ 0) && headOk b.Prev
  else if b.Kind = 3 then decide (0 ≤ b.Id ∧ b.Id < 8) && decide (b.Page = zpage) && decide (b.Off = 0 ∧ b.Bytes = [] ∧ b.Prev = 0) && b.Heads.all headOk
  else false
def IsByte (x : Int) : Prop := 0 ≤ x ∧ x ≤ 255
/-- of a block's type -/
structure IsBlk (b : Blk) : Prop where
  page : b.Page.length = 32 ∧ ∀ x ∈ b.Page, IsByte x
  bytes : ∀ x ∈ b.Bytes, IsByte x
  heads : b.Heads.length = 8
def two (n : Int) : List Int := [IntKind.u8.wrap n, IntKind.u8.wrap (n.fdiv 256)]
def four (n : Int) : List Int := [IntKind.u8.wrap n, IntKind.u8.wrap (n.fdiv 256), IntKind.u8.wrap (n.fdiv 65536), IntKind.u8.wrap (n.fdiv 16777216)]
def bbody (b : Blk) : List Int :=
  if b.Kind = 1 then b.Page
  else if b.Kind = 2 then [IntKind.u8.wrap b.Off, IntKind.u8.wrap (b.Bytes.length : Int)] ++ (b.Bytes ++ (List.replicate (16 - b.Bytes.length) 0 ++ two b.Prev))
  else if b.Kind = 3 then b.Heads.flatMap two
  else []
def bhead (b : Blk) (seq : Int) : List Int := IntKind.u8.wrap b.Kind :: IntKind.u8.wrap b.Id :: four seq
def bsector (b : Blk) (seq : Int) : List Int := bhead b seq ++ (bbody b ++ List.replicate (58 - (bbody b).length) 0)
def val4 (a b c d : Int) : Int := a + 256 * b + 65536 * c + 16777216 * d
def bseq (x : List Int) : Int := val4 (x.getD 2 0) (x.getD 3 0) (x.getD 4 0) (x.getD 5 0)
def blkOf (x : List Int) : Blk :=
  if x.getD 0 0 = 1 then .mk (x.getD 0 0) (x.getD 1 0) ((x.drop 6).take 32) 0 [] 0 zheads
  else if x.getD 0 0 = 2 then .mk (x.getD 0 0) (x.getD 1 0) zpage (x.getD 6 0) ((x.drop 8).take (min 16 (x.getD 7 0).toNat)) (x.getD 24 0 + 256 * x.getD 25 0) zheads
  else if x.getD 0 0 = 3 then .mk (x.getD 0 0) (x.getD 1 0) zpage 0 [] 0 ((List.range 8).map fun i => x.getD (6 + 2 * i) 0 + 256 * x.getD (7 + 2 * i) 0)
  else .mk (x.getD 0 0) (x.getD 1 0) zpage 0 [] 0 zheads
structure IsSec (x : List Int) : Prop where
  len : x.length = 64
  byte : ∀ y ∈ x, IsByte y
theorem IsSec.get {x : List Int} (h : IsSec x) (i : Nat) : 0 ≤ x.getD i 0 ∧ x.getD i 0 ≤ 255 := by
  rw [List.getD_eq_getElem?_getD]
  cases e : x[i]? with
  | none => simp
  | some y => exact h.byte y (List.mem_of_getElem? e)
theorem w8_in {x : Int} (h : 0 ≤ x ∧ x ≤ 255) : IntKind.u8.wrap x = x := by rw [w8_eq]; omega
theorem w8_byte (x : Int) : IsByte (IntKind.u8.wrap x) := by rw [w8_eq]; unfold IsByte; omega
theorem fdiv256 (n : Int) : n.fdiv 256 = n / 256 := Int.fdiv_eq_ediv_of_nonneg _ (by decide)
theorem fdiv65536 (n : Int) : n.fdiv 65536 = n / 65536 := Int.fdiv_eq_ediv_of_nonneg _ (by decide)
theorem fdiv16777216 (n : Int) : n.fdiv 16777216 = n / 16777216 := Int.fdiv_eq_ediv_of_nonneg _ (by decide)
theorem two_val {n : Int} (h : 0 ≤ n ∧ n ≤ 65535) : IntKind.u8.wrap n + 256 * IntKind.u8.wrap (n.fdiv 256) = n := by
  rw [w8_eq, w8_eq, fdiv256]; omega
theorem four_val {n : Int} (h : 0 ≤ n ∧ n < 4294967296) : val4 (IntKind.u8.wrap n) (IntKind.u8.wrap (n.fdiv 256)) (IntKind.u8.wrap (n.fdiv 65536)) (IntKind.u8.wrap (n.fdiv 16777216)) = n := by
  unfold val4
  rw [w8_eq, w8_eq, w8_eq, w8_eq, fdiv256, fdiv65536, fdiv16777216]; omega
theorem headOk_in {n : Int} (h : headOk n = true) : 0 ≤ n ∧ n ≤ 1023 := by
  unfold headOk at h
  simp only [Bool.or_eq_true, Bool.and_eq_true, decide_eq_true_eq] at h
  omega
theorem list8 {l : List Int} (h : l.length = 8) : ∃ a b c d e f g i, l = [a, b, c, d, e, f, g, i] := by
  match l, h with
  | [a, b, c, d, e, f, g, i], _ => exact ⟨a, b, c, d, e, f, g, i, rfl⟩
theorem getD_behind {a : List Int} {n : Nat} (h : a.length = n) (b : List Int) (j : Nat) : (a ++ b).getD (n + j) 0 = b.getD j 0 := by
  subst h
  rw [List.getD_eq_getElem?_getD, List.getElem?_append_right (by omega), show a.length + j - a.length = j by omega, ← List.getD_eq_getElem?_getD]
/-- what a block that may be is, kind by kind -/
theorem blkOk_kinds {b : Blk} (h : blkOk b = true) :
    (b.Kind = 1 ∧ (0 ≤ b.Id ∧ b.Id < 64) ∧ b.Heads = zheads ∧ b.Off = 0 ∧ b.Bytes = [] ∧ b.Prev = 0) ∨
    (b.Kind = 2 ∧ (0 ≤ b.Id ∧ b.Id < 64) ∧ b.Heads = zheads ∧ b.Page = zpage ∧ 0 ≤ b.Off ∧ 1 ≤ b.Bytes.length ∧ b.Bytes.length ≤ 16 ∧ b.Off ≤ 32 - (b.Bytes.length : Int) ∧ b.Prev ≠ 0 ∧ headOk b.Prev = true) ∨
    (b.Kind = 3 ∧ (0 ≤ b.Id ∧ b.Id < 8) ∧ b.Page = zpage ∧ b.Off = 0 ∧ b.Bytes = [] ∧ b.Prev = 0 ∧ ∀ n ∈ b.Heads, headOk n = true) := by
  unfold blkOk at h
  split at h
  · simp only [Bool.and_eq_true, decide_eq_true_eq] at h
    exact .inl ⟨‹_›, h.1.1, h.1.2, h.2.1, h.2.2.1, h.2.2.2⟩
  split at h
  · simp only [Bool.and_eq_true, decide_eq_true_eq] at h
    obtain ⟨⟨⟨⟨h1, h2⟩, h3⟩, h4, h5, h6, h7, h8⟩, h9⟩ := h
    exact .inr (.inl ⟨‹_›, h1, h2, h3, h4, h5, h6, h7, h8, h9⟩)
  split at h
  · simp only [Bool.and_eq_true, decide_eq_true_eq, List.all_eq_true] at h
    obtain ⟨⟨⟨h1, h2⟩, h3⟩, h4⟩ := h
    exact .inr (.inr ⟨‹_›, h1, h2, h3.1, h3.2.1, h3.2.2, h4⟩)
  · cases h
theorem bbody_length {b : Blk} (w : IsBlk b) (h : blkOk b = true) : (bbody b).length = if b.Kind = 1 then 32 else if b.Kind = 2 then 20 else 16 := by
  rcases blkOk_kinds h with ⟨k, _⟩ | ⟨k, _, _, _, _, h1, h2, _⟩ | ⟨k, _⟩
  · simp [bbody, k, w.page.1]
  · simp [bbody, k, two]; omega
  · obtain ⟨a, c, d, e, f, g, i, j, e⟩ := list8 w.heads
    simp [bbody, k, e, two]
theorem bhead_length (b : Blk) (seq : Int) : (bhead b seq).length = 6 := rfl
theorem bsector_length {b : Blk} (w : IsBlk b) (h : blkOk b = true) (seq : Int) : (bsector b seq).length = 64 := by
  have := bbody_length w h
  unfold bsector
  rw [List.length_append, List.length_append, bhead_length, List.length_replicate]
  split at this
  · omega
  split at this <;> omega
theorem bbody_byte {b : Blk} (w : IsBlk b) : ∀ x ∈ bbody b, IsByte x := by
  intro x hx
  unfold bbody at hx
  split at hx
  · exact w.page.2 x hx
  split at hx
  · simp only [List.mem_append, List.mem_cons, two, List.not_mem_nil, or_false] at hx
    rcases hx with (rfl | rfl) | hx | hx | rfl | rfl
    · exact w8_byte _
    · exact w8_byte _
    · exact w.bytes x hx
    · rw [List.eq_of_mem_replicate hx]; unfold IsByte; omega
    · exact w8_byte _
    · exact w8_byte _
  split at hx
  · simp only [List.mem_flatMap, two, List.mem_cons, List.not_mem_nil, or_false] at hx
    obtain ⟨m, _, rfl | rfl⟩ := hx <;> exact w8_byte _
  · cases hx
theorem bsector_sec {b : Blk} (w : IsBlk b) (h : blkOk b = true) (seq : Int) : IsSec (bsector b seq) := by
  refine ⟨bsector_length w h seq, fun x hx => ?_⟩
  unfold bsector bhead four at hx
  simp only [List.mem_append, List.mem_cons, List.not_mem_nil, or_false] at hx
  rcases hx with (rfl | rfl | rfl | rfl | rfl | rfl) | hx | hx
  iterate 6 exact w8_byte _
  · exact bbody_byte w x hx
  · rw [List.eq_of_mem_replicate hx]; unfold IsByte; omega
/-- a place behind the head -/
theorem bsector_at (b : Blk) (seq : Int) (i : Nat) : (bsector b seq).getD (6 + i) 0 = (bbody b).getD i 0 := by
  unfold bsector
  rw [List.getD_eq_getElem?_getD, List.getElem?_append_right (by rw [bhead_length]; omega), bhead_length, show 6 + i - 6 = i by omega]
  by_cases h : i < (bbody b).length
  · rw [List.getElem?_append_left h, ← List.getD_eq_getElem?_getD]
  · rw [List.getElem?_append_right (by omega), List.getElem?_replicate, List.getD_eq_getElem?_getD, List.getElem?_eq_none (by omega)]
    split <;> rfl
theorem bsector_drop (b : Blk) (seq : Int) : (bsector b seq).drop 6 = bbody b ++ List.replicate (58 - (bbody b).length) 0 := by
  unfold bsector
  rw [List.drop_append, bhead_length]
  simp [bhead_length]
theorem bsector_seq {b : Blk} {seq : Int} (hs : 0 ≤ seq ∧ seq < 4294967296) : bseq (bsector b seq) = seq := four_val hs
/-- a sector of a block is read as it -/
theorem blkOf_bsector {b : Blk} (w : IsBlk b) (h : blkOk b = true) (seq : Int) : blkOf (bsector b seq) = b := by
  have h0 : (bsector b seq).getD 0 0 = IntKind.u8.wrap b.Kind := rfl
  have h1 : (bsector b seq).getD 1 0 = IntKind.u8.wrap b.Id := rfl
  have at_ := bsector_at b seq
  have dr := bsector_drop b seq
  have bl := bbody_length w h
  generalize bsector b seq = x at h0 h1 at_ dr
  obtain ⟨kind, id, page, off, bytes, prev, heads⟩ := b
  rcases blkOk_kinds h with ⟨k, i, hh, ho, hb, hp⟩ | ⟨k, i, hh, hpg, ho, hl1, hl2, ho2, hp, hph⟩ | ⟨k, i, hpg, ho, hb, hp, hall⟩
  · simp only at k i hh ho hb hp
    subst k hh ho hb hp
    have e0 : x.getD 0 0 = 1 := h0
    have e1 : x.getD 1 0 = id := by rw [h1]; exact w8_in (by simp only; omega)
    unfold blkOf
    rw [if_pos e0, e0, e1, dr]
    have : (bbody (.mk 1 id page 0 [] 0 zheads)) = page := rfl
    rw [this]
    have hl : page.length = 32 := w.page.1
    rw [← hl, List.take_left]
  · simp only at k i hh ho hp hpg hl1 hl2 ho2 hph
    subst k hh hpg
    have hpi := headOk_in hph
    have e0 : x.getD 0 0 = 2 := h0
    have e1 : x.getD 1 0 = id := by rw [h1]; exact w8_in (by simp only; omega)
    have e6 : x.getD 6 0 = off := by rw [at_ 0]; exact w8_in (by simp only; omega)
    have e7 : x.getD 7 0 = bytes.length := by rw [at_ 1]; exact w8_in (by simp only; omega)
    have body : bbody (.mk 2 id zpage off bytes prev zheads) = [IntKind.u8.wrap off, IntKind.u8.wrap (bytes.length : Int)] ++ (bytes ++ (List.replicate (16 - bytes.length) 0 ++ two prev)) := rfl
    have d8 : x.drop 8 = bytes ++ ((List.replicate (16 - bytes.length) 0 ++ two prev) ++ List.replicate (58 - (bbody (.mk 2 id zpage off bytes prev zheads)).length) 0) := by
      rw [show x.drop 8 = (x.drop 6).drop 2 by rw [List.drop_drop], dr, body]
      simp
    have ee : ∀ j, x.getD (24 + j) 0 = (two prev).getD j 0 := by
      intro j
      rw [show 24 + j = 6 + (2 + (bytes.length + ((16 - bytes.length) + j))) by omega, at_, body, getD_behind (n := 2) rfl, getD_behind (n := bytes.length) rfl, getD_behind (n := 16 - bytes.length) (by simp)]
    have e24 : x.getD 24 0 = IntKind.u8.wrap prev := ee 0
    have e25 : x.getD 25 0 = IntKind.u8.wrap (prev.fdiv 256) := ee 1
    unfold blkOf
    rw [if_neg (by rw [e0]; decide), if_pos e0, e0, e1, e6, e7, e24, e25, two_val (by omega), d8]
    have : min 16 (bytes.length : Int).toNat = bytes.length := by omega
    rw [this, List.take_left]
  · simp only at k i ho hb hp hpg hall
    subst k hpg ho hb hp
    have e0 : x.getD 0 0 = 3 := h0
    have e1 : x.getD 1 0 = id := by rw [h1]; exact w8_in (by simp only; omega)
    unfold blkOf
    rw [if_neg (by rw [e0]; decide), if_neg (by rw [e0]; decide), if_pos e0, e0, e1]
    have hl : heads.length = 8 := w.heads
    obtain ⟨a, b, c, d, e, f, g, j, rfl⟩ := list8 hl
    have key : (List.range 8).map (fun i => x.getD (6 + 2 * i) 0 + 256 * x.getD (7 + 2 * i) 0) = [a, b, c, d, e, f, g, j] := by
      simp only [List.mem_cons, List.not_mem_nil, or_false, forall_eq_or_imp, forall_eq] at hall
      obtain ⟨p1, p2, p3, p4, p5, p6, p7, p8⟩ := hall
      have hv : ∀ {n : Int}, headOk n = true → IntKind.u8.wrap n + 256 * IntKind.u8.wrap (n.fdiv 256) = n := fun h => two_val (by have := headOk_in h; omega)
      rw [← hv p1, ← hv p2, ← hv p3, ← hv p4, ← hv p5, ← hv p6, ← hv p7, ← hv p8]
      simp only [List.range, List.range.loop, List.map_cons, List.map_nil]
      rw [show 7 + 2 * 0 = 6 + 1 from rfl, show 7 + 2 * 1 = 6 + 3 from rfl, show 7 + 2 * 2 = 6 + 5 from rfl, show 7 + 2 * 3 = 6 + 7 from rfl, show 7 + 2 * 4 = 6 + 9 from rfl, show 7 + 2 * 5 = 6 + 11 from rfl, show 7 + 2 * 6 = 6 + 13 from rfl, show 7 + 2 * 7 = 6 + 15 from rfl]
      simp only [at_]
      simp only [hv p1, hv p2, hv p3, hv p4, hv p5, hv p6, hv p7, hv p8]
      rw [show bbody (.mk 3 id zpage 0 [] 0 [a, b, c, d, e, f, g, j]) = [a, b, c, d, e, f, g, j].flatMap two from rfl]
      simp only [List.flatMap_cons, two]
      simp [hv p1, hv p2, hv p3, hv p4, hv p5, hv p6, hv p7, hv p8]
    rw [key]
/-- what a sector reads as -/
def secOk (x : List Int) : Bool := blkOk (blkOf x) && decide (bsector (blkOf x) (bseq x) = x)
theorem secOk_bsector {b : Blk} {seq : Int} (w : IsBlk b) (h : blkOk b = true) (hs : 0 ≤ seq ∧ seq < 4294967296) : secOk (bsector b seq) = true := by
  unfold secOk
  rw [blkOf_bsector w h, bsector_seq hs, h]
  simp
theorem bsector_inj {b c : Blk} {m n : Int} (w : IsBlk b) (h : blkOk b = true) (hm : 0 ≤ m ∧ m < 4294967296) (w' : IsBlk c) (h' : blkOk c = true) (hn : 0 ≤ n ∧ n < 4294967296) : bsector b m = bsector c n ↔ b = c ∧ m = n := by
  constructor
  · intro e
    have e1 := blkOf_bsector w h m
    have e2 := bsector_seq (b := b) hm
    rw [e, blkOf_bsector w' h'] at e1
    rw [e, bsector_seq hn] at e2
    exact ⟨e1.symm, e2.symm⟩
  · rintro ⟨rfl, rfl⟩; rfl
theorem IsSec.mem_drop {x : List Int} (h : IsSec x) {n : Nat} : ∀ y ∈ x.drop n, IsByte y := fun y hy => h.byte y (List.mem_of_mem_drop hy)
theorem blkOf_is {x : List Int} (h : IsSec x) : IsBlk (blkOf x) := by
  have hz : zpage.length = 32 ∧ ∀ y ∈ zpage, IsByte y := ⟨by simp [zpage], fun y hy => by rw [List.eq_of_mem_replicate hy]; unfold IsByte; omega⟩
  have hn : ∀ y ∈ ([] : List Int), IsByte y := fun y hy => by cases hy
  have hh : zheads.length = 8 := by simp [zheads]
  unfold blkOf
  split
  · exact ⟨⟨by simp [h.len], fun y hy => h.mem_drop y (List.mem_of_mem_take hy)⟩, hn, hh⟩
  split
  · exact ⟨hz, fun y hy => h.mem_drop y (List.mem_of_mem_take hy), hh⟩
  split
  · exact ⟨hz, hn, by simp⟩
  · exact ⟨hz, hn, hh⟩
theorem val4_in {a b c d : Int} (ha : 0 ≤ a ∧ a ≤ 255) (hb : 0 ≤ b ∧ b ≤ 255) (hc : 0 ≤ c ∧ c ≤ 255) (hd : 0 ≤ d ∧ d ≤ 255) : 0 ≤ val4 a b c d ∧ val4 a b c d < 4294967296 := by unfold val4; omega
theorem bseq_in {x : List Int} (h : IsSec x) : 0 ≤ bseq x ∧ bseq x < 4294967296 := val4_in (h.get 2) (h.get 3) (h.get 4) (h.get 5)
/-! ### blocks: what the functions come to -/
theorem beq_ne {a b : Int} (h : ¬ a = b) : (a == b) = false := beq_eq_false_iff_ne.2 h
theorem head_eq (k : Nat) (n : Int) : F76 k (n, ()) = some (headOk n) := by
  unfold F76 headOk
  simp only
  by_cases h0 : n = 0
  · simp [h0]
  by_cases h1 : n = 1
  · simp [h1]
  by_cases h4 : 4 ≤ n
  · simp [h0, h1, h4, beq_ne h0, beq_ne h1]
  · simp [h0, h1, h4, beq_ne h0, beq_ne h1]
def plainB (b : Blk) : Bool :=
  bif b.Kind == 1 then decide (b.Heads = zheads) && (b.Off == 0 && ((b.Bytes.length : Int) == 0 && b.Prev == 0))
  else bif b.Kind == 2 then decide (b.Heads = zheads) && decide (b.Page = zpage)
  else decide (b.Page = zpage) && (b.Off == 0 && ((b.Bytes.length : Int) == 0 && b.Prev == 0))
theorem plain_eq (k : Nat) (b : Blk) : F75 k (b, ()) = some (plainB b) := by
  unfold F75 plainB zheads zpage
  simp only
  generalize (b.Off == 0) = A
  generalize ((b.Bytes.length : Int) == 0) = B
  generalize (b.Kind == 1) = C
  generalize (b.Kind == 2) = D
  generalize decide (b.Heads = List.replicate 8 0) = H
  generalize decide (b.Page = List.replicate 32 0) = G
  generalize (b.Prev == 0) = Q
  cases A <;> cases B <;> cases C <;> cases D <;> cases H <;> cases G <;> cases Q <;> rfl
theorem bad_loop {k n : Nat} {l : List Int} (hl : l.length ≤ 100) (hn : l.length < n) :
    ∃ o, L95_2 k n (l, l.length, 0) = some o ∧ (match o with | .inl i => 0 ≤ i ∧ l.all headOk = false | .inr _ => l.all headOk = true) := by
  unfold L95_2
  have := iter_post (R := R95_2 k) (fun x : List Int × Int × Int => x.1.length ≤ 100 ∧ x.2.1 = x.1.length ∧ 0 ≤ x.2.2 ∧ x.2.2 ≤ x.1.length)
    (fun x => x.1.length - x.2.2.toNat) (fun x (o : Int ⊕ Unit) => match o with | .inl i => 0 ≤ i ∧ (x.1.drop x.2.2.toNat).all headOk = false | .inr _ => (x.1.drop x.2.2.toNat).all headOk = true) (fun x h => by
      obtain ⟨l, len, i⟩ := x
      obtain ⟨h0, h1, h2, h3⟩ := h
      simp only at h0 h1 h2 h3
      subst h1
      by_cases hi : i < l.length
      · have hnat : i.toNat < l.length := by omega
        have e1 : IntKind.i64.wrap (i + 1) = i + 1 := wI_in (by omega)
        have e3 : (i + 1).toNat = i.toNat + 1 := by omega
        have hd := drop_cons (0 : Int) hnat
        have hR : ∀ again, R95_2 k again (l, (l.length : Int), i) = if headOk (l.getD i.toNat 0) = true then again (l, (l.length : Int), i + 1) else some (.inl i) := by
          intro again
          unfold R95_2 F78
          simp only [hi, decide_true, cond_true, inRange_true ⟨h2, hi⟩, head_eq, Option.bind_some, e1]
          cases headOk (l.getD i.toNat 0) <;> rfl
        by_cases hb : headOk (l.getD i.toNat 0) = true
        · right
          refine ⟨(l, l.length, i + 1), fun again => by rw [hR, if_pos hb], ⟨h0, rfl, by simp only; omega, by simp only; omega⟩, by simp only; omega, fun o ho => ?_⟩
          simp only [e3, hd, List.all_cons, hb, Bool.true_and] at ho ⊢
          exact ho
        · left
          refine ⟨.inl i, fun again => by rw [hR, if_neg hb], h2, ?_⟩
          simp only [hd, List.all_cons]
          simp only [Bool.not_eq_true] at hb
          rw [hb]; rfl
      · left
        refine ⟨.inr (), fun again => ?_, ?_⟩
        · unfold R95_2
          simp only [hi, decide_false, cond_false]
        · simp only
          rw [List.drop_eq_nil_of_le (by omega)]
          rfl) n (l, (l.length : Int), 0) ⟨hl, rfl, by simp, by simp⟩ (by simpa using hn)
  simpa using this
theorem bad_eq {k : Nat} {l : List Int} (hl : l.length ≤ 100) (hk : l.length < k) : F77 k (l, (), ()) = some (!(l.all headOk)) := by
  unfold F77 F95
  simp only
  obtain ⟨o, h1, h2⟩ := bad_loop (k := k) hl hk
  rw [h1]
  simp only [Option.bind_some]
  cases o with
  | inl i =>
    simp only at h2
    simp only [sumK, Option.bind_some, h2.2]
    simp [h2.1]
  | inr u =>
    simp only at h2
    simp only [sumK, Option.bind_some, h2]
    rfl
theorem nilB {l : List Int} : ((l.length : Int) == 0) = decide (l = []) := by
  cases l with
  | nil => rfl
  | cons a r => simp; omega
theorem good_eq {k : Nat} {b : Blk} (w : IsBlk b) (hk : 8 < k) : F47 k (b, ()) = some (blkOk b) := by
  obtain ⟨kind, id, page, off, bytes, prev, heads⟩ := b
  have hh : heads.length = 8 := w.heads
  unfold F47
  simp only [plain_eq, head_eq, Option.bind_some]
  have e8 : List.take ((((8 : Nat) : Int) - (0 : Int)).toNat) (List.drop (Int.toNat (0 : Int)) heads) = heads := by
    have : ((((8 : Nat) : Int) - (0 : Int)).toNat) = heads.length := by rw [hh]; rfl
    rw [this]; simp
  rw [e8, bad_eq (by omega) (by omega)]
  simp only [Option.bind_some, Bool.not_not]
  unfold blkOk plainB
  simp only [nilB]
  by_cases i0 : id < 0
  · have e : ¬ 0 ≤ id := by omega
    simp [i0, e]
  have i0' : 0 ≤ id := by omega
  by_cases k1 : kind = 1
  · subst k1
    simp only [i0, decide_false, cond_false]
    by_cases h4 : prev = 0 <;> by_cases h2 : off = 0 <;> by_cases h1 : heads = zheads <;> by_cases h3 : bytes = [] <;> simp [h1, h3, i0', beq_ne, h2, h4]
  by_cases k2 : kind = 2
  · subst k2
    simp only [i0, decide_false, cond_false]
    by_cases h1 : heads = zheads
    · by_cases h2 : page = zpage
      · by_cases o0 : off < 0
        · have e : ¬ 0 ≤ off := by omega
          simp [h1, h2, o0, e]
        have o0' : 0 ≤ off := by omega
        by_cases l1 : (bytes.length : Int) < 1
        · have e : ¬ 1 ≤ bytes.length := by omega
          simp [h1, h2, o0, l1, e]
        have l1' : 1 ≤ bytes.length := by omega
        by_cases l16 : (bytes.length : Int) > 16
        · have e : ¬ bytes.length ≤ 16 := by omega
          have l16' : 16 < (bytes.length : Int) := l16
          simp [h1, h2, o0, l1, l16, e]
        have l16' : bytes.length ≤ 16 := by omega
        have w32 : IntKind.i64.wrap (32 - (bytes.length : Int)) = 32 - bytes.length := wI_in (by omega)
        simp only [h1, h2, o0, l1, l16, w32]
        by_cases o32 : off > 32 - (bytes.length : Int)
        · have e : ¬ off ≤ 32 - (bytes.length : Int) := by omega
          simp [o32, e]
        have o32' : off ≤ 32 - (bytes.length : Int) := by omega
        by_cases p0 : prev = 0
        · simp [p0, o32]
        cases hp : headOk prev <;> simp [p0, o32, o0', l1', l16', o32', i0', beq_ne p0]
      · simp [h1, h2]
    · simp [h1]
  by_cases k3 : kind = 3
  · subst k3
    simp only [i0, decide_false, cond_false]
    by_cases h1 : page = zpage <;> by_cases h2 : off = 0 <;> by_cases h3 : bytes = [] <;> by_cases h4 : prev = 0 <;> by_cases h5 : id < 8 <;> simp [h1, h3, h5, i0', beq_ne, h2, h4]
  · have b1 : (kind == 1) = false := beq_eq_false_iff_ne.2 k1
    have b2 : (kind == 2) = false := beq_eq_false_iff_ne.2 k2
    have b3 : (kind == 3) = false := beq_eq_false_iff_ne.2 k3
    simp only [i0, b1, b2, b3, k1, k2, k3, decide_false, cond_false, if_false]
    generalize (decide (page = zpage) && (off == 0 && (decide (bytes = []) && prev == 0))) = X
    cases X <;> rfl
theorem roomMost_ge {n : Nat} (h : n ≤ 1000000) : decide (n ≤ roomMost) = true := decide_eq_true (show n ≤ 4294967296 by omega)
/-! ### what differs between two pages -/
def fl (a b : List Int) (l0 : Int) : Nat → Int × Int
  | 0 => (-1, l0)
  | j + 1 => if a.getD j 0 = b.getD j 0 then fl a b l0 j else (if (fl a b l0 j).1 < 0 then (j : Int) else (fl a b l0 j).1, (j : Int))
theorem fl_bounds (a b : List Int) (l0 : Int) : ∀ j, -1 ≤ (fl a b l0 j).1 ∧ (0 ≤ (fl a b l0 j).1 → (fl a b l0 j).1 ≤ (fl a b l0 j).2 ∧ (fl a b l0 j).2 < j) ∧ ((fl a b l0 j).1 < 0 → (fl a b l0 j).2 = l0) := by
  intro j
  induction j with
  | zero => exact ⟨by simp [fl], fun h => by simp [fl] at h, fun _ => rfl⟩
  | succ j ih =>
    obtain ⟨h1, h2, h3⟩ := ih
    unfold fl
    by_cases e : a.getD j 0 = b.getD j 0
    · rw [if_pos e]
      exact ⟨h1, fun h => ⟨(h2 h).1, by have := (h2 h).2; omega⟩, h3⟩
    · rw [if_neg e]
      by_cases hn : (fl a b l0 j).1 < 0
      · rw [if_pos hn]
        exact ⟨by omega, fun _ => ⟨Int.le_refl _, by omega⟩, fun h => by omega⟩
      · rw [if_neg hn]
        have := h2 (by omega)
        exact ⟨h1, fun _ => ⟨by simp only; omega, by simp only; omega⟩, fun h => absurd h hn⟩
theorem fl_same (a b : List Int) (p q : Int) : ∀ j, (fl a b p j).1 = (fl a b q j).1 ∧ (0 ≤ (fl a b p j).1 → (fl a b p j).2 = (fl a b q j).2) := by
  intro j
  induction j with
  | zero => exact ⟨rfl, fun h => by simp [fl] at h⟩
  | succ j ih =>
    obtain ⟨h1, h2⟩ := ih
    unfold fl
    by_cases e : a.getD j 0 = b.getD j 0
    · rw [if_pos e, if_pos e]; exact ⟨h1, h2⟩
    · rw [if_neg e, if_neg e]
      simp only [h1]
      exact ⟨trivial, fun _ => trivial⟩
/-- where, and which bytes; or that it is none, or too much -/
def dres (a b : List Int) : Option (Int × List Int) :=
  if (fl a b 0 32).1 < 0 then none
  else if (fl a b 0 32).2 - (fl a b 0 32).1 ≥ 16 then none
  else some ((fl a b 0 32).1, (b.drop (fl a b 0 32).1.toNat).take ((fl a b 0 32).2 + 1 - (fl a b 0 32).1).toNat)
theorem diff_loop {k n : Nat} {a b : List Int} (hn : 32 < n) : L23_3 k n (-1, 0, 0, a, b) = some ((fl a b 0 32).1, (fl a b 0 32).2, b) := by
  unfold L23_3
  refine iter_out (R := R23_3 k) (fun x : Int × Int × Int × List Int × List Int => ∃ j : Nat, j ≤ 32 ∧ x = ((fl a b 0 j).1, (fl a b 0 j).2, (j : Int), a, b)) (fun x => 32 - x.2.2.1.toNat) (fun _ => ((fl a b 0 32).1, (fl a b 0 32).2, b)) (fun x hx => ?_) ⟨0, by omega, rfl⟩ (by simpa using hn)
  obtain ⟨j, hj, rfl⟩ := hx
  by_cases hi : j < 32
  · right
    have e1 : IntKind.i64.wrap ((j : Int) + 1) = ((j + 1 : Nat) : Int) := by rw [wI_in (by omega)]; rfl
    have e8 : decide ((j : Int) < 32) = true := by simp; omega
    refine ⟨((fl a b 0 (j + 1)).1, (fl a b 0 (j + 1)).2, ((j + 1 : Nat) : Int), a, b), fun again => ?_, ⟨j + 1, by omega, rfl⟩, by simp only; omega, rfl⟩
    unfold R23_3
    simp only [e8, cond_true, inRange_true (i := (j : Int)) (n := 32) ⟨by omega, by omega⟩, Int.toNat_natCast, e1]
    rw [show fl a b 0 (j + 1) = if a.getD j 0 = b.getD j 0 then fl a b 0 j else (if (fl a b 0 j).1 < 0 then (j : Int) else (fl a b 0 j).1, (j : Int)) from rfl]
    generalize a.getD j 0 = u
    generalize b.getD j 0 = v
    by_cases e : u = v
    · simp [e]
    · rw [if_neg e, beq_ne e]
      by_cases hf : (fl a b 0 j).1 < 0
      · simp [hf]
      · simp [hf]
  · left
    intro again
    have : j = 32 := by omega
    subst this
    unfold R23_3
    rfl
theorem diff_eq {k : Nat} {a b : List Int} (hk : 32 < k) : F23 k (a, b, ()) = some (match dres a b with | some (o, l) => (o, l, true, ()) | none => (0, [], false, ())) := by
  unfold F23
  simp only
  rw [diff_loop hk]
  simp only [Option.bind_some]
  unfold dres
  obtain ⟨h1, h2, h3⟩ := fl_bounds a b 0 32
  generalize fl a b 0 32 = r at h1 h2 h3
  obtain ⟨f, l⟩ := r
  simp only at h1 h2 h3 ⊢
  by_cases hf : f < 0
  · simp [hf]
  · have hb := h2 (by omega)
    have w1 : IntKind.i64.wrap (l - f) = l - f := wI_in (by omega)
    have w2 : IntKind.i64.wrap (l + 1) = l + 1 := wI_in (by omega)
    rw [w1, w2]
    by_cases h16 : l - f ≥ 16
    · simp [hf, h16]
    · have hd : (decide ((0 : Int) ≤ f) && decide (f ≤ l + 1) && decide (l + 1 ≤ ((32 : Nat) : Int))) = true := by simp; omega
      have hr : decide ((0 : Nat) + (List.take (l + 1 - f).toNat (List.drop f.toNat b)).length ≤ roomMost) = true := roomMost_ge (by rw [List.length_take]; omega)
      simp only [hf, h16, decide_false, cond_false, hd, hr, cond_true, if_false]
      rfl
theorem dres_bytes {a b : List Int} (hb : ∀ x ∈ b, IsByte x) {o : Int} {l : List Int} (h : dres a b = some (o, l)) : ∀ x ∈ l, IsByte x := by
  unfold dres at h
  split at h
  · cases h
  split at h
  · cases h
  cases h
  exact fun x hx => hb x (List.mem_of_mem_drop (List.mem_of_mem_take hx))

/-! ### bytes laid over a page -/
theorem getD_at {l : List Int} {i : Nat} (h : i < l.length) : l.getD i 0 = l[i] := by rw [List.getD_eq_getElem?_getD, List.getElem?_eq_getElem h]; rfl
theorem ext_getD {a b : List Int} (hl : a.length = b.length) (h : ∀ i, i < a.length → a.getD i 0 = b.getD i 0) : a = b := by
  apply List.ext_getElem hl
  intro i h1 h2
  have := h i h1
  rwa [getD_at h1, getD_at h2] at this
def lay (p : List Int) (off : Nat) (l : List Int) : List Int := p.take off ++ (l ++ p.drop (off + l.length))
theorem lay_length {p l : List Int} {off : Nat} (h : off + l.length ≤ p.length) : (lay p off l).length = p.length := by
  unfold lay
  rw [List.length_append, List.length_append, List.length_take, List.length_drop]; omega
theorem lay_get {p l : List Int} {off : Nat} (h : off + l.length ≤ p.length) (i : Nat) : (lay p off l).getD i 0 = if off ≤ i ∧ i < off + l.length then l.getD (i - off) 0 else p.getD i 0 := by
  have ht : (p.take off).length = off := by rw [List.length_take]; omega
  unfold lay
  by_cases h1 : i < off
  · rw [if_neg (by omega), List.getD_eq_getElem?_getD, List.getElem?_append_left (by omega), List.getElem?_take_of_lt h1, ← List.getD_eq_getElem?_getD]
  · rw [List.getD_eq_getElem?_getD, List.getElem?_append_right (by omega), ht]
    by_cases h2 : i < off + l.length
    · rw [if_pos (by omega), List.getElem?_append_left (by omega), ← List.getD_eq_getElem?_getD]
    · rw [if_neg (by omega), List.getElem?_append_right (by omega), List.getElem?_drop, ← List.getD_eq_getElem?_getD]
      congr 1
      omega
def fitB (off : Int) (n : Nat) : Bool := decide (0 ≤ off ∧ 1 ≤ n ∧ n ≤ 32 ∧ off ≤ 32 - (n : Int))
def ares (p : List Int) (off : Int) (l : List Int) : List Int × Int × Unit := if fitB off l.length = true then (lay p off.toNat l, 0, ()) else (zpage, 1, ())
theorem splice_lay {p l : List Int} {off : Int} (h : fitB off l.length = true) : splice p l off.toNat (min l.length ((((32 : Nat) : Int) - off).toNat)) = lay p off.toNat l := by
  unfold fitB at h
  simp only [decide_eq_true_eq] at h
  unfold splice lay
  have : min l.length ((((32 : Nat) : Int) - off).toNat) = l.length := by omega
  rw [this, List.take_length, List.append_assoc]
theorem apply_eq {k : Nat} {p l : List Int} {off : Int} (hl : l.length ≤ 1000000) : F25 k (p, off, l, ()) = some (ares p off l) := by
  unfold F25 F60 F30 F34
  simp only
  have e1 : ((1 : Int) == 0) = false := rfl
  have hbad : ∀ a b : ByteArray, ((GErr.flt a (GErr.flt b (GErr.num 1) false) true).first) = some 1 := fun _ _ => rfl
  unfold ares
  by_cases h0 : off < 0
  · have : fitB off l.length = false := by unfold fitB; simp; omega
    simp only [h0, decide_true, cond_true, e1, cond_false, Option.bind_some, GErr.isNil, hbad, Option.isSome_some, this, Bool.false_eq_true, if_false, Option.getD_some]
    rfl
  by_cases h1 : (l.length : Int) < 1
  · have : fitB off l.length = false := by unfold fitB; simp; omega
    simp only [h0, h1, decide_true, decide_false, cond_true, e1, cond_false, Option.bind_some, GErr.isNil, hbad, Option.isSome_some, this, Bool.false_eq_true, if_false, Option.getD_some]
    rfl
  by_cases h2 : (l.length : Int) > 32
  · have : fitB off l.length = false := by unfold fitB; simp; omega
    simp only [h0, h1, h2, decide_true, decide_false, cond_true, e1, cond_false, Option.bind_some, GErr.isNil, hbad, Option.isSome_some, this, Bool.false_eq_true, if_false, Option.getD_some]
    rfl
  have w : IntKind.i64.wrap (32 - (l.length : Int)) = 32 - l.length := wI_in (by omega)
  by_cases h3 : off > 32 - (l.length : Int)
  · have : fitB off l.length = false := by unfold fitB; simp; omega
    simp only [h0, h1, h2, w, h3, decide_true, decide_false, cond_true, e1, cond_false, Option.bind_some, GErr.isNil, hbad, Option.isSome_some, this, Bool.false_eq_true, if_false, Option.getD_some]
    rfl
  · have hf : fitB off l.length = true := by unfold fitB; simp; omega
    have hd : (decide ((0 : Int) ≤ off) && decide (off ≤ ((32 : Nat) : Int)) && decide (((32 : Nat) : Int) ≤ ((32 : Nat) : Int))) = true := by simp; omega
    have hn : GErr.first GErr.nil = none := rfl
    simp only [h0, h1, h2, w, h3, decide_false, cond_false, Option.bind_some, hn, Option.isSome_none, hd, cond_true, splice_lay hf, hf, if_true]
theorem fit_spec {off : Int} {n : Nat} (h : fitB off n = true) : 0 ≤ off ∧ 1 ≤ n ∧ off.toNat + n ≤ 32 := by
  unfold fitB at h
  simp only [decide_eq_true_eq] at h
  omega
/-- where the first and the last one differ, and that all else is alike -/
theorem fl_props (a b : List Int) (l0 : Int) : ∀ j, (∀ i : Nat, i < j → ((fl a b l0 j).1 < 0 ∨ (i : Int) < (fl a b l0 j).1 ∨ (fl a b l0 j).2 < i) → a.getD i 0 = b.getD i 0) ∧
    (0 ≤ (fl a b l0 j).1 → a.getD (fl a b l0 j).1.toNat 0 ≠ b.getD (fl a b l0 j).1.toNat 0 ∧ a.getD (fl a b l0 j).2.toNat 0 ≠ b.getD (fl a b l0 j).2.toNat 0) := by
  intro j
  induction j with
  | zero => exact ⟨fun i h => by omega, fun h => by simp [fl] at h⟩
  | succ j ih =>
    obtain ⟨i1, i2⟩ := ih
    have hb := fl_bounds a b l0 j
    obtain ⟨b1, b2, b3⟩ := hb
    rw [show fl a b l0 (j + 1) = if a.getD j 0 = b.getD j 0 then fl a b l0 j else (if (fl a b l0 j).1 < 0 then (j : Int) else (fl a b l0 j).1, (j : Int)) from rfl]
    generalize fl a b l0 j = r at i1 i2 b1 b2 b3
    obtain ⟨f, l⟩ := r
    simp only at i1 i2 b1 b2 b3
    by_cases e : a.getD j 0 = b.getD j 0
    · rw [if_pos e]
      refine ⟨fun i hi h => ?_, i2⟩
      by_cases hij : i = j
      · subst hij; exact e
      · exact i1 i (by omega) h
    · rw [if_neg e]
      by_cases hf : f < 0
      · rw [if_pos hf]
        simp only
        refine ⟨fun i hi h => ?_, fun _ => ⟨by rw [Int.toNat_natCast]; exact e, by rw [Int.toNat_natCast]; exact e⟩⟩
        have hij : i ≠ j := by rintro rfl; omega
        exact i1 i (by omega) (.inl hf)
      · rw [if_neg hf]
        simp only
        refine ⟨fun i hi h => ?_, fun h0 => ⟨(i2 h0).1, by rw [Int.toNat_natCast]; exact e⟩⟩
        have hij : i ≠ j := by
          rintro rfl
          have := b2 (by omega)
          omega
        have := b2 (by omega)
        exact i1 i (by omega) (by omega)
/-! ### items -/
abbrev Itm := T91
abbrev Mrk := T87
def zitem : Itm := .mk (.mk 0 0) zblk
theorem zblk_is : IsBlk zblk where
  page := ⟨by simp [zblk, zpage], fun y hy => by
    have : y ∈ List.replicate 32 (0 : Int) := hy
    rw [List.eq_of_mem_replicate this]; unfold IsByte; omega⟩
  bytes := fun y hy => by cases hy
  heads := by simp [zblk, zheads]
def iblk (id : Int) (page : List Int) : Blk := .mk 1 id page 0 [] 0 zheads
def dblk (id off : Int) (l : List Int) (prev : Int) : Blk := .mk 2 id zpage off l prev zheads
theorem iblk_is {id : Int} {page : List Int} (hp : page.length = 32 ∧ ∀ x ∈ page, IsByte x) : IsBlk (iblk id page) := ⟨hp, fun y hy => (by cases hy), by simp [iblk, zheads]⟩
theorem dblk_is {id off prev : Int} {l : List Int} (h : ∀ x ∈ l, IsByte x) : IsBlk (dblk id off l prev) := ⟨zblk_is.page, h, by simp [dblk, zheads]⟩
def wres (id : Int) (now : List Int) : Itm × Int × Unit := if 0 ≤ id ∧ id < 64 then (.mk (.mk 1 id) (iblk id now), 0, ()) else (zitem, 1, ())
theorem whole_eq {k : Nat} {id : Int} {now : List Int} (hp : now.length = 32 ∧ ∀ x ∈ now, IsByte x) (hk : 8 < k) : F73 k (id, now, ()) = some (wres id now) := by
  unfold F73
  simp only
  rw [show (T89.mk 1 id now 0 [] 0 (List.replicate 8 0), PUnit.unit) = (iblk id now, ()) from rfl, good_eq (iblk_is hp) hk]
  simp only [Option.bind_some]
  have : blkOk (iblk id now) = decide (0 ≤ id ∧ id < 64) := by
    by_cases h : 0 ≤ id ∧ id < 64
    · simp [blkOk, iblk, h]
    · simp only [blkOk, iblk, h]
      simp
  rw [this]
  unfold wres
  by_cases h : 0 ≤ id ∧ id < 64
  · simp only [h, and_self, decide_true, Bool.not_true, cond_false, if_true]; rfl
  · simp only [h, decide_false, Bool.not_false, cond_true, if_false]; rfl
theorem wres_is {id : Int} {now : List Int} (hp : now.length = 32 ∧ ∀ x ∈ now, IsByte x) : IsBlk (wres id now).1.Block := by
  unfold wres
  split
  · exact iblk_is hp
  · exact zblk_is
/-- may a page be written so -/
def mayB (id head len : Int) : Bool := decide (0 ≤ id ∧ id < 64 ∧ 0 ≤ len ∧ len ≤ 3) && (if head = 0 ∨ head = 1 then decide (len = 0) else decide (0 < len) && headOk head)
theorem may_eq {k : Nat} {id head len : Int} {page : List Int} (hk : 8 < k) : F72 k (id, .mk head len page, ()) = some (mayB id head len) := by
  unfold F72 mayB
  simp only
  by_cases i0 : id < 0
  · have : ¬ (0 ≤ id) := by omega
    simp [i0, this]
  by_cases i64 : id ≥ 64
  · have : ¬ (id < 64) := by omega
    simp [i0, i64, this]
  by_cases l0 : len < 0
  · have : ¬ (0 ≤ len) := by omega
    simp [i0, i64, l0, this]
  by_cases l3 : len > 3
  · have : ¬ (len ≤ 3) := by omega
    simp [i0, i64, l0, l3, this]
  have hin : (0 ≤ id ∧ id < 64 ∧ 0 ≤ len ∧ len ≤ 3) := by omega
  simp only [i0, i64, l0, l3, decide_false, cond_false, hin, and_self, decide_true, Bool.true_and]
  have hl : (len == 0) = decide (len = 0) := by
    by_cases e : len = 0
    · simp [e]
    · simp [e, beq_ne e]
  by_cases h0 : head = 0
  · simp [h0, hl]
  by_cases h1 : head = 1
  · simp [h1, hl]
  simp only [beq_ne h0, beq_ne h1, cond_false, h0, h1, or_self, if_false]
  by_cases lp : len > 0
  · have hs : (List.replicate 1 (0 : Int)).set 0 0 = [0] := rfl
    simp only [lp, decide_true, cond_true, hs]
    rw [show (T89.mk 2 id (List.replicate 32 0) 0 [0] head (List.replicate 8 0), PUnit.unit) = (dblk id 0 [0] head, ()) from rfl, good_eq (dblk_is (fun x hx => by simp at hx; subst hx; unfold IsByte; omega)) hk]
    have : blkOk (dblk id 0 [0] head) = headOk head := by
      unfold blkOk dblk
      have n1 : ¬ ((2 : Int) = 1) := by decide
      simp [n1, h0, hin.1, hin.2.1]
    rw [this]
    simp
  · have : ¬ (0 < len) := by omega
    simp [lp]
def ires (id head len : Int) (page now : List Int) : Itm × Int × Unit :=
  if mayB id head len = false then (zitem, 1, ())
  else if head = 0 then wres id now
  else if page = now then (zitem, 17, ())
  else match dres page now with
    | none => wres id now
    | some (o, l) => if len ≥ 3 then wres id now else (.mk (.mk 2 id) (dblk id o l head), 0, ())
theorem ires_is {id head len : Int} {page now : List Int} (hp : now.length = 32 ∧ ∀ x ∈ now, IsByte x) : IsBlk (ires id head len page now).1.Block := by
  unfold ires
  split
  · exact zblk_is
  split
  · exact wres_is hp
  split
  · exact zblk_is
  split
  · exact wres_is hp
  · rename_i o l h
    split
    · exact wres_is hp
    · exact dblk_is (dres_bytes hp.2 h)
theorem item_eq {k : Nat} {id head len : Int} {page now : List Int} (hp : now.length = 32 ∧ ∀ x ∈ now, IsByte x) (hk : 32 < k) : F45 k (id, .mk head len page, now, ()) = some (ires id head len page now) := by
  unfold F45
  simp only
  rw [may_eq (by omega)]
  simp only [Option.bind_some]
  have etaI : ∀ x : Itm, T91.mk (T87.mk x.1.1 x.1.2) (T89.mk x.2.1 x.2.2 x.2.3 x.2.4 x.2.5 x.2.6 x.2.7) = x := fun x => rfl
  have hw : ((F73 k (id, now, ())).bind fun r => some (T91.mk (T87.mk r.fst.1.1 r.fst.1.2) (T89.mk r.fst.2.1 r.fst.2.2 r.fst.2.3 r.fst.2.4 r.fst.2.5 r.fst.2.6 r.fst.2.7), r.snd.fst, ())) = some (wres id now) := by
    rw [whole_eq hp (by omega)]; rfl
  unfold ires
  cases hm : mayB id head len with
  | false => rfl
  | true =>
    simp only [Bool.not_true, cond_false, Bool.true_eq_false, if_false]
    by_cases h0 : head = 0
    · have b0 : (head == 0) = true := by simp [h0]
      simp only [h0, if_true]
      exact hw
    · simp only [beq_ne h0, cond_false, h0, if_false]
      by_cases hpn : page = now
      · simp only [hpn, decide_true, cond_true, if_true]; rfl
      · simp only [hpn, decide_false, cond_false, if_false]
        rw [diff_eq hk]
        simp only [Option.bind_some]
        cases hd : dres page now with
        | none =>
          simp only [Bool.not_false, cond_true]
          exact hw
        | some r =>
          obtain ⟨o, l⟩ := r
          simp only [Bool.not_true, cond_false]
          by_cases l3 : len ≥ 3
          · simp only [l3, decide_true, cond_true, if_true]
            exact hw
          · simp only [l3, decide_false, cond_false, if_false]; rfl
/-- what differs, laid over the one, is the other -/
theorem dres_lay {a b : List Int} (h0 : a.length = 32) (h1 : b.length = 32) {o : Int} {ls : List Int} (h : dres a b = some (o, ls)) : 0 ≤ o ∧ 1 ≤ ls.length ∧ ls.length ≤ 16 ∧ o ≤ 32 - (ls.length : Int) ∧ lay a o.toNat ls = b := by
  obtain ⟨b1, b2, b3⟩ := fl_bounds a b 0 32
  obtain ⟨q1, q2⟩ := fl_props a b 0 32
  unfold dres at h
  generalize fl a b 0 32 = r at b1 b2 b3 q1 q2 h
  obtain ⟨f, l⟩ := r
  simp only at b1 b2 b3 q1 q2 h
  by_cases hf : f < 0
  · rw [if_pos hf] at h; cases h
  rw [if_neg hf] at h
  by_cases h16 : l - f ≥ 16
  · rw [if_pos h16] at h; cases h
  rw [if_neg h16] at h
  have hb := b2 (by omega)
  obtain ⟨m, rfl⟩ := Int.eq_ofNat_of_zero_le (show 0 ≤ f by omega)
  obtain ⟨q, rfl⟩ := Int.eq_ofNat_of_zero_le (show 0 ≤ l by omega)
  have hn : ((q : Int) + 1 - (m : Int)).toNat = q + 1 - m := by omega
  simp only [Int.toNat_natCast, hn, Option.some.injEq, Prod.mk.injEq] at h
  obtain ⟨rfl, hL⟩ := h
  have hlen : (List.take (q + 1 - m) (List.drop m b)).length = q + 1 - m := by rw [List.length_take, List.length_drop]; omega
  have hget : ∀ i, i < q + 1 - m → (List.take (q + 1 - m) (List.drop m b)).getD i 0 = b.getD (m + i) 0 := fun i hi => by
    rw [List.getD_eq_getElem?_getD, List.getElem?_take_of_lt hi, List.getElem?_drop, ← List.getD_eq_getElem?_getD]
  rw [hL] at hlen hget
  refine ⟨by omega, by omega, by omega, by omega, ?_⟩
  rw [Int.toNat_natCast]
  have hfl : m + ls.length ≤ a.length := by omega
  refine ext_getD (by rw [lay_length hfl, h0, h1]) fun i hi => ?_
  rw [lay_length hfl, h0] at hi
  rw [lay_get hfl]
  by_cases hin : m ≤ i ∧ i < m + ls.length
  · rw [if_pos hin, hget _ (by omega)]
    congr 1
    omega
  · rw [if_neg hin]
    exact q1 i hi (by omega)
/-! ### the law -/
theorem wakes : F46 400 () = some true := by kernel_rfl
theorem wakes_tail : ((F46 400 ()).bind fun r => some r) = some true := by rw [wakes]; rfl
theorem policyMakes_plain (a0 : Int) (a1 : T85) (a2 : List Int) (h0 : 0 ≤ a0 ∧ a0 ≤ 255) (h1 : a1.Page.length = 32) (hp : a2.length = 32 ∧ ∀ x ∈ a2, IsByte x) : ∃ k, F15 k (a0, a1, a2, ()) = some true := by
  refine ⟨400, ?_⟩
  obtain ⟨head, len, page⟩ := a1
  simp only at h1
  unfold F15
  have w0 : IntKind.i64.wrap a0 = a0 := wI_in (by omega)
  have hm : a0.tmod 64 = a0 % 64 := by rw [Int.tmod_eq_emod_of_nonneg h0.1]
  simp only [w0, hm]
  have hid : 0 ≤ a0 % 64 ∧ a0 % 64 < 64 := by omega
  generalize a0 % 64 = id at hid
  rw [item_eq hp (by decide)]
  simp only [Option.bind_some]
  have hu : (PUnit.unit : Unit) = () := rfl
  have eta : ∀ b : Blk, T89.mk b.1 b.2 b.3 b.4 b.5 b.6 b.7 = b := fun b => rfl
  have wI : ∀ {x : Itm} {e : Int}, wres id a2 = (x, e, ()) → x = .mk (.mk 1 id) (iblk id a2) ∧ e = 0 := by
    intro x e h
    unfold wres at h
    rw [if_pos hid] at h
    cases h
    exact ⟨rfl, rfl⟩
  have hz : ((1 : Int) != 0) = true := rfl
  have hz17 : ((17 : Int) != 0) = true := rfl
  have hz17' : ((17 : Int) == 1) = false := rfl
  have hk0 : (zitem.1.1 == 0) = true := rfl
  have gi : blkOk (iblk id a2) = true := by simp [blkOk, iblk, hid.1, hid.2]
  have whole : (bif ((0 : Int) != 0) then (some false : Option Bool) else (F47 400 (iblk id a2, ())).bind fun r_1 => bif !r_1 then some false else bif (id != id) then some false else bif (iblk id a2).2 != id then some false else bif (iblk id a2).1 != (1 : Int) then some false else bif (1 : Int) == 1 then bif decide ((iblk id a2).3 = a2) then (F46 400 ()).bind fun r => some r else some false else some false) = some true := by
    rw [good_eq (iblk_is hp) (by decide), gi]
    simp only [bne_self_eq_false, cond_false, Option.bind_some, Bool.not_true, beq_self_eq_true, cond_true]
    have e2 : ((iblk id a2).2 != id) = false := by simp [iblk]
    have e1 : ((iblk id a2).1 != 1) = false := rfl
    have e3 : decide ((iblk id a2).3 = a2) = true := decide_eq_true rfl
    rw [e2, e1, e3]
    exact wakes_tail
  unfold ires
  cases hmay : mayB id head len with
  | false =>
    simp only [if_true, hz, cond_true, beq_self_eq_true, hk0]
    exact wakes_tail
  | true =>
    have hmay' := hmay
    unfold mayB at hmay'
    simp only [Bool.and_eq_true, decide_eq_true_eq] at hmay'
    simp only [Bool.true_eq_false, if_false]
    by_cases hh0 : head = 0
    · simp only [hh0, if_true]
      have : wres id a2 = (.mk (.mk 1 id) (iblk id a2), 0, ()) := by unfold wres; rw [if_pos hid]
      rw [this]
      simp only [bne_self_eq_false, cond_false, eta, beq_self_eq_true, cond_true]
      rw [good_eq (iblk_is hp) (by decide), gi]
      have e2 : ((iblk id a2).2 != id) = false := by simp [iblk]
      have e1 : ((iblk id a2).1 != 1) = false := rfl
      have e3 : decide ((iblk id a2).3 = a2) = true := decide_eq_true rfl
      simp only [Option.bind_some, Bool.not_true, cond_false, e1, e2, e3, cond_true]
      exact wakes_tail
    · simp only [hh0, if_false]
      by_cases hpn : page = a2
      · have e5 : (head != 0) = true := by simp [bne, beq_ne hh0]
        simp only [hpn, if_true, hz17, hz17', cond_true, cond_false, beq_self_eq_true, e5, decide_true, hk0]
        exact wakes_tail
      · simp only [hpn, if_false]
        have wcase : wres id a2 = (.mk (.mk 1 id) (iblk id a2), 0, ()) := by unfold wres; rw [if_pos hid]
        have e2 : ((iblk id a2).2 != id) = false := by simp [iblk]
        have e1 : ((iblk id a2).1 != 1) = false := rfl
        have e3 : decide ((iblk id a2).3 = a2) = true := decide_eq_true rfl
        cases hd : dres page a2 with
        | none =>
          simp only [wcase, bne_self_eq_false, cond_false, eta, beq_self_eq_true, cond_true]
          rw [good_eq (iblk_is hp) (by decide), gi]
          simp only [Option.bind_some, Bool.not_true, cond_false, e1, e2, e3, cond_true]
          exact wakes_tail
        | some r =>
          obtain ⟨o, ls⟩ := r
          obtain ⟨d1, d2, d3, d4, d5⟩ := dres_lay h1 hp.1 hd
          by_cases l3 : len ≥ 3
          · simp only [l3, if_true, wcase, bne_self_eq_false, cond_false, eta, beq_self_eq_true, cond_true]
            rw [good_eq (iblk_is hp) (by decide), gi]
            simp only [Option.bind_some, Bool.not_true, cond_false, e1, e2, e3, cond_true]
            exact wakes_tail
          · simp only [l3, if_false, bne_self_eq_false, cond_false, eta]
            have hho : headOk head = true := by
              by_cases h1' : head = 1
              · simp [headOk, h1']
              · have : ¬ (head = 0 ∨ head = 1) := by omega
                simp only [this, if_false, Bool.and_eq_true, decide_eq_true_eq] at hmay'
                exact hmay'.2.2
            have gd : blkOk (dblk id o ls head) = true := by
              unfold blkOk dblk
              have n1 : ¬ ((2 : Int) = 1) := by decide
              simp only [n1, if_false, if_true]
              simp only [hid.1, hid.2, and_self, decide_true, Bool.true_and, d1, d2, d3, d4, ne_eq, hh0, not_false_eq_true, hho]
            rw [good_eq (dblk_is (dres_bytes hp.2 hd)) (by decide), gd]
            have k1 : ((dblk id o ls head).2 != id) = false := by simp [dblk]
            have k2 : ((dblk id o ls head).1 != 2) = false := rfl
            have k3 : ((2 : Int) == 1) = false := rfl
            simp only [Option.bind_some, Bool.not_true, cond_false, k1, k2, k3]
            have q1 : (dblk id o ls head).4 = o := rfl
            have q2 : (dblk id o ls head).5 = ls := rfl
            have q3 : (dblk id o ls head).6 = head := rfl
            rw [q1, q2, q3, apply_eq (by omega)]
            have hfit : fitB o ls.length = true := by unfold fitB; simp only [decide_eq_true_eq]; omega
            have e5 : (head != 0) = true := by simp [bne, beq_ne hh0]
            have e6 : decide (len < 3) = true := by simp; omega
            unfold ares
            simp only [hfit, if_true, d5, Option.bind_some, beq_self_eq_true, cond_true, decide_true, e5, e6]
            exact wakes_tail
theorem policyMakes : Rows.PolicyMakesCardSaid := policyMakes_card (policyMakes_row fun a0 a1 a2 h0 h1 hp => policyMakes_plain a0 a1 a2 h0 h1.2.2.1.1 hp)
end Go.Proofs.YtpnnmpdjgnbkhaaDoor.W
