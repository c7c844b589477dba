/-
  PolicyChains: for every input that the statement lets in the law returns true; its tied card. No conditions.
-/
import Derived.Test.YtpnnmpdjgnbkhaaDoorVR
set_option linter.unusedVariables false
namespace Go.Proofs.YtpnnmpdjgnbkhaaDoor.W
open Go V
namespace Su
/-! ### marks, summaries: what the functions come to -/
abbrev Mark := T87
def zmark : Mark := T87.mk 0 0
/-- a mark that may be -/
def markOk (m : Mark) : Bool := decide (1 ≤ m.Kind) && decide (m.Kind ≤ 5) && decide (0 ≤ m.Id) && (if m.Kind = 3 then decide (m.Id < 8) else decide (m.Id < 64))
def byte (x : Int) : Int := x % 256
def markBytes (l : List Mark) : List Int := l.flatMap fun m => [byte m.Kind, byte m.Id]

/-- what a list's length is, as a number of the machine -/
def Short {α : Type} (l : List α) : Prop := l.length ≤ 1000000

def isBlock (m : Mark) : Bool := decide (1 ≤ m.Kind) && decide (m.Kind ≤ 3)

/-! ### the sector of a summary -/
def zeros : List Int := List.replicate 64 0
def seqByte (seq : Int) (j : Nat) : Int := IntKind.u8.wrap (seq.fdiv (2 ^ (8 * j)))
def hdr (seq : Int) (more : Bool) (n : Nat) : List Int := [83, bif more then 1 else 0, IntKind.u8.wrap seq, seqByte seq 1, seqByte seq 2, seqByte seq 3, IntKind.u8.wrap n]
def fits (l : List Mark) : Bool := decide (1 ≤ l.length) && decide (l.length ≤ 24) && l.all markOk
def wb (l : List Mark) : List Int := l.flatMap fun m => [IntKind.u8.wrap m.Kind, IntKind.u8.wrap m.Id]
def sector (seq : Int) (more : Bool) (l : List Mark) : List Int := hdr seq more l.length ++ wb l ++ List.replicate (57 - 2 * l.length) 0

def fill : List Int → Nat → List Mark → List Int
  | x, _, [] => x
  | x, i, m :: r => fill ((x.set (7 + 2 * i) (IntKind.u8.wrap m.Kind)).set (8 + 2 * i) (IntKind.u8.wrap m.Id)) (i + 1) r

theorem fill_eq : ∀ (l : List Mark) (pre : List Int) (i r : Nat), pre.length = 7 + 2 * i → fill (pre ++ List.replicate (2 * l.length + r) 0) i l = pre ++ wb l ++ List.replicate r 0 := by
  intro l
  induction l with
  | nil => intro pre i r _; simp [fill, wb]
  | cons m l ih =>
    intro pre i r h
    have e1 : List.replicate (2 * (m :: l).length + r) (0 : Int) = 0 :: 0 :: List.replicate (2 * l.length + r) 0 := by
      rw [show 2 * (m :: l).length + r = (2 * l.length + r) + 1 + 1 by simp; omega, List.replicate_succ, List.replicate_succ]
    simp only [fill, e1]
    have s1 : (pre ++ 0 :: 0 :: List.replicate (2 * l.length + r) (0 : Int)).set (7 + 2 * i) (IntKind.u8.wrap m.Kind) = pre ++ IntKind.u8.wrap m.Kind :: 0 :: List.replicate (2 * l.length + r) 0 := by
      rw [List.set_append_right _ _ (by omega), show 7 + 2 * i - pre.length = 0 by omega]; rfl
    have s2 : (pre ++ IntKind.u8.wrap m.Kind :: 0 :: List.replicate (2 * l.length + r) (0 : Int)).set (8 + 2 * i) (IntKind.u8.wrap m.Id) = pre ++ IntKind.u8.wrap m.Kind :: IntKind.u8.wrap m.Id :: List.replicate (2 * l.length + r) 0 := by
      rw [List.set_append_right _ _ (by omega), show 8 + 2 * i - pre.length = 1 by omega]; rfl
    rw [s1, s2]
    have := ih (pre ++ [IntKind.u8.wrap m.Kind, IntKind.u8.wrap m.Id]) (i + 1) r (by simp; omega)
    simp only [List.append_assoc, List.cons_append, List.nil_append] at this
    rw [this]
    simp [wb]

theorem wb_length (l : List Mark) : (wb l).length = 2 * l.length := by
  induction l with
  | nil => rfl
  | cons m l ih => simp only [wb, List.flatMap_cons, List.length_append] at ih ⊢; rw [ih]; simp; omega

theorem roomMost_ge {n : Nat} (h : n ≤ 4294967296) : decide (n ≤ roomMost) = true := decide_eq_true h

theorem sector_splice {seq : Int} {more : Bool} {l : List Mark} (hl : l.length ≤ 24) :
    splice (List.replicate 64 (0 : Int)) (hdr seq more l.length ++ wb l) (Int.toNat 0) (min (hdr seq more l.length ++ wb l).length (((64 : Nat) : Int) - 0).toNat) = sector seq more l := by
  have hlen : (hdr seq more l.length ++ wb l).length = 7 + 2 * l.length := by rw [List.length_append, wb_length]; rfl
  rw [hlen]
  have : min (7 + 2 * l.length) (((64 : Nat) : Int) - 0).toNat = 7 + 2 * l.length := by omega
  rw [this]
  unfold splice sector
  rw [List.take_of_length_le (by omega : (hdr seq more l.length ++ wb l).length ≤ 7 + 2 * l.length)]
  have e0 : Int.toNat 0 = 0 := rfl
  rw [e0, List.take_zero, List.nil_append, List.drop_replicate]
  congr 2
  omega

/-! ### reading a sector -/
theorem or_step {v b : Int} {j : Nat} (hj : j ≤ 24) (hv : 0 ≤ v ∧ v < 2 ^ j) (hb : 0 ≤ b ∧ b ≤ 255) :
    IntKind.u32.wrap ((BitVec.ofInt IntKind.u32.bits v ||| BitVec.ofInt IntKind.u32.bits (IntKind.u32.wrap (IntKind.u32.wrap b * 2 ^ j))).toNat : Int) = v + b * 2 ^ j := by
  obtain ⟨vn, rfl⟩ := Int.eq_ofNat_of_zero_le hv.1
  obtain ⟨bn, rfl⟩ := Int.eq_ofNat_of_zero_le hb.1
  have hvn : vn < 2 ^ j := by exact_mod_cast hv.2
  have hbn : bn ≤ 255 := by have := hb.2; omega
  have hp : (2 : Nat) ^ j ≤ 2 ^ 24 := Nat.pow_le_pow_right (by decide) hj
  have h24 : (2 : Nat) ^ 24 = 16777216 := by decide
  have hmul : bn * 2 ^ j ≤ 255 * 16777216 := Nat.mul_le_mul hbn (by omega)
  have e1 : IntKind.u32.wrap (bn : Int) = bn := by rw [w32_eq]; omega
  have e2 : (bn : Int) * 2 ^ j = ((bn * 2 ^ j : Nat) : Int) := by push_cast; rfl
  have e3 : IntKind.u32.wrap ((bn * 2 ^ j : Nat) : Int) = ((bn * 2 ^ j : Nat) : Int) := by rw [w32_eq]; omega
  rw [e1, e2, e3]
  have hbits : IntKind.u32.bits = 32 := rfl
  rw [hbits]
  have t1 : (BitVec.ofInt 32 (vn : Int)).toNat = vn := by
    rw [BitVec.toNat_ofInt]; omega
  have t2 : (BitVec.ofInt 32 ((bn * 2 ^ j : Nat) : Int)).toNat = bn * 2 ^ j := by
    rw [BitVec.toNat_ofInt]; omega
  rw [BitVec.toNat_or, t1, t2]
  have : vn ||| bn * 2 ^ j = vn + bn * 2 ^ j := by
    have := Nat.shiftLeft_add_eq_or_of_lt hvn bn
    rw [Nat.shiftLeft_eq] at this
    rw [Nat.or_comm, ← this, Nat.add_comm]
  rw [this, w32_eq]
  push_cast
  omega

def num4 (a b c d : Int) : Int := a + b * 256 + c * 65536 + d * 16777216
def seqOf (x : List Int) : Int := num4 (x.getD 2 0) (x.getD 3 0) (x.getD 4 0) (x.getD 5 0)
def moreOf (x : List Int) : Bool := x.getD 1 0 == 1
def cntOf (x : List Int) : Nat := min 24 (x.getD 6 0).toNat
def marksOf (x : List Int) (n : Nat) : List Mark := (List.range n).map fun i => T87.mk (x.getD (7 + 2 * i) 0) (x.getD (8 + 2 * i) 0)
def IsSector (x : List Int) : Prop := x.length = 64 ∧ ∀ y ∈ x, 0 ≤ y ∧ y ≤ 255

theorem IsSector.get {x : List Int} (h : IsSector x) (i : Nat) : 0 ≤ x.getD i 0 ∧ x.getD i 0 ≤ 255 := by
  rw [List.getD_eq_getElem?_getD]
  cases hi : x[i]? with
  | none => simp
  | some y => exact h.2 y (List.mem_of_getElem? hi)

theorem marksOf_succ (x : List Int) (n : Nat) : marksOf x (n + 1) = marksOf x n ++ [T87.mk (x.getD (7 + 2 * n) 0) (x.getD (8 + 2 * n) 0)] := by
  simp [marksOf, List.range_succ]

theorem byte_in {x : List Int} (h : IsSector x) (i : Nat) : IntKind.i64.wrap (x.getD i 0) = x.getD i 0 := wI_in (by have := h.get i; omega)

theorem cnt_eq {x : List Int} (hx : IsSector x) : (if (24 : Int) < IntKind.i64.wrap (x.getD (Int.toNat 6) 0) then (24 : Int) else IntKind.i64.wrap (x.getD (Int.toNat 6) 0)) = (cntOf x : Int) := by
  have e : Int.toNat 6 = 6 := rfl
  have := hx.get 6
  rw [e, byte_in hx]
  unfold cntOf
  split <;> omega

/-- what a sector reads as -/
def good (x : List Int) : Bool := fits (marksOf x (cntOf x)) && decide (sector (seqOf x) (moreOf x) (marksOf x (cntOf x)) = x)

theorem take_drop4 {x : List Int} (h : x.length = 64) : List.take ((6 : Int) - (2 : Int)).toNat (List.drop (Int.toNat (2 : Int)) x) = [x.getD 2 0, x.getD 3 0, x.getD 4 0, x.getD 5 0] := by
  have e1 : ((6 : Int) - (2 : Int)).toNat = 4 := rfl
  have e2 : Int.toNat (2 : Int) = 2 := rfl
  rw [e1, e2, drop_cons (i := 2) (0 : Int) (by omega), drop_cons (i := 3) (0 : Int) (by omega), drop_cons (i := 4) (0 : Int) (by omega), drop_cons (i := 5) (0 : Int) (by omega)]
  rfl

/-! ### there and back -/
theorem wb_get : ∀ (l : List Mark) (z : List Int) (i : Nat) (h : i < l.length), (wb l ++ z).getD (2 * i) 0 = IntKind.u8.wrap (l[i]).Kind ∧ (wb l ++ z).getD (2 * i + 1) 0 = IntKind.u8.wrap (l[i]).Id := by
  intro l
  induction l with
  | nil => intro z i h; simp at h
  | cons m l ih =>
    intro z i h
    have e : wb (m :: l) ++ z = IntKind.u8.wrap m.Kind :: IntKind.u8.wrap m.Id :: (wb l ++ z) := by simp [wb]
    rw [e]
    cases i with
    | zero => exact ⟨rfl, rfl⟩
    | succ i =>
      have := ih z i (by simpa using h)
      rw [show 2 * (i + 1) = 2 * i + 1 + 1 by omega]
      simpa using this

theorem ok_bytes {m : Mark} (h : markOk m = true) : IntKind.u8.wrap m.Kind = m.Kind ∧ IntKind.u8.wrap m.Id = m.Id ∧ 1 ≤ m.Kind ∧ m.Kind ≤ 5 ∧ 0 ≤ m.Id ∧ m.Id < 64 := by
  unfold markOk at h
  simp only [Bool.and_eq_true, decide_eq_true_eq] at h
  obtain ⟨⟨⟨h1, h2⟩, h3⟩, h4⟩ := h
  have h5 : m.Id < 64 := by
    split at h4
    · have := of_decide_eq_true h4; omega
    · exact of_decide_eq_true h4
  rw [w8_eq, w8_eq]
  exact ⟨by omega, by omega, h1, h2, h3, h5⟩

theorem fits_spec {l : List Mark} (h : fits l = true) : 1 ≤ l.length ∧ l.length ≤ 24 ∧ ∀ m ∈ l, markOk m = true := by
  simp only [fits, Bool.and_eq_true, decide_eq_true_eq, List.all_eq_true] at h
  exact ⟨h.1.1, h.1.2, h.2⟩

theorem seqBytes {seq : Int} (h : 0 ≤ seq ∧ seq < 4294967296) : num4 (IntKind.u8.wrap seq) (seqByte seq 1) (seqByte seq 2) (seqByte seq 3) = seq := by
  unfold num4 seqByte
  simp only [w8_eq]
  rw [Int.fdiv_eq_ediv_of_nonneg _ (by decide), Int.fdiv_eq_ediv_of_nonneg _ (by decide), Int.fdiv_eq_ediv_of_nonneg _ (by decide)]
  have e1 : (2 : Int) ^ (8 * 1) = 256 := by decide
  have e2 : (2 : Int) ^ (8 * 2) = 65536 := by decide
  have e3 : (2 : Int) ^ (8 * 3) = 16777216 := by decide
  rw [e1, e2, e3]
  omega

theorem sector_rt {seq : Int} {more : Bool} {l : List Mark} (hs : 0 ≤ seq ∧ seq < 4294967296) (hf : fits l = true) :
    IsSector (sector seq more l) ∧ seqOf (sector seq more l) = seq ∧ moreOf (sector seq more l) = more ∧ cntOf (sector seq more l) = l.length ∧ marksOf (sector seq more l) l.length = l := by
  obtain ⟨h1, h24, hok⟩ := fits_spec hf
  refine ⟨⟨?_, ?_⟩, seqBytes hs, ?_, ?_, ?_⟩
  · unfold sector
    rw [List.length_append, List.length_append, wb_length, List.length_replicate]
    show 7 + 2 * l.length + (57 - 2 * l.length) = 64
    omega
  · intro y hy
    unfold sector at hy
    rw [List.mem_append, List.mem_append] at hy
    have wr : ∀ z, 0 ≤ IntKind.u8.wrap z ∧ IntKind.u8.wrap z ≤ 255 := fun z => by rw [w8_eq]; omega
    rcases hy with (hy | hy) | hy
    · simp only [hdr, List.mem_cons, List.not_mem_nil, or_false] at hy
      rcases hy with rfl | rfl | rfl | rfl | rfl | rfl | rfl
      · omega
      · cases more <;> decide
      · exact wr _
      · exact wr _
      · exact wr _
      · exact wr _
      · exact wr _
    · simp only [wb, List.mem_flatMap, List.mem_cons, List.not_mem_nil, or_false] at hy
      obtain ⟨m, _, rfl | rfl⟩ := hy <;> exact wr _
    · have := List.eq_of_mem_replicate hy
      omega
  · cases more <;> rfl
  · show min 24 (IntKind.u8.wrap (l.length : Int)).toNat = l.length
    rw [w8_eq]; omega
  · apply List.ext_getElem
    · simp [marksOf]
    · intro i hi1 hi2
      simp only [marksOf, List.getElem_map, List.getElem_range]
      have e1 : (sector seq more l).getD (7 + 2 * i) 0 = (wb l ++ List.replicate (57 - 2 * l.length) 0).getD (2 * i) 0 := by
        unfold sector
        rw [List.append_assoc, List.getD_eq_getElem?_getD, List.getElem?_append_right (by show 7 ≤ _; omega), ← List.getD_eq_getElem?_getD]
        congr 1
        show 7 + 2 * i - 7 = 2 * i
        omega
      have e2 : (sector seq more l).getD (8 + 2 * i) 0 = (wb l ++ List.replicate (57 - 2 * l.length) 0).getD (2 * i + 1) 0 := by
        unfold sector
        rw [List.append_assoc, List.getD_eq_getElem?_getD, List.getElem?_append_right (by show 7 ≤ _; omega), ← List.getD_eq_getElem?_getD]
        congr 1
        show 8 + 2 * i - 7 = 2 * i + 1
        omega
      have hl : i < l.length := hi2
      obtain ⟨g1, g2⟩ := wb_get l (List.replicate (57 - 2 * l.length) 0) i hl
      obtain ⟨b1, b2, _⟩ := ok_bytes (hok l[i] (List.getElem_mem hl))
      rw [e1, e2, g1, g2, b1, b2]

theorem good_sector {seq : Int} {more : Bool} {l : List Mark} (hs : 0 ≤ seq ∧ seq < 4294967296) (hf : fits l = true) : good (sector seq more l) = true := by
  obtain ⟨_, h2, h3, h4, h5⟩ := sector_rt (more := more) hs hf
  unfold good
  rw [h2, h3, h4, h5, hf]
  simp

theorem sector_inj {seq seq' : Int} {more more' : Bool} {l l' : List Mark} (hs : 0 ≤ seq ∧ seq < 4294967296) (hf : fits l = true) (hs' : 0 ≤ seq' ∧ seq' < 4294967296) (hf' : fits l' = true) (h : sector seq more l = sector seq' more' l') : seq = seq' ∧ more = more' ∧ l = l' := by
  obtain ⟨_, h2, h3, h4, h5⟩ := sector_rt (more := more) hs hf
  obtain ⟨_, k2, k3, k4, k5⟩ := sector_rt (more := more') hs' hf'
  rw [h] at h2 h3 h4 h5
  refine ⟨h2.symm.trans k2, h3.symm.trans k3, ?_⟩
  have : l.length = l'.length := h4.symm.trans k4
  rw [this] at h5
  exact h5.symm.trans k5
end Su

/-! ### blocks: plain -/
abbrev Blk := T89
def zpage : List Int := List.replicate 32 0
def zheads : List Int := List.replicate 8 0
def zblk : Blk := .mk 0 0 zpage 0 [] 0 zheads
def headOk (n : Int) : Bool := decide (n = 0) || decide (n = 1) || (decide (4 ≤ n) && decide (n ≤ 1023))
/-- a block that may be -/
def blkOk (b : Blk) : Bool :=
  if b.Kind = 1 then decide (0 ≤ b.Id ∧ b.Id < 64) && decide (b.Heads = zheads) && decide (b.Off = 0 ∧ b.Bytes = [] ∧ b.Prev = 0)
  else if b.Kind = 2 then decide (0 ≤ b.Id ∧ b.Id < 64) && decide (b.Heads = zheads) && decide (b.Page = zpage) &&
    decide (0 ≤ b.Off ∧ 1 ≤ b.Bytes.length ∧ b.Bytes.length ≤ 16 ∧ b.Off ≤ 32 - (b.Bytes.length : Int) ∧ b.Prev ≠ 0) && headOk b.Prev
  else if b.Kind = 3 then decide (0 ≤ b.Id ∧ b.Id < 8) && decide (b.Page = zpage) && decide (b.Off = 0 ∧ b.Bytes = [] ∧ b.Prev = 0) && b.Heads.all headOk
  else false
def IsByte (x : Int) : Prop := 0 ≤ x ∧ x ≤ 255
/-- of a block's type -/
structure IsBlk (b : Blk) : Prop where
  page : b.Page.length = 32 ∧ ∀ x ∈ b.Page, IsByte x
  bytes : ∀ x ∈ b.Bytes, IsByte x
  heads : b.Heads.length = 8
def two (n : Int) : List Int := [IntKind.u8.wrap n, IntKind.u8.wrap (n.fdiv 256)]
def four (n : Int) : List Int := [IntKind.u8.wrap n, IntKind.u8.wrap (n.fdiv 256), IntKind.u8.wrap (n.fdiv 65536), IntKind.u8.wrap (n.fdiv 16777216)]
def bbody (b : Blk) : List Int :=
  if b.Kind = 1 then b.Page
  else if b.Kind = 2 then [IntKind.u8.wrap b.Off, IntKind.u8.wrap (b.Bytes.length : Int)] ++ (b.Bytes ++ (List.replicate (16 - b.Bytes.length) 0 ++ two b.Prev))
  else if b.Kind = 3 then b.Heads.flatMap two
  else []
def bhead (b : Blk) (seq : Int) : List Int := IntKind.u8.wrap b.Kind :: IntKind.u8.wrap b.Id :: four seq
def bsector (b : Blk) (seq : Int) : List Int := bhead b seq ++ (bbody b ++ List.replicate (58 - (bbody b).length) 0)
def val4 (a b c d : Int) : Int := a + 256 * b + 65536 * c + 16777216 * d
def bseq (x : List Int) : Int := val4 (x.getD 2 0) (x.getD 3 0) (x.getD 4 0) (x.getD 5 0)
def blkOf (x : List Int) : Blk :=
  if x.getD 0 0 = 1 then .mk (x.getD 0 0) (x.getD 1 0) ((x.drop 6).take 32) 0 [] 0 zheads
  else if x.getD 0 0 = 2 then .mk (x.getD 0 0) (x.getD 1 0) zpage (x.getD 6 0) ((x.drop 8).take (min 16 (x.getD 7 0).toNat)) (x.getD 24 0 + 256 * x.getD 25 0) zheads
  else if x.getD 0 0 = 3 then .mk (x.getD 0 0) (x.getD 1 0) zpage 0 [] 0 ((List.range 8).map fun i => x.getD (6 + 2 * i) 0 + 256 * x.getD (7 + 2 * i) 0)
  else .mk (x.getD 0 0) (x.getD 1 0) zpage 0 [] 0 zheads
structure IsSec (x : List Int) : Prop where
  len : x.length = 64
  byte : ∀ y ∈ x, IsByte y
theorem IsSec.get {x : List Int} (h : IsSec x) (i : Nat) : 0 ≤ x.getD i 0 ∧ x.getD i 0 ≤ 255 := by
  rw [List.getD_eq_getElem?_getD]
  cases e : x[i]? with
  | none => simp
  | some y => exact h.byte y (List.mem_of_getElem? e)
theorem w8_in {x : Int} (h : 0 ≤ x ∧ x ≤ 255) : IntKind.u8.wrap x = x := by rw [w8_eq]; omega
theorem w8_byte (x : Int) : IsByte (IntKind.u8.wrap x) := by rw [w8_eq]; unfold IsByte; omega
theorem fdiv256 (n : Int) : n.fdiv 256 = n / 256 := Int.fdiv_eq_ediv_of_nonneg _ (by decide)
theorem fdiv65536 (n : Int) : n.fdiv 65536 = n / 65536 := Int.fdiv_eq_ediv_of_nonneg _ (by decide)
theorem fdiv16777216 (n : Int) : n.fdiv 16777216 = n / 16777216 := Int.fdiv_eq_ediv_of_nonneg _ (by decide)
theorem two_val {n : Int} (h : 0 ≤ n ∧ n ≤ 65535) : IntKind.u8.wrap n + 256 * IntKind.u8.wrap (n.fdiv 256) = n := by
  rw [w8_eq, w8_eq, fdiv256]; omega
theorem four_val {n : Int} (h : 0 ≤ n ∧ n < 4294967296) : val4 (IntKind.u8.wrap n) (IntKind.u8.wrap (n.fdiv 256)) (IntKind.u8.wrap (n.fdiv 65536)) (IntKind.u8.wrap (n.fdiv 16777216)) = n := by
  unfold val4
  rw [w8_eq, w8_eq, w8_eq, w8_eq, fdiv256, fdiv65536, fdiv16777216]; omega
theorem headOk_in {n : Int} (h : headOk n = true) : 0 ≤ n ∧ n ≤ 1023 := by
  unfold headOk at h
  simp only [Bool.or_eq_true, Bool.and_eq_true, decide_eq_true_eq] at h
  omega
theorem list8 {l : List Int} (h : l.length = 8) : ∃ a b c d e f g i, l = [a, b, c, d, e, f, g, i] := by
  match l, h with
  | [a, b, c, d, e, f, g, i], _ => exact ⟨a, b, c, d, e, f, g, i, rfl⟩
theorem getD_behind {a : List Int} {n : Nat} (h : a.length = n) (b : List Int) (j : Nat) : (a ++ b).getD (n + j) 0 = b.getD j 0 := by
  subst h
  rw [List.getD_eq_getElem?_getD, List.getElem?_append_right (by omega), show a.length + j - a.length = j by omega, ← List.getD_eq_getElem?_getD]
/-- what a block that may be is, kind by kind -/
theorem blkOk_kinds {b : Blk} (h : blkOk b = true) :
    (b.Kind = 1 ∧ (0 ≤ b.Id ∧ b.Id < 64) ∧ b.Heads = zheads ∧ b.Off = 0 ∧ b.Bytes = [] ∧ b.Prev = 0) ∨
    (b.Kind = 2 ∧ (0 ≤ b.Id ∧ b.Id < 64) ∧ b.Heads = zheads ∧ b.Page = zpage ∧ 0 ≤ b.Off ∧ 1 ≤ b.Bytes.length ∧ b.Bytes.length ≤ 16 ∧ b.Off ≤ 32 - (b.Bytes.length : Int) ∧ b.Prev ≠ 0 ∧ headOk b.Prev = true) ∨
    (b.Kind = 3 ∧ (0 ≤ b.Id ∧ b.Id < 8) ∧ b.Page = zpage ∧ b.Off = 0 ∧ b.Bytes = [] ∧ b.Prev = 0 ∧ ∀ n ∈ b.Heads, headOk n = true) := by
  unfold blkOk at h
  split at h
  · simp only [Bool.and_eq_true, decide_eq_true_eq] at h
    exact .inl ⟨‹_›, h.1.1, h.1.2, h.2.1, h.2.2.1, h.2.2.2⟩
  split at h
  · simp only [Bool.and_eq_true, decide_eq_true_eq] at h
    obtain ⟨⟨⟨⟨h1, h2⟩, h3⟩, h4, h5, h6, h7, h8⟩, h9⟩ := h
    exact .inr (.inl ⟨‹_›, h1, h2, h3, h4, h5, h6, h7, h8, h9⟩)
  split at h
  · simp only [Bool.and_eq_true, decide_eq_true_eq, List.all_eq_true] at h
    obtain ⟨⟨⟨h1, h2⟩, h3⟩, h4⟩ := h
    exact .inr (.inr ⟨‹_›, h1, h2, h3.1, h3.2.1, h3.2.2, h4⟩)
  · cases h
theorem bbody_length {b : Blk} (w : IsBlk b) (h : blkOk b = true) : (bbody b).length = if b.Kind = 1 then 32 else if b.Kind = 2 then 20 else 16 := by
  rcases blkOk_kinds h with ⟨k, _⟩ | ⟨k, _, _, _, _, h1, h2, _⟩ | ⟨k, _⟩
  · simp [bbody, k, w.page.1]
  · simp [bbody, k, two]; omega
  · obtain ⟨a, c, d, e, f, g, i, j, e⟩ := list8 w.heads
    simp [bbody, k, e, two]
theorem bhead_length (b : Blk) (seq : Int) : (bhead b seq).length = 6 := rfl
theorem bsector_length {b : Blk} (w : IsBlk b) (h : blkOk b = true) (seq : Int) : (bsector b seq).length = 64 := by
  have := bbody_length w h
  unfold bsector
  rw [List.length_append, List.length_append, bhead_length, List.length_replicate]
  split at this
  · omega
  split at this <;> omega
theorem bbody_byte {b : Blk} (w : IsBlk b) : ∀ x ∈ bbody b, IsByte x := by
  intro x hx
  unfold bbody at hx
  split at hx
  · exact w.page.2 x hx
  split at hx
  · simp only [List.mem_append, List.mem_cons, two, List.not_mem_nil, or_false] at hx
    rcases hx with (rfl | rfl) | hx | hx | rfl | rfl
    · exact w8_byte _
    · exact w8_byte _
    · exact w.bytes x hx
    · rw [List.eq_of_mem_replicate hx]; unfold IsByte; omega
    · exact w8_byte _
    · exact w8_byte _
  split at hx
  · simp only [List.mem_flatMap, two, List.mem_cons, List.not_mem_nil, or_false] at hx
    obtain ⟨m, _, rfl | rfl⟩ := hx <;> exact w8_byte _
  · cases hx
theorem bsector_sec {b : Blk} (w : IsBlk b) (h : blkOk b = true) (seq : Int) : IsSec (bsector b seq) := by
  refine ⟨bsector_length w h seq, fun x hx => ?_⟩
  unfold bsector bhead four at hx
  simp only [List.mem_append, List.mem_cons, List.not_mem_nil, or_false] at hx
  rcases hx with (rfl | rfl | rfl | rfl | rfl | rfl) | hx | hx
  iterate 6 exact w8_byte _
  · exact bbody_byte w x hx
  · rw [List.eq_of_mem_replicate hx]; unfold IsByte; omega
/-- a place behind the head -/
theorem bsector_at (b : Blk) (seq : Int) (i : Nat) : (bsector b seq).getD (6 + i) 0 = (bbody b).getD i 0 := by
  unfold bsector
  rw [List.getD_eq_getElem?_getD, List.getElem?_append_right (by rw [bhead_length]; omega), bhead_length, show 6 + i - 6 = i by omega]
  by_cases h : i < (bbody b).length
  · rw [List.getElem?_append_left h, ← List.getD_eq_getElem?_getD]
  · rw [List.getElem?_append_right (by omega), List.getElem?_replicate, List.getD_eq_getElem?_getD, List.getElem?_eq_none (by omega)]
    split <;> rfl
theorem bsector_drop (b : Blk) (seq : Int) : (bsector b seq).drop 6 = bbody b ++ List.replicate (58 - (bbody b).length) 0 := by
  unfold bsector
  rw [List.drop_append, bhead_length]
  simp [bhead_length]
theorem bsector_seq {b : Blk} {seq : Int} (hs : 0 ≤ seq ∧ seq < 4294967296) : bseq (bsector b seq) = seq := four_val hs
/-- a sector of a block is read as it -/
theorem blkOf_bsector {b : Blk} (w : IsBlk b) (h : blkOk b = true) (seq : Int) : blkOf (bsector b seq) = b := by
  have h0 : (bsector b seq).getD 0 0 = IntKind.u8.wrap b.Kind := rfl
  have h1 : (bsector b seq).getD 1 0 = IntKind.u8.wrap b.Id := rfl
  have at_ := bsector_at b seq
  have dr := bsector_drop b seq
  have bl := bbody_length w h
  generalize bsector b seq = x at h0 h1 at_ dr
  obtain ⟨kind, id, page, off, bytes, prev, heads⟩ := b
  rcases blkOk_kinds h with ⟨k, i, hh, ho, hb, hp⟩ | ⟨k, i, hh, hpg, ho, hl1, hl2, ho2, hp, hph⟩ | ⟨k, i, hpg, ho, hb, hp, hall⟩
  · simp only at k i hh ho hb hp
    subst k hh ho hb hp
    have e0 : x.getD 0 0 = 1 := h0
    have e1 : x.getD 1 0 = id := by rw [h1]; exact w8_in (by simp only; omega)
    unfold blkOf
    rw [if_pos e0, e0, e1, dr]
    have : (bbody (.mk 1 id page 0 [] 0 zheads)) = page := rfl
    rw [this]
    have hl : page.length = 32 := w.page.1
    rw [← hl, List.take_left]
  · simp only at k i hh ho hp hpg hl1 hl2 ho2 hph
    subst k hh hpg
    have hpi := headOk_in hph
    have e0 : x.getD 0 0 = 2 := h0
    have e1 : x.getD 1 0 = id := by rw [h1]; exact w8_in (by simp only; omega)
    have e6 : x.getD 6 0 = off := by rw [at_ 0]; exact w8_in (by simp only; omega)
    have e7 : x.getD 7 0 = bytes.length := by rw [at_ 1]; exact w8_in (by simp only; omega)
    have body : bbody (.mk 2 id zpage off bytes prev zheads) = [IntKind.u8.wrap off, IntKind.u8.wrap (bytes.length : Int)] ++ (bytes ++ (List.replicate (16 - bytes.length) 0 ++ two prev)) := rfl
    have d8 : x.drop 8 = bytes ++ ((List.replicate (16 - bytes.length) 0 ++ two prev) ++ List.replicate (58 - (bbody (.mk 2 id zpage off bytes prev zheads)).length) 0) := by
      rw [show x.drop 8 = (x.drop 6).drop 2 by rw [List.drop_drop], dr, body]
      simp
    have ee : ∀ j, x.getD (24 + j) 0 = (two prev).getD j 0 := by
      intro j
      rw [show 24 + j = 6 + (2 + (bytes.length + ((16 - bytes.length) + j))) by omega, at_, body, getD_behind (n := 2) rfl, getD_behind (n := bytes.length) rfl, getD_behind (n := 16 - bytes.length) (by simp)]
    have e24 : x.getD 24 0 = IntKind.u8.wrap prev := ee 0
    have e25 : x.getD 25 0 = IntKind.u8.wrap (prev.fdiv 256) := ee 1
    unfold blkOf
    rw [if_neg (by rw [e0]; decide), if_pos e0, e0, e1, e6, e7, e24, e25, two_val (by omega), d8]
    have : min 16 (bytes.length : Int).toNat = bytes.length := by omega
    rw [this, List.take_left]
  · simp only at k i ho hb hp hpg hall
    subst k hpg ho hb hp
    have e0 : x.getD 0 0 = 3 := h0
    have e1 : x.getD 1 0 = id := by rw [h1]; exact w8_in (by simp only; omega)
    unfold blkOf
    rw [if_neg (by rw [e0]; decide), if_neg (by rw [e0]; decide), if_pos e0, e0, e1]
    have hl : heads.length = 8 := w.heads
    obtain ⟨a, b, c, d, e, f, g, j, rfl⟩ := list8 hl
    have key : (List.range 8).map (fun i => x.getD (6 + 2 * i) 0 + 256 * x.getD (7 + 2 * i) 0) = [a, b, c, d, e, f, g, j] := by
      simp only [List.mem_cons, List.not_mem_nil, or_false, forall_eq_or_imp, forall_eq] at hall
      obtain ⟨p1, p2, p3, p4, p5, p6, p7, p8⟩ := hall
      have hv : ∀ {n : Int}, headOk n = true → IntKind.u8.wrap n + 256 * IntKind.u8.wrap (n.fdiv 256) = n := fun h => two_val (by have := headOk_in h; omega)
      rw [← hv p1, ← hv p2, ← hv p3, ← hv p4, ← hv p5, ← hv p6, ← hv p7, ← hv p8]
      simp only [List.range, List.range.loop, List.map_cons, List.map_nil]
      rw [show 7 + 2 * 0 = 6 + 1 from rfl, show 7 + 2 * 1 = 6 + 3 from rfl, show 7 + 2 * 2 = 6 + 5 from rfl, show 7 + 2 * 3 = 6 + 7 from rfl, show 7 + 2 * 4 = 6 + 9 from rfl, show 7 + 2 * 5 = 6 + 11 from rfl, show 7 + 2 * 6 = 6 + 13 from rfl, show 7 + 2 * 7 = 6 + 15 from rfl]
      simp only [at_]
      simp only [hv p1, hv p2, hv p3, hv p4, hv p5, hv p6, hv p7, hv p8]
      rw [show bbody (.mk 3 id zpage 0 [] 0 [a, b, c, d, e, f, g, j]) = [a, b, c, d, e, f, g, j].flatMap two from rfl]
      simp only [List.flatMap_cons, two]
      simp [hv p1, hv p2, hv p3, hv p4, hv p5, hv p6, hv p7, hv p8]
    rw [key]
/-- what a sector reads as -/
def secOk (x : List Int) : Bool := blkOk (blkOf x) && decide (bsector (blkOf x) (bseq x) = x)
theorem secOk_bsector {b : Blk} {seq : Int} (w : IsBlk b) (h : blkOk b = true) (hs : 0 ≤ seq ∧ seq < 4294967296) : secOk (bsector b seq) = true := by
  unfold secOk
  rw [blkOf_bsector w h, bsector_seq hs, h]
  simp
theorem bsector_inj {b c : Blk} {m n : Int} (w : IsBlk b) (h : blkOk b = true) (hm : 0 ≤ m ∧ m < 4294967296) (w' : IsBlk c) (h' : blkOk c = true) (hn : 0 ≤ n ∧ n < 4294967296) : bsector b m = bsector c n ↔ b = c ∧ m = n := by
  constructor
  · intro e
    have e1 := blkOf_bsector w h m
    have e2 := bsector_seq (b := b) hm
    rw [e, blkOf_bsector w' h'] at e1
    rw [e, bsector_seq hn] at e2
    exact ⟨e1.symm, e2.symm⟩
  · rintro ⟨rfl, rfl⟩; rfl
theorem IsSec.mem_drop {x : List Int} (h : IsSec x) {n : Nat} : ∀ y ∈ x.drop n, IsByte y := fun y hy => h.byte y (List.mem_of_mem_drop hy)
theorem blkOf_is {x : List Int} (h : IsSec x) : IsBlk (blkOf x) := by
  have hz : zpage.length = 32 ∧ ∀ y ∈ zpage, IsByte y := ⟨by simp [zpage], fun y hy => by rw [List.eq_of_mem_replicate hy]; unfold IsByte; omega⟩
  have hn : ∀ y ∈ ([] : List Int), IsByte y := fun y hy => by cases hy
  have hh : zheads.length = 8 := by simp [zheads]
  unfold blkOf
  split
  · exact ⟨⟨by simp [h.len], fun y hy => h.mem_drop y (List.mem_of_mem_take hy)⟩, hn, hh⟩
  split
  · exact ⟨hz, fun y hy => h.mem_drop y (List.mem_of_mem_take hy), hh⟩
  split
  · exact ⟨hz, hn, by simp⟩
  · exact ⟨hz, hn, hh⟩
theorem val4_in {a b c d : Int} (ha : 0 ≤ a ∧ a ≤ 255) (hb : 0 ≤ b ∧ b ≤ 255) (hc : 0 ≤ c ∧ c ≤ 255) (hd : 0 ≤ d ∧ d ≤ 255) : 0 ≤ val4 a b c d ∧ val4 a b c d < 4294967296 := by unfold val4; omega
theorem bseq_in {x : List Int} (h : IsSec x) : 0 ≤ bseq x ∧ bseq x < 4294967296 := val4_in (h.get 2) (h.get 3) (h.get 4) (h.get 5)

/-! ### blocks: what the functions come to -/
theorem beq_ne {a b : Int} (h : ¬ a = b) : (a == b) = false := beq_eq_false_iff_ne.2 h
theorem head_eq (k : Nat) (n : Int) : F76 k (n, ()) = some (headOk n) := by
  unfold F76 headOk
  simp only
  by_cases h0 : n = 0
  · simp [h0]
  by_cases h1 : n = 1
  · simp [h1]
  by_cases h4 : 4 ≤ n
  · simp [h0, h1, h4, beq_ne h0, beq_ne h1]
  · simp [h0, h1, h4, beq_ne h0, beq_ne h1]
theorem rhead_eq (k : Nat) (n : Int) : F98 k (n, ()) = some (headOk n) := by
  unfold F98 headOk
  simp only
  by_cases h0 : n = 0
  · simp [h0]
  by_cases h1 : n = 1
  · simp [h1]
  by_cases h4 : 4 ≤ n
  · simp [h0, h1, h4, beq_ne h0, beq_ne h1]
  · simp [h0, h1, h4, beq_ne h0, beq_ne h1]
def plainB (b : Blk) : Bool :=
  bif b.Kind == 1 then decide (b.Heads = zheads) && (b.Off == 0 && ((b.Bytes.length : Int) == 0 && b.Prev == 0))
  else bif b.Kind == 2 then decide (b.Heads = zheads) && decide (b.Page = zpage)
  else decide (b.Page = zpage) && (b.Off == 0 && ((b.Bytes.length : Int) == 0 && b.Prev == 0))
theorem plain_eq (k : Nat) (b : Blk) : F75 k (b, ()) = some (plainB b) := by
  unfold F75 plainB zheads zpage
  simp only
  generalize (b.Off == 0) = A
  generalize ((b.Bytes.length : Int) == 0) = B
  generalize (b.Kind == 1) = C
  generalize (b.Kind == 2) = D
  generalize decide (b.Heads = List.replicate 8 0) = H
  generalize decide (b.Page = List.replicate 32 0) = G
  generalize (b.Prev == 0) = Q
  cases A <;> cases B <;> cases C <;> cases D <;> cases H <;> cases G <;> cases Q <;> rfl
theorem bad_loop {k n : Nat} {l : List Int} (hl : l.length ≤ 100) (hn : l.length < n) :
    ∃ o, L95_2 k n (l, l.length, 0) = some o ∧ (match o with | .inl i => 0 ≤ i ∧ l.all headOk = false | .inr _ => l.all headOk = true) := by
  unfold L95_2
  have := iter_post (R := R95_2 k) (fun x : List Int × Int × Int => x.1.length ≤ 100 ∧ x.2.1 = x.1.length ∧ 0 ≤ x.2.2 ∧ x.2.2 ≤ x.1.length)
    (fun x => x.1.length - x.2.2.toNat) (fun x (o : Int ⊕ Unit) => match o with | .inl i => 0 ≤ i ∧ (x.1.drop x.2.2.toNat).all headOk = false | .inr _ => (x.1.drop x.2.2.toNat).all headOk = true) (fun x h => by
      obtain ⟨l, len, i⟩ := x
      obtain ⟨h0, h1, h2, h3⟩ := h
      simp only at h0 h1 h2 h3
      subst h1
      by_cases hi : i < l.length
      · have hnat : i.toNat < l.length := by omega
        have e1 : IntKind.i64.wrap (i + 1) = i + 1 := wI_in (by omega)
        have e3 : (i + 1).toNat = i.toNat + 1 := by omega
        have hd := drop_cons (0 : Int) hnat
        have hR : ∀ again, R95_2 k again (l, (l.length : Int), i) = if headOk (l.getD i.toNat 0) = true then again (l, (l.length : Int), i + 1) else some (.inl i) := by
          intro again
          unfold R95_2 F78
          simp only [hi, decide_true, cond_true, inRange_true ⟨h2, hi⟩, head_eq, Option.bind_some, e1]
          cases headOk (l.getD i.toNat 0) <;> rfl
        by_cases hb : headOk (l.getD i.toNat 0) = true
        · right
          refine ⟨(l, l.length, i + 1), fun again => by rw [hR, if_pos hb], ⟨h0, rfl, by simp only; omega, by simp only; omega⟩, by simp only; omega, fun o ho => ?_⟩
          simp only [e3, hd, List.all_cons, hb, Bool.true_and] at ho ⊢
          exact ho
        · left
          refine ⟨.inl i, fun again => by rw [hR, if_neg hb], h2, ?_⟩
          simp only [hd, List.all_cons]
          simp only [Bool.not_eq_true] at hb
          rw [hb]; rfl
      · left
        refine ⟨.inr (), fun again => ?_, ?_⟩
        · unfold R95_2
          simp only [hi, decide_false, cond_false]
        · simp only
          rw [List.drop_eq_nil_of_le (by omega)]
          rfl) n (l, (l.length : Int), 0) ⟨hl, rfl, by simp, by simp⟩ (by simpa using hn)
  simpa using this
theorem bad_eq {k : Nat} {l : List Int} (hl : l.length ≤ 100) (hk : l.length < k) : F77 k (l, (), ()) = some (!(l.all headOk)) := by
  unfold F77 F95
  simp only
  obtain ⟨o, h1, h2⟩ := bad_loop (k := k) hl hk
  rw [h1]
  simp only [Option.bind_some]
  cases o with
  | inl i =>
    simp only at h2
    simp only [sumK, Option.bind_some, h2.2]
    simp [h2.1]
  | inr u =>
    simp only at h2
    simp only [sumK, Option.bind_some, h2]
    rfl
theorem nilB {l : List Int} : ((l.length : Int) == 0) = decide (l = []) := by
  cases l with
  | nil => rfl
  | cons a r => simp; omega
theorem good_eq {k : Nat} {b : Blk} (w : IsBlk b) (hk : 8 < k) : F47 k (b, ()) = some (blkOk b) := by
  obtain ⟨kind, id, page, off, bytes, prev, heads⟩ := b
  have hh : heads.length = 8 := w.heads
  unfold F47
  simp only [plain_eq, head_eq, Option.bind_some]
  have e8 : List.take ((((8 : Nat) : Int) - (0 : Int)).toNat) (List.drop (Int.toNat (0 : Int)) heads) = heads := by
    have : ((((8 : Nat) : Int) - (0 : Int)).toNat) = heads.length := by rw [hh]; rfl
    rw [this]; simp
  rw [e8, bad_eq (by omega) (by omega)]
  simp only [Option.bind_some, Bool.not_not]
  unfold blkOk plainB
  simp only [nilB]
  by_cases i0 : id < 0
  · have e : ¬ 0 ≤ id := by omega
    simp [i0, e]
  have i0' : 0 ≤ id := by omega
  by_cases k1 : kind = 1
  · subst k1
    simp only [i0, decide_false, cond_false]
    by_cases h4 : prev = 0 <;> by_cases h2 : off = 0 <;> by_cases h1 : heads = zheads <;> by_cases h3 : bytes = [] <;> simp [h1, h3, i0', beq_ne, h2, h4]
  by_cases k2 : kind = 2
  · subst k2
    simp only [i0, decide_false, cond_false]
    by_cases h1 : heads = zheads
    · by_cases h2 : page = zpage
      · by_cases o0 : off < 0
        · have e : ¬ 0 ≤ off := by omega
          simp [h1, h2, o0, e]
        have o0' : 0 ≤ off := by omega
        by_cases l1 : (bytes.length : Int) < 1
        · have e : ¬ 1 ≤ bytes.length := by omega
          simp [h1, h2, o0, l1, e]
        have l1' : 1 ≤ bytes.length := by omega
        by_cases l16 : (bytes.length : Int) > 16
        · have e : ¬ bytes.length ≤ 16 := by omega
          have l16' : 16 < (bytes.length : Int) := l16
          simp [h1, h2, o0, l1, l16, e]
        have l16' : bytes.length ≤ 16 := by omega
        have w32 : IntKind.i64.wrap (32 - (bytes.length : Int)) = 32 - bytes.length := wI_in (by omega)
        simp only [h1, h2, o0, l1, l16, w32]
        by_cases o32 : off > 32 - (bytes.length : Int)
        · have e : ¬ off ≤ 32 - (bytes.length : Int) := by omega
          simp [o32, e]
        have o32' : off ≤ 32 - (bytes.length : Int) := by omega
        by_cases p0 : prev = 0
        · simp [p0, o32]
        cases hp : headOk prev <;> simp [p0, o32, o0', l1', l16', o32', i0', beq_ne p0]
      · simp [h1, h2]
    · simp [h1]
  by_cases k3 : kind = 3
  · subst k3
    simp only [i0, decide_false, cond_false]
    by_cases h1 : page = zpage <;> by_cases h2 : off = 0 <;> by_cases h3 : bytes = [] <;> by_cases h4 : prev = 0 <;> by_cases h5 : id < 8 <;> simp [h1, h3, h5, i0', beq_ne, h2, h4]
  · have b1 : (kind == 1) = false := beq_eq_false_iff_ne.2 k1
    have b2 : (kind == 2) = false := beq_eq_false_iff_ne.2 k2
    have b3 : (kind == 3) = false := beq_eq_false_iff_ne.2 k3
    simp only [i0, b1, b2, b3, k1, k2, k3, decide_false, cond_false, if_false]
    generalize (decide (page = zpage) && (off == 0 && (decide (bytes = []) && prev == 0))) = X
    cases X <;> rfl

theorem rgood_loop {k n : Nat} {g : Bool} {a b d f : Int} {c e l : List Int} (hl : l.length = 8) (hn : 8 < n) :
    L87_10 k n (g, 0, a, b, c, d, e, f, l) = some (if l.all headOk = true then .inr (g, a, b, c, d, e, f, l) else .inl (false, g, a, b, c, d, e, f, l)) := by
  unfold L87_10
  have := iter_out (R := R87_10 k) (fun x : Bool × Int × Int × Int × List Int × Int × List Int × Int × List Int => x.1 = g ∧ x.2.2 = (a, b, c, d, e, f, l) ∧ 0 ≤ x.2.1 ∧ x.2.1 ≤ 8)
    (fun x => 8 - x.2.1.toNat) (fun x => if (l.drop x.2.1.toNat).all headOk = true then .inr (g, a, b, c, d, e, f, l) else .inl (false, g, a, b, c, d, e, f, l)) (fun x h => by
      obtain ⟨g', i, r⟩ := x
      obtain ⟨h1, h2, h3, h4⟩ := h
      simp only at h1 h2 h3 h4
      subst h1 h2
      by_cases hi : i < 8
      · have hnat : i.toNat < l.length := by omega
        have e1 : IntKind.i64.wrap (i + 1) = i + 1 := wI_in (by omega)
        have e3 : (i + 1).toNat = i.toNat + 1 := by omega
        have hd := drop_cons (0 : Int) hnat
        have hR : ∀ again, R87_10 k again (g', i, a, b, c, d, e, f, l) = if headOk (l.getD i.toNat 0) = true then again (g', i + 1, a, b, c, d, e, f, l) else some (.inl (false, g', a, b, c, d, e, f, l)) := by
          intro again
          unfold R87_10
          simp only [hi, decide_true, cond_true, inRange_true (i := i) (n := 8) ⟨h3, hi⟩, rhead_eq, Option.bind_some, e1]
          cases headOk (l.getD i.toNat 0) <;> rfl
        by_cases hb : headOk (l.getD i.toNat 0) = true
        · right
          refine ⟨(g', i + 1, a, b, c, d, e, f, l), fun again => by rw [hR, if_pos hb], ⟨rfl, rfl, by simp only; omega, by simp only; omega⟩, by simp only; omega, ?_⟩
          simp only [e3, hd, List.all_cons, hb, Bool.true_and]
        · left
          intro again
          rw [hR, if_neg hb]
          simp only [Bool.not_eq_true] at hb
          simp only [hd, List.all_cons, hb]
          simp
      · left
        intro again
        unfold R87_10
        simp only [hi, decide_false, cond_false]
        rw [List.drop_eq_nil_of_le (by omega)]
        rfl) (n := n) (x := (g, 0, a, b, c, d, e, f, l)) ⟨rfl, rfl, by simp, by simp⟩ (by simpa using hn)
  simpa using this
theorem rgood_eq {k : Nat} {b : Blk} (w : IsBlk b) (hk : 8 < k) : F87 k (b, ()) = some (blkOk b) := by
  obtain ⟨kind, id, page, off, bytes, prev, heads⟩ := b
  have hh : heads.length = 8 := w.heads
  unfold F87
  simp only [rgood_loop hh hk, rhead_eq, Option.bind_some, nilB]
  rw [show List.replicate 8 (0 : Int) = zheads from rfl, show List.replicate 32 (0 : Int) = zpage from rfl]
  unfold blkOk
  simp only
  by_cases k1 : kind = 1
  · subst k1
    by_cases i0 : 0 ≤ id
    · by_cases h4 : prev = 0 <;> by_cases h2 : off = 0 <;> by_cases h1 : heads = zheads <;> by_cases h3 : bytes = [] <;> by_cases h5 : id < 64 <;> simp [h1, h2, h3, h4, h5, i0, beq_ne]
    · simp [i0]
  by_cases k2 : kind = 2
  · subst k2
    have n21 : ((2 : Int) == 1) = false := rfl
    have n22 : ((2 : Int) == 2) = true := rfl
    simp only [n21, n22, cond_false, cond_true, Bool.cond_self, show ¬ ((2 : Int) = 1) by decide, if_false, if_true]
    by_cases i0 : 0 ≤ id
    · by_cases i64 : id < 64
      · by_cases h2 : page = zpage
        · by_cases h1 : heads = zheads
          · by_cases o0 : 0 ≤ off
            · by_cases o32 : off < 32
              · have w32 : IntKind.i64.wrap (32 - off) = 32 - off := wI_in (by omega)
                by_cases l1 : 1 ≤ bytes.length
                · by_cases l16 : bytes.length ≤ 16
                  · have l1' : (bytes.length : Int) ≥ 1 := by omega
                    have l16' : (bytes.length : Int) ≤ 16 := by omega
                    simp only [w32]
                    by_cases lo : (bytes.length : Int) ≤ 32 - off
                    · have lo' : off ≤ 32 - (bytes.length : Int) := by omega
                      by_cases p0 : prev = 0
                      · simp [p0]
                      · cases hp : headOk prev <;> simp [i0, i64, h2, h1, o0, o32, l1, l16, l1', l16', lo, lo', p0, beq_ne p0, bne]
                    · have lo' : ¬ off ≤ 32 - (bytes.length : Int) := by omega
                      simp [lo, lo']
                  · have l16' : ¬ (bytes.length : Int) ≤ 16 := by omega
                    simp [l16, l16']
                · have l1' : ¬ (bytes.length : Int) ≥ 1 := by omega
                  have l1'' : bytes = [] := List.eq_nil_of_length_eq_zero (by omega)
                  simp [l1'']
              · have : ¬ ((1 ≤ bytes.length) ∧ off ≤ 32 - (bytes.length : Int)) := by omega
                by_cases l1 : 1 ≤ bytes.length
                · have lo' : ¬ off ≤ 32 - (bytes.length : Int) := by omega
                  simp [o32, lo']
                · simp [o32, l1]
            · simp [o0]
          · simp [h1]
        · simp [h2]
      · simp [i64]
    · simp [i0]
  by_cases k3 : kind = 3
  · subst k3
    cases hall : heads.all headOk
    · simp [sumK]
    · simp only [if_true, sumK]
      by_cases i0 : 0 ≤ id
      · by_cases h1 : page = zpage <;> by_cases h2 : off = 0 <;> by_cases h3 : bytes = [] <;> by_cases h4 : prev = 0 <;> by_cases h5 : id < 8 <;> simp [h1, h2, h3, h4, h5, i0, beq_ne]
      · simp [i0]
  · simp [k1, k2, k3, beq_ne]

/-! ### sectors -/
theorem take_drop0 {l : List Int} {n : Nat} (h : l.length = n) : List.take ((((n : Nat) : Int) - (0 : Int)).toNat) (List.drop (Int.toNat (0 : Int)) l) = l := by
  have : ((((n : Nat) : Int) - (0 : Int)).toNat) = l.length := by omega
  rw [this]; simp
/-- a body laid over zeros -/
theorem splice_zeros {h l : List Int} {n : Nat} (hl : l.length ≤ n) : splice (h ++ List.replicate n 0) l h.length (min l.length n) = h ++ (l ++ List.replicate (n - l.length) 0) := by
  unfold splice
  have e1 : min l.length n = l.length := by omega
  rw [e1, List.take_left, List.take_length, List.drop_append, List.drop_eq_nil_of_le (by omega)]
  simp
theorem pow8 : (2 : Int) ^ min (Int.toNat 8) IntKind.u32.bits = 256 := by decide
theorem pow16 : (2 : Int) ^ min (Int.toNat 16) IntKind.u32.bits = 65536 := by decide
theorem pow24 : (2 : Int) ^ min (Int.toNat 24) IntKind.u32.bits = 16777216 := by decide
theorem pow8i : (2 : Int) ^ min (Int.toNat 8) IntKind.i64.bits = 256 := by decide
theorem head_zeros (a b seq : Int) : (((((((List.replicate 64 (0 : Int)).set 0 (IntKind.u8.wrap a)).set 1 (IntKind.u8.wrap b)).set 2 (IntKind.u8.wrap seq)).set 3 (IntKind.u8.wrap (seq.fdiv 256))).set 4 (IntKind.u8.wrap (seq.fdiv 65536))).set 5 (IntKind.u8.wrap (seq.fdiv 16777216))) =
    (IntKind.u8.wrap a :: IntKind.u8.wrap b :: four seq) ++ List.replicate 58 0 := rfl
/-- the heads of a mapping page, laid one by one -/
theorem heads_lay {h : List Int} (hh : h.length = 6) (l : List Int) (hl : l.length = 8) (j : Nat) (hj : j < 8) :
    ((h ++ ((l.take j).flatMap two ++ List.replicate (58 - 2 * j) 0)).set (6 + 2 * j) (IntKind.u8.wrap (l.getD j 0))).set (6 + 2 * j + 1) (IntKind.u8.wrap ((l.getD j 0).fdiv 256)) =
    h ++ ((l.take (j + 1)).flatMap two ++ List.replicate (58 - 2 * (j + 1)) 0) := by
  obtain ⟨a, b, c, d, e, f, g, i, rfl⟩ := list8 hl
  match h, hh with
  | [h0, h1, h2, h3, h4, h5], _ =>
    have : j = 0 ∨ j = 1 ∨ j = 2 ∨ j = 3 ∨ j = 4 ∨ j = 5 ∨ j = 6 ∨ j = 7 := by omega
    rcases this with rfl | rfl | rfl | rfl | rfl | rfl | rfl | rfl <;> rfl
/-! ### a page's chain -/
def okB (id : Int) (last : Bool) (b : Blk) : Bool := blkOk b && decide (b.Id = id) && ((decide (b.Kind = 2) && ((b.Prev == 1) == last)) || (decide (b.Kind = 1) && last))
def chk (id : Int) : List Blk → Bool
  | [] => true
  | b :: r => okB id r.isEmpty b && chk id r
def okC (bs : List Blk) : Bool := decide (bs.length ≤ 3) && (match bs with
  | [] => true
  | b :: _ => chk b.Id bs)
theorem fold1_eq {k : Nat} {b : Blk} (w : IsBlk b) (hk : 8 < k) (id : Int) (last : Bool) : ∃ e, Pg.F96 k (b, id, last, ()) = some e ∧ e.isNil = okB id last b ∧ (okB id last b = false → e.has 11 = true) := by
  have hg : Pg.F47 k (b, ()) = some (blkOk b) := good_eq w hk
  have hn : ∀ s, Pg.F30 k (11, s, ()) = some (.flt s (.num 11) false) := fun s => rfl
  unfold Pg.F96 okB
  simp only
  show ∃ e, (Pg.F47 k (b, ())).bind _ = some e ∧ _
  rw [hg, Option.bind_some]
  cases blkOk b with
  | false => exact ⟨_, rfl, rfl, fun _ => rfl⟩
  | true =>
    rw [Bool.not_true, cond_false]
    by_cases hid : b.Id = id
    · rw [show (b.2 != id) = false from by simpa using hid, cond_false, decide_eq_true hid]
      by_cases h2 : b.Kind = 2
      · have h1 : ¬ b.Kind = 1 := by omega
        rw [show (b.1 == 2) = true from by simpa using h2, cond_true, decide_eq_true h2, decide_eq_false h1, show (b.1 == 1) = false from by simpa using h1]
        show ∃ e, (bif ((b.Prev == 1) == last) then _ else _) = some e ∧ _
        cases hp : ((b.Prev == 1) == last) with
        | true => exact ⟨_, rfl, rfl, fun h => by cases h⟩
        | false => exact ⟨_, rfl, rfl, fun _ => rfl⟩
      · rw [show (b.1 == 2) = false from by simpa using h2, cond_false, decide_eq_false h2]
        by_cases h1 : b.Kind = 1
        · rw [show (b.1 == 1) = true from by simpa using h1, cond_true, decide_eq_true h1]
          cases last with
          | true => exact ⟨_, rfl, rfl, fun h => by cases h⟩
          | false => exact ⟨_, rfl, rfl, fun _ => rfl⟩
        · rw [show (b.1 == 1) = false from by simpa using h1, cond_false, decide_eq_false h1]
          exact ⟨_, rfl, rfl, fun _ => rfl⟩
    · rw [show (b.2 != id) = true from by simpa using hid, cond_true, decide_eq_false hid]
      exact ⟨_, rfl, by simp [GErr.isNil], fun _ => rfl⟩
theorem getD_mem {α : Type} {l : List α} {i : Nat} {d : α} (h : i < l.length) : l.getD i d ∈ l := by
  rw [List.getD_eq_getElem?_getD, List.getElem?_eq_getElem h]
  exact List.getElem_mem h
theorem wrong_loop {k : Nat} (hk : 8 < k) (b0 : Blk) (r0 : List Blk) (w : ∀ b ∈ b0 :: r0, IsBlk b) (hl : (b0 :: r0).length ≤ 3) : ∃ o, iterR (Pg.R85_4 k) k (b0 :: r0, b0 :: r0, ((b0 :: r0).length : Int), 0) = some o ∧
    ((∃ e, o = Sum.inl e ∧ e.has 11 = true ∧ chk b0.Id (b0 :: r0) = false) ∨ (o = Sum.inr () ∧ chk b0.Id (b0 :: r0) = true)) := by
  have := iter_post (R := Pg.R85_4 k) (fun x => x.1 = b0 :: r0 ∧ x.2.1 = b0 :: r0 ∧ x.2.2.1 = ((b0 :: r0).length : Int) ∧ 0 ≤ x.2.2.2 ∧ x.2.2.2 ≤ ((b0 :: r0).length : Int)) (fun x => (b0 :: r0).length - x.2.2.2.toNat)
    (fun x o => (∃ e, o = Sum.inl e ∧ e.has 11 = true ∧ chk b0.Id ((b0 :: r0).drop x.2.2.2.toNat) = false) ∨ (o = Sum.inr () ∧ chk b0.Id ((b0 :: r0).drop x.2.2.2.toNat) = true)) (by
      generalize hL : b0 :: r0 = L at w hl
      have hL0 : 0 < L.length := by rw [← hL]; simp
      have hh : L.getD 0 zblk = b0 := by rw [← hL]; rfl
      rintro ⟨v0, v1, v2, i⟩ ⟨rfl, h1, h2, hi0, hi1⟩
      simp only at w hl hL0 hh h1 h2 hi0 hi1 ⊢
      subst h1
      subst h2
      by_cases hlt : i < v1.length
      · have hil : i.toNat < v1.length := by omega
        have hd := drop_cons zblk hil
        have hdl : (v1.drop (i.toNat + 1)).isEmpty = (i == IntKind.i64.wrap ((v1.length : Int) - 1)) := by
          rw [wI_in (by omega), Bool.eq_iff_iff, List.isEmpty_iff, List.drop_eq_nil_iff, beq_iff_eq]
          omega
        obtain ⟨e, he, hn, hh11⟩ := fold1_eq (k := k) (w _ (getD_mem (d := zblk) hil)) hk b0.Id (i == IntKind.i64.wrap ((v1.length : Int) - 1))
        have hR : ∀ again, Pg.R85_4 k again (v1, v1, (v1.length : Int), i) = bif !e.isNil then some (Sum.inl (.flt (ByteArray.mk (Array.mk [(99 : UInt8), (104 : UInt8), (97 : UInt8), (105 : UInt8), (110 : UInt8)])) e true)) else again (v1, v1, (v1.length : Int), i + 1) := by
          intro again
          unfold Pg.R85_4
          simp only
          rw [decide_eq_true hlt, cond_true, inRange_true ⟨hi0, hlt⟩, cond_true, inRange_true ⟨by omega, by omega⟩, cond_true]
          show (Pg.F96 k (v1.getD i.toNat zblk, (v1.getD 0 zblk).Id, i == IntKind.i64.wrap ((v1.length : Int) - 1), ())).bind _ = _
          rw [hh, he, Option.bind_some, wI_in (by omega)]
          cases hnil : e.isNil with
          | true => rfl
          | false =>
            show (Pg.F34 k (e, _, ())).bind _ = _
            show ((bif e.isNil then some GErr.nil else some (GErr.flt _ e true)) : Option GErr).bind _ = _
            rw [hnil]
            rfl
        cases ho : okB b0.Id (i == IntKind.i64.wrap ((v1.length : Int) - 1)) (v1.getD i.toNat zblk) with
        | false =>
          refine .inl ⟨Sum.inl (.flt (ByteArray.mk (Array.mk [(99 : UInt8), (104 : UInt8), (97 : UInt8), (105 : UInt8), (110 : UInt8)])) e true), fun again => by rw [hR, hn, ho]; rfl, .inl ⟨_, rfl, hh11 ho, ?_⟩⟩
          rw [hd]
          unfold chk
          rw [hdl, ho]
          rfl
        | true =>
          refine .inr ⟨(v1, v1, (v1.length : Int), i + 1), fun again => by rw [hR, hn, ho]; rfl, ⟨rfl, rfl, rfl, by show 0 ≤ i + 1; omega, by show i + 1 ≤ _; omega⟩, by show v1.length - (i + 1).toNat < v1.length - i.toNat; omega, fun o hQ => ?_⟩
          have e1 : (i + 1).toNat = i.toNat + 1 := by omega
          simp only [e1] at hQ
          rw [hd]
          unfold chk
          rw [hdl, ho, Bool.true_and]
          exact hQ
      · refine .inl ⟨Sum.inr (), fun again => ?_, .inr ⟨rfl, ?_⟩⟩
        · unfold Pg.R85_4
          simp only
          rw [decide_eq_false hlt, cond_false]
        · rw [List.drop_of_length_le (by omega)]
          rfl) k (b0 :: r0, b0 :: r0, ((b0 :: r0).length : Int), 0) ⟨rfl, rfl, rfl, Int.le_refl _, by simp; omega⟩ (by show (b0 :: r0).length - 0 < k; omega)
  exact this
theorem wrong_eq {k : Nat} (hk : 8 < k) (bs : List Blk) (w : ∀ b ∈ bs, IsBlk b) : ∃ e, Pg.F85 k (bs, ()) = some e ∧ e.has 11 = !okC bs := by
  unfold Pg.F85 okC
  simp only
  by_cases h3 : (bs.length : Int) > 3
  · rw [decide_eq_true h3, cond_true, show decide (bs.length ≤ 3) = false from by simp; omega, Bool.false_and]
    exact ⟨_, rfl, rfl⟩
  · rw [decide_eq_false h3, cond_false, show decide (bs.length ≤ 3) = true from by simp; omega, Bool.true_and]
    cases bs with
    | nil =>
      refine ⟨.nil, ?_, rfl⟩
      show (iterR (Pg.R85_4 k) k _).bind _ = _
      obtain ⟨m, rfl⟩ : ∃ m, k = m + 1 := ⟨k - 1, by omega⟩
      rfl
    | cons b r =>
      obtain ⟨o, ho, h⟩ := wrong_loop hk b r w (by omega)
      show ∃ e, (iterR (Pg.R85_4 k) k (b :: r, b :: r, ((b :: r).length : Int), 0)).bind _ = some e ∧ _
      rw [ho, Option.bind_some]
      rcases h with ⟨e, rfl, h1, h2⟩ | ⟨rfl, h2⟩
      · refine ⟨e, rfl, ?_⟩
        rw [h1]
        simp only
        rw [h2]
        rfl
      · refine ⟨.nil, rfl, ?_⟩
        simp only
        rw [h2]
        rfl
/-! ### what fold.Page comes to -/
def appOk (o : Int) (b : List Int) : Bool := decide (0 ≤ o ∧ 1 ≤ b.length ∧ b.length ≤ 32 ∧ o ≤ 32 - (b.length : Int))
def app (p : List Int) (o : Int) (b : List Int) : List Int := splice p b o.toNat b.length
theorem papply_eq (k : Nat) (p : List Int) (o : Int) (b : List Int) : Pg.F25 k (p, o, b, ()) = some (if appOk o b = true then (app p o b, 0, ()) else (zpage, 1, ())) := by
  have h30 : ∀ s, Pg.F30 k (1, s, ()) = some (.flt s (.num 1) false) := fun s => rfl
  have h34 : ∀ s t, Pg.F34 k (.flt s (.num 1) false, t, ()) = some (.flt t (.flt s (.num 1) false) true) := fun s t => rfl
  unfold Pg.F25 Pg.F60
  simp only [h30, h34, Option.bind_some]
  have neg : ∀ (s t : ByteArray), (¬ (0 ≤ o ∧ 1 ≤ b.length ∧ b.length ≤ 32 ∧ o ≤ 32 - (b.length : Int))) → ((some (GErr.flt t (.flt s (.num 1) false) true)).bind fun r => bif r.first.isSome then some (List.replicate (32 : Nat) (0 : Int), r.first.getD (0 : Int), ()) else bif decide ((0 : Int) ≤ o) && decide (o ≤ (↑(32 : Nat) : Int)) && decide ((↑(32 : Nat) : Int) ≤ (↑(32 : Nat) : Int)) then some (splice p b o.toNat (min b.length ((↑(32 : Nat) : Int) - o).toNat), (0 : Int), ()) else none) = some (if appOk o b = true then (app p o b, 0, ()) else (zpage, 1, ())) := by
    intro s t h
    rw [if_neg (by unfold appOk; simpa using h)]
    rfl
  by_cases h1 : o < 0
  · rw [decide_eq_true h1, cond_true]; exact neg _ _ (by omega)
  · rw [decide_eq_false h1, cond_false]
    by_cases h2 : (b.length : Int) < 1
    · rw [decide_eq_true h2, cond_true]; exact neg _ _ (by omega)
    · rw [decide_eq_false h2, cond_false]
      by_cases h3 : (b.length : Int) > 32
      · rw [decide_eq_true h3, cond_true]; exact neg _ _ (by omega)
      · rw [decide_eq_false h3, cond_false, wI_in (by omega)]
        by_cases h4 : o > 32 - (b.length : Int)
        · rw [decide_eq_true h4, cond_true]; exact neg _ _ (by omega)
        · rw [decide_eq_false h4, cond_false, Option.bind_some, if_pos (by unfold appOk; rw [decide_eq_true_eq]; omega)]
          rw [decide_eq_true (show (0 : Int) ≤ o by omega), decide_eq_true (show o ≤ ((32 : Nat) : Int) by omega)]
          show some (splice p b o.toNat (min b.length (((32 : Nat) : Int) - o).toNat), (0 : Int), ()) = _
          rw [Nat.min_eq_left (by omega)]
          rfl
theorem apply_eq (k : Nat) (p : List Int) (o : Int) (b : List Int) : F25 k (p, o, b, ()) = some (if appOk o b = true then (app p o b, 0, ()) else (zpage, 1, ())) := papply_eq k p o b
def stepP (p : List Int) (b : Blk) : List Int := if b.Kind = 1 then b.Page else app p b.Off b.Bytes
/-- the blocks that a chain may hold -/
def good12 (b : Blk) : Bool := blkOk b && (decide (b.Kind = 1) || decide (b.Kind = 2))
theorem good_app {b : Blk} (h : blkOk b = true) (h2 : b.Kind = 2) : appOk b.Off b.Bytes = true := by
  unfold blkOk at h
  rw [if_neg (by omega), if_pos h2] at h
  simp only [Bool.and_eq_true, decide_eq_true_eq] at h
  unfold appOk
  rw [decide_eq_true_eq]
  have := h.1.2
  omega
theorem body_good {k : Nat} {b : Blk} (h : good12 b = true) (z : List Int) (n : Int) (p : List Int) : Pg.bodyF k b z n p = some (true, z, n, stepP p b) := by
  unfold good12 at h
  simp only [Bool.and_eq_true, Bool.or_eq_true, decide_eq_true_eq] at h
  unfold Pg.bodyF stepP
  rcases h.2 with h1 | h2
  · rw [show (b.1 == 1) = true from by simpa using h1, cond_true, if_pos h1]
  · have h1 : ¬ b.Kind = 1 := by omega
    rw [show (b.1 == 1) = false from by simpa using h1, cond_false, if_neg h1]
    show (Pg.F25 k (p, b.Off, b.Bytes, ())).bind _ = _
    rw [papply_eq, if_pos (good_app h.1 h2)]
    rfl
theorem loop_good {k : Nat} : ∀ (l : List Blk) (z : List Int) (n : Int) (p : List Int), (∀ b ∈ l, good12 b = true) → Pg.loopF k l (z, n, p) = some (l.foldl stepP p, 0, ())
  | [], _, _, _, _ => rfl
  | b :: r, z, n, p, h => by
    show (match Pg.bodyF k b z n p with | some (true, s') => Pg.loopF k r s' | some (false, s') => some (s'.1, s'.2.1, ()) | none => none) = _
    rw [body_good (h b (by simp))]
    exact loop_good r z n (stepP p b) fun b hb => h b (by simp [hb])
theorem okB_good {id : Int} {last : Bool} {b : Blk} (h : okB id last b = true) : good12 b = true := by
  unfold okB at h
  unfold good12
  simp only [Bool.and_eq_true, Bool.or_eq_true, decide_eq_true_eq] at h ⊢
  refine ⟨h.1.1, ?_⟩
  rcases h.2 with h | h
  · exact .inr h.1
  · exact .inl h.1
theorem chk_good {id : Int} : ∀ {l : List Blk}, chk id l = true → ∀ b ∈ l, good12 b = true
  | [], _, _, hb => by cases hb
  | c :: r, h, b, hb => by
    unfold chk at h
    simp only [Bool.and_eq_true] at h
    rcases List.mem_cons.1 hb with rfl | hb
    · exact okB_good h.1
    · exact chk_good h.2 b hb
theorem okC_good {bs : List Blk} (h : okC bs = true) : ∀ b ∈ bs, good12 b = true := by
  unfold okC at h
  cases bs with
  | nil => intro b hb; cases hb
  | cons c r =>
    simp only [Bool.and_eq_true] at h
    exact chk_good h.2
def foldP (bs : List Blk) : List Int := bs.reverse.foldl stepP zpage
theorem page_eq {k : Nat} (hk : 8 < k) (bs : List Blk) (w : ∀ b ∈ bs, IsBlk b) : F57 k (bs, ()) = some (if okC bs = true then (foldP bs, 0, ()) else (zpage, 11, ())) := by
  show Pg.pageF k (bs, ()) = _
  obtain ⟨e, he, hh⟩ := wrong_eq hk bs w
  unfold Pg.pageF Pg.preF
  simp only
  rw [he, Option.bind_some, hh]
  cases hc : okC bs with
  | false => rfl
  | true =>
    show Pg.loopF k bs.reverse (zpage, 0, zpage) = _
    rw [loop_good _ _ _ _ fun b hb => okC_good hc b (List.mem_reverse.1 hb)]
    rfl
theorem leaf_set (v : Int) {j : Nat} (hj : j < 32) : (List.replicate j v ++ List.replicate (32 - j) 0).set j v = List.replicate (j + 1) v ++ List.replicate (32 - (j + 1)) (0 : Int) := by
  rw [List.set_append_right _ _ (by simp)]
  rw [show 32 - j = (32 - (j + 1)) + 1 by omega, List.replicate_succ]
  simp only [List.length_replicate, Nat.sub_self, List.set_cons_zero]
  rw [List.replicate_succ', List.append_assoc]
  rfl
theorem leaf_eq {k : Nat} (hk : 32 < k) (v : Int) : F74 k (v, ()) = some (List.replicate 32 v) := by
  unfold F74 L74_3
  generalize hz : List.replicate 32 (0 : Int) = z
  have := iter_out (R := R74_3 k) (fun x => ∃ j : Nat, j ≤ 32 ∧ x = (v, (j : Int), z, List.replicate j v ++ List.replicate (32 - j) 0))
    (fun x => 32 - x.2.1.toNat) (fun _ => (z, List.replicate 32 v)) (fun x hx => by
      obtain ⟨j, hj, rfl⟩ := hx
      rcases Nat.lt_or_ge j 32 with h | h
      · right
        refine ⟨(v, ((j + 1 : Nat) : Int), z, List.replicate (j + 1) v ++ List.replicate (32 - (j + 1)) 0), fun again => ?_, ⟨j + 1, by omega, rfl⟩, by simp only [Int.toNat_natCast]; omega, rfl⟩
        unfold R74_3
        simp only [Int.toNat_natCast, leaf_set v h]
        rw [inRange_true (by omega), wI_in (by omega)]
        simp only [show ((j : Int) < 32) from by omega, decide_true, cond_true, Int.natCast_add, Int.natCast_one]
      · left
        intro again
        have : j = 32 := by omega
        subst this
        unfold R74_3
        simp) (n := k) (x := (v, 0, z, z)) ⟨0, by omega, by simp [← hz]⟩ (by simpa using hk)
  simp only
  rw [this]
  rfl
theorem isByte0 : IsByte 0 := ⟨by decide, by decide⟩
theorem zpage_bytes : zpage.length = 32 ∧ ∀ x ∈ zpage, IsByte x := ⟨rfl, fun x hx => by rw [List.eq_of_mem_replicate hx]; exact isByte0⟩
theorem isBlk_delta (id o pr : Int) {b : List Int} (h : ∀ x ∈ b, IsByte x) : IsBlk (.mk 2 id zpage o b pr zheads) := ⟨zpage_bytes, h, rfl⟩
theorem isBlk_image (id : Int) {p : List Int} (h : p.length = 32 ∧ ∀ x ∈ p, IsByte x) : IsBlk (.mk 1 id p 0 [] 0 zheads) := ⟨h, (fun x hx => (by cases hx)), rfl⟩
theorem wakes {k : Nat} (hk : 40 < k) : F56 k () = some true := by
  have h7 : (List.replicate 32 (7 : Int)).length = 32 ∧ ∀ x ∈ List.replicate 32 (7 : Int), IsByte x := ⟨rfl, fun x hx => by rw [List.eq_of_mem_replicate hx]; exact ⟨by decide, by decide⟩⟩
  have h9 : ∀ x ∈ [(9 : Int)], IsByte x := fun x hx => by rw [List.mem_singleton.1 hx]; exact ⟨by decide, by decide⟩
  have w1 : ∀ b ∈ ([.mk 2 2 zpage 1 [9] 8 zheads, .mk 1 2 (List.replicate 32 7) 0 [] 0 zheads] : List Blk), IsBlk b := fun b hb => by
    rcases List.mem_cons.1 hb with rfl | hb
    · exact isBlk_delta _ _ _ h9
    · rw [List.mem_singleton.1 hb]; exact isBlk_image _ h7
  have w2 : ∀ b ∈ ([.mk 1 2 (List.replicate 32 7) 0 [] 0 zheads, .mk 2 2 zpage 1 [9] 8 zheads] : List Blk), IsBlk b := fun b hb => by
    rcases List.mem_cons.1 hb with rfl | hb
    · exact isBlk_image _ h7
    · rw [List.mem_singleton.1 hb]; exact isBlk_delta _ _ _ h9
  unfold F56
  have hk8 : 8 < k := by omega
  rw [leaf_eq (by omega), Option.bind_some, page_eq hk8, Option.bind_some, page_eq hk8, Option.bind_some, page_eq hk8, Option.bind_some]
  · first | rfl | decide | (show (_ : Option Bool) = _; kernel_rfl)
  · intro b hb; cases hb
  · exact w2
  · exact w1
/-! ### the blocks are fair -/
theorem ffair_loop (k : Nat) (ls : List Blk) (hl : ls.length ≤ 9223372036854775807) {f : Nat} (hf : ls.length < f) : ∃ o, iterR (R55_2 k) f (ls, 0) = some o ∧ ((∃ u, o = Sum.inl (u, false)) ∨ (o = Sum.inr ls ∧ ∀ x ∈ ls, x.Bytes.length ≤ 300)) := by
  have := iter_post (R := R55_2 k) (fun x => x.1 = ls ∧ 0 ≤ x.2 ∧ x.2 ≤ ls.length ∧ ∀ y ∈ ls.take x.2.toNat, y.Bytes.length ≤ 300) (fun x => ls.length - x.2.toNat)
    (fun _ o => (∃ u, o = Sum.inl (u, false)) ∨ (o = Sum.inr ls ∧ ∀ x ∈ ls, x.Bytes.length ≤ 300)) (by
      rintro ⟨l, i⟩ ⟨rfl, hi0, hi1, hall⟩
      simp only at hl hf hi0 hi1 hall ⊢
      by_cases hlt : i < l.length
      · by_cases hbig : ((l.getD i.toNat zblk).Bytes.length : Int) > 300
        · refine .inl ⟨Sum.inl (l, false), fun again => ?_, .inl ⟨_, rfl⟩⟩
          unfold R55_2
          simp only
          rw [decide_eq_true hlt, cond_true, inRange_true ⟨hi0, hlt⟩, cond_true]
          show (bif decide (((l.getD i.toNat zblk).Bytes.length : Int) > 300) then _ else _) = _
          rw [decide_eq_true hbig, cond_true]
        · refine .inr ⟨(l, i + 1), fun again => ?_, ⟨rfl, ?_, ?_, ?_⟩, ?_, fun _ h => h⟩
          · unfold R55_2
            simp only
            rw [decide_eq_true hlt, cond_true, inRange_true ⟨hi0, hlt⟩, cond_true]
            show (bif decide (((l.getD i.toNat zblk).Bytes.length : Int) > 300) then _ else _) = _
            rw [decide_eq_false hbig, cond_false, wI_in (by omega)]
          · show 0 ≤ i + 1
            omega
          · show i + 1 ≤ _
            omega
          · show ∀ y ∈ l.take (i + 1).toNat, _
            have e1 : (i + 1).toNat = i.toNat + 1 := by omega
            have hh : i.toNat < l.length := by omega
            rw [e1, List.take_succ_eq_append_getElem hh]
            intro y hy
            rcases List.mem_append.1 hy with h | h
            · exact hall y h
            · rw [List.mem_singleton] at h
              subst h
              have hg : l.getD i.toNat zblk = l[i.toNat] := by rw [List.getD_eq_getElem?_getD, List.getElem?_eq_getElem hh]; rfl
              rw [hg] at hbig
              omega
          · show l.length - (i + 1).toNat < l.length - i.toNat
            omega
      · refine .inl ⟨Sum.inr l, fun again => ?_, .inr ⟨rfl, ?_⟩⟩
        · unfold R55_2
          simp only
          rw [decide_eq_false hlt, cond_false]
        · rw [List.take_of_length_le (by omega)] at hall
          exact hall) f (ls, 0) ⟨rfl, by simp, by simp, by simp⟩ (by show ls.length - 0 < _; omega)
  exact this
theorem ffair_of (k : Nat) (ls : List Blk) (hl : ls.length ≤ maxLen) (hk : ls.length < k) : ∃ b, F55 k (ls, ()) = some b ∧ (b = true → ls.length ≤ 20 ∧ ∀ x ∈ ls, x.Bytes.length ≤ 300) := by
  have hm : maxLen = 9223372036854775807 := rfl
  obtain ⟨o, h1, h2⟩ := ffair_loop k ls (by omega) hk
  show ∃ b, (iterR (R55_2 k) k (ls, 0)).bind _ = some b ∧ _
  rw [h1, Option.bind_some]
  rcases h2 with ⟨u, rfl⟩ | ⟨rfl, h2⟩
  · exact ⟨false, rfl, fun h => by cases h⟩
  · exact ⟨_, rfl, fun h => ⟨by have := of_decide_eq_true h; omega, h2⟩⟩
/-! ### FoldMore -/
theorem good12_id {b : Blk} (h : good12 b = true) : 0 ≤ b.Id ∧ b.Id < 64 := by
  unfold good12 blkOk at h
  simp only [Bool.and_eq_true, Bool.or_eq_true, decide_eq_true_eq] at h
  rcases h.2 with h1 | h1
  · have := h.1
    rw [if_pos h1] at this
    simp only [Bool.and_eq_true, decide_eq_true_eq] at this
    exact this.1.1
  · have := h.1
    rw [if_neg (by omega), if_pos h1] at this
    simp only [Bool.and_eq_true, decide_eq_true_eq] at this
    exact this.1.1.1.1
theorem blkOk_delta {id o pr : Int} {b : List Int} (hid : 0 ≤ id ∧ id < 64) (hp : headOk pr = true) (hp0 : pr ≠ 0) : blkOk (.mk 2 id zpage o b pr zheads) = (appOk o b && decide (b.length ≤ 16)) := by
  unfold blkOk appOk
  rw [if_neg (by simp), if_pos rfl]
  simp only
  rw [hp, Bool.and_true, decide_eq_true hid]
  simp only [decide_true, Bool.true_and]
  rw [Bool.eq_iff_iff, Bool.and_eq_true, decide_eq_true_eq, decide_eq_true_eq, decide_eq_true_eq]
  omega
theorem foldP_cons (b : Blk) (r : List Blk) : foldP (b :: r) = stepP (foldP r) b := by
  unfold foldP
  rw [List.reverse_cons, List.foldl_append]
  rfl
theorem foldMore_plain (bs : List Blk) (o : Int) (b : List Int) (hl : bs.length ≤ maxLen) (w : ∀ x ∈ bs, IsBlk x) (hb : ∀ x ∈ b, IsByte x) : ∃ k, F19 k (bs, o, b, ()) = some true := by
  refine ⟨bs.length + 100, ?_⟩
  generalize hk : bs.length + 100 = k
  have hk8 : 8 < k := by omega
  have hwk := wakes (k := k) (by omega)
  obtain ⟨f, hf, hfair⟩ := ffair_of k bs hl (by omega)
  unfold F19
  simp only
  rw [hf, Option.bind_some, hwk]
  cases f with
  | false => rfl
  | true =>
    have hl20 := (hfair rfl).1
    rw [Bool.not_true, cond_false]
    by_cases h300 : (b.length : Int) > 300
    · rw [decide_eq_true h300, cond_true]; rfl
    · rw [decide_eq_false h300, cond_false]
      cases bs with
      | nil => rfl
      | cons c t =>
        rw [show (((c :: t).length : Int) == 0) = false from by simp <;> omega, cond_false, page_eq hk8 _ w, Option.bind_some]
        cases hc : okC (c :: t) with
        | false => rfl
        | true =>
          rw [if_pos rfl]
          show (bif ((0 : Int) != 0) then _ else bif inRange 0 (c :: t).length then _ else none) = _
          rw [show ((0 : Int) != 0) = false from rfl, cond_false, inRange_true ⟨by decide, by simp <;> omega⟩, cond_true, decide_eq_true (show _ ≤ roomMost by
            have : roomMost ≥ 100 := by decide
            simp only [List.length_set, List.length_replicate, List.length_cons] at hl20 ⊢
            omega), cond_true]
          show (F57 k (.mk 2 c.Id zpage o b 99 zheads :: c :: t, ())).bind _ = _
          have hcc := hc
          unfold okC at hcc
          simp only [Bool.and_eq_true, decide_eq_true_eq] at hcc
          have hid := good12_id (okC_good hc c (by simp))
          rw [page_eq hk8 _ (fun x hx => by
            rcases List.mem_cons.1 hx with rfl | hx
            · exact isBlk_delta _ _ _ hb
            · exact w x hx), Option.bind_some, apply_eq, Option.bind_some]
          have hok : okC (.mk 2 c.Id zpage o b 99 zheads :: c :: t) = (decide ((c :: t).length < 3) && (appOk o b && decide (b.length ≤ 16))) := by
            unfold okC
            show (decide ((c :: t).length + 1 ≤ 3) && chk c.Id (_ :: c :: t)) = _
            unfold chk
            rw [hcc.2, Bool.and_true]
            show (decide ((c :: t).length + 1 ≤ 3) && okB c.Id false (.mk 2 c.Id zpage o b 99 zheads)) = _
            unfold okB
            rw [blkOk_delta hid (by decide) (by decide)]
            simp
            rw [show decide (t.length ≤ 1) = decide (t.length + 1 < 3) from decide_eq_decide.2 (by omega)]
          have hfo : foldP (.mk 2 c.Id zpage o b 99 zheads :: c :: t) = app (foldP (c :: t)) o b := by
            rw [foldP_cons]
            rfl
          rw [hok, hfo]
          by_cases h3 : ((c :: t).length : Int) ≥ 3
          · rw [decide_eq_true h3, cond_true, show decide ((c :: t).length < 3) = false from by simp at h3 ⊢; omega, Bool.false_and]
            rfl
          · rw [decide_eq_false h3, cond_false, show decide ((c :: t).length < 3) = true from by simp at h3 ⊢; omega, Bool.true_and]
            cases ha : appOk o b with
            | false => rfl
            | true =>
              rw [if_pos rfl, Bool.true_and]
              by_cases h16 : (b.length : Int) > 16
              · rw [decide_eq_true h16, show decide (b.length ≤ 16) = false from by simp; omega]
                rfl
              · rw [decide_eq_false h16, show decide (b.length ≤ 16) = true from by simp; omega, if_pos rfl]
                show (bif ((0 : Int) != 0) then _ else bif false then _ else bif ((0 : Int) == 0) then bif decide (app (foldP (c :: t)) o b = app (foldP (c :: t)) o b) then _ else _ else _) = _
                rw [decide_eq_true rfl]
                rfl
/-! ### FoldWhole -/
theorem okB_delta {id o pr : Int} {b : List Int} {last : Bool} (hid : 0 ≤ id ∧ id < 64) (hp : headOk pr = true) (hp0 : pr ≠ 0) : okB id last (.mk 2 id zpage o b pr zheads) = ((appOk o b && decide (b.length ≤ 16)) && ((pr == 1) == last)) := by
  unfold okB
  rw [blkOk_delta hid hp hp0]
  simp
theorem okB_image {id : Int} {p : List Int} {last : Bool} (hid : 0 ≤ id ∧ id < 64) : okB id last (.mk 1 id p 0 [] 0 zheads) = last := by
  unfold okB
  rw [show blkOk (.mk 1 id p 0 [] 0 zheads) = true from by
    unfold blkOk
    rw [if_pos rfl]
    simp [hid.1, hid.2]]
  simp
theorem okC_one (b : Blk) : okC [b] = okB b.Id true b := by
  show (true && (okB b.Id true b && true)) = _
  rw [Bool.true_and, Bool.and_true]
theorem okC_two (b c : Blk) : okC [b, c] = (okB b.Id false b && okB b.Id true c) := by
  show (true && (okB b.Id false b && (okB b.Id true c && true))) = _
  rw [Bool.true_and, Bool.and_true]
theorem foldWhole_plain (p : List Int) (bs : List Blk) (a2 : Int) (hp : p.length = 32 ∧ ∀ x ∈ p, IsByte x) (hl : bs.length = 2) (w : ∀ x ∈ bs, IsBlk x) (h2 : 0 ≤ a2 ∧ a2 ≤ 255) : ∃ k, F20 k (p, bs, a2, ()) = some true := by
  refine ⟨100, ?_⟩
  generalize hk : (100 : Nat) = k
  have hk8 : 8 < k := by omega
  have hwk := wakes (k := k) (by omega)
  obtain ⟨d0, d1, rfl⟩ : ∃ d0 d1, bs = [d0, d1] := by
    match bs, hl with
    | [a, b], _ => exact ⟨a, b, rfl⟩
  have w0 := w d0 (by simp)
  have w1 := w d1 (by simp)
  have e0 : ([d0, d1] : List Blk).getD (Int.toNat (0 : Int)) (T89.mk (0 : Int) (0 : Int) (List.replicate (32 : Nat) (0 : Int)) (0 : Int) [] (0 : Int) (List.replicate (8 : Nat) (0 : Int))) = d0 := rfl
  have e1 : ([d0, d1] : List Blk).getD (Int.toNat (1 : Int)) (T89.mk (0 : Int) (0 : Int) (List.replicate (32 : Nat) (0 : Int)) (0 : Int) [] (0 : Int) (List.replicate (8 : Nat) (0 : Int))) = d1 := rfl
  unfold F20
  simp only
  rw [e0, e1, hwk, wI_in (x := a2) (by omega)]
  have hid : 0 ≤ a2.tmod 64 ∧ a2.tmod 64 < 64 := by
    rw [Int.tmod_eq_emod_of_nonneg h2.1]
    omega
  generalize a2.tmod 64 = ID at hid ⊢
  have hj : IntKind.i64.wrap (ID + 1) = ID + 1 := wI_in (by omega)
  have hjd : 0 ≤ (ID + 1).tmod 64 ∧ (ID + 1).tmod 64 < 64 ∧ (ID + 1).tmod 64 ≠ ID := by
    rw [Int.tmod_eq_emod_of_nonneg (by omega)]
    omega
  rw [hj]
  generalize (ID + 1).tmod 64 = JD at hjd ⊢
  have P1 : F57 k (((List.replicate (1 : Nat) (T89.mk (0 : Int) (0 : Int) (List.replicate (32 : Nat) (0 : Int)) (0 : Int) [] (0 : Int) (List.replicate (8 : Nat) (0 : Int)))).set (0 : Nat) (T89.mk (1 : Int) ID p (0 : Int) [] (0 : Int) (List.replicate (8 : Nat) (0 : Int)))), ()) = some (p, 0, ()) := by
    show F57 k ([.mk 1 ID p 0 [] 0 zheads], ()) = _
    rw [page_eq hk8 _ (fun x hx => by rw [List.mem_singleton.1 hx]; exact isBlk_image _ hp), okC_one, okB_image hid, if_pos rfl]
    rfl
  have P2 : F57 k ((((List.replicate (2 : Nat) (T89.mk (0 : Int) (0 : Int) (List.replicate (32 : Nat) (0 : Int)) (0 : Int) [] (0 : Int) (List.replicate (8 : Nat) (0 : Int)))).set (0 : Nat) (T89.mk (2 : Int) ID (List.replicate (32 : Nat) (0 : Int)) d0.4 d0.5 (9 : Int) (List.replicate (8 : Nat) (0 : Int)))).set (1 : Nat) (T89.mk (1 : Int) ID p (0 : Int) [] (0 : Int) (List.replicate (8 : Nat) (0 : Int)))), ()) = some (if (appOk d0.4 d0.5 && decide (d0.5.length ≤ 16)) = true then (app p d0.4 d0.5, 0, ()) else (zpage, 11, ())) := by
    show F57 k ([.mk 2 ID zpage d0.4 d0.5 9 zheads, .mk 1 ID p 0 [] 0 zheads], ()) = _
    rw [page_eq hk8 _ (fun x hx => by
      rcases List.mem_cons.1 hx with rfl | hx
      · exact isBlk_delta _ _ _ w0.bytes
      · rw [List.mem_singleton.1 hx]; exact isBlk_image _ hp), okC_two, okB_delta hid (by decide) (by decide), okB_image hid, Bool.and_true, show (((9 : Int) == 1) == false) = true from rfl, Bool.and_true]
    rfl
  have P3 : F57 k ((((List.replicate (2 : Nat) (T89.mk (0 : Int) (0 : Int) (List.replicate (32 : Nat) (0 : Int)) (0 : Int) [] (0 : Int) (List.replicate (8 : Nat) (0 : Int)))).set (0 : Nat) (T89.mk (2 : Int) ID (List.replicate (32 : Nat) (0 : Int)) d0.4 d0.5 (9 : Int) (List.replicate (8 : Nat) (0 : Int)))).set (1 : Nat) (T89.mk (2 : Int) ID (List.replicate (32 : Nat) (0 : Int)) d1.4 d1.5 (1 : Int) (List.replicate (8 : Nat) (0 : Int)))), ()) = some (if ((appOk d0.4 d0.5 && decide (d0.5.length ≤ 16)) && (appOk d1.4 d1.5 && decide (d1.5.length ≤ 16))) = true then (app (app zpage d1.4 d1.5) d0.4 d0.5, 0, ()) else (zpage, 11, ())) := by
    show F57 k ([.mk 2 ID zpage d0.4 d0.5 9 zheads, .mk 2 ID zpage d1.4 d1.5 1 zheads], ()) = _
    rw [page_eq hk8 _ (fun x hx => by
      rcases List.mem_cons.1 hx with rfl | hx
      · exact isBlk_delta _ _ _ w0.bytes
      · rw [List.mem_singleton.1 hx]; exact isBlk_delta _ _ _ w1.bytes), okC_two, okB_delta hid (by decide) (by decide), okB_delta hid (by decide) (by decide), show (((9 : Int) == 1) == false) = true from rfl, show (((1 : Int) == 1) == true) = true from rfl, Bool.and_true, Bool.and_true]
    rfl
  have P4 : F57 k ((((List.replicate (2 : Nat) (T89.mk (0 : Int) (0 : Int) (List.replicate (32 : Nat) (0 : Int)) (0 : Int) [] (0 : Int) (List.replicate (8 : Nat) (0 : Int)))).set (0 : Nat) (T89.mk (2 : Int) JD (List.replicate (32 : Nat) (0 : Int)) d0.4 d0.5 (9 : Int) (List.replicate (8 : Nat) (0 : Int)))).set (1 : Nat) (T89.mk (1 : Int) ID p (0 : Int) [] (0 : Int) (List.replicate (8 : Nat) (0 : Int)))), ()) = some (zpage, 11, ()) := by
    show F57 k ([.mk 2 JD zpage d0.4 d0.5 9 zheads, .mk 1 ID p 0 [] 0 zheads], ()) = _
    rw [page_eq hk8 _ (fun x hx => by
      rcases List.mem_cons.1 hx with rfl | hx
      · exact isBlk_delta _ _ _ w0.bytes
      · rw [List.mem_singleton.1 hx]; exact isBlk_image _ hp), okC_two, show okB JD true (.mk 1 ID p 0 [] 0 zheads) = false from by
        unfold okB
        rw [decide_eq_false (show ¬ ID = JD from fun e => hjd.2.2 e.symm), Bool.and_false, Bool.false_and], Bool.and_false]
    rfl
  have P5 : F57 k (((List.replicate (1 : Nat) (T89.mk (0 : Int) (0 : Int) (List.replicate (32 : Nat) (0 : Int)) (0 : Int) [] (0 : Int) (List.replicate (8 : Nat) (0 : Int)))).set (0 : Nat) (T89.mk (3 : Int) (0 : Int) (List.replicate (32 : Nat) (0 : Int)) (0 : Int) [] (0 : Int) (List.replicate (8 : Nat) (0 : Int)))), ()) = some (zpage, 11, ()) := by
    show F57 k ([.mk 3 0 zpage 0 [] 0 zheads], ()) = _
    rw [page_eq hk8 _ (fun x hx => by rw [List.mem_singleton.1 hx]; exact ⟨zpage_bytes, (fun x hx => (by cases hx)), rfl⟩), okC_one]
    rfl
  by_cases h0 : (d0.5.length : Int) > 300
  · rw [decide_eq_true h0, cond_true]; rfl
  rw [decide_eq_false h0, cond_false]
  by_cases h1 : (d1.5.length : Int) > 300
  · rw [decide_eq_true h1, cond_true]; rfl
  rw [decide_eq_false h1, cond_false, P1, Option.bind_some]
  show (bif ((0 : Int) != 0) then _ else bif !decide (p = p) then _ else _) = _
  rw [show ((0 : Int) != 0) = false from rfl, cond_false, decide_eq_true rfl, Bool.not_true, cond_false, P2, Option.bind_some, apply_eq, Option.bind_some]
  by_cases g0 : (d0.5.length : Int) > 16
  · rw [decide_eq_true g0, cond_true, show decide (d0.5.length ≤ 16) = false from by simp <;> omega, Bool.and_false]
    rfl
  rw [decide_eq_false g0, cond_false, show decide (d0.5.length ≤ 16) = true from by simp <;> omega, Bool.and_true]
  rw [show decide (d0.5.length ≤ 16) = true from by simp <;> omega, Bool.and_true] at P3
  cases a0 : appOk d0.4 d0.5 with
  | false => rfl
  | true =>
    rw [a0, Bool.true_and] at P3
    rw [if_pos rfl, if_pos rfl]
    show (bif ((0 : Int) != 0) then _ else bif ((0 : Int) != 0) then _ else bif !decide (app p d0.4 d0.5 = app p d0.4 d0.5) then _ else _) = _
    rw [show ((0 : Int) != 0) = false from rfl, cond_false, cond_false, decide_eq_true rfl, Bool.not_true, cond_false, apply_eq, Option.bind_some, P3, Option.bind_some]
    by_cases g1 : (d1.5.length : Int) > 16
    · rw [decide_eq_true g1, cond_true, show decide (d1.5.length ≤ 16) = false from by simp <;> omega, Bool.and_false]
      rfl
    rw [decide_eq_false g1, cond_false, show decide (d1.5.length ≤ 16) = true from by simp <;> omega, Bool.and_true]
    cases a1 : appOk d1.4 d1.5 with
    | false => rfl
    | true =>
      rw [if_pos rfl, if_pos rfl]
      show (bif ((0 : Int) != 0) then _ else (F25 k (app zpage d1.4 d1.5, d0.4, d0.5, ())).bind _) = _
      rw [show ((0 : Int) != 0) = false from rfl, cond_false, apply_eq, a0, if_pos rfl, Option.bind_some, P4, Option.bind_some, P5, Option.bind_some]
      show (bif ((0 : Int) == 0) then bif ((0 : Int) == 0) then bif decide (app (app zpage d1.4 d1.5) d0.4 d0.5 = app (app zpage d1.4 d1.5) d0.4 d0.5) then _ else _ else _ else _) = _
      rw [decide_eq_true rfl]
      rfl
/-! ### the reference's page -/
theorem rapply_ok {k : Nat} {p : List Int} {o : Int} {b : List Int} (h : appOk o b = true) : F26 k (p, o, b, ()) = some (.mk (app p o b) true) := by
  unfold appOk at h
  rw [decide_eq_true_eq] at h
  unfold F26
  simp only
  rw [decide_eq_false (show ¬ o < 0 by omega), cond_false, decide_eq_false (show ¬ o > 32 by omega), cond_false, decide_eq_false (show ¬ (b.length : Int) < 1 by omega), cond_false, wI_in (by omega), decide_eq_false (show ¬ (b.length : Int) > 32 - o by omega), cond_false,
    decide_eq_true (show (0 : Int) ≤ o by omega), decide_eq_true (show o ≤ ((32 : Nat) : Int) by omega)]
  show some (_ : T36) = _
  rw [Nat.min_eq_left (by omega)]
  rfl
theorem kind_of {b : Blk} (h : blkOk b = true) : b.Kind = 1 ∨ b.Kind = 2 ∨ b.Kind = 3 := by
  unfold blkOk at h
  split at h
  · exact .inl ‹_›
  · split at h
    · exact .inr (.inl ‹_›)
    · split at h
      · exact .inr (.inr ‹_›)
      · cases h
theorem rpage_round {k : Nat} (hk : 8 < k) {L : List Blk} {i : Int} (h0 : 0 ≤ i) (hi : i < L.length) (hl : L.length ≤ 3) (w : IsBlk (L.getD i.toNat zblk)) (again : List Blk × Int × List Int × Bool × List Int → Option ((List Int × Bool × List Int) ⊕ (List Int × Bool × List Int))) (z : List Int) (f : Bool) (p : List Int) :
    R58_5 k again (L, i, z, f, p) = if okB (L.getD 0 zblk).Id (i == (L.length : Int) - 1) (L.getD i.toNat zblk) = true then again (L, i - 1, z, f, stepP p (L.getD i.toNat zblk)) else some (Sum.inl (zpage, false, p)) := by
  unfold R58_5
  simp only
  rw [decide_eq_true (show i ≥ 0 from h0), cond_true, inRange_true ⟨h0, hi⟩, cond_true, inRange_true (i := 0) ⟨by omega, by omega⟩, wI_in (x := (L.length : Int) - 1) (by omega), wI_in (x := i - 1) (by omega)]
  show (F87 k (L.getD i.toNat zblk, ())).bind _ = _
  rw [rgood_eq w hk, Option.bind_some]
  have hb2 : (L.getD i.toNat (.mk (0 : Int) (0 : Int) (List.replicate (32 : Nat) (0 : Int)) (0 : Int) [] (0 : Int) (List.replicate (8 : Nat) (0 : Int)))) = L.getD i.toNat zblk := rfl
  have hb0 : (L.getD (Int.toNat (0 : Int)) (.mk (0 : Int) (0 : Int) (List.replicate (32 : Nat) (0 : Int)) (0 : Int) [] (0 : Int) (List.replicate (8 : Nat) (0 : Int)))) = L.getD 0 zblk := rfl
  rw [hb2, hb0]
  generalize L.getD i.toNat zblk = b
  generalize (L.getD 0 zblk) = c
  generalize (i == (L.length : Int) - 1) = last
  unfold okB
  cases hg : blkOk b with
  | false => rfl
  | true =>
    rw [Bool.not_true, cond_false, cond_true]
    by_cases hid : b.Id = c.Id
    · rw [show (b.2 != c.2) = false from by simpa using hid, cond_false, decide_eq_true hid]
      rcases kind_of hg with h1 | h2 | h3
      · have h2 : ¬ b.Kind = 2 := by omega
        have h3 : ¬ b.Kind = 3 := by omega
        rw [show (b.1 == 3) = false from by simpa using h3, cond_false, show (b.1 == 1) = true from by simpa using h1, cond_true, show (b.1 == 2) = false from by simpa using h2, decide_eq_true h1, decide_eq_false h2]
        unfold stepP
        rw [if_pos h1]
        cases last <;> rfl
      · have h1 : ¬ b.Kind = 1 := by omega
        have h3 : ¬ b.Kind = 3 := by omega
        rw [show (b.1 == 3) = false from by simpa using h3, cond_false, show (b.1 == 1) = false from by simpa using h1, cond_false, show (b.1 == 2) = true from by simpa using h2, cond_true, decide_eq_true h2, decide_eq_false h1]
        unfold stepP
        rw [if_neg h1, rapply_ok (good_app hg h2), Option.bind_some]
        show (bif !((b.Prev == 1) == last) then _ else _) = _
        cases ((b.Prev == 1) == last) <;> rfl
      · have h1 : ¬ b.Kind = 1 := by omega
        have h2 : ¬ b.Kind = 2 := by omega
        rw [show (b.1 == 3) = true from by simpa using h3, cond_true, decide_eq_false h2, decide_eq_false h1]
        rfl
    · rw [show (b.2 != c.2) = true from by simpa using hid, cond_true, decide_eq_false hid]
      rfl
theorem chk_drop {id : Int} : ∀ (n : Nat) {l : List Blk}, chk id l = true → chk id (l.drop n) = true
  | 0, _, h => h
  | n + 1, [], h => by simpa using h
  | n + 1, b :: r, h => by
    unfold chk at h
    simp only [Bool.and_eq_true] at h
    exact chk_drop n h.2
theorem rpage_loop {k : Nat} (hk : 8 < k) (L : List Blk) (w : ∀ b ∈ L, IsBlk b) (hl : L.length ≤ 3) : ∃ o, iterR (R58_5 k) k (L, (L.length : Int) - 1, zpage, false, zpage) = some o ∧
    ((∃ q, o = Sum.inl (zpage, false, q) ∧ chk (L.getD 0 zblk).Id L = false) ∨ (o = Sum.inr (zpage, false, foldP L) ∧ chk (L.getD 0 zblk).Id L = true)) := by
  have := iter_post (R := R58_5 k) (fun x => ∃ i : Int, x = (L, i, zpage, false, (L.drop (i + 1).toNat).reverse.foldl stepP zpage) ∧ -1 ≤ i ∧ i < L.length ∧ chk (L.getD 0 zblk).Id (L.drop (i + 1).toNat) = true) (fun x => (x.2.1 + 1).toNat)
    (fun _ o => (∃ q, o = Sum.inl (zpage, false, q) ∧ chk (L.getD 0 zblk).Id L = false) ∨ (o = Sum.inr (zpage, false, foldP L) ∧ chk (L.getD 0 zblk).Id L = true)) (by
      rintro x ⟨i, rfl, hi0, hi1, hc⟩
      by_cases h0 : 0 ≤ i
      · have hil : i.toNat < L.length := by omega
        have hd := drop_cons zblk hil
        have e1 : (i + 1).toNat = i.toNat + 1 := by omega
        have hdl : (L.drop (i.toNat + 1)).isEmpty = (i == (L.length : Int) - 1) := by
          rw [Bool.eq_iff_iff, List.isEmpty_iff, List.drop_eq_nil_iff, beq_iff_eq]
          omega
        have hck : chk (L.getD 0 zblk).Id (L.drop i.toNat) = okB (L.getD 0 zblk).Id (i == (L.length : Int) - 1) (L.getD i.toNat zblk) := by
          rw [hd]
          unfold chk
          rw [hdl, ← e1, hc, Bool.and_true]
        have hR := fun again => rpage_round hk h0 hi1 hl (w _ (getD_mem (d := zblk) hil)) again zpage false ((L.drop (i + 1).toNat).reverse.foldl stepP zpage)
        cases ho : okB (L.getD 0 zblk).Id (i == (L.length : Int) - 1) (L.getD i.toNat zblk) with
        | false =>
          refine .inl ⟨_, fun again => by rw [hR, ho, if_neg (by decide)], .inl ⟨_, rfl, ?_⟩⟩
          cases hall : chk (L.getD 0 zblk).Id L with
          | false => rfl
          | true =>
            have := chk_drop i.toNat hall
            rw [hck, ho] at this
            cases this
        | true =>
          have e2 : (i - 1 + 1).toNat = i.toNat := by omega
          refine .inr ⟨_, fun again => by rw [hR, ho, if_pos rfl], ⟨i - 1, ?_, by omega, by omega, ?_⟩, ?_, fun _ h => h⟩
          · rw [e2, hd, List.reverse_cons, List.foldl_append, e1]
            rfl
          · rw [e2, hck, ho]
          · show (i - 1 + 1).toNat < (i + 1).toNat
            omega
      · have e1 : (i + 1).toNat = 0 := by omega
        rw [e1, List.drop_zero] at hc
        refine .inl ⟨_, fun again => ?_, .inr ⟨rfl, hc⟩⟩
        unfold R58_5
        simp only
        rw [decide_eq_false (show ¬ i ≥ 0 from h0), cond_false, e1, List.drop_zero]
        rfl) k (L, (L.length : Int) - 1, zpage, false, zpage) ⟨(L.length : Int) - 1, by
          rw [show ((L.length : Int) - 1 + 1).toNat = L.length by omega, List.drop_length]
          rfl, by omega, by omega, by
          rw [show ((L.length : Int) - 1 + 1).toNat = L.length by omega, List.drop_length]
          rfl⟩ (by show ((L.length : Int) - 1 + 1).toNat < k; omega)
  exact this
theorem rpage_eq {k : Nat} (hk : 8 < k) (L : List Blk) (w : ∀ b ∈ L, IsBlk b) : ∃ r, F58 k (L, ()) = some r ∧ r.1 = (if okC L = true then foldP L else zpage) ∧ r.2 = okC L := by
  unfold F58
  simp only
  by_cases h3 : (L.length : Int) > 3
  · rw [decide_eq_true h3, cond_true]
    have : okC L = false := by
      unfold okC
      rw [show decide (L.length ≤ 3) = false from by simp <;> omega, Bool.false_and]
    rw [this]
    exact ⟨_, rfl, rfl, rfl⟩
  · rw [decide_eq_false h3, cond_false, wI_in (by omega)]
    obtain ⟨o, ho, h⟩ := rpage_loop hk L w (by omega)
    have hoc : okC L = chk (L.getD 0 zblk).Id L := by
      unfold okC
      rw [show decide (L.length ≤ 3) = true from by simp <;> omega, Bool.true_and]
      cases L <;> rfl
    show ∃ r, (iterR (R58_5 k) k (L, (L.length : Int) - 1, zpage, false, zpage)).bind _ = some r ∧ _
    rw [ho, Option.bind_some, hoc]
    rcases h with ⟨q, rfl, hc⟩ | ⟨rfl, hc⟩
    · rw [hc]; exact ⟨_, rfl, rfl, rfl⟩
    · rw [hc]; exact ⟨_, rfl, rfl, rfl⟩
/-! ### FoldTells -/
theorem copy_loop (k : Nat) (L : List Blk) (hl : L.length ≤ 20) (hb : ∀ x ∈ L, x.Bytes.length ≤ 300) {f : Nat} (hf : L.length < f) : iterR (R18_5 k) f (L, 0, []) = some (L, L) := by
  refine iter_out (R := R18_5 k) (fun x => ∃ i : Int, x = (L, i, L.take i.toNat) ∧ 0 ≤ i ∧ i ≤ L.length) (fun x => L.length - x.2.1.toNat) (fun _ => (L, L)) ?_ ⟨0, rfl, by omega, by omega⟩ (by show L.length - 0 < _; omega)
  rintro x ⟨i, rfl, h0, h1⟩
  have hroom : roomMost ≥ 1000 := by decide
  by_cases hlt : i < L.length
  · have hil : i.toNat < L.length := by omega
    have e1 : (i + 1).toNat = i.toNat + 1 := by omega
    refine .inr ⟨(L, i + 1, L.take (i + 1).toNat), fun again => ?_, ⟨i + 1, rfl, by omega, by omega⟩, by show L.length - (i + 1).toNat < L.length - i.toNat; omega, rfl⟩
    unfold R18_5
    simp only
    have hm := hb _ (getD_mem (d := zblk) hil)
    rw [decide_eq_true hlt, cond_true, inRange_true ⟨h0, hlt⟩, cond_true, decide_eq_true (show _ ≤ roomMost by
      show 0 + (L.getD i.toNat zblk).Bytes.length ≤ roomMost
      omega), cond_true, decide_eq_true (show _ ≤ roomMost by
      simp only [List.length_set, List.length_replicate, List.length_take]
      omega), cond_true, wI_in (by omega)]
    congr 3
    rw [e1, List.take_succ_eq_append_getElem hil]
    have hg : L.getD i.toNat zblk = L[i.toNat] := by rw [List.getD_eq_getElem?_getD, List.getElem?_eq_getElem hil]; rfl
    rw [← hg]
    rfl
  · refine .inl fun again => ?_
    unfold R18_5
    simp only
    rw [decide_eq_false hlt, cond_false, List.take_of_length_le (by omega)]
theorem block_same (k : Nat) (b : Blk) : F54 k (b, b, ()) = some true := by
  unfold F54 F27
  simp
theorem same_loop (k : Nat) (L : List Blk) (hl : L.length ≤ 20) (e : Int) (p q : List Int) (ok : Bool) {f : Nat} (hf : L.length < f) : iterR (R18_13 k) f (L, e, 0, L, p, q, ok) = some (Sum.inr (e, p, q, ok)) := by
  refine iter_out (R := R18_13 k) (fun x => ∃ i : Int, x = (L, e, i, L, p, q, ok) ∧ 0 ≤ i ∧ i ≤ L.length) (fun x => L.length - x.2.2.1.toNat) (fun _ => Sum.inr (e, p, q, ok)) ?_ ⟨0, rfl, by omega, by omega⟩ (by show L.length - 0 < _; omega)
  rintro x ⟨i, rfl, h0, h1⟩
  by_cases hlt : i < L.length
  · refine .inr ⟨(L, e, i + 1, L, p, q, ok), fun again => ?_, ⟨i + 1, rfl, by omega, by omega⟩, by show L.length - (i + 1).toNat < L.length - i.toNat; omega, rfl⟩
    unfold R18_13
    simp only
    rw [decide_eq_true hlt, cond_true, inRange_true ⟨h0, hlt⟩, cond_true, cond_true, wI_in (by omega)]
    show (F54 k (L.getD i.toNat zblk, L.getD i.toNat zblk, ())).bind _ = _
    rw [block_same]
    rfl
  · refine .inl fun again => ?_
    unfold R18_13
    simp only
    rw [decide_eq_false hlt, cond_false]
theorem foldTells_plain (L : List Blk) (hl : L.length ≤ maxLen) (w : ∀ x ∈ L, IsBlk x) : ∃ k, F18 k (L, ()) = some true := by
  refine ⟨L.length + 100, ?_⟩
  generalize hk : L.length + 100 = k
  have hk8 : 8 < k := by omega
  have hwk := wakes (k := k) (by omega)
  obtain ⟨f, hf, hfair⟩ := ffair_of k L hl (by omega)
  unfold F18
  simp only
  rw [hf, Option.bind_some, hwk]
  cases f with
  | false => rfl
  | true =>
    have hl20 := hfair rfl
    rw [Bool.not_true, cond_false]
    show ((iterR (R18_5 k) k (L, 0, [])).bind _) = _
    rw [copy_loop k L hl20.1 hl20.2 (by omega), Option.bind_some]
    simp only
    rw [page_eq hk8 _ w, Option.bind_some]
    obtain ⟨r, hr, hr1, hr2⟩ := rpage_eq hk8 L w
    rw [hr, Option.bind_some]
    show ((iterR (R18_13 k) k (L, _, 0, L, _, _, _)).bind _) = _
    rw [same_loop k L hl20.1 _ _ _ _ (by omega), Option.bind_some]
    show (bif decide (_ = r.1) then bif (_ == r.2) then _ else _ else _) = _
    rw [hr1, hr2]
    cases okC L with
    | false => rfl
    | true =>
      rw [if_pos rfl, if_pos rfl]
      show (bif decide (foldP L = foldP L) then _ else _) = _
      rw [decide_eq_true rfl]
      rfl
/-! ### PolicyChains -/
theorem pwakes : F46 100 () = some true := by kernel_rfl
theorem diff_loop (p : List Int) (hp : p.length = 32) {j : Nat} (hj : j < 32) {b : Int} (hb : p.getD j 0 ≠ b) : iterR (R23_3 100) 100 (-1, 0, 0, p, p.set j b) = some ((j : Int), (j : Int), p.set j b) := by
  refine iter_out (R := R23_3 100) (fun x => ∃ i : Nat, i ≤ 32 ∧ x = (if i ≤ j then (-1, 0, (i : Int), p, p.set j b) else ((j : Int), (j : Int), (i : Int), p, p.set j b))) (fun x => 32 - x.2.2.1.toNat) (fun _ => ((j : Int), (j : Int), p.set j b)) ?_ ⟨0, by omega, by rw [if_pos (by omega)]; rfl⟩ (by show 32 - 0 < 100; omega)
  rintro x ⟨i, hi, rfl⟩
  by_cases h32 : i < 32
  · refine .inr ⟨if i + 1 ≤ j then (-1, 0, ((i + 1 : Nat) : Int), p, p.set j b) else ((j : Int), (j : Int), ((i + 1 : Nat) : Int), p, p.set j b), fun again => ?_, ⟨i + 1, by omega, rfl⟩, ?_, rfl⟩
    · have hw : IntKind.i64.wrap ((i : Int) + 1) = ((i + 1 : Nat) : Int) := by rw [wI_in (by omega)]; omega
      have hg : (p.set j b).getD i 0 = if j = i then b else p.getD i 0 := by
        rw [List.getD_eq_getElem?_getD, List.getD_eq_getElem?_getD, List.getElem?_set]
        by_cases e : j = i
        · rw [if_pos e, if_pos e, if_pos (by omega)]; rfl
        · rw [if_neg e, if_neg e]
      by_cases hij : i < j
      · rw [if_pos (by omega), if_pos (by omega)]
        unfold R23_3
        simp only
        rw [decide_eq_true (show (i : Int) < 32 by omega), cond_true, inRange_true ⟨by omega, by omega⟩, cond_true, cond_true, Int.toNat_natCast, hg, if_neg (by omega), show (p.getD i 0 == p.getD i 0) = true from by simp, cond_true, hw]
      · by_cases hji : j = i
        · subst hji
          rw [if_pos (by omega), if_neg (by omega)]
          unfold R23_3
          simp only
          rw [decide_eq_true (show (j : Int) < 32 by omega), cond_true, inRange_true ⟨by omega, by omega⟩, cond_true, cond_true, Int.toNat_natCast, hg, if_pos rfl, show (p.getD j 0 == b) = false from by simpa using hb, cond_false, decide_eq_true (show (-1 : Int) < 0 by decide), cond_true, hw]
        · rw [if_neg (by omega), if_neg (by omega)]
          unfold R23_3
          simp only
          rw [decide_eq_true (show (i : Int) < 32 by omega), cond_true, inRange_true ⟨by omega, by omega⟩, cond_true, cond_true, Int.toNat_natCast, hg, if_neg hji, show (p.getD i 0 == p.getD i 0) = true from by simp, cond_true, hw]
    · split <;> split <;> (simp only; omega)
  · have hi2 : i = 32 := by omega
    subst hi2
    refine .inl fun again => ?_
    rw [if_neg (by omega)]
    unfold R23_3
    simp only
    rw [decide_eq_false (by decide), cond_false]
theorem diff_set (p : List Int) (hp : p.length = 32) {j : Nat} (hj : j < 32) {b : Int} (hb : p.getD j 0 ≠ b) : F23 100 (p, p.set j b, ()) = some ((j : Int), [b], true, ()) := by
  show ((iterR (R23_3 100) 100 (-1, 0, 0, p, p.set j b)).bind _) = _
  rw [diff_loop p hp hj hb, Option.bind_some]
  simp only
  have hroom : roomMost ≥ 1000 := by decide
  rw [decide_eq_false (show ¬ (j : Int) < 0 by omega), cond_false, wI_in (x := (j : Int) - j) (by omega), decide_eq_false (show ¬ (j : Int) - j ≥ 16 by omega), cond_false, wI_in (x := (j : Int) + 1) (by omega),
    decide_eq_true (show (0 : Int) ≤ j by omega), decide_eq_true (show (j : Int) ≤ j + 1 by omega), decide_eq_true (show (j : Int) + 1 ≤ ((32 : Nat) : Int) by omega)]
  have ht : List.take ((j : Int) + 1 - j).toNat (List.drop (j : Int).toNat (p.set j b)) = [b] := by
    rw [show ((j : Int) + 1 - j).toNat = 1 by omega, Int.toNat_natCast, drop_cons 0 (by simp; omega)]
    simp [List.getD_eq_getElem?_getD, hp, hj]
  rw [ht, decide_eq_true (by simp; omega)]
  rfl
structure MayP (id h n : Int) : Prop where
  id : 0 ≤ id ∧ id < 64
  hn : (h = 1 ∧ n = 0) ∨ (4 ≤ h ∧ h ≤ 1023 ∧ 1 ≤ n ∧ n ≤ 3)
theorem may_eq {id h n : Int} (m : MayP id h n) (p : List Int) : F72 100 (id, .mk h n p, ()) = some true := by
  have := m.id
  have hn := m.hn
  unfold F72
  simp only
  rw [decide_eq_false (show ¬ id < 0 by omega), cond_false, decide_eq_false (show ¬ id ≥ 64 by omega), cond_false, decide_eq_false (show ¬ n < 0 by omega), cond_false, decide_eq_false (show ¬ n > 3 by omega), cond_false, show (h == 0) = false from by simp; omega, cond_false]
  rcases hn with ⟨rfl, rfl⟩ | ⟨h1, h2, h3, h4⟩
  · rfl
  · rw [show (h == 1) = false from by simp; omega, cond_false, decide_eq_true (show n > 0 by omega), cond_true]
    show (F47 100 (.mk 2 id zpage 0 [0] h zheads, ())).bind _ = _
    rw [good_eq (isBlk_delta _ _ _ (fun x hx => by rw [List.mem_singleton.1 hx]; exact isByte0)) (by decide), blkOk_delta m.id (by unfold headOk; simp; omega) (by omega)]
    rfl
theorem item_same {id h n : Int} (m : MayP id h n) (p : List Int) : ∃ r, F45 100 (id, .mk h n p, p, ()) = some r ∧ r.2.1 = 17 := by
  have hn := m.hn
  unfold F45
  simp only
  rw [may_eq m p, Option.bind_some, Bool.not_true, cond_false, show (h == 0) = false from by simp; omega, cond_false, decide_true, cond_true]
  exact ⟨_, rfl, rfl⟩
theorem whole_eq {id : Int} (hid : 0 ≤ id ∧ id < 64) {p : List Int} (hp : p.length = 32 ∧ ∀ x ∈ p, IsByte x) : F73 100 (id, p, ()) = some (.mk (.mk 1 id) (.mk 1 id p 0 [] 0 zheads), 0, ()) := by
  show (F47 100 (.mk 1 id p 0 [] 0 zheads, ())).bind _ = _
  rw [good_eq (isBlk_image _ hp) (by decide), show blkOk (.mk 1 id p 0 [] 0 zheads) = true from by
    unfold blkOk
    rw [if_pos rfl]
    simp [hid.1, hid.2]]
  rfl
theorem item_diff {id h n : Int} (m : MayP id h n) {p : List Int} (hp : p.length = 32) {j : Nat} (hj : j < 32) {b : Int} (hb : p.getD j 0 ≠ b) (hq : ∀ x ∈ p.set j b, IsByte x) (hne : p ≠ p.set j b) :
    F45 100 (id, .mk h n p, p.set j b, ()) = some (if n ≥ 3 then (.mk (.mk 1 id) (.mk 1 id (p.set j b) 0 [] 0 zheads), 0, ()) else (.mk (.mk 2 id) (.mk 2 id zpage j [b] h zheads), 0, ())) := by
  have hn := m.hn
  unfold F45
  simp only
  rw [may_eq m p, Option.bind_some, Bool.not_true, cond_false, show (h == 0) = false from by simp; omega, cond_false, decide_eq_false hne, cond_false, diff_set p hp hj hb, Option.bind_some, Bool.not_true, cond_false]
  by_cases h3 : n ≥ 3
  · rw [decide_eq_true h3, cond_true, if_pos h3, whole_eq m.id ⟨by simpa using hp, hq⟩]
    rfl
  · rw [decide_eq_false h3, cond_false, if_neg h3]
    rfl
structure ChI (id hd h n : Int) (p : List Int) (ch : List Blk) : Prop where
  cid : 0 ≤ id ∧ id < 64
  chd : 4 ≤ hd ∧ hd ≤ 60
  page : p.length = 32 ∧ ∀ x ∈ p, IsByte x
  ch : (h = 1 ∧ n = 0 ∧ ch = [] ∧ p = zpage) ∨ (4 ≤ h ∧ h < hd ∧ n = ch.length ∧ okC ch = true ∧ foldP ch = p ∧ (∀ b ∈ ch, IsBlk b) ∧ ∃ c t, ch = c :: t ∧ c.Id = id)
theorem ChI.len {id hd h n : Int} {p : List Int} {ch : List Blk} (c : ChI id hd h n p ch) : n = ch.length ∧ ch.length ≤ 3 := by
  rcases c.ch with ⟨_, h2, h3, _⟩ | ⟨_, _, h3, h4, _⟩
  · rw [h3]; exact ⟨h2, by simp⟩
  · unfold okC at h4
    simp only [Bool.and_eq_true, decide_eq_true_eq] at h4
    exact ⟨h3, h4.1⟩
theorem ChI.may {id hd h n : Int} {p : List Int} {ch : List Blk} (c : ChI id hd h n p ch) : MayP id h n := by
  refine ⟨c.cid, ?_⟩
  have hl := c.len
  have hd := c.chd
  rcases c.ch with ⟨h1, h2, _, _⟩ | ⟨h1, h2, h3, _, _, _, x, t, rfl, _⟩
  · exact .inl ⟨h1, h2⟩
  · refine .inr ⟨h1, by omega, ?_, by omega⟩
    simp only [List.length_cons] at h3
    omega
theorem ChI.chain {id hd h n : Int} {p : List Int} {ch : List Blk} (c : ChI id hd h n p ch) {o b : Int} (ho : 0 ≤ o ∧ o ≤ 31) (hb : IsByte b) (hl3 : ch.length < 3) : F57 100 (.mk 2 id zpage o [b] h zheads :: ch, ()) = some (app p o [b], 0, ()) ∧ okC (.mk 2 id zpage o [b] h zheads :: ch) = true ∧ foldP (.mk 2 id zpage o [b] h zheads :: ch) = app p o [b] ∧ ∀ x ∈ (.mk 2 id zpage o [b] h zheads :: ch : List Blk), IsBlk x := by
  have hd := c.chd
  have happ : (appOk o [b] && decide (([b] : List Int).length ≤ 16)) = true := by
    unfold appOk
    rw [Bool.and_eq_true, decide_eq_true_eq, decide_eq_true_eq]
    show (0 ≤ o ∧ 1 ≤ 1 ∧ 1 ≤ 32 ∧ o ≤ 32 - 1) ∧ 1 ≤ 16
    omega
  have hbs : ∀ x ∈ [b], IsByte x := fun x hx => by rw [List.mem_singleton.1 hx]; exact hb
  have key : okC (.mk 2 id zpage o [b] h zheads :: ch) = true ∧ foldP (.mk 2 id zpage o [b] h zheads :: ch) = app p o [b] ∧ ∀ x ∈ (.mk 2 id zpage o [b] h zheads :: ch : List Blk), IsBlk x := by
    rcases c.ch with ⟨rfl, _, rfl, rfl⟩ | ⟨h1, h2, h3, h4, h5, h6, x, t, rfl, h7⟩
    · refine ⟨?_, rfl, fun x hx => by rw [List.mem_singleton.1 hx]; exact isBlk_delta _ _ _ hbs⟩
      rw [okC_one, okB_delta c.cid (by decide) (by decide), happ]
      rfl
    · refine ⟨?_, by rw [foldP_cons, h5]; rfl, fun y hy => by
        rcases List.mem_cons.1 hy with rfl | hy
        · exact isBlk_delta _ _ _ hbs
        · exact h6 y hy⟩
      unfold okC at h4 ⊢
      simp only [Bool.and_eq_true, decide_eq_true_eq] at h4
      show (decide ((x :: t).length + 1 ≤ 3) && chk id (.mk 2 id zpage o [b] h zheads :: x :: t)) = true
      unfold chk
      rw [← h7, h4.2, Bool.and_true, decide_eq_true (by omega), Bool.true_and, h7]
      show okB id false (.mk 2 id zpage o [b] h zheads) = true
      rw [okB_delta c.cid (by unfold headOk; simp; omega) (by omega), happ, show (h == 1) = false from by simp; omega]
      rfl
  refine ⟨?_, key⟩
  rw [page_eq (by decide) _ key.2.2, if_pos key.1, key.2.1]
theorem app_one (p : List Int) (hp : p.length = 32) {j : Nat} (hj : j < 32) (b : Int) : app p j [b] = p.set j b := by
  unfold app splice
  rw [Int.toNat_natCast]
  apply List.ext_getElem?
  intro i
  rw [List.getElem?_set]
  simp only [List.length_singleton, List.take_succ_cons, List.take_zero]
  by_cases h1 : i < j
  · rw [List.append_assoc, List.getElem?_append_left (by simp; omega), List.getElem?_take_of_lt h1, if_neg (by omega)]
  · by_cases h2 : j = i
    · subst h2
      rw [if_pos rfl, if_pos (by omega), List.append_assoc, List.getElem?_append_right (by simp; omega)]
      simp [hp, Nat.min_eq_left (Nat.le_of_lt hj)]
    · rw [if_neg h2, List.getElem?_append_right (by simp; omega), List.getElem?_drop]
      congr 1
      simp
      omega
theorem chain_loop (L : List (List Int)) (hL : L.length ≤ 40) (w : ∀ e ∈ L, e.length = 2 ∧ ∀ x ∈ e, 0 ≤ x ∧ x ≤ 255) {id : Int} (hid : 0 ≤ id ∧ id < 64) : iterR (R21_8 100) 100 (L, id, 4, 0, 1, 0, zpage, []) = some (Sum.inr ()) := by
  refine iter_out (R := R21_8 100) (fun x => ∃ i hd h n p ch, x = (L, id, hd, i, h, n, p, ch) ∧ 0 ≤ i ∧ i ≤ L.length ∧ hd ≤ 4 + i ∧ ChI id hd h n p ch) (fun x => L.length - x.2.2.2.1.toNat) (fun _ => Sum.inr ()) ?_ ⟨0, 4, 1, 0, zpage, [], rfl, by omega, by omega, by omega, ⟨hid, by omega, zpage_bytes, .inl ⟨rfl, rfl, rfl, rfl⟩⟩⟩ (by show L.length - 0 < 100; omega)
  rintro x ⟨i, hd, h, n, p, ch, rfl, h0, h1, hhd, c⟩
  have hl := c.len
  have hchd := c.chd
  by_cases hlt : i < L.length
  · have hil : i.toNat < L.length := by omega
    obtain ⟨a, b, he, ha, hb⟩ : ∃ a b, L.getD i.toNat (List.replicate (2 : Nat) (0 : Int)) = [a, b] ∧ (0 ≤ a ∧ a ≤ 255) ∧ (0 ≤ b ∧ b ≤ 255) := by
      have hm := w _ (getD_mem (d := List.replicate (2 : Nat) (0 : Int)) hil)
      generalize L.getD i.toNat (List.replicate (2 : Nat) (0 : Int)) = e at hm ⊢
      match e, hm.1 with
      | [a, b], _ => exact ⟨a, b, rfl, hm.2 a (by simp), hm.2 b (by simp)⟩
    obtain ⟨j, hj, hja⟩ : ∃ j : Nat, j < 32 ∧ a.tmod 32 = (j : Int) := ⟨(a.tmod 32).toNat, by rw [Int.tmod_eq_emod_of_nonneg ha.1]; omega, by rw [Int.tmod_eq_emod_of_nonneg ha.1]; omega⟩
    have e0 : List.getD [a, b] (Int.toNat (0 : Int)) (0 : Int) = a := rfl
    have e1 : List.getD [a, b] (Int.toNat (1 : Int)) (0 : Int) = b := rfl
    have hw1 : IntKind.i64.wrap (i + 1) = i + 1 := wI_in (by omega)
    have hw2 : IntKind.i64.wrap (hd + 1) = hd + 1 := wI_in (by omega)
    have head : ∀ again, R21_8 100 again (L, id, hd, i, h, n, p, ch) = (F45 100 (id, T85.mk h n p, p.set j b, ())).bind fun r => bif decide (p.set j b = p) then bif r.snd.fst != (17 : Int) then some (Sum.inl false) else again (L, id, hd, (i + 1), h, n, p, ch) else bif r.snd.fst != (0 : Int) then some (Sum.inl false) else bif !(r.fst.1.1 == (2 : Int)) == decide ((↑ch.length : Int) < (3 : Int)) then some (Sum.inl false) else bif r.fst.1.1 == (1 : Int) then (F57 100 ((List.replicate (1 : Nat) (T89.mk (0 : Int) (0 : Int) (List.replicate (32 : Nat) (0 : Int)) (0 : Int) [] (0 : Int) (List.replicate (8 : Nat) (0 : Int)))).set (0 : Nat) (T89.mk r.fst.2.1 r.fst.2.2 r.fst.2.3 r.fst.2.4 r.fst.2.5 r.fst.2.6 r.fst.2.7) ++ [], ())).bind fun r_1 => bif r_1.snd.fst != (0 : Int) then some (Sum.inl false) else bif !decide (r_1.fst = p.set j b) then some (Sum.inl false) else again (L, id, (hd + 1), (i + 1), hd, (↑((List.replicate (1 : Nat) (T89.mk (0 : Int) (0 : Int) (List.replicate (32 : Nat) (0 : Int)) (0 : Int) [] (0 : Int) (List.replicate (8 : Nat) (0 : Int)))).set (0 : Nat) (T89.mk r.fst.2.1 r.fst.2.2 r.fst.2.3 r.fst.2.4 r.fst.2.5 r.fst.2.6 r.fst.2.7) ++ []).length : Int), p.set j b, (List.replicate (1 : Nat) (T89.mk (0 : Int) (0 : Int) (List.replicate (32 : Nat) (0 : Int)) (0 : Int) [] (0 : Int) (List.replicate (8 : Nat) (0 : Int)))).set (0 : Nat) (T89.mk r.fst.2.1 r.fst.2.2 r.fst.2.3 r.fst.2.4 r.fst.2.5 r.fst.2.6 r.fst.2.7) ++ []) else bif decide (((List.replicate (1 : Nat) (T89.mk (0 : Int) (0 : Int) (List.replicate (32 : Nat) (0 : Int)) (0 : Int) [] (0 : Int) (List.replicate (8 : Nat) (0 : Int)))).set (0 : Nat) (T89.mk r.fst.2.1 r.fst.2.2 r.fst.2.3 r.fst.2.4 r.fst.2.5 r.fst.2.6 r.fst.2.7)).length + ch.length ≤ roomMost) then (F57 100 ((List.replicate (1 : Nat) (T89.mk (0 : Int) (0 : Int) (List.replicate (32 : Nat) (0 : Int)) (0 : Int) [] (0 : Int) (List.replicate (8 : Nat) (0 : Int)))).set (0 : Nat) (T89.mk r.fst.2.1 r.fst.2.2 r.fst.2.3 r.fst.2.4 r.fst.2.5 r.fst.2.6 r.fst.2.7) ++ ch, ())).bind fun r_1 => bif r_1.snd.fst != (0 : Int) then some (Sum.inl false) else bif !decide (r_1.fst = p.set j b) then some (Sum.inl false) else again (L, id, (hd + 1), (i + 1), hd, (↑((List.replicate (1 : Nat) (T89.mk (0 : Int) (0 : Int) (List.replicate (32 : Nat) (0 : Int)) (0 : Int) [] (0 : Int) (List.replicate (8 : Nat) (0 : Int)))).set (0 : Nat) (T89.mk r.fst.2.1 r.fst.2.2 r.fst.2.3 r.fst.2.4 r.fst.2.5 r.fst.2.6 r.fst.2.7) ++ ch).length : Int), p.set j b, (List.replicate (1 : Nat) (T89.mk (0 : Int) (0 : Int) (List.replicate (32 : Nat) (0 : Int)) (0 : Int) [] (0 : Int) (List.replicate (8 : Nat) (0 : Int)))).set (0 : Nat) (T89.mk r.fst.2.1 r.fst.2.2 r.fst.2.3 r.fst.2.4 r.fst.2.5 r.fst.2.6 r.fst.2.7) ++ ch) else none := by
      intro again
      unfold R21_8
      simp only
      rw [he, e0, e1, hja, decide_eq_true hlt, cond_true, inRange_true ⟨h0, hlt⟩, cond_true, cond_true, inRange_true ⟨by omega, by omega⟩, cond_true, Int.toNat_natCast, hw1, hw2]
    by_cases hsame : p.getD j 0 = b
    · have hset : p.set j b = p := by
        have hjl : j < p.length := by rw [c.page.1]; exact hj
        rw [← hsame, List.getD_eq_getElem?_getD, List.getElem?_eq_getElem hjl]
        simp
      obtain ⟨r, hr, hr17⟩ := item_same c.may p
      refine .inr ⟨(L, id, hd, i + 1, h, n, p, ch), fun again => ?_, ⟨i + 1, hd, h, n, p, ch, rfl, by omega, by omega, by omega, c⟩, by show L.length - (i + 1).toNat < L.length - i.toNat; omega, rfl⟩
      rw [head, hset, hr, Option.bind_some, decide_eq_true (rfl : p = p), cond_true, show (r.2.1 != 17) = false from by rw [hr17]; rfl, cond_false]
    · have hjl : j < p.length := by rw [c.page.1]; exact hj
      have hne : p.set j b ≠ p := fun e => hsame (by
        rw [List.getD_eq_getElem?_getD, ← e, List.getElem?_set, if_pos rfl, if_pos hjl]
        rfl)
      have hq : ∀ x ∈ p.set j b, IsByte x := fun x hx => by
        rcases List.mem_or_eq_of_mem_set hx with h | h
        · exact c.page.2 x h
        · rw [h]; exact hb
      have hql : (p.set j b).length = 32 ∧ ∀ x ∈ p.set j b, IsByte x := ⟨by rw [List.length_set]; exact c.page.1, hq⟩
      have hit := item_diff c.may c.page.1 hj hsame hq (fun e => hne e.symm)
      by_cases h3 : n ≥ 3
      · rw [if_pos h3] at hit
        refine .inr ⟨(L, id, hd + 1, i + 1, hd, 1, p.set j b, [.mk 1 id (p.set j b) 0 [] 0 zheads]), fun again => ?_, ⟨i + 1, hd + 1, hd, 1, _, _, rfl, by omega, by omega, by omega, ⟨hid, by omega, hql, .inr ⟨by omega, by omega, rfl, ?_, rfl, fun x hx => by rw [List.mem_singleton.1 hx]; exact isBlk_image _ hql, _, _, rfl, rfl⟩⟩⟩, by show L.length - (i + 1).toNat < L.length - i.toNat; omega, rfl⟩
        · rw [head, hit, Option.bind_some, decide_eq_false hne, cond_false]
          have hp1 : F57 100 ([.mk 1 id (p.set j b) 0 [] 0 zheads], ()) = some (p.set j b, 0, ()) := by
            rw [page_eq (by decide) _ (fun x hx => by rw [List.mem_singleton.1 hx]; exact isBlk_image _ hql), okC_one, okB_image hid, if_pos rfl]
            rfl
          rw [show decide ((ch.length : Int) < 3) = false from by simp; omega]
          show (F57 100 ([.mk 1 id (p.set j b) 0 [] 0 zheads], ())).bind _ = _
          rw [hp1, Option.bind_some]
          simp only
          rw [show ((0 : Int) != 0) = false from rfl, cond_false, decide_true, Bool.not_true, cond_false]
          rfl
        · rw [okC_one, okB_image hid]
      · rw [if_neg h3] at hit
        have hch3 : ch.length < 3 := by omega
        obtain ⟨q1, q2, q3, q4⟩ := c.chain (o := (j : Int)) (b := b) ⟨by omega, by omega⟩ hb hch3
        rw [app_one p c.page.1 hj b] at q1 q3
        refine .inr ⟨(L, id, hd + 1, i + 1, hd, ((.mk 2 id zpage j [b] h zheads :: ch : List Blk).length : Int), p.set j b, .mk 2 id zpage j [b] h zheads :: ch), fun again => ?_, ⟨i + 1, hd + 1, hd, _, _, _, rfl, by omega, by omega, by omega, ⟨hid, by omega, hql, .inr ⟨by omega, by omega, rfl, q2, q3, q4, _, _, rfl, rfl⟩⟩⟩, by show L.length - (i + 1).toNat < L.length - i.toNat; omega, rfl⟩
        rw [head, hit, Option.bind_some, decide_eq_false hne, cond_false]
        rw [show decide ((ch.length : Int) < 3) = true from by simp; omega]
        show (bif decide (([_] : List Blk).length + ch.length ≤ roomMost) then (F57 100 (.mk 2 id zpage j [b] h zheads :: ch, ())).bind _ else none) = _
        rw [decide_eq_true (by have : roomMost ≥ 1000 := by decide
                               simp only [List.length_singleton]; omega), cond_true, q1, Option.bind_some]
        simp only
        rw [show ((0 : Int) != 0) = false from rfl, cond_false, decide_true, Bool.not_true, cond_false]
        rfl
  · refine .inl fun again => ?_
    unfold R21_8
    simp only
    rw [decide_eq_false hlt, cond_false]
theorem policyChains_plain (a : Int) (L : List (List Int)) (ha : 0 ≤ a ∧ a ≤ 255) (w : ∀ e ∈ L, e.length = 2 ∧ ∀ x ∈ e, 0 ≤ x ∧ x ≤ 255) : ∃ k, F21 k (a, L, ()) = some true := by
  refine ⟨100, ?_⟩
  unfold F21
  simp only
  rw [pwakes, wI_in (x := a) (by omega)]
  by_cases h : (L.length : Int) > 40
  · rw [decide_eq_true h, cond_true]; rfl
  · rw [decide_eq_false h, cond_false]
    show ((iterR (R21_8 100) 100 (L, a.tmod 64, 4, 0, 1, 0, zpage, [])).bind _) = _
    rw [chain_loop L (by omega) w (by rw [Int.tmod_eq_emod_of_nonneg ha.1]; omega), Option.bind_some]
    rfl
theorem policyChains : Rows.PolicyChainsCardSaid := policyChains_card (policyChains_row fun a0 a1 h0 h1 => policyChains_plain a0 a1 h0 h1.2)
end Go.Proofs.YtpnnmpdjgnbkhaaDoor.W
