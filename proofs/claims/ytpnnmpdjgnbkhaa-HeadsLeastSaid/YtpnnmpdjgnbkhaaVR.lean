/-
  What the readings of the rows say, typed; and each row, out of the plain law. Laid by program (mktab.py).
-/
import Derived.Test.YtpnnmpdjgnbkhaaVF
import Derived.Test.YtpnnmpdjgnbkhaaRows
namespace Go.Proofs.Ytpnnmpdjgnbkhaa.W
open Go Go.Proofs V Go.ChangeShapes Go.WideShapes Go.ChangeAt Go.RowKit
def WI_i64 (x : Int) : Prop := -9223372036854775808 ≤ x ∧ x ≤ 9223372036854775807
def WB (_ : Bool) : Prop := True
def WI_u8 (x : Int) : Prop := 0 ≤ x ∧ x ≤ 255
def WS (x : ByteArray) : Prop := x.size ≤ maxLen
def WL_I_i64 (x : List Int) : Prop := x.length ≤ maxLen ∧ ∀ y ∈ x, WI_i64 y
def WL_B (x : List Bool) : Prop := x.length ≤ maxLen ∧ ∀ y ∈ x, WB y
def WA32_I_u8 (x : List Int) : Prop := x.length = 32 ∧ ∀ y ∈ x, WI_u8 y
def WT38 (x : T38) : Prop := WI_i64 x.Head ∧ WI_i64 x.Length ∧ WA32_I_u8 x.Page ∧ True
def WT40 (x : T40) : Prop := WI_i64 x.Kind ∧ WI_i64 x.Id ∧ True
def WL_I_u8 (x : List Int) : Prop := x.length ≤ maxLen ∧ ∀ y ∈ x, WI_u8 y
def WA8_I_i64 (x : List Int) : Prop := x.length = 8 ∧ ∀ y ∈ x, WI_i64 y
def WT44 (x : T44) : Prop := WI_i64 x.Kind ∧ WI_i64 x.Id ∧ WA32_I_u8 x.Page ∧ WI_i64 x.Off ∧ WL_I_u8 x.Bytes ∧ WI_i64 x.Prev ∧ WA8_I_i64 x.Heads ∧ True
def WT46 (x : T46) : Prop := WT40 x.Mark ∧ WT44 x.Block ∧ True
def WL_T46 (x : List T46) : Prop := x.length ≤ maxLen ∧ ∀ y ∈ x, WT46 y
def WT59 (x : T59) : Prop := WI_i64 x.Pages ∧ WI_i64 x.Segs ∧ WI_i64 x.SegLen ∧ WI_i64 x.Frames ∧ True
def WT75 (x : T75) : Prop := WI_i64 x.Kind ∧ WI_i64 x.Page ∧ WI_i64 x.Off ∧ WL_I_u8 x.Data ∧ True
def WT77 (x : T77) : Prop := WI_i64 x.Session ∧ WT75 x.X ∧ WB x.May ∧ True
def WL_T77 (x : List T77) : Prop := x.length ≤ maxLen ∧ ∀ y ∈ x, WT77 y
def WT72 (x : T72) : Prop := WI_i64 x.E ∧ WI_i64 x.Page ∧ WL_I_u8 x.Data ∧ True
def WA64_A32_I_u8 (x : List (List Int)) : Prop := x.length = 64 ∧ ∀ y ∈ x, WA32_I_u8 y
def WA64_B (x : List Bool) : Prop := x.length = 64 ∧ ∀ y ∈ x, WB y
def WT90 (x : T90) : Prop := WI_i64 x.Maps ∧ WI_i64 x.Total ∧ WI_i64 x.Cap ∧ True
def WA4_I_i64 (x : List Int) : Prop := x.length = 4 ∧ ∀ y ∈ x, WI_i64 y
def WT107 (x : T107) : Prop := WI_i64 x.Off ∧ WL_I_u8 x.Bytes ∧ WB x.OK ∧ True
def WL_A32_I_u8 (x : List (List Int)) : Prop := x.length ≤ maxLen ∧ ∀ y ∈ x, WA32_I_u8 y
def WA4_L_I_i64 (x : List (List Int)) : Prop := x.length = 4 ∧ ∀ y ∈ x, WL_I_i64 y
def WT116 (x : T116) : Prop := WL_I_i64 x.heads ∧ WL_A32_I_u8 x.pages ∧ WI_i64 x.most ∧ WA4_L_I_i64 x.pins ∧ True
def WA64_I_i64 (x : List Int) : Prop := x.length = 64 ∧ ∀ y ∈ x, WI_i64 y
def WL_A64_I_i64 (x : List (List Int)) : Prop := x.length ≤ maxLen ∧ ∀ y ∈ x, WA64_I_i64 y
def WT126 (x : T126) : Prop := WL_A64_I_i64 x.N ∧ True
def WT132 (x : T132) : Prop := WA32_I_u8 x.P ∧ WB x.OK ∧ True
def WL_L_I_i64 (x : List (List Int)) : Prop := x.length ≤ maxLen ∧ ∀ y ∈ x, WL_I_i64 y
theorem own : ownKnob Try.prog.godebug = none := by kernel_rfl
theorem laidOut : laidOutB Try.prog = true := by kernel_rfl
theorem rd4 : Rd Try.prog tab 4 (α := Bool) (tab.enc 4) WB := (Rd.bool (t := 4) rfl tabOK).imp (fun x => x) (fun _ => rfl) fun _ h => h
theorem rd33 : Rd Try.prog tab 33 (α := List Bool) (tab.enc 33) WL_B := (Rd.slice (t := 33) (e := 4) tabOK rfl rd4).imp (fun x => x) (fun _ => rfl) fun _ h => h
theorem rd5 : Rd Try.prog tab 5 (α := Int) (tab.enc 5) WI_u8 := (Rd.int (t := 5) (k := .u8) rfl tabOK).imp (fun x => x) (fun _ => rfl) fun _ h => bounds_u8 h
set_option maxRecDepth 100000 in
theorem headsLeast_lifted (h : ∀ (a0 : List Bool) (a1 : Int), WL_B a0 → WI_u8 a1 → ∃ k, F4 k (a0, a1, ()) = some true) (os : Os) (started : os.Started) (H : Type) (enc : TypeId × Value → H) :
    ReturnsInHanded {} Try.checked os 4 .any (Rows.headsLeastSpec.pre6 enc Try.prog Try.f4 Rows.headsLeastRow.domain false) (Rows.headsLeastSpec.post enc Try.prog Try.f4 false true false false) := by
      refine returnsInHanded_of_change (C := Try.checked) own started (by kernel_rfl) Try.func4
        (ChangeSpec.witness6 (enc := enc) (C := Try.checked) false ⟨#[], #[.slice none 0 0, .int .u8 0], []⟩ 8 (by kernel_rfl) (by kernel_rfl) (by kernel_rfl) (by kernel_rfl)) ?_
      intro W base args ds gs before hval0 hW _ _
      have hval : ∀ (j : Nat) t v, Try.f4.params[j]? = some t → args[j]? = some v → Value.okWide Try.prog W .any base t v := hval0
      have hW' := hW
      obtain ⟨p, q, hA0, hV, hps, hfz, hnd⟩ := hW
      have hA : DataW.TrodAll enc Try.prog W 0 (fun _ => true) true Try.f4.params.toList args.toList ds p := hA0
      rw [Try.params4] at hA hval
      obtain ⟨v0, vs0, d0, ds0, p0, q0, hargs, rfl, rfl, h0, r0⟩ := trodAll_cons hA
      obtain ⟨v1, vs1, d1, ds1, p1, q1, rfl, rfl, rfl, h1, r1⟩ := trodAll_cons r0
      obtain ⟨rfl, rfl, rfl⟩ := trodAll_nil r1
      obtain rfl : args = #[v0, v1] := by cases args; simp_all
      obtain ⟨a0, w0, t0⟩ := rd33.val tabOK rfl (fun _ => rfl) (hval 0 33 v0 rfl rfl) h0
      obtain ⟨a1, w1, t1⟩ := rd5.val tabOK rfl (fun _ => rfl) (hval 1 5 v1 rfl rfl) h1
      obtain ⟨k, hk⟩ := h a0 a1 w0 w1
      have hrun : sp4.runK k [tab.enc 33 a0, tab.enc 5 a1] (AV Ty) some = some (.bool true) := by
        have e : sp4.runK k [tab.enc 33 a0, tab.enc 5 a1] (AV Ty) some = (F4 k (a0, a1, ())).bind fun y => some (rs4.enc y) := by kernel_rfl
        rw [e, hk]; rfl
      refine (ok4 k _ _ hrun W (Below0 W) [v0, v1] (fun _ h => h) (.cons t0 (.cons t1 .nil))).mono fun e W' ⟨x, he, hr, hg⟩ => ?_
      obtain rfl := hr.bool_inv
      exact ⟨_, he, law_post (tb := 4) laidOut (by kernel_rfl) (by kernel_rfl) Try.underlying4 rfl rfl rfl rfl hW' hg⟩
/-- HeadsLeast, out of its plain law -/
theorem headsLeast_row (h : ∀ (a0 : List Bool) (a1 : Int), WL_B a0 → WI_u8 a1 → ∃ k, F4 k (a0, a1, ()) = some true) : Rows.HeadsLeastSaid :=
  OpenClaim.holds_of_wide 4 Try.f4 rfl rfl rfl rfl rfl rfl rfl ⟨rfl, rfl, rfl, rfl, rfl⟩ rfl rfl rfl rfl rfl (by kernel_rfl) Try.func4 (by kernel_rfl)
    (of_decide_eq_true (by kernel_rfl)) (by unfold Func.isWrapper; first | (rw [if_pos (by decide +kernel)]; kernel_rfl) | (rw [if_neg (by decide +kernel)]; exact ⟨rfl, rfl⟩))
    (fun os started H enc _ => headsLeast_lifted h os started H enc)
end Go.Proofs.Ytpnnmpdjgnbkhaa.W
