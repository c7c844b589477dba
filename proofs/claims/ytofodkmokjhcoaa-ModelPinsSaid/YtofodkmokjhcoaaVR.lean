/-
  What the readings of the rows say, typed; and each row, out of the plain law. Laid by program (mktab.py).
-/
import Derived.Test.YtofodkmokjhcoaaVF
import Derived.Test.YtofodkmokjhcoaaRows
namespace Go.Proofs.Ytofodkmokjhcoaa.W
open Go Go.Proofs V Go.ChangeShapes Go.WideShapes Go.ChangeAt Go.RowKit
def WI_i64 (x : Int) : Prop := -9223372036854775808 ≤ x ∧ x ≤ 9223372036854775807
def WB (_ : Bool) : Prop := True
def WI_u8 (x : Int) : Prop := 0 ≤ x ∧ x ≤ 255
def WS (x : ByteArray) : Prop := x.size ≤ maxLen
def WT22 (x : T22) : Prop := WI_i64 x.Pages ∧ WI_i64 x.Segs ∧ WI_i64 x.SegLen ∧ WI_i64 x.Frames ∧ True
def WL_I_u8 (x : List Int) : Prop := x.length ≤ maxLen ∧ ∀ y ∈ x, WI_u8 y
def WT41 (x : T41) : Prop := WI_i64 x.Kind ∧ WI_i64 x.Page ∧ WI_i64 x.Off ∧ WL_I_u8 x.Data ∧ True
def WT43 (x : T43) : Prop := WI_i64 x.Session ∧ WT41 x.X ∧ WB x.May ∧ True
def WL_T43 (x : List T43) : Prop := x.length ≤ maxLen ∧ ∀ y ∈ x, WT43 y
def WT38 (x : T38) : Prop := WI_i64 x.E ∧ WI_i64 x.Page ∧ WL_I_u8 x.Data ∧ True
def WA32_I_u8 (x : List Int) : Prop := x.length = 32 ∧ ∀ y ∈ x, WI_u8 y
def WA64_A32_I_u8 (x : List (List Int)) : Prop := x.length = 64 ∧ ∀ y ∈ x, WA32_I_u8 y
def WA64_B (x : List Bool) : Prop := x.length = 64 ∧ ∀ y ∈ x, WB y
def WL_I_i64 (x : List Int) : Prop := x.length ≤ maxLen ∧ ∀ y ∈ x, WI_i64 y
def WT59 (x : T59) : Prop := WI_i64 x.Maps ∧ WI_i64 x.Total ∧ WI_i64 x.Cap ∧ True
def WA4_I_i64 (x : List Int) : Prop := x.length = 4 ∧ ∀ y ∈ x, WI_i64 y
def WL_A32_I_u8 (x : List (List Int)) : Prop := x.length ≤ maxLen ∧ ∀ y ∈ x, WA32_I_u8 y
def WA4_L_I_i64 (x : List (List Int)) : Prop := x.length = 4 ∧ ∀ y ∈ x, WL_I_i64 y
def WT71 (x : T71) : Prop := WL_I_i64 x.heads ∧ WL_A32_I_u8 x.pages ∧ WI_i64 x.most ∧ WA4_L_I_i64 x.pins ∧ True
def WA64_I_i64 (x : List Int) : Prop := x.length = 64 ∧ ∀ y ∈ x, WI_i64 y
def WL_A64_I_i64 (x : List (List Int)) : Prop := x.length ≤ maxLen ∧ ∀ y ∈ x, WA64_I_i64 y
def WT81 (x : T81) : Prop := WL_A64_I_i64 x.N ∧ True
def WT87 (x : T87) : Prop := WA32_I_u8 x.P ∧ WB x.OK ∧ True
def WL_L_I_i64 (x : List (List Int)) : Prop := x.length ≤ maxLen ∧ ∀ y ∈ x, WL_I_i64 y
theorem own : ownKnob Try.prog.godebug = none := by kernel_rfl
theorem laidOut : laidOutB Try.prog = true := by kernel_rfl
theorem rd5 : Rd Try.prog tab 5 (α := Int) (tab.enc 5) WI_u8 := (Rd.int (t := 5) (k := .u8) rfl tabOK).imp (fun x => x) (fun _ => rfl) fun _ h => bounds_u8 h
theorem rd37 : Rd Try.prog tab 37 (α := List Int) (tab.enc 37) WL_I_u8 := (Rd.slice (t := 37) (e := 5) tabOK rfl rd5).imp (fun x => x) (fun _ => rfl) fun _ h => h
set_option maxRecDepth 100000 in
theorem modelPins_lifted (h : ∀ (a0 : List Int), WL_I_u8 a0 → ∃ k, F6 k (a0, ()) = some true) (os : Os) (started : os.Started) (H : Type) (enc : TypeId × Value → H) :
    ReturnsInHanded {} Try.checked os 6 .any (Rows.modelPinsSpec.pre6 enc Try.prog Try.f6 Rows.modelPinsRow.domain false) (Rows.modelPinsSpec.post enc Try.prog Try.f6 false true false false) := by
      refine returnsInHanded_of_change (C := Try.checked) own started (by kernel_rfl) Try.func6
        (ChangeSpec.witness6 (enc := enc) (C := Try.checked) false ⟨#[], #[.slice none 0 0], []⟩ 8 (by kernel_rfl) (by kernel_rfl) (by kernel_rfl) (by kernel_rfl)) ?_
      intro W base args ds gs before hval0 hW _ _
      have hval : ∀ (j : Nat) t v, Try.f6.params[j]? = some t → args[j]? = some v → Value.okWide Try.prog W .any base t v := hval0
      have hW' := hW
      obtain ⟨p, q, hA0, hV, hps, hfz, hnd⟩ := hW
      have hA : DataW.TrodAll enc Try.prog W 0 (fun _ => true) true Try.f6.params.toList args.toList ds p := hA0
      rw [Try.params6] at hA hval
      obtain ⟨v0, vs0, d0, ds0, p0, q0, hargs, rfl, rfl, h0, r0⟩ := trodAll_cons hA
      obtain ⟨rfl, rfl, rfl⟩ := trodAll_nil r0
      obtain rfl : args = #[v0] := by cases args; simp_all
      obtain ⟨a0, w0, t0⟩ := rd37.val tabOK rfl (fun _ => rfl) (hval 0 37 v0 rfl rfl) h0
      obtain ⟨k, hk⟩ := h a0 w0
      have hrun : sp6.runK k [tab.enc 37 a0] (AV Ty) some = some (.bool true) := by
        have e : sp6.runK k [tab.enc 37 a0] (AV Ty) some = (F6 k (a0, ())).bind fun y => some (rs6.enc y) := by kernel_rfl
        rw [e, hk]; rfl
      refine (ok6.1 k _ _ hrun W (Below0 W) [v0] (fun p hp => by cases hp) (fun _ h => h) (.cons t0 .nil)).mono fun e W' ⟨x, he, hr, hg⟩ => ?_
      obtain rfl := hr.bool_inv
      exact ⟨_, he, law_post (tb := 4) laidOut (by kernel_rfl) (by kernel_rfl) Try.underlying4 rfl rfl rfl rfl hW' hg⟩
/-- ModelPins, out of its plain law -/
theorem modelPins_row (h : ∀ (a0 : List Int), WL_I_u8 a0 → ∃ k, F6 k (a0, ()) = some true) : Rows.ModelPinsSaid :=
  OpenClaim.holds_of_wide 6 Try.f6 rfl rfl rfl rfl rfl rfl rfl ⟨rfl, rfl, rfl, rfl, rfl⟩ rfl rfl rfl rfl rfl (by kernel_rfl) Try.func6 (by kernel_rfl)
    (of_decide_eq_true (by kernel_rfl)) (by unfold Func.isWrapper; first | (rw [if_pos (by decide +kernel)]; kernel_rfl) | (rw [if_neg (by decide +kernel)]; exact ⟨rfl, rfl⟩))
    (fun os started H enc _ => modelPins_lifted h os started H enc)
end Go.Proofs.Ytofodkmokjhcoaa.W
