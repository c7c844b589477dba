/-
  What the readings of the rows say, typed; and each row, out of the plain law. Laid by program (mktab.py).
-/
import Derived.Test.YtofodkmokjhcoaaVF
import Derived.Test.YtofodkmokjhcoaaRows
namespace Go.Proofs.Ytofodkmokjhcoaa.W
open Go Go.Proofs V Go.ChangeShapes Go.WideShapes Go.ChangeAt Go.RowKit
def WI_i64 (x : Int) : Prop := -9223372036854775808 ≤ x ∧ x ≤ 9223372036854775807
def WB (_ : Bool) : Prop := True
def WI_u8 (x : Int) : Prop := 0 ≤ x ∧ x ≤ 255
def WS (x : ByteArray) : Prop := x.size ≤ maxLen
def WT22 (x : T22) : Prop := WI_i64 x.Pages ∧ WI_i64 x.Segs ∧ WI_i64 x.SegLen ∧ WI_i64 x.Frames ∧ True
def WL_I_u8 (x : List Int) : Prop := x.length ≤ maxLen ∧ ∀ y ∈ x, WI_u8 y
def WT41 (x : T41) : Prop := WI_i64 x.Kind ∧ WI_i64 x.Page ∧ WI_i64 x.Off ∧ WL_I_u8 x.Data ∧ True
def WT43 (x : T43) : Prop := WI_i64 x.Session ∧ WT41 x.X ∧ WB x.May ∧ True
def WL_T43 (x : List T43) : Prop := x.length ≤ maxLen ∧ ∀ y ∈ x, WT43 y
def WT38 (x : T38) : Prop := WI_i64 x.E ∧ WI_i64 x.Page ∧ WL_I_u8 x.Data ∧ True
def WA32_I_u8 (x : List Int) : Prop := x.length = 32 ∧ ∀ y ∈ x, WI_u8 y
def WA64_A32_I_u8 (x : List (List Int)) : Prop := x.length = 64 ∧ ∀ y ∈ x, WA32_I_u8 y
def WA64_B (x : List Bool) : Prop := x.length = 64 ∧ ∀ y ∈ x, WB y
def WL_I_i64 (x : List Int) : Prop := x.length ≤ maxLen ∧ ∀ y ∈ x, WI_i64 y
def WT59 (x : T59) : Prop := WI_i64 x.Maps ∧ WI_i64 x.Total ∧ WI_i64 x.Cap ∧ True
def WA4_I_i64 (x : List Int) : Prop := x.length = 4 ∧ ∀ y ∈ x, WI_i64 y
def WL_A32_I_u8 (x : List (List Int)) : Prop := x.length ≤ maxLen ∧ ∀ y ∈ x, WA32_I_u8 y
def WA4_L_I_i64 (x : List (List Int)) : Prop := x.length = 4 ∧ ∀ y ∈ x, WL_I_i64 y
def WT71 (x : T71) : Prop := WL_I_i64 x.heads ∧ WL_A32_I_u8 x.pages ∧ WI_i64 x.most ∧ WA4_L_I_i64 x.pins ∧ True
def WA64_I_i64 (x : List Int) : Prop := x.length = 64 ∧ ∀ y ∈ x, WI_i64 y
def WL_A64_I_i64 (x : List (List Int)) : Prop := x.length ≤ maxLen ∧ ∀ y ∈ x, WA64_I_i64 y
def WT81 (x : T81) : Prop := WL_A64_I_i64 x.N ∧ True
def WT87 (x : T87) : Prop := WA32_I_u8 x.P ∧ WB x.OK ∧ True
def WL_L_I_i64 (x : List (List Int)) : Prop := x.length ≤ maxLen ∧ ∀ y ∈ x, WL_I_i64 y
theorem own : ownKnob Try.prog.godebug = none := by kernel_rfl
theorem laidOut : laidOutB Try.prog = true := by kernel_rfl
theorem rd3 : Rd Try.prog tab 3 (α := Int) (tab.enc 3) WI_i64 := (Rd.int (t := 3) (k := .i64) rfl tabOK).imp (fun x => x) (fun _ => rfl) fun _ h => bounds_i64 h
theorem rd23 : Rd Try.prog tab 23 (α := T22) (tab.enc 23) WT22 := (Rd.struct (t := 23) tabOK rfl (.cons (p := (3, 0)) rd3 rfl (.cons (p := (3, 1)) rd3 rfl (.cons (p := (3, 2)) rd3 rfl (.cons (p := (3, 3)) rd3 rfl RdF.nil))) : RdF Try.prog tab 0 _ _ _) rfl).imp (fun z => T22.mk z.1 z.2.1 z.2.2.1 z.2.2.2.1) (fun _ => rfl) fun _ h => h
theorem rd5 : Rd Try.prog tab 5 (α := Int) (tab.enc 5) WI_u8 := (Rd.int (t := 5) (k := .u8) rfl tabOK).imp (fun x => x) (fun _ => rfl) fun _ h => bounds_u8 h
theorem rd37 : Rd Try.prog tab 37 (α := List Int) (tab.enc 37) WL_I_u8 := (Rd.slice (t := 37) (e := 5) tabOK rfl rd5).imp (fun x => x) (fun _ => rfl) fun _ h => h
theorem rd42 : Rd Try.prog tab 42 (α := T41) (tab.enc 42) WT41 := (Rd.struct (t := 42) tabOK rfl (.cons (p := (3, 0)) rd3 rfl (.cons (p := (3, 1)) rd3 rfl (.cons (p := (3, 2)) rd3 rfl (.cons (p := (37, 3)) rd37 rfl RdF.nil))) : RdF Try.prog tab 0 _ _ _) rfl).imp (fun z => T41.mk z.1 z.2.1 z.2.2.1 z.2.2.2.1) (fun _ => rfl) fun _ h => h
theorem rd4 : Rd Try.prog tab 4 (α := Bool) (tab.enc 4) WB := (Rd.bool (t := 4) rfl tabOK).imp (fun x => x) (fun _ => rfl) fun _ h => h
theorem rd44 : Rd Try.prog tab 44 (α := T43) (tab.enc 44) WT43 := (Rd.struct (t := 44) tabOK rfl (.cons (p := (3, 0)) rd3 rfl (.cons (p := (42, 1)) rd42 rfl (.cons (p := (4, 5)) rd4 rfl RdF.nil)) : RdF Try.prog tab 0 _ _ _) rfl).imp (fun z => T43.mk z.1 z.2.1 z.2.2.1) (fun _ => rfl) fun _ h => h
theorem rd24 : Rd Try.prog tab 24 (α := List T43) (tab.enc 24) WL_T43 := (Rd.slice (t := 24) (e := 44) tabOK rfl rd44).imp (fun x => x) (fun _ => rfl) fun _ h => h
set_option maxRecDepth 100000 in
theorem modelReads_lifted (h : ∀ (a0 : T22) (a1 : List T43), WT22 a0 → WL_T43 a1 → ∃ k, F4 k (a0, a1, ()) = some true) (os : Os) (started : os.Started) (H : Type) (enc : TypeId × Value → H) :
    ReturnsInHanded {} Try.checked os 4 .any (Rows.modelReadsSpec.pre6 enc Try.prog Try.f4 Rows.modelReadsRow.domain false) (Rows.modelReadsSpec.post enc Try.prog Try.f4 false true false false) := by
      refine returnsInHanded_of_change (C := Try.checked) own started (by kernel_rfl) Try.func4
        (ChangeSpec.witness6 (enc := enc) (C := Try.checked) false ⟨#[], #[.agg (Array.replicate 4 (.int .i64 0)), .slice none 0 0], []⟩ 8 (by kernel_rfl) (by kernel_rfl) (by kernel_rfl) (by kernel_rfl)) ?_
      intro W base args ds gs before hval0 hW _ _
      have hval : ∀ (j : Nat) t v, Try.f4.params[j]? = some t → args[j]? = some v → Value.okWide Try.prog W .any base t v := hval0
      have hW' := hW
      obtain ⟨p, q, hA0, hV, hps, hfz, hnd⟩ := hW
      have hA : DataW.TrodAll enc Try.prog W 0 (fun _ => true) true Try.f4.params.toList args.toList ds p := hA0
      rw [Try.params4] at hA hval
      obtain ⟨v0, vs0, d0, ds0, p0, q0, hargs, rfl, rfl, h0, r0⟩ := trodAll_cons hA
      obtain ⟨v1, vs1, d1, ds1, p1, q1, rfl, rfl, rfl, h1, r1⟩ := trodAll_cons r0
      obtain ⟨rfl, rfl, rfl⟩ := trodAll_nil r1
      obtain rfl : args = #[v0, v1] := by cases args; simp_all
      obtain ⟨a0, w0, t0⟩ := rd23.val tabOK rfl (fun _ => rfl) (hval 0 23 v0 rfl rfl) h0
      obtain ⟨a1, w1, t1⟩ := rd24.val tabOK rfl (fun _ => rfl) (hval 1 24 v1 rfl rfl) h1
      obtain ⟨k, hk⟩ := h a0 a1 w0 w1
      have hrun : sp4.runK k [tab.enc 23 a0, tab.enc 24 a1] (AV Ty) some = some (.bool true) := by
        have e : sp4.runK k [tab.enc 23 a0, tab.enc 24 a1] (AV Ty) some = (F4 k (a0, a1, ())).bind fun y => some (rs4.enc y) := by kernel_rfl
        rw [e, hk]; rfl
      refine (ok4.1 k _ _ hrun W (Below0 W) [v0, v1] (fun p hp => by cases hp) (fun _ h => h) (.cons t0 (.cons t1 .nil))).mono fun e W' ⟨x, he, hr, hg⟩ => ?_
      obtain rfl := hr.bool_inv
      exact ⟨_, he, law_post (tb := 4) laidOut (by kernel_rfl) (by kernel_rfl) Try.underlying4 rfl rfl rfl rfl hW' hg⟩
/-- ModelReads, out of its plain law -/
theorem modelReads_row (h : ∀ (a0 : T22) (a1 : List T43), WT22 a0 → WL_T43 a1 → ∃ k, F4 k (a0, a1, ()) = some true) : Rows.ModelReadsSaid :=
  OpenClaim.holds_of_wide 4 Try.f4 rfl rfl rfl rfl rfl rfl rfl ⟨rfl, rfl, rfl, rfl, rfl⟩ rfl rfl rfl rfl rfl (by kernel_rfl) Try.func4 (by kernel_rfl)
    (of_decide_eq_true (by kernel_rfl)) (by unfold Func.isWrapper; first | (rw [if_pos (by decide +kernel)]; kernel_rfl) | (rw [if_neg (by decide +kernel)]; exact ⟨rfl, rfl⟩))
    (fun os started H enc _ => modelReads_lifted h os started H enc)
end Go.Proofs.Ytofodkmokjhcoaa.W
