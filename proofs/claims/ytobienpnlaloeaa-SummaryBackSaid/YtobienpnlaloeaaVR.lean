/-
  What the readings of the rows say, typed; and each row, out of the plain law. Laid by program (mktab.py).
-/
import Derived.Test.YtobienpnlaloeaaVF
import Derived.Test.YtobienpnlaloeaaRows
namespace Go.Proofs.Ytobienpnlaloeaa.W
open Go Go.Proofs V Go.ChangeShapes Go.WideShapes Go.ChangeAt Go.RowKit
theorem own : ownKnob Try.prog.godebug = none := by kernel_rfl
theorem laidOut : laidOutB Try.prog = true := by kernel_rfl
def WI_u32 (x : Int) : Prop := 0 ≤ x ∧ x ≤ 4294967295
def WB (_ : Bool) : Prop := True
def WI_i64 (x : Int) : Prop := -9223372036854775808 ≤ x ∧ x ≤ 9223372036854775807
def WT46 (x : T46) : Prop := WI_i64 x.Kind ∧ WI_i64 x.Id ∧ True
def WL_T46 (x : List T46) : Prop := x.length ≤ maxLen ∧ ∀ y ∈ x, WT46 y
def WT24 (x : T24) : Prop := WI_u32 x.Seq ∧ WB x.More ∧ WL_T46 x.Marks ∧ True
theorem rd22 : Rd Try.prog tab 22 (α := Int) (tab.enc 22) WI_u32 := (Rd.int (t := 22) (k := .u32) rfl tabOK).imp (fun x => x) (fun _ => rfl) fun _ h => bounds_u32 h
theorem rd4 : Rd Try.prog tab 4 (α := Bool) (tab.enc 4) WB := (Rd.bool (t := 4) rfl tabOK).imp (fun x => x) (fun _ => rfl) fun _ h => h
theorem rd3 : Rd Try.prog tab 3 (α := Int) (tab.enc 3) WI_i64 := (Rd.int (t := 3) (k := .i64) rfl tabOK).imp (fun x => x) (fun _ => rfl) fun _ h => bounds_i64 h
theorem rd47 : Rd Try.prog tab 47 (α := T46) (tab.enc 47) WT46 := (Rd.struct (t := 47) tabOK rfl (.cons (p := (3, 0)) rd3 rfl (.cons (p := (3, 1)) rd3 rfl RdF.nil) : RdF Try.prog tab 0 _ _ _) rfl).imp (fun z => T46.mk z.1 z.2.1) (fun _ => rfl) fun _ h => h
theorem rd23 : Rd Try.prog tab 23 (α := List T46) (tab.enc 23) WL_T46 := (Rd.slice (t := 23) (e := 47) tabOK rfl rd47).imp (fun x => x) (fun _ => rfl) fun _ h => h
theorem rd25 : Rd Try.prog tab 25 (α := T24) (tab.enc 25) WT24 := (Rd.struct (t := 25) tabOK rfl (.cons (p := (22, 0)) rd22 rfl (.cons (p := (4, 1)) rd4 rfl (.cons (p := (23, 2)) rd23 rfl RdF.nil)) : RdF Try.prog tab 0 _ _ _) rfl).imp (fun z => T24.mk z.1 z.2.1 z.2.2.1) (fun _ => rfl) fun _ h => h
def WI_u8 (x : Int) : Prop := 0 ≤ x ∧ x ≤ 255
def WA64_I_u8 (x : List Int) : Prop := x.length = 64 ∧ ∀ y ∈ x, WI_u8 y
theorem rd5 : Rd Try.prog tab 5 (α := Int) (tab.enc 5) WI_u8 := (Rd.int (t := 5) (k := .u8) rfl tabOK).imp (fun x => x) (fun _ => rfl) fun _ h => bounds_u8 h
theorem rd27 : Rd Try.prog tab 27 (α := List Int) (tab.enc 27) WA64_I_u8 := (Rd.arr (t := 27) (e := 5) (n := 64) tabOK rfl rd5 rfl).imp (fun x => x) (fun _ => rfl) fun _ h => h
set_option maxRecDepth 100000 in
theorem summaryCodes_lifted (h : ∀ (a0 : T24) (a1 : List Int), WT24 a0 → WA64_I_u8 a1 → ∃ k, F3 k (a0, a1, ()) = some true) (os : Os) (started : os.Started) (H : Type) (enc : TypeId × Value → H) :
    ReturnsInHanded {} Try.checked os 3 .any (Rows.summaryCodesSpec.pre6 enc Try.prog Try.f3 Rows.summaryCodesRow.domain false) (Rows.summaryCodesSpec.post enc Try.prog Try.f3 false true false false) := by
      refine returnsInHanded_of_change (C := Try.checked) own started (by kernel_rfl) Try.func3
        (ChangeSpec.witness6 (enc := enc) (C := Try.checked) false ⟨#[], #[.agg #[.int .u32 0, .bool false, .slice none 0 0], .agg (Array.replicate 64 (.int .u8 0))], []⟩ 8 (by kernel_rfl) (by kernel_rfl) (by kernel_rfl) (by kernel_rfl)) ?_
      intro W base args ds gs before hval0 hW _ _
      have hval : ∀ (j : Nat) t v, Try.f3.params[j]? = some t → args[j]? = some v → Value.okWide Try.prog W .any base t v := hval0
      have hW' := hW
      obtain ⟨p, q, hA0, hV, hps, hfz, hnd⟩ := hW
      have hA : DataW.TrodAll enc Try.prog W 0 (fun _ => true) true Try.f3.params.toList args.toList ds p := hA0
      rw [Try.params3] at hA hval
      obtain ⟨v0, vs0, d0, ds0, p0, q0, hargs, rfl, rfl, h0, r0⟩ := trodAll_cons hA
      obtain ⟨v1, vs1, d1, ds1, p1, q1, rfl, rfl, rfl, h1, r1⟩ := trodAll_cons r0
      obtain ⟨rfl, rfl, rfl⟩ := trodAll_nil r1
      obtain rfl : args = #[v0, v1] := by cases args; simp_all
      obtain ⟨a0, w0, t0⟩ := rd25.val tabOK rfl (fun _ => rfl) (hval 0 25 v0 rfl rfl) h0
      obtain ⟨a1, w1, t1⟩ := rd27.val tabOK rfl (fun _ => rfl) (hval 1 27 v1 rfl rfl) h1
      obtain ⟨k, hk⟩ := h a0 a1 w0 w1
      have hrun : sp3.runK k [tab.enc 25 a0, tab.enc 27 a1] (AV Ty) some = some (.bool true) := by
        have e : sp3.runK k [tab.enc 25 a0, tab.enc 27 a1] (AV Ty) some = (F3 k (a0, a1, ())).bind fun y => some (rs3.enc y) := by kernel_rfl
        rw [e, hk]; rfl
      refine (ok3 k _ _ hrun W (Below0 W) [v0, v1] (fun _ h => h) (.cons t0 (.cons t1 .nil))).mono fun e W' ⟨x, he, hr, hg⟩ => ?_
      obtain rfl := hr.bool_inv
      exact ⟨_, he, law_post (tb := 4) laidOut (by kernel_rfl) (by kernel_rfl) Try.underlying4 rfl rfl rfl rfl hW' hg⟩
/-- SummaryCodes, out of its plain law -/
theorem summaryCodes_row (h : ∀ (a0 : T24) (a1 : List Int), WT24 a0 → WA64_I_u8 a1 → ∃ k, F3 k (a0, a1, ()) = some true) : Rows.SummaryCodesSaid :=
  OpenClaim.holds_of_wide 3 Try.f3 rfl rfl rfl rfl rfl rfl rfl ⟨rfl, rfl, rfl, rfl, rfl⟩ rfl rfl rfl rfl rfl (by kernel_rfl) Try.func3 (by kernel_rfl)
    (of_decide_eq_true (by kernel_rfl)) (by unfold Func.isWrapper; first | (rw [if_pos (by decide +kernel)]; kernel_rfl) | (rw [if_neg (by decide +kernel)]; exact ⟨rfl, rfl⟩))
    (fun os started H enc _ => summaryCodes_lifted h os started H enc)
set_option maxRecDepth 100000 in
theorem summaryBack_lifted (h : ∀ (a0 : T24) (a1 : T24) (a2 : List Int), WT24 a0 → WT24 a1 → WA64_I_u8 a2 → ∃ k, F4 k (a0, a1, a2, ()) = some true) (os : Os) (started : os.Started) (H : Type) (enc : TypeId × Value → H) :
    ReturnsInHanded {} Try.checked os 4 .any (Rows.summaryBackSpec.pre6 enc Try.prog Try.f4 Rows.summaryBackRow.domain false) (Rows.summaryBackSpec.post enc Try.prog Try.f4 false true false false) := by
      refine returnsInHanded_of_change (C := Try.checked) own started (by kernel_rfl) Try.func4
        (ChangeSpec.witness6 (enc := enc) (C := Try.checked) false ⟨#[], #[.agg #[.int .u32 0, .bool false, .slice none 0 0], .agg #[.int .u32 0, .bool false, .slice none 0 0], .agg (Array.replicate 64 (.int .u8 0))], []⟩ 8 (by kernel_rfl) (by kernel_rfl) (by kernel_rfl) (by kernel_rfl)) ?_
      intro W base args ds gs before hval0 hW _ _
      have hval : ∀ (j : Nat) t v, Try.f4.params[j]? = some t → args[j]? = some v → Value.okWide Try.prog W .any base t v := hval0
      have hW' := hW
      obtain ⟨p, q, hA0, hV, hps, hfz, hnd⟩ := hW
      have hA : DataW.TrodAll enc Try.prog W 0 (fun _ => true) true Try.f4.params.toList args.toList ds p := hA0
      rw [Try.params4] at hA hval
      obtain ⟨v0, vs0, d0, ds0, p0, q0, hargs, rfl, rfl, h0, r0⟩ := trodAll_cons hA
      obtain ⟨v1, vs1, d1, ds1, p1, q1, rfl, rfl, rfl, h1, r1⟩ := trodAll_cons r0
      obtain ⟨v2, vs2, d2, ds2, p2, q2, rfl, rfl, rfl, h2, r2⟩ := trodAll_cons r1
      obtain ⟨rfl, rfl, rfl⟩ := trodAll_nil r2
      obtain rfl : args = #[v0, v1, v2] := by cases args; simp_all
      obtain ⟨a0, w0, t0⟩ := rd25.val tabOK rfl (fun _ => rfl) (hval 0 25 v0 rfl rfl) h0
      obtain ⟨a1, w1, t1⟩ := rd25.val tabOK rfl (fun _ => rfl) (hval 1 25 v1 rfl rfl) h1
      obtain ⟨a2, w2, t2⟩ := rd27.val tabOK rfl (fun _ => rfl) (hval 2 27 v2 rfl rfl) h2
      obtain ⟨k, hk⟩ := h a0 a1 a2 w0 w1 w2
      have hrun : sp4.runK k [tab.enc 25 a0, tab.enc 25 a1, tab.enc 27 a2] (AV Ty) some = some (.bool true) := by
        have e : sp4.runK k [tab.enc 25 a0, tab.enc 25 a1, tab.enc 27 a2] (AV Ty) some = (F4 k (a0, a1, a2, ())).bind fun y => some (rs4.enc y) := by kernel_rfl
        rw [e, hk]; rfl
      refine (ok4 k _ _ hrun W (Below0 W) [v0, v1, v2] (fun _ h => h) (.cons t0 (.cons t1 (.cons t2 .nil)))).mono fun e W' ⟨x, he, hr, hg⟩ => ?_
      obtain rfl := hr.bool_inv
      exact ⟨_, he, law_post (tb := 4) laidOut (by kernel_rfl) (by kernel_rfl) Try.underlying4 rfl rfl rfl rfl hW' hg⟩
/-- SummaryBack, out of its plain law -/
theorem summaryBack_row (h : ∀ (a0 : T24) (a1 : T24) (a2 : List Int), WT24 a0 → WT24 a1 → WA64_I_u8 a2 → ∃ k, F4 k (a0, a1, a2, ()) = some true) : Rows.SummaryBackSaid :=
  OpenClaim.holds_of_wide 4 Try.f4 rfl rfl rfl rfl rfl rfl rfl ⟨rfl, rfl, rfl, rfl, rfl⟩ rfl rfl rfl rfl rfl (by kernel_rfl) Try.func4 (by kernel_rfl)
    (of_decide_eq_true (by kernel_rfl)) (by unfold Func.isWrapper; first | (rw [if_pos (by decide +kernel)]; kernel_rfl) | (rw [if_neg (by decide +kernel)]; exact ⟨rfl, rfl⟩))
    (fun os started H enc _ => summaryBack_lifted h os started H enc)
set_option maxRecDepth 100000 in
theorem summaryPlaces_lifted (h : ∀ (a0 : T24) (a1 : Int), WT24 a0 → WI_u8 a1 → ∃ k, F5 k (a0, a1, ()) = some true) (os : Os) (started : os.Started) (H : Type) (enc : TypeId × Value → H) :
    ReturnsInHanded {} Try.checked os 5 .any (Rows.summaryPlacesSpec.pre6 enc Try.prog Try.f5 Rows.summaryPlacesRow.domain false) (Rows.summaryPlacesSpec.post enc Try.prog Try.f5 false true false false) := by
      refine returnsInHanded_of_change (C := Try.checked) own started (by kernel_rfl) Try.func5
        (ChangeSpec.witness6 (enc := enc) (C := Try.checked) false ⟨#[], #[.agg #[.int .u32 0, .bool false, .slice none 0 0], .int .u8 0], []⟩ 8 (by kernel_rfl) (by kernel_rfl) (by kernel_rfl) (by kernel_rfl)) ?_
      intro W base args ds gs before hval0 hW _ _
      have hval : ∀ (j : Nat) t v, Try.f5.params[j]? = some t → args[j]? = some v → Value.okWide Try.prog W .any base t v := hval0
      have hW' := hW
      obtain ⟨p, q, hA0, hV, hps, hfz, hnd⟩ := hW
      have hA : DataW.TrodAll enc Try.prog W 0 (fun _ => true) true Try.f5.params.toList args.toList ds p := hA0
      rw [Try.params5] at hA hval
      obtain ⟨v0, vs0, d0, ds0, p0, q0, hargs, rfl, rfl, h0, r0⟩ := trodAll_cons hA
      obtain ⟨v1, vs1, d1, ds1, p1, q1, rfl, rfl, rfl, h1, r1⟩ := trodAll_cons r0
      obtain ⟨rfl, rfl, rfl⟩ := trodAll_nil r1
      obtain rfl : args = #[v0, v1] := by cases args; simp_all
      obtain ⟨a0, w0, t0⟩ := rd25.val tabOK rfl (fun _ => rfl) (hval 0 25 v0 rfl rfl) h0
      obtain ⟨a1, w1, t1⟩ := rd5.val tabOK rfl (fun _ => rfl) (hval 1 5 v1 rfl rfl) h1
      obtain ⟨k, hk⟩ := h a0 a1 w0 w1
      have hrun : sp5.runK k [tab.enc 25 a0, tab.enc 5 a1] (AV Ty) some = some (.bool true) := by
        have e : sp5.runK k [tab.enc 25 a0, tab.enc 5 a1] (AV Ty) some = (F5 k (a0, a1, ())).bind fun y => some (rs5.enc y) := by kernel_rfl
        rw [e, hk]; rfl
      refine (ok5 k _ _ hrun W (Below0 W) [v0, v1] (fun _ h => h) (.cons t0 (.cons t1 .nil))).mono fun e W' ⟨x, he, hr, hg⟩ => ?_
      obtain rfl := hr.bool_inv
      exact ⟨_, he, law_post (tb := 4) laidOut (by kernel_rfl) (by kernel_rfl) Try.underlying4 rfl rfl rfl rfl hW' hg⟩
/-- SummaryPlaces, out of its plain law -/
theorem summaryPlaces_row (h : ∀ (a0 : T24) (a1 : Int), WT24 a0 → WI_u8 a1 → ∃ k, F5 k (a0, a1, ()) = some true) : Rows.SummaryPlacesSaid :=
  OpenClaim.holds_of_wide 5 Try.f5 rfl rfl rfl rfl rfl rfl rfl ⟨rfl, rfl, rfl, rfl, rfl⟩ rfl rfl rfl rfl rfl (by kernel_rfl) Try.func5 (by kernel_rfl)
    (of_decide_eq_true (by kernel_rfl)) (by unfold Func.isWrapper; first | (rw [if_pos (by decide +kernel)]; kernel_rfl) | (rw [if_neg (by decide +kernel)]; exact ⟨rfl, rfl⟩))
    (fun os started H enc _ => summaryPlaces_lifted h os started H enc)
set_option maxRecDepth 100000 in
theorem summaryMarks_lifted (h : ∀ (a0 : T46) (a1 : Int), WT46 a0 → WI_u8 a1 → ∃ k, F6 k (a0, a1, ()) = some true) (os : Os) (started : os.Started) (H : Type) (enc : TypeId × Value → H) :
    ReturnsInHanded {} Try.checked os 6 .any (Rows.summaryMarksSpec.pre6 enc Try.prog Try.f6 Rows.summaryMarksRow.domain false) (Rows.summaryMarksSpec.post enc Try.prog Try.f6 false true false false) := by
      refine returnsInHanded_of_change (C := Try.checked) own started (by kernel_rfl) Try.func6
        (ChangeSpec.witness6 (enc := enc) (C := Try.checked) false ⟨#[], #[.agg (Array.replicate 2 (.int .i64 0)), .int .u8 0], []⟩ 8 (by kernel_rfl) (by kernel_rfl) (by kernel_rfl) (by kernel_rfl)) ?_
      intro W base args ds gs before hval0 hW _ _
      have hval : ∀ (j : Nat) t v, Try.f6.params[j]? = some t → args[j]? = some v → Value.okWide Try.prog W .any base t v := hval0
      have hW' := hW
      obtain ⟨p, q, hA0, hV, hps, hfz, hnd⟩ := hW
      have hA : DataW.TrodAll enc Try.prog W 0 (fun _ => true) true Try.f6.params.toList args.toList ds p := hA0
      rw [Try.params6] at hA hval
      obtain ⟨v0, vs0, d0, ds0, p0, q0, hargs, rfl, rfl, h0, r0⟩ := trodAll_cons hA
      obtain ⟨v1, vs1, d1, ds1, p1, q1, rfl, rfl, rfl, h1, r1⟩ := trodAll_cons r0
      obtain ⟨rfl, rfl, rfl⟩ := trodAll_nil r1
      obtain rfl : args = #[v0, v1] := by cases args; simp_all
      obtain ⟨a0, w0, t0⟩ := rd47.val tabOK rfl (fun _ => rfl) (hval 0 47 v0 rfl rfl) h0
      obtain ⟨a1, w1, t1⟩ := rd5.val tabOK rfl (fun _ => rfl) (hval 1 5 v1 rfl rfl) h1
      obtain ⟨k, hk⟩ := h a0 a1 w0 w1
      have hrun : sp6.runK k [tab.enc 47 a0, tab.enc 5 a1] (AV Ty) some = some (.bool true) := by
        have e : sp6.runK k [tab.enc 47 a0, tab.enc 5 a1] (AV Ty) some = (F6 k (a0, a1, ())).bind fun y => some (rs6.enc y) := by kernel_rfl
        rw [e, hk]; rfl
      refine (ok6 k _ _ hrun W (Below0 W) [v0, v1] (fun _ h => h) (.cons t0 (.cons t1 .nil))).mono fun e W' ⟨x, he, hr, hg⟩ => ?_
      obtain rfl := hr.bool_inv
      exact ⟨_, he, law_post (tb := 4) laidOut (by kernel_rfl) (by kernel_rfl) Try.underlying4 rfl rfl rfl rfl hW' hg⟩
/-- SummaryMarks, out of its plain law -/
theorem summaryMarks_row (h : ∀ (a0 : T46) (a1 : Int), WT46 a0 → WI_u8 a1 → ∃ k, F6 k (a0, a1, ()) = some true) : Rows.SummaryMarksSaid :=
  OpenClaim.holds_of_wide 6 Try.f6 rfl rfl rfl rfl rfl rfl rfl ⟨rfl, rfl, rfl, rfl, rfl⟩ rfl rfl rfl rfl rfl (by kernel_rfl) Try.func6 (by kernel_rfl)
    (of_decide_eq_true (by kernel_rfl)) (by unfold Func.isWrapper; first | (rw [if_pos (by decide +kernel)]; kernel_rfl) | (rw [if_neg (by decide +kernel)]; exact ⟨rfl, rfl⟩))
    (fun os started H enc _ => summaryMarks_lifted h os started H enc)
end Go.Proofs.Ytobienpnlaloeaa.W
