/-
  What the readings of the rows say, typed; and each row, out of the plain law. Laid by program (mktab.py).
-/
import Derived.Test.YtbhnkjnjeifdhaaVF
import Derived.Test.YtbhnkjnjeifdhaaRows
namespace Go.Proofs.Ytbhnkjnjeifdhaa.W
open Go Go.Proofs V Go.ChangeShapes Go.WideShapes Go.ChangeAt Go.RowKit
def WI_i64 (x : Int) : Prop := -9223372036854775808 ≤ x ∧ x ≤ 9223372036854775807
def WB (_ : Bool) : Prop := True
def WI_u8 (x : Int) : Prop := 0 ≤ x ∧ x ≤ 255
def WS (x : ByteArray) : Prop := x.size ≤ maxLen
def WI_u32 (x : Int) : Prop := 0 ≤ x ∧ x ≤ 4294967295
def WT46 (x : T46) : Prop := WI_i64 x.Kind ∧ WI_i64 x.Id ∧ True
def WL_T46 (x : List T46) : Prop := x.length ≤ maxLen ∧ ∀ y ∈ x, WT46 y
def WT24 (x : T24) : Prop := WI_u32 x.Seq ∧ WB x.More ∧ WL_T46 x.Marks ∧ True
def WA64_I_u8 (x : List Int) : Prop := x.length = 64 ∧ ∀ y ∈ x, WI_u8 y
def WT34 (x : T34) : Prop := WI_u32 x.Seq ∧ WB x.More ∧ WL_T46 x.Marks ∧ WI_i64 x.E ∧ True
def WI_u64 (x : Int) : Prop := 0 ≤ x ∧ x ≤ 18446744073709551615
def WL_I_u8 (x : List Int) : Prop := x.length ≤ maxLen ∧ ∀ y ∈ x, WI_u8 y
def WT59 (x : T59) : Prop := WI_i64 x.Kind ∧ WI_i64 x.I ∧ WI_u8 x.V ∧ WL_I_u8 x.Keep ∧ True
def WL_T59 (x : List T59) : Prop := x.length ≤ maxLen ∧ ∀ y ∈ x, WT59 y
def WL_A64_I_u8 (x : List (List Int)) : Prop := x.length ≤ maxLen ∧ ∀ y ∈ x, WA64_I_u8 y
def WT145 (x : T145) : Prop := WI_i64 x.I ∧ WA64_I_u8 x.S ∧ True
def WL_T145 (x : List T145) : Prop := x.length ≤ maxLen ∧ ∀ y ∈ x, WT145 y
def WT72 (x : T72) : Prop := WL_A64_I_u8 x.S ∧ WL_T145 x.L ∧ WI_i64 x.F ∧ WI_i64 x.Done ∧ True
def WA6_I_u8 (x : List Int) : Prop := x.length = 6 ∧ ∀ y ∈ x, WI_u8 y
def WA5_A64_I_u8 (x : List (List Int)) : Prop := x.length = 5 ∧ ∀ y ∈ x, WA64_I_u8 y
def WA7_A64_I_u8 (x : List (List Int)) : Prop := x.length = 7 ∧ ∀ y ∈ x, WA64_I_u8 y
def WA2_I_u8 (x : List Int) : Prop := x.length = 2 ∧ ∀ y ∈ x, WI_u8 y
def WA32_I_u8 (x : List Int) : Prop := x.length = 32 ∧ ∀ y ∈ x, WI_u8 y
def WA8_I_i64 (x : List Int) : Prop := x.length = 8 ∧ ∀ y ∈ x, WI_i64 y
def WT87 (x : T87) : Prop := WI_i64 x.Kind ∧ WI_i64 x.Id ∧ WA32_I_u8 x.Page ∧ WI_i64 x.Off ∧ WL_I_u8 x.Bytes ∧ WI_i64 x.Prev ∧ WA8_I_i64 x.Heads ∧ True
def WT94 (x : T94) : Prop := WT87 x.B ∧ WI_u32 x.Seq ∧ WI_i64 x.E ∧ True
def WA2_I_u32 (x : List Int) : Prop := x.length = 2 ∧ ∀ y ∈ x, WI_u32 y
def WT128 (x : T128) : Prop := WT46 x.Mark ∧ WT87 x.Block ∧ True
def WL_T128 (x : List T128) : Prop := x.length ≤ maxLen ∧ ∀ y ∈ x, WT128 y
def WL_I_i64 (x : List Int) : Prop := x.length ≤ maxLen ∧ ∀ y ∈ x, WI_i64 y
def WT112 (x : T112) : Prop := WL_A64_I_u8 x.S ∧ WL_I_i64 x.At ∧ WB x.OK ∧ True
def WT115 (x : T115) : Prop := WL_T128 x.Items ∧ WL_I_i64 x.At ∧ WI_i64 x.Sectors ∧ WI_i64 x.Parts ∧ True
def WT119 (x : T119) : Prop := WL_T128 x.Items ∧ WL_I_i64 x.At ∧ WI_i64 x.Sectors ∧ WI_i64 x.Parts ∧ WB x.OK ∧ True
def WT143 (x : T143) : Prop := WI_i64 x.at_ ∧ WA64_I_u8 x.s ∧ True
def WL_T143 (x : List T143) : Prop := x.length ≤ maxLen ∧ ∀ y ∈ x, WT143 y
def WT140 (x : T140) : Prop := WL_A64_I_u8 x.sectors ∧ WL_T143 x.loose ∧ WI_i64 x.fail ∧ WI_i64 x.done ∧ True
theorem own : ownKnob Try.prog.godebug = none := by kernel_rfl
theorem laidOut : laidOutB Try.prog = true := by kernel_rfl
theorem rd3 : Rd Try.prog tab 3 (α := Int) (tab.enc 3) WI_i64 := (Rd.int (t := 3) (k := .i64) rfl tabOK).imp (fun x => x) (fun _ => rfl) fun _ h => bounds_i64 h
theorem rd47 : Rd Try.prog tab 47 (α := T46) (tab.enc 47) WT46 := (Rd.struct (t := 47) tabOK rfl (.cons (p := (3, 0)) rd3 rfl (.cons (p := (3, 1)) rd3 rfl RdF.nil) : RdF Try.prog tab 0 _ _ _) rfl).imp (fun z => T46.mk z.1 z.2.1) (fun _ => rfl) fun _ h => h
theorem rd5 : Rd Try.prog tab 5 (α := Int) (tab.enc 5) WI_u8 := (Rd.int (t := 5) (k := .u8) rfl tabOK).imp (fun x => x) (fun _ => rfl) fun _ h => bounds_u8 h
theorem rd85 : Rd Try.prog tab 85 (α := List Int) (tab.enc 85) WA32_I_u8 := (Rd.arr (t := 85) (e := 5) (n := 32) tabOK rfl rd5 rfl).imp (fun x => x) (fun _ => rfl) fun _ h => h
theorem rd58 : Rd Try.prog tab 58 (α := List Int) (tab.enc 58) WL_I_u8 := (Rd.slice (t := 58) (e := 5) tabOK rfl rd5).imp (fun x => x) (fun _ => rfl) fun _ h => h
theorem rd86 : Rd Try.prog tab 86 (α := List Int) (tab.enc 86) WA8_I_i64 := (Rd.arr (t := 86) (e := 3) (n := 8) tabOK rfl rd3 rfl).imp (fun x => x) (fun _ => rfl) fun _ h => h
theorem rd88 : Rd Try.prog tab 88 (α := T87) (tab.enc 88) WT87 := (Rd.struct (t := 88) tabOK rfl (.cons (p := (3, 0)) rd3 rfl (.cons (p := (3, 1)) rd3 rfl (.cons (p := (85, 2)) rd85 rfl (.cons (p := (3, 34)) rd3 rfl (.cons (p := (58, 35)) rd58 rfl (.cons (p := (3, 36)) rd3 rfl (.cons (p := (86, 37)) rd86 rfl RdF.nil)))))) : RdF Try.prog tab 0 _ _ _) rfl).imp (fun z => T87.mk z.1 z.2.1 z.2.2.1 z.2.2.2.1 z.2.2.2.2.1 z.2.2.2.2.2.1 z.2.2.2.2.2.2.1) (fun _ => rfl) fun _ h => h
theorem rd129 : Rd Try.prog tab 129 (α := T128) (tab.enc 129) WT128 := (Rd.struct (t := 129) tabOK rfl (.cons (p := (47, 0)) rd47 rfl (.cons (p := (88, 2)) rd88 rfl RdF.nil) : RdF Try.prog tab 0 _ _ _) rfl).imp (fun z => T128.mk z.1 z.2.1) (fun _ => rfl) fun _ h => h
theorem rd106 : Rd Try.prog tab 106 (α := List T128) (tab.enc 106) WL_T128 := (Rd.slice (t := 106) (e := 129) tabOK rfl rd129).imp (fun x => x) (fun _ => rfl) fun _ h => h
theorem rd22 : Rd Try.prog tab 22 (α := Int) (tab.enc 22) WI_u32 := (Rd.int (t := 22) (k := .u32) rfl tabOK).imp (fun x => x) (fun _ => rfl) fun _ h => bounds_u32 h
theorem rd100 : Rd Try.prog tab 100 (α := List Int) (tab.enc 100) WA2_I_u32 := (Rd.arr (t := 100) (e := 22) (n := 2) tabOK rfl rd22 rfl).imp (fun x => x) (fun _ => rfl) fun _ h => h
theorem rd82 : Rd Try.prog tab 82 (α := List Int) (tab.enc 82) WA2_I_u8 := (Rd.arr (t := 82) (e := 5) (n := 2) tabOK rfl rd5 rfl).imp (fun x => x) (fun _ => rfl) fun _ h => h
set_option maxRecDepth 100000 in
theorem groupBack_lifted (h : ∀ (a0 : List T128) (a1 : List Int) (a2 : List Int), WL_T128 a0 → WA2_I_u32 a1 → WA2_I_u8 a2 → ∃ k, F20 k (a0, a1, a2, ()) = some true) (os : Os) (started : os.Started) (H : Type) (enc : TypeId × Value → H) :
    ReturnsInHanded {} Try.checked os 20 .any (Rows.groupBackSpec.pre6 enc Try.prog Try.f20 Rows.groupBackRow.domain false) (Rows.groupBackSpec.post enc Try.prog Try.f20 false true false false) := by
      refine returnsInHanded_of_change (C := Try.checked) own started (by kernel_rfl) Try.func20
        (ChangeSpec.witness6 (enc := enc) (C := Try.checked) false ⟨#[], #[.slice none 0 0, .agg (Array.replicate 2 (.int .u32 0)), .agg (Array.replicate 2 (.int .u8 0))], []⟩ 8 (by kernel_rfl) (by kernel_rfl) (by kernel_rfl) (by kernel_rfl)) ?_
      intro W base args ds gs before hval0 hW _ _
      have hval : ∀ (j : Nat) t v, Try.f20.params[j]? = some t → args[j]? = some v → Value.okWide Try.prog W .any base t v := hval0
      have hW' := hW
      obtain ⟨p, q, hA0, hV, hps, hfz, hnd⟩ := hW
      have hA : DataW.TrodAll enc Try.prog W 0 (fun _ => true) true Try.f20.params.toList args.toList ds p := hA0
      rw [Try.params20] at hA hval
      obtain ⟨v0, vs0, d0, ds0, p0, q0, hargs, rfl, rfl, h0, r0⟩ := trodAll_cons hA
      obtain ⟨v1, vs1, d1, ds1, p1, q1, rfl, rfl, rfl, h1, r1⟩ := trodAll_cons r0
      obtain ⟨v2, vs2, d2, ds2, p2, q2, rfl, rfl, rfl, h2, r2⟩ := trodAll_cons r1
      obtain ⟨rfl, rfl, rfl⟩ := trodAll_nil r2
      obtain rfl : args = #[v0, v1, v2] := by cases args; simp_all
      obtain ⟨a0, w0, t0⟩ := rd106.val tabOK rfl (fun _ => rfl) (hval 0 106 v0 rfl rfl) h0
      obtain ⟨a1, w1, t1⟩ := rd100.val tabOK rfl (fun _ => rfl) (hval 1 100 v1 rfl rfl) h1
      obtain ⟨a2, w2, t2⟩ := rd82.val tabOK rfl (fun _ => rfl) (hval 2 82 v2 rfl rfl) h2
      obtain ⟨k, hk⟩ := h a0 a1 a2 w0 w1 w2
      have hrun : sp20.runK k [tab.enc 106 a0, tab.enc 100 a1, tab.enc 82 a2] (AV Ty) some = some (.bool true) := by
        have e : sp20.runK k [tab.enc 106 a0, tab.enc 100 a1, tab.enc 82 a2] (AV Ty) some = (F20 k (a0, a1, a2, ())).bind fun y => some (rs20.enc y) := by kernel_rfl
        rw [e, hk]; rfl
      refine (ok20.1 k _ _ hrun W (Below0 W) [v0, v1, v2] (fun p hp => by cases hp) (fun _ h => h) (.cons t0 (.cons t1 (.cons t2 .nil)))).mono fun e W' ⟨x, he, hr, hg⟩ => ?_
      obtain rfl := hr.bool_inv
      exact ⟨_, he, law_post (tb := 4) laidOut (by kernel_rfl) (by kernel_rfl) Try.underlying4 rfl rfl rfl rfl hW' hg⟩
/-- GroupBack, out of its plain law -/
theorem groupBack_row (h : ∀ (a0 : List T128) (a1 : List Int) (a2 : List Int), WL_T128 a0 → WA2_I_u32 a1 → WA2_I_u8 a2 → ∃ k, F20 k (a0, a1, a2, ()) = some true) : Rows.GroupBackSaid :=
  OpenClaim.holds_of_wide 20 Try.f20 rfl rfl rfl rfl rfl rfl rfl ⟨rfl, rfl, rfl, rfl, rfl⟩ rfl rfl rfl rfl rfl (by kernel_rfl) Try.func20 (by kernel_rfl)
    (of_decide_eq_true (by kernel_rfl)) (by unfold Func.isWrapper; first | (rw [if_pos (by decide +kernel)]; kernel_rfl) | (rw [if_neg (by decide +kernel)]; exact ⟨rfl, rfl⟩))
    (fun os started H enc _ => groupBack_lifted h os started H enc)
end Go.Proofs.Ytbhnkjnjeifdhaa.W
