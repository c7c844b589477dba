/-
  What the readings of the rows say, typed; and each row, out of the plain law. Laid by program (mktab.py).
-/
import Derived.Test.YtpnnmpdjgnbkhaaDoorVF
import Derived.Test.YtpnnmpdjgnbkhaaDoorRows
import Derived.ChangeSame
import Derived.ChangeVars
import Derived.JoinedOf
import Derived.RowKit
import Derived.RowKitTokens
import Derived.LaidLaws
import Derived.LaidHandle
import Derived.Stop.Joined
import Derived.Test.YtpnnmpdjgnbkhaaDoorCards
import Derived.Test.YtpnnmpdjgnbkhaaDoorTie
import Derived.SevenTiedAt
namespace Go.Proofs.YtpnnmpdjgnbkhaaDoor.W
open Go Go.Proofs V Go.ChangeShapes Go.WideShapes Go.ChangeAt Go.RowKit
def WI_i64 (x : Int) : Prop := -9223372036854775808 ≤ x ∧ x ≤ 9223372036854775807
def WB (_ : Bool) : Prop := True
def WI_u8 (x : Int) : Prop := 0 ≤ x ∧ x ≤ 255
def WS (x : ByteArray) : Prop := x.size ≤ maxLen
def WA32_I_u8 (x : List Int) : Prop := x.length = 32 ∧ ∀ y ∈ x, WI_u8 y
def WL_I_u8 (x : List Int) : Prop := x.length ≤ maxLen ∧ ∀ y ∈ x, WI_u8 y
def WT25 (x : T25) : Prop := WI_i64 x.Off ∧ WL_I_u8 x.Bytes ∧ True
def WT30 (x : T30) : Prop := WI_i64 x.Off ∧ WL_I_u8 x.Bytes ∧ WB x.OK ∧ True
def WT36 (x : T36) : Prop := WA32_I_u8 x.P ∧ WB x.OK ∧ True
def WI_u16 (x : Int) : Prop := 0 ≤ x ∧ x ≤ 65535
def WL_S (x : List ByteArray) : Prop := x.length ≤ maxLen ∧ ∀ y ∈ x, WS y
def WA2_I_u8 (x : List Int) : Prop := x.length = 2 ∧ ∀ y ∈ x, WI_u8 y
def WA2_I_u16 (x : List Int) : Prop := x.length = 2 ∧ ∀ y ∈ x, WI_u16 y
def WI_u32 (x : Int) : Prop := 0 ≤ x ∧ x ≤ 4294967295
def WT64 (x : T64) : Prop := WI_i64 x.Pages ∧ WI_i64 x.Segs ∧ WI_i64 x.SegLen ∧ WI_i64 x.Frames ∧ True
def WA8_I_i64 (x : List Int) : Prop := x.length = 8 ∧ ∀ y ∈ x, WI_i64 y
def WT67 (x : T67) : Prop := WI_u32 x.Gen ∧ WT64 x.Geom ∧ WI_i64 x.Seg ∧ WI_i64 x.Off ∧ WI_u32 x.Seq ∧ WA8_I_i64 x.Roots ∧ True
def WA64_I_u8 (x : List Int) : Prop := x.length = 64 ∧ ∀ y ∈ x, WI_u8 y
def WA2_A64_I_u8 (x : List (List Int)) : Prop := x.length = 2 ∧ ∀ y ∈ x, WA64_I_u8 y
def WI_u64 (x : Int) : Prop := 0 ≤ x ∧ x ≤ 18446744073709551615
def WT85 (x : T85) : Prop := WI_i64 x.Head ∧ WI_i64 x.Length ∧ WA32_I_u8 x.Page ∧ True
def WT87 (x : T87) : Prop := WI_i64 x.Kind ∧ WI_i64 x.Id ∧ True
def WT89 (x : T89) : Prop := WI_i64 x.Kind ∧ WI_i64 x.Id ∧ WA32_I_u8 x.Page ∧ WI_i64 x.Off ∧ WL_I_u8 x.Bytes ∧ WI_i64 x.Prev ∧ WA8_I_i64 x.Heads ∧ True
def WT91 (x : T91) : Prop := WT87 x.Mark ∧ WT89 x.Block ∧ True
def WL_I_i64 (x : List Int) : Prop := x.length ≤ maxLen ∧ ∀ y ∈ x, WI_i64 y
def WL_T89 (x : List T89) : Prop := x.length ≤ maxLen ∧ ∀ y ∈ x, WT89 y
def WT106 (x : T106) : Prop := WI_i64 x.Maps ∧ WI_i64 x.Total ∧ WI_i64 x.Cap ∧ True
def WA2_T89 (x : List T89) : Prop := x.length = 2 ∧ ∀ y ∈ x, WT89 y
def WL_A2_I_u8 (x : List (List Int)) : Prop := x.length ≤ maxLen ∧ ∀ y ∈ x, WA2_I_u8 y
def WT136 (x : T136) : Prop := WI_i64 x.Seg ∧ WI_i64 x.Off ∧ WB x.OK ∧ True
theorem own : ownKnob Tryd.prog.godebug = none := by kernel_rfl
theorem laidOut : laidOutB Tryd.prog = true := by kernel_rfl
theorem et : Tryd.prog.globalNamed "errors.errorType" = some 0 := by kernel_rfl
theorem rt : (Tryd.prog.cutTypes.find? (·.1 == "internal/reflectlite.rtype")).map (·.2) = some 170 := by kernel_rfl
theorem oneRow : ((List.range 215).filter fun t => Tryd.prog.rowNamed t [101, 114, 114, 111, 114]) = [48] := by kernel_rfl
theorem nTypes : Tryd.prog.types.size = 215 := by kernel_rfl
theorem handle_of_laid {W : World} (h : laidMetH Tryd.prog [("errors.errorType", Rows.laid_errors_errorType)] W) : W.cell? ⟨0, 0, none⟩ = some (.iface 170 (.agg #[.pointer (some ⟨1, 48, none⟩)])) := by
  have h' : laidMet Tryd.prog [] W ∧ handlesMet Tryd.prog [("errors.errorType", Rows.laid_errors_errorType)] W := h
  obtain ⟨name, u, ty, e1, e2, e3, e4, e5⟩ := h'.2 _ (List.mem_singleton.2 rfl)
  have en : name = [101, 114, 114, 111, 114] := (Option.some.inj e1).symm
  subst en
  obtain rfl := Option.some.inj (rt.symm.trans e2)
  have hm : ty ∈ (List.range 215).filter fun t => Tryd.prog.rowNamed t [101, 114, 114, 111, 114] := List.mem_filter.2 ⟨List.mem_range.2 (by rw [← nTypes]; exact e3), e4⟩
  rw [oneRow] at hm
  obtain rfl := List.mem_singleton.1 hm
  have hh : typeHandle Tryd.prog 48 = .pointer (some ⟨1, 48, none⟩) := by kernel_rfl
  rw [hh] at e5
  simpa using World.var?_cell et e5 0
noncomputable def laidWorld (os : Os) : World :=
  let w0 := World.holding Tryd.prog os ⟨#[], #[], []⟩
  { w0 with heap := w0.heap.modify 0 fun
      | .cells _ t frozen => .cells #[.iface 170 (.agg #[.pointer (some ⟨1, 48, none⟩)])] t frozen
      | o => o }
theorem laidWorld_met (os : Os) (args : Array Value) : laidMetH Tryd.prog [("errors.errorType", Rows.laid_errors_errorType)] ((laidWorld os).forCall (fun _ _ => 0) ⟨#[], args, []⟩).memory :=
  laidMetH_of_parts (laidMet_nil _ _) (by kernel_rfl)
theorem rd5 : Rd Tryd.prog tab 5 (α := Int) (tab.enc 5) WI_u8 := (Rd.int (t := 5) (k := .u8) rfl tabOK).imp (fun x => x) (fun _ => rfl) fun _ h => bounds_u8 h
theorem rd58 : Rd Tryd.prog tab 58 (α := List Int) (tab.enc 58) WA2_I_u8 := (Rd.arr (t := 58) (e := 5) (n := 2) tabOK rfl rd5 rfl).imp (fun x => x) (fun _ => rfl) fun _ h => h
theorem rd119 : Rd Tryd.prog tab 119 (α := List (List Int)) (tab.enc 119) WL_A2_I_u8 := (Rd.slice (t := 119) (e := 58) tabOK rfl rd58).imp (fun x => x) (fun _ => rfl) fun _ h => h
set_option maxRecDepth 100000 in
theorem policyChains_lifted (h : ∀ (a0 : Int) (a1 : List (List Int)), WI_u8 a0 → WL_A2_I_u8 a1 → ∃ k, F21 k (a0, a1, ()) = some true) (os : Os) (started : os.Started) (H : Type) (enc : TypeId × Value → H) :
    ReturnsInHanded {} Tryd.checked os 21 .any (fun w args => (Rows.policyChainsSpec.pre enc Tryd.prog Tryd.f21 [] false w args ∧ laidMetH Tryd.prog [("errors.errorType", Rows.laid_errors_errorType)] w) ∧ sizedMet enc Tryd.prog Tryd.f21 (OpenSpec.ofChange Rows.policyChainsSpec) false w args) (Rows.policyChainsSpec.post enc Tryd.prog Tryd.f21 false true false false) := by
      refine returnsInHanded_of_change_and (C := Tryd.checked) (X := fun w _ => laidMetH Tryd.prog [("errors.errorType", Rows.laid_errors_errorType)] w) (fun _ _ _ hh h => h.of_heap hh) own started (by kernel_rfl) Tryd.func21
        (ChangeSpec.witness_at (enc := enc) (C := Tryd.checked) (os := os) (X := fun w _ => laidMetH Tryd.prog [("errors.errorType", Rows.laid_errors_errorType)] w) false (laidWorld os) #[.int .u8 0, .slice none 0 0] 8 rfl (by kernel_rfl) (by kernel_rfl) (by kernel_rfl) (by kernel_rfl) (by kernel_rfl) (laidWorld_met os _)) ?_
      intro W base args ds gs before hval0 hW _ _ hL _
      have hG : GlobOK tab W := fun p hp => by
        obtain rfl := List.mem_singleton.1 hp
        exact handle_of_laid hL
      have hval : ∀ (j : Nat) t v, Tryd.f21.params[j]? = some t → args[j]? = some v → Value.okWide Tryd.prog W .any base t v := hval0
      have hW' := hW
      obtain ⟨p, q, hA0, hV, hps, hfz, hnd⟩ := hW
      have hA : DataW.TrodAll enc Tryd.prog W 0 (fun _ => true) true Tryd.f21.params.toList args.toList ds p := hA0
      rw [Tryd.params21] at hA hval
      obtain ⟨v0, vs0, d0, ds0, p0, q0, hargs, rfl, rfl, h0, r0⟩ := trodAll_cons hA
      obtain ⟨v1, vs1, d1, ds1, p1, q1, rfl, rfl, rfl, h1, r1⟩ := trodAll_cons r0
      obtain ⟨rfl, rfl, rfl⟩ := trodAll_nil r1
      obtain rfl : args = #[v0, v1] := by cases args; simp_all
      obtain ⟨a0, w0, t0⟩ := rd5.val tabOK rfl (fun _ => rfl) (hval 0 5 v0 rfl rfl) h0
      obtain ⟨a1, w1, t1⟩ := rd119.val tabOK rfl (fun _ => rfl) (hval 1 119 v1 rfl rfl) h1
      obtain ⟨k, hk⟩ := h a0 a1 w0 w1
      have hrun : sp21.runK k [tab.enc 5 a0, tab.enc 119 a1] (AV Ty) some = some (.bool true) := by
        have e : sp21.runK k [tab.enc 5 a0, tab.enc 119 a1] (AV Ty) some = (F21 k (a0, a1, ())).bind fun y => some (rs21.enc y) := by kernel_rfl
        rw [e, hk]; rfl
      refine (ok21.1 k _ _ hrun W (Below0 W) [v0, v1] hG (fun _ h => h) (.cons t0 (.cons t1 .nil))).mono fun e W' ⟨x, he, hr, hg⟩ => ?_
      obtain rfl := hr.bool_inv
      exact ⟨_, he, law_post (tb := 4) laidOut (by kernel_rfl) (by kernel_rfl) Tryd.underlying4 rfl rfl rfl rfl hW' hg⟩
/-- PolicyChains, out of its plain law -/
theorem policyChains_row (h : ∀ (a0 : Int) (a1 : List (List Int)), WI_u8 a0 → WL_A2_I_u8 a1 → ∃ k, F21 k (a0, a1, ()) = some true) : Rows.PolicyChainsSaid :=
  OpenClaim.holds_of_wide 21 Tryd.f21 rfl rfl rfl rfl rfl rfl rfl ⟨rfl, rfl, rfl, rfl, rfl⟩ rfl rfl rfl rfl rfl (by kernel_rfl) Tryd.func21 (by kernel_rfl)
    (of_decide_eq_true (by kernel_rfl)) (by unfold Func.isWrapper; first | (rw [if_pos (by decide +kernel)]; kernel_rfl) | (rw [if_neg (by decide +kernel)]; exact ⟨rfl, rfl⟩))
    (fun os started H enc _ => policyChains_lifted h os started H enc)
/-- PolicyChains: the card, out of its row -/
theorem policyChains_card (h : Rows.PolicyChainsSaid) : Rows.PolicyChainsCardSaid :=
  Claim7.holds_tied_plain_at .later [] [.handle] true (true, "3f18efe1ff10dcb501f649e39697ee1e597a3b577f0182f24a5f067c91f962fa") true h (fun _ h => by cases h) (by kernel_rfl) (fun _ h => by cases h) policyChains_row_tie rfl ⟨rfl, rfl⟩ (by kernel_rfl) rfl
    (fun f fn hf hfn => by
      obtain rfl : f = 21 := Option.some.inj ((show Tryd.prog.funcNamed "silt/siltlaw18.PolicyChains" = some 21 by kernel_rfl).symm.trans hf) |>.symm
      obtain rfl : fn = Tryd.f21 := (Option.some.inj (Tryd.func21.symm.trans hfn)).symm
      exact ⟨by kernel_rfl, fun j t ht => by
        rw [Tryd.params21] at ht
        rcases j with _ | _ | j
        · obtain rfl : 5 = t := by simpa using ht
          exact (show Tryd.prog.wantsStandIn 5 = false by kernel_rfl)
        · obtain rfl : 119 = t := by simpa using ht
          exact (show Tryd.prog.wantsStandIn 119 = false by kernel_rfl)
        · simp at ht⟩)
    (by kernel_rfl)
end Go.Proofs.YtpnnmpdjgnbkhaaDoor.W
