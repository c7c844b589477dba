/-
  What the readings of the rows say, typed; and each row, out of the plain law. Laid by program (mktab.py).
-/
import Derived.Test.YtbhnkjnjeifdhaaDoorVF
import Derived.Test.YtbhnkjnjeifdhaaDoorRows
import Derived.ChangeSame
import Derived.ChangeVars
import Derived.JoinedOf
import Derived.RowKit
import Derived.RowKitTokens
import Derived.LaidLaws
import Derived.LaidHandle
import Derived.Stop.Joined
import Derived.Test.YtbhnkjnjeifdhaaDoorCards
import Derived.Test.YtbhnkjnjeifdhaaDoorTie
import Derived.SevenTiedAt
namespace Go.Proofs.YtbhnkjnjeifdhaaDoor.W
open Go Go.Proofs V Go.ChangeShapes Go.WideShapes Go.ChangeAt Go.RowKit
def WI_i64 (x : Int) : Prop := -9223372036854775808 ≤ x ∧ x ≤ 9223372036854775807
def WB (_ : Bool) : Prop := True
def WI_u8 (x : Int) : Prop := 0 ≤ x ∧ x ≤ 255
def WS (x : ByteArray) : Prop := x.size ≤ maxLen
def WI_u32 (x : Int) : Prop := 0 ≤ x ∧ x ≤ 4294967295
def WT23 (x : T23) : Prop := WI_i64 x.Pages ∧ WI_i64 x.Segs ∧ WI_i64 x.SegLen ∧ WI_i64 x.Frames ∧ True
def WA8_I_i64 (x : List Int) : Prop := x.length = 8 ∧ ∀ y ∈ x, WI_i64 y
def WT26 (x : T26) : Prop := WI_u32 x.Gen ∧ WT23 x.Geom ∧ WI_i64 x.Seg ∧ WI_i64 x.Off ∧ WI_u32 x.Seq ∧ WA8_I_i64 x.Roots ∧ True
def WT73 (x : T73) : Prop := WI_i64 x.Kind ∧ WI_i64 x.Id ∧ True
def WA32_I_u8 (x : List Int) : Prop := x.length = 32 ∧ ∀ y ∈ x, WI_u8 y
def WL_I_u8 (x : List Int) : Prop := x.length ≤ maxLen ∧ ∀ y ∈ x, WI_u8 y
def WT78 (x : T78) : Prop := WI_i64 x.Kind ∧ WI_i64 x.Id ∧ WA32_I_u8 x.Page ∧ WI_i64 x.Off ∧ WL_I_u8 x.Bytes ∧ WI_i64 x.Prev ∧ WA8_I_i64 x.Heads ∧ True
def WT80 (x : T80) : Prop := WT73 x.Mark ∧ WT78 x.Block ∧ True
def WL_T80 (x : List T80) : Prop := x.length ≤ maxLen ∧ ∀ y ∈ x, WT80 y
def WL_L_T80 (x : List (List T80)) : Prop := x.length ≤ maxLen ∧ ∀ y ∈ x, WL_T80 y
def WT39 (x : T39) : Prop := WI_i64 x.Maps ∧ WI_i64 x.Total ∧ WI_i64 x.Cap ∧ True
def WL_I_i64 (x : List Int) : Prop := x.length ≤ maxLen ∧ ∀ y ∈ x, WI_i64 y
def WT46 (x : T46) : Prop := WI_i64 x.Seg ∧ WI_i64 x.Off ∧ WI_u32 x.Seq ∧ WL_I_i64 x.Free ∧ True
def WL_B (x : List Bool) : Prop := x.length ≤ maxLen ∧ ∀ y ∈ x, WB y
def WT57 (x : T57) : Prop := WI_i64 x.Seg ∧ WI_i64 x.Off ∧ WB x.OK ∧ True
def WA2_I_u8 (x : List Int) : Prop := x.length = 2 ∧ ∀ y ∈ x, WI_u8 y
def WA64_I_u8 (x : List Int) : Prop := x.length = 64 ∧ ∀ y ∈ x, WI_u8 y
def WT94 (x : T94) : Prop := WL_T80 x.Items ∧ WL_I_i64 x.Places ∧ True
def WL_T94 (x : List T94) : Prop := x.length ≤ maxLen ∧ ∀ y ∈ x, WT94 y
def WT97 (x : T97) : Prop := WI_i64 x.Off ∧ WI_i64 x.At ∧ WL_I_u8 x.Keep ∧ True
def WL_A64_I_u8 (x : List (List Int)) : Prop := x.length ≤ maxLen ∧ ∀ y ∈ x, WA64_I_u8 y
def WT126 (x : T126) : Prop := WI_i64 x.at_ ∧ WA64_I_u8 x.s ∧ True
def WL_T126 (x : List T126) : Prop := x.length ≤ maxLen ∧ ∀ y ∈ x, WT126 y
def WT103 (x : T103) : Prop := WL_A64_I_u8 x.sectors ∧ WL_T126 x.loose ∧ WI_i64 x.fail ∧ WI_i64 x.done ∧ True
def WA2_A64_I_u8 (x : List (List Int)) : Prop := x.length = 2 ∧ ∀ y ∈ x, WA64_I_u8 y
def WI_u64 (x : Int) : Prop := 0 ≤ x ∧ x ≤ 18446744073709551615
def WT185 (x : T185) : Prop := WL_T80 x.Items ∧ WL_I_i64 x.At ∧ WI_i64 x.Sectors ∧ WI_i64 x.Parts ∧ True
def WL_T73 (x : List T73) : Prop := x.length ≤ maxLen ∧ ∀ y ∈ x, WT73 y
def WT197 (x : T197) : Prop := WI_u32 x.Seq ∧ WB x.More ∧ WL_T73 x.Marks ∧ True
theorem own : ownKnob Tryd.prog.godebug = none := by kernel_rfl
theorem laidOut : laidOutB Tryd.prog = true := by kernel_rfl
theorem et : Tryd.prog.globalNamed "errors.errorType" = some 0 := by kernel_rfl
theorem rt : (Tryd.prog.cutTypes.find? (·.1 == "internal/reflectlite.rtype")).map (·.2) = some 169 := by kernel_rfl
theorem oneRow : ((List.range 239).filter fun t => Tryd.prog.rowNamed t [101, 114, 114, 111, 114]) = [106] := by kernel_rfl
theorem nTypes : Tryd.prog.types.size = 239 := by kernel_rfl
theorem handle_of_laid {W : World} (h : laidMetH Tryd.prog [("errors.errorType", Rows.laid_errors_errorType)] W) : W.cell? ⟨0, 0, none⟩ = some (.iface 169 (.agg #[.pointer (some ⟨1, 106, none⟩)])) := by
  have h' : laidMet Tryd.prog [] W ∧ handlesMet Tryd.prog [("errors.errorType", Rows.laid_errors_errorType)] W := h
  obtain ⟨name, u, ty, e1, e2, e3, e4, e5⟩ := h'.2 _ (List.mem_singleton.2 rfl)
  have en : name = [101, 114, 114, 111, 114] := (Option.some.inj e1).symm
  subst en
  obtain rfl := Option.some.inj (rt.symm.trans e2)
  have hm : ty ∈ (List.range 239).filter fun t => Tryd.prog.rowNamed t [101, 114, 114, 111, 114] := List.mem_filter.2 ⟨List.mem_range.2 (by rw [← nTypes]; exact e3), e4⟩
  rw [oneRow] at hm
  obtain rfl := List.mem_singleton.1 hm
  have hh : typeHandle Tryd.prog 106 = .pointer (some ⟨1, 106, none⟩) := by kernel_rfl
  rw [hh] at e5
  simpa using World.var?_cell et e5 0
noncomputable def laidWorld (os : Os) : World :=
  let w0 := World.holding Tryd.prog os ⟨#[], #[], []⟩
  { w0 with heap := w0.heap.modify 0 fun
      | .cells _ t frozen => .cells #[.iface 169 (.agg #[.pointer (some ⟨1, 106, none⟩)])] t frozen
      | o => o }
theorem laidWorld_met (os : Os) (args : Array Value) : laidMetH Tryd.prog [("errors.errorType", Rows.laid_errors_errorType)] ((laidWorld os).forCall (fun _ _ => 0) ⟨#[], args, []⟩).memory :=
  laidMetH_of_parts (laidMet_nil _ _) (by kernel_rfl)
theorem rd3 : Rd Tryd.prog tab 3 (α := Int) (tab.enc 3) WI_i64 := (Rd.int (t := 3) (k := .i64) rfl tabOK).imp (fun x => x) (fun _ => rfl) fun _ h => bounds_i64 h
theorem rd24 : Rd Tryd.prog tab 24 (α := T23) (tab.enc 24) WT23 := (Rd.struct (t := 24) tabOK rfl (.cons (p := (3, 0)) rd3 rfl (.cons (p := (3, 1)) rd3 rfl (.cons (p := (3, 2)) rd3 rfl (.cons (p := (3, 3)) rd3 rfl RdF.nil))) : RdF Tryd.prog tab 0 _ _ _) rfl).imp (fun z => T23.mk z.1 z.2.1 z.2.2.1 z.2.2.2.1) (fun _ => rfl) fun _ h => h
theorem rd74 : Rd Tryd.prog tab 74 (α := T73) (tab.enc 74) WT73 := (Rd.struct (t := 74) tabOK rfl (.cons (p := (3, 0)) rd3 rfl (.cons (p := (3, 1)) rd3 rfl RdF.nil) : RdF Tryd.prog tab 0 _ _ _) rfl).imp (fun z => T73.mk z.1 z.2.1) (fun _ => rfl) fun _ h => h
theorem rd5 : Rd Tryd.prog tab 5 (α := Int) (tab.enc 5) WI_u8 := (Rd.int (t := 5) (k := .u8) rfl tabOK).imp (fun x => x) (fun _ => rfl) fun _ h => bounds_u8 h
theorem rd76 : Rd Tryd.prog tab 76 (α := List Int) (tab.enc 76) WA32_I_u8 := (Rd.arr (t := 76) (e := 5) (n := 32) tabOK rfl rd5 rfl).imp (fun x => x) (fun _ => rfl) fun _ h => h
theorem rd77 : Rd Tryd.prog tab 77 (α := List Int) (tab.enc 77) WL_I_u8 := (Rd.slice (t := 77) (e := 5) tabOK rfl rd5).imp (fun x => x) (fun _ => rfl) fun _ h => h
theorem rd25 : Rd Tryd.prog tab 25 (α := List Int) (tab.enc 25) WA8_I_i64 := (Rd.arr (t := 25) (e := 3) (n := 8) tabOK rfl rd3 rfl).imp (fun x => x) (fun _ => rfl) fun _ h => h
theorem rd79 : Rd Tryd.prog tab 79 (α := T78) (tab.enc 79) WT78 := (Rd.struct (t := 79) tabOK rfl (.cons (p := (3, 0)) rd3 rfl (.cons (p := (3, 1)) rd3 rfl (.cons (p := (76, 2)) rd76 rfl (.cons (p := (3, 34)) rd3 rfl (.cons (p := (77, 35)) rd77 rfl (.cons (p := (3, 36)) rd3 rfl (.cons (p := (25, 37)) rd25 rfl RdF.nil)))))) : RdF Tryd.prog tab 0 _ _ _) rfl).imp (fun z => T78.mk z.1 z.2.1 z.2.2.1 z.2.2.2.1 z.2.2.2.2.1 z.2.2.2.2.2.1 z.2.2.2.2.2.2.1) (fun _ => rfl) fun _ h => h
theorem rd81 : Rd Tryd.prog tab 81 (α := T80) (tab.enc 81) WT80 := (Rd.struct (t := 81) tabOK rfl (.cons (p := (74, 0)) rd74 rfl (.cons (p := (79, 2)) rd79 rfl RdF.nil) : RdF Tryd.prog tab 0 _ _ _) rfl).imp (fun z => T80.mk z.1 z.2.1) (fun _ => rfl) fun _ h => h
theorem rd50 : Rd Tryd.prog tab 50 (α := List T80) (tab.enc 50) WL_T80 := (Rd.slice (t := 50) (e := 81) tabOK rfl rd81).imp (fun x => x) (fun _ => rfl) fun _ h => h
theorem rd37 : Rd Tryd.prog tab 37 (α := List (List T80)) (tab.enc 37) WL_L_T80 := (Rd.slice (t := 37) (e := 50) tabOK rfl rd50).imp (fun x => x) (fun _ => rfl) fun _ h => h
theorem rd98 : Rd Tryd.prog tab 98 (α := T97) (tab.enc 98) WT97 := (Rd.struct (t := 98) tabOK rfl (.cons (p := (3, 0)) rd3 rfl (.cons (p := (3, 1)) rd3 rfl (.cons (p := (77, 2)) rd77 rfl RdF.nil)) : RdF Tryd.prog tab 0 _ _ _) rfl).imp (fun z => T97.mk z.1 z.2.1 z.2.2.1) (fun _ => rfl) fun _ h => h
set_option maxRecDepth 100000 in
theorem scanBack_lifted (h : ∀ (a0 : T23) (a1 : List (List T80)) (a2 : T97), WT23 a0 → WL_L_T80 a1 → WT97 a2 → ∃ k, F12 k (a0, a1, a2, ()) = some true) (os : Os) (started : os.Started) (H : Type) (enc : TypeId × Value → H) :
    ReturnsInHanded {} Tryd.checked os 12 .any (fun w args => (Rows.scanBackSpec.pre enc Tryd.prog Tryd.f12 [] false w args ∧ laidMetH Tryd.prog [("errors.errorType", Rows.laid_errors_errorType)] w) ∧ sizedMet enc Tryd.prog Tryd.f12 (OpenSpec.ofChange Rows.scanBackSpec) false w args) (Rows.scanBackSpec.post enc Tryd.prog Tryd.f12 false true false false) := by
      refine returnsInHanded_of_change_and (C := Tryd.checked) (X := fun w _ => laidMetH Tryd.prog [("errors.errorType", Rows.laid_errors_errorType)] w) (fun _ _ _ hh h => h.of_heap hh) own started (by kernel_rfl) Tryd.func12
        (ChangeSpec.witness_at (enc := enc) (C := Tryd.checked) (os := os) (X := fun w _ => laidMetH Tryd.prog [("errors.errorType", Rows.laid_errors_errorType)] w) false (laidWorld os) #[.agg (Array.replicate 4 (.int .i64 0)), .slice none 0 0, .agg #[.int .i64 0, .int .i64 0, .slice none 0 0]] 8 rfl (by kernel_rfl) (by kernel_rfl) (by kernel_rfl) (by kernel_rfl) (by kernel_rfl) (laidWorld_met os _)) ?_
      intro W base args ds gs before hval0 hW _ _ hL _
      have hG : GlobOK tab W := fun p hp => by
        obtain rfl := List.mem_singleton.1 hp
        exact handle_of_laid hL
      have hval : ∀ (j : Nat) t v, Tryd.f12.params[j]? = some t → args[j]? = some v → Value.okWide Tryd.prog W .any base t v := hval0
      have hW' := hW
      obtain ⟨p, q, hA0, hV, hps, hfz, hnd⟩ := hW
      have hA : DataW.TrodAll enc Tryd.prog W 0 (fun _ => true) true Tryd.f12.params.toList args.toList ds p := hA0
      rw [Tryd.params12] at hA hval
      obtain ⟨v0, vs0, d0, ds0, p0, q0, hargs, rfl, rfl, h0, r0⟩ := trodAll_cons hA
      obtain ⟨v1, vs1, d1, ds1, p1, q1, rfl, rfl, rfl, h1, r1⟩ := trodAll_cons r0
      obtain ⟨v2, vs2, d2, ds2, p2, q2, rfl, rfl, rfl, h2, r2⟩ := trodAll_cons r1
      obtain ⟨rfl, rfl, rfl⟩ := trodAll_nil r2
      obtain rfl : args = #[v0, v1, v2] := by cases args; simp_all
      obtain ⟨a0, w0, t0⟩ := rd24.val tabOK rfl (fun _ => rfl) (hval 0 24 v0 rfl rfl) h0
      obtain ⟨a1, w1, t1⟩ := rd37.val tabOK rfl (fun _ => rfl) (hval 1 37 v1 rfl rfl) h1
      obtain ⟨a2, w2, t2⟩ := rd98.val tabOK rfl (fun _ => rfl) (hval 2 98 v2 rfl rfl) h2
      obtain ⟨k, hk⟩ := h a0 a1 a2 w0 w1 w2
      have hrun : sp12.runK k [tab.enc 24 a0, tab.enc 37 a1, tab.enc 98 a2] (AV Ty) some = some (.bool true) := by
        have e : sp12.runK k [tab.enc 24 a0, tab.enc 37 a1, tab.enc 98 a2] (AV Ty) some = (F12 k (a0, a1, a2, ())).bind fun y => some (rs12.enc y) := by kernel_rfl
        rw [e, hk]; rfl
      refine (ok12.1 k _ _ hrun W (Below0 W) [v0, v1, v2] hG (fun _ h => h) (.cons t0 (.cons t1 (.cons t2 .nil)))).mono fun e W' ⟨x, he, hr, hg⟩ => ?_
      obtain rfl := hr.bool_inv
      exact ⟨_, he, law_post (tb := 4) laidOut (by kernel_rfl) (by kernel_rfl) Tryd.underlying4 rfl rfl rfl rfl hW' hg⟩
/-- ScanBack, out of its plain law -/
theorem scanBack_row (h : ∀ (a0 : T23) (a1 : List (List T80)) (a2 : T97), WT23 a0 → WL_L_T80 a1 → WT97 a2 → ∃ k, F12 k (a0, a1, a2, ()) = some true) : Rows.ScanBackSaid :=
  OpenClaim.holds_of_wide 12 Tryd.f12 rfl rfl rfl rfl rfl rfl rfl ⟨rfl, rfl, rfl, rfl, rfl⟩ rfl rfl rfl rfl rfl (by kernel_rfl) Tryd.func12 (by kernel_rfl)
    (of_decide_eq_true (by kernel_rfl)) (by unfold Func.isWrapper; first | (rw [if_pos (by decide +kernel)]; kernel_rfl) | (rw [if_neg (by decide +kernel)]; exact ⟨rfl, rfl⟩))
    (fun os started H enc _ => scanBack_lifted h os started H enc)
/-- ScanBack: the card, out of its row -/
theorem scanBack_card (h : Rows.ScanBackSaid) : Rows.ScanBackCardSaid :=
  Claim7.holds_tied_plain_at .later [] [.handle] true (true, "298d87c01f07204a6d939bb18c76ca628943f5414468ab72eb889f6340469314") true h (fun _ h => by cases h) (by kernel_rfl) (fun _ h => by cases h) scanBack_row_tie rfl ⟨rfl, rfl⟩ (by kernel_rfl) rfl
    (fun f fn hf hfn => by
      obtain rfl : f = 12 := Option.some.inj ((show Tryd.prog.funcNamed "silt/siltlaw15.ScanBack" = some 12 by kernel_rfl).symm.trans hf) |>.symm
      obtain rfl : fn = Tryd.f12 := (Option.some.inj (Tryd.func12.symm.trans hfn)).symm
      exact ⟨by kernel_rfl, fun j t ht => by
        rw [Tryd.params12] at ht
        rcases j with _ | _ | _ | j
        · obtain rfl : 24 = t := by simpa using ht
          exact (show Tryd.prog.wantsStandIn 24 = false by kernel_rfl)
        · obtain rfl : 37 = t := by simpa using ht
          exact (show Tryd.prog.wantsStandIn 37 = false by kernel_rfl)
        · obtain rfl : 98 = t := by simpa using ht
          exact (show Tryd.prog.wantsStandIn 98 = false by kernel_rfl)
        · simp at ht⟩)
    (by kernel_rfl)
end Go.Proofs.YtbhnkjnjeifdhaaDoor.W
