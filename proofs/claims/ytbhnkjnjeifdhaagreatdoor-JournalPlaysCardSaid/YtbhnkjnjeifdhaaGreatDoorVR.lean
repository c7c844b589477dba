/-
  What the readings of the rows say, typed; and each row, out of the plain law. Laid by program (mktab.py).
-/
import Derived.Test.YtbhnkjnjeifdhaaGreatDoorVF
import Derived.Test.YtbhnkjnjeifdhaaGreatDoorRows
import Derived.ChangeSame
import Derived.ChangeVars
import Derived.JoinedOf
import Derived.RowKit
import Derived.RowKitTokens
import Derived.LaidLaws
import Derived.LaidHandle
import Derived.Stop.Joined
import Derived.Test.YtbhnkjnjeifdhaaGreatDoorCards
import Derived.Test.YtbhnkjnjeifdhaaGreatDoorTie
import Derived.SevenTiedAt
namespace Go.Proofs.YtbhnkjnjeifdhaaGreatDoor.W
open Go Go.Proofs V Go.ChangeShapes Go.WideShapes Go.ChangeAt Go.RowKit
def WI_i64 (x : Int) : Prop := -9223372036854775808 ≤ x ∧ x ≤ 9223372036854775807
def WB (_ : Bool) : Prop := True
def WI_u8 (x : Int) : Prop := 0 ≤ x ∧ x ≤ 255
def WS (x : ByteArray) : Prop := x.size ≤ maxLen
def WT22 (x : T22) : Prop := WI_i64 x.Pages ∧ WI_i64 x.Segs ∧ WI_i64 x.SegLen ∧ WI_i64 x.Frames ∧ True
def WI_u32 (x : Int) : Prop := 0 ≤ x ∧ x ≤ 4294967295
def WL_I_i64 (x : List Int) : Prop := x.length ≤ maxLen ∧ ∀ y ∈ x, WI_i64 y
def WT26 (x : T26) : Prop := WI_i64 x.Seg ∧ WI_i64 x.Off ∧ WI_u32 x.Seq ∧ WL_I_i64 x.Free ∧ True
def WT80 (x : T80) : Prop := WI_i64 x.Kind ∧ WI_i64 x.Id ∧ True
def WA32_I_u8 (x : List Int) : Prop := x.length = 32 ∧ ∀ y ∈ x, WI_u8 y
def WL_I_u8 (x : List Int) : Prop := x.length ≤ maxLen ∧ ∀ y ∈ x, WI_u8 y
def WA8_I_i64 (x : List Int) : Prop := x.length = 8 ∧ ∀ y ∈ x, WI_i64 y
def WT86 (x : T86) : Prop := WI_i64 x.Kind ∧ WI_i64 x.Id ∧ WA32_I_u8 x.Page ∧ WI_i64 x.Off ∧ WL_I_u8 x.Bytes ∧ WI_i64 x.Prev ∧ WA8_I_i64 x.Heads ∧ True
def WT88 (x : T88) : Prop := WT80 x.Mark ∧ WT86 x.Block ∧ True
def WL_T88 (x : List T88) : Prop := x.length ≤ maxLen ∧ ∀ y ∈ x, WT88 y
def WT52 (x : T52) : Prop := WI_i64 x.Kind ∧ WI_i64 x.N ∧ WL_T88 x.L ∧ WL_I_i64 x.Free ∧ True
def WL_T52 (x : List T52) : Prop := x.length ≤ maxLen ∧ ∀ y ∈ x, WT52 y
def WT31 (x : T31) : Prop := WI_i64 x.Maps ∧ WI_i64 x.Total ∧ WI_i64 x.Cap ∧ True
def WA64_I_u8 (x : List Int) : Prop := x.length = 64 ∧ ∀ y ∈ x, WI_u8 y
def WL_A64_I_u8 (x : List (List Int)) : Prop := x.length ≤ maxLen ∧ ∀ y ∈ x, WA64_I_u8 y
def WT119 (x : T119) : Prop := WI_i64 x.I ∧ WA64_I_u8 x.S ∧ True
def WL_T119 (x : List T119) : Prop := x.length ≤ maxLen ∧ ∀ y ∈ x, WT119 y
def WT67 (x : T67) : Prop := WL_A64_I_u8 x.S ∧ WL_T119 x.L ∧ WI_i64 x.F ∧ WI_i64 x.Done ∧ True
def WT117 (x : T117) : Prop := WI_i64 x.at_ ∧ WA64_I_u8 x.s ∧ True
def WL_T117 (x : List T117) : Prop := x.length ≤ maxLen ∧ ∀ y ∈ x, WT117 y
def WT94 (x : T94) : Prop := WL_A64_I_u8 x.sectors ∧ WL_T117 x.loose ∧ WI_i64 x.fail ∧ WI_i64 x.done ∧ True
def WT107 (x : T107) : Prop := WL_A64_I_u8 x.S ∧ WL_I_i64 x.At ∧ WB x.OK ∧ True
def WL_T80 (x : List T80) : Prop := x.length ≤ maxLen ∧ ∀ y ∈ x, WT80 y
def WT142 (x : T142) : Prop := WI_u32 x.Seq ∧ WB x.More ∧ WL_T80 x.Marks ∧ WI_i64 x.E ∧ True
def WT176 (x : T176) : Prop := WI_u32 x.Seq ∧ WB x.More ∧ WL_T80 x.Marks ∧ True
def WI_u64 (x : Int) : Prop := 0 ≤ x ∧ x ≤ 18446744073709551615
theorem own : ownKnob Tryz.prog.godebug = none := by kernel_rfl
theorem laidOut : laidOutB Tryz.prog = true := by kernel_rfl
theorem et : Tryz.prog.globalNamed "errors.errorType" = some 0 := by kernel_rfl
theorem rt : (Tryz.prog.cutTypes.find? (·.1 == "internal/reflectlite.rtype")).map (·.2) = some 154 := by kernel_rfl
theorem oneRow : ((List.range 211).filter fun t => Tryz.prog.rowNamed t [101, 114, 114, 111, 114]) = [101] := by kernel_rfl
theorem nTypes : Tryz.prog.types.size = 211 := by kernel_rfl
theorem handle_of_laid {W : World} (h : laidMetH Tryz.prog [("errors.errorType", Rows.laid_errors_errorType)] W) : W.cell? ⟨0, 0, none⟩ = some (.iface 154 (.agg #[.pointer (some ⟨1, 101, none⟩)])) := by
  have h' : laidMet Tryz.prog [] W ∧ handlesMet Tryz.prog [("errors.errorType", Rows.laid_errors_errorType)] W := h
  obtain ⟨name, u, ty, e1, e2, e3, e4, e5⟩ := h'.2 _ (List.mem_singleton.2 rfl)
  have en : name = [101, 114, 114, 111, 114] := (Option.some.inj e1).symm
  subst en
  obtain rfl := Option.some.inj (rt.symm.trans e2)
  have hm : ty ∈ (List.range 211).filter fun t => Tryz.prog.rowNamed t [101, 114, 114, 111, 114] := List.mem_filter.2 ⟨List.mem_range.2 (by rw [← nTypes]; exact e3), e4⟩
  rw [oneRow] at hm
  obtain rfl := List.mem_singleton.1 hm
  have hh : typeHandle Tryz.prog 101 = .pointer (some ⟨1, 101, none⟩) := by kernel_rfl
  rw [hh] at e5
  simpa using World.var?_cell et e5 0
noncomputable def laidWorld (os : Os) : World :=
  let w0 := World.holding Tryz.prog os ⟨#[], #[], []⟩
  { w0 with heap := w0.heap.modify 0 fun
      | .cells _ t frozen => .cells #[.iface 154 (.agg #[.pointer (some ⟨1, 101, none⟩)])] t frozen
      | o => o }
theorem laidWorld_met (os : Os) (args : Array Value) : laidMetH Tryz.prog [("errors.errorType", Rows.laid_errors_errorType)] ((laidWorld os).forCall (fun _ _ => 0) ⟨#[], args, []⟩).memory :=
  laidMetH_of_parts (laidMet_nil _ _) (by kernel_rfl)
theorem rd3 : Rd Tryz.prog tab 3 (α := Int) (tab.enc 3) WI_i64 := (Rd.int (t := 3) (k := .i64) rfl tabOK).imp (fun x => x) (fun _ => rfl) fun _ h => bounds_i64 h
theorem rd23 : Rd Tryz.prog tab 23 (α := T22) (tab.enc 23) WT22 := (Rd.struct (t := 23) tabOK rfl (.cons (p := (3, 0)) rd3 rfl (.cons (p := (3, 1)) rd3 rfl (.cons (p := (3, 2)) rd3 rfl (.cons (p := (3, 3)) rd3 rfl RdF.nil))) : RdF Tryz.prog tab 0 _ _ _) rfl).imp (fun z => T22.mk z.1 z.2.1 z.2.2.1 z.2.2.2.1) (fun _ => rfl) fun _ h => h
theorem rd24 : Rd Tryz.prog tab 24 (α := Int) (tab.enc 24) WI_u32 := (Rd.int (t := 24) (k := .u32) rfl tabOK).imp (fun x => x) (fun _ => rfl) fun _ h => bounds_u32 h
theorem rd25 : Rd Tryz.prog tab 25 (α := List Int) (tab.enc 25) WL_I_i64 := (Rd.slice (t := 25) (e := 3) tabOK rfl rd3).imp (fun x => x) (fun _ => rfl) fun _ h => h
theorem rd27 : Rd Tryz.prog tab 27 (α := T26) (tab.enc 27) WT26 := (Rd.struct (t := 27) tabOK rfl (.cons (p := (3, 0)) rd3 rfl (.cons (p := (3, 1)) rd3 rfl (.cons (p := (24, 2)) rd24 rfl (.cons (p := (25, 3)) rd25 rfl RdF.nil))) : RdF Tryz.prog tab 0 _ _ _) rfl).imp (fun z => T26.mk z.1 z.2.1 z.2.2.1 z.2.2.2.1) (fun _ => rfl) fun _ h => h
theorem rd81 : Rd Tryz.prog tab 81 (α := T80) (tab.enc 81) WT80 := (Rd.struct (t := 81) tabOK rfl (.cons (p := (3, 0)) rd3 rfl (.cons (p := (3, 1)) rd3 rfl RdF.nil) : RdF Tryz.prog tab 0 _ _ _) rfl).imp (fun z => T80.mk z.1 z.2.1) (fun _ => rfl) fun _ h => h
theorem rd5 : Rd Tryz.prog tab 5 (α := Int) (tab.enc 5) WI_u8 := (Rd.int (t := 5) (k := .u8) rfl tabOK).imp (fun x => x) (fun _ => rfl) fun _ h => bounds_u8 h
theorem rd83 : Rd Tryz.prog tab 83 (α := List Int) (tab.enc 83) WA32_I_u8 := (Rd.arr (t := 83) (e := 5) (n := 32) tabOK rfl rd5 rfl).imp (fun x => x) (fun _ => rfl) fun _ h => h
theorem rd84 : Rd Tryz.prog tab 84 (α := List Int) (tab.enc 84) WL_I_u8 := (Rd.slice (t := 84) (e := 5) tabOK rfl rd5).imp (fun x => x) (fun _ => rfl) fun _ h => h
theorem rd85 : Rd Tryz.prog tab 85 (α := List Int) (tab.enc 85) WA8_I_i64 := (Rd.arr (t := 85) (e := 3) (n := 8) tabOK rfl rd3 rfl).imp (fun x => x) (fun _ => rfl) fun _ h => h
theorem rd87 : Rd Tryz.prog tab 87 (α := T86) (tab.enc 87) WT86 := (Rd.struct (t := 87) tabOK rfl (.cons (p := (3, 0)) rd3 rfl (.cons (p := (3, 1)) rd3 rfl (.cons (p := (83, 2)) rd83 rfl (.cons (p := (3, 34)) rd3 rfl (.cons (p := (84, 35)) rd84 rfl (.cons (p := (3, 36)) rd3 rfl (.cons (p := (85, 37)) rd85 rfl RdF.nil)))))) : RdF Tryz.prog tab 0 _ _ _) rfl).imp (fun z => T86.mk z.1 z.2.1 z.2.2.1 z.2.2.2.1 z.2.2.2.2.1 z.2.2.2.2.2.1 z.2.2.2.2.2.2.1) (fun _ => rfl) fun _ h => h
theorem rd89 : Rd Tryz.prog tab 89 (α := T88) (tab.enc 89) WT88 := (Rd.struct (t := 89) tabOK rfl (.cons (p := (81, 0)) rd81 rfl (.cons (p := (87, 2)) rd87 rfl RdF.nil) : RdF Tryz.prog tab 0 _ _ _) rfl).imp (fun z => T88.mk z.1 z.2.1) (fun _ => rfl) fun _ h => h
theorem rd51 : Rd Tryz.prog tab 51 (α := List T88) (tab.enc 51) WL_T88 := (Rd.slice (t := 51) (e := 89) tabOK rfl rd89).imp (fun x => x) (fun _ => rfl) fun _ h => h
theorem rd53 : Rd Tryz.prog tab 53 (α := T52) (tab.enc 53) WT52 := (Rd.struct (t := 53) tabOK rfl (.cons (p := (3, 0)) rd3 rfl (.cons (p := (3, 1)) rd3 rfl (.cons (p := (51, 2)) rd51 rfl (.cons (p := (25, 3)) rd25 rfl RdF.nil))) : RdF Tryz.prog tab 0 _ _ _) rfl).imp (fun z => T52.mk z.1 z.2.1 z.2.2.1 z.2.2.2.1) (fun _ => rfl) fun _ h => h
theorem rd28 : Rd Tryz.prog tab 28 (α := List T52) (tab.enc 28) WL_T52 := (Rd.slice (t := 28) (e := 53) tabOK rfl rd53).imp (fun x => x) (fun _ => rfl) fun _ h => h
set_option maxRecDepth 100000 in
theorem journalPlays_lifted (h : ∀ (a0 : T22) (a1 : T26) (a2 : List T52), WT22 a0 → WT26 a1 → WL_T52 a2 → ∃ k, F3 k (a0, a1, a2, ()) = some true) (os : Os) (started : os.Started) (H : Type) (enc : TypeId × Value → H) :
    ReturnsInHanded {} Tryz.checked os 3 .any (fun w args => (Rows.journalPlaysSpec.pre enc Tryz.prog Tryz.f3 [] false w args ∧ laidMetH Tryz.prog [("errors.errorType", Rows.laid_errors_errorType)] w) ∧ sizedMet enc Tryz.prog Tryz.f3 (OpenSpec.ofChange Rows.journalPlaysSpec) false w args) (Rows.journalPlaysSpec.post enc Tryz.prog Tryz.f3 false true false false) := by
      refine returnsInHanded_of_change_and (C := Tryz.checked) (X := fun w _ => laidMetH Tryz.prog [("errors.errorType", Rows.laid_errors_errorType)] w) (fun _ _ _ hh h => h.of_heap hh) own started (by kernel_rfl) Tryz.func3
        (ChangeSpec.witness_at (enc := enc) (C := Tryz.checked) (os := os) (X := fun w _ => laidMetH Tryz.prog [("errors.errorType", Rows.laid_errors_errorType)] w) false (laidWorld os) #[.agg (Array.replicate 4 (.int .i64 0)), .agg #[.int .i64 0, .int .i64 0, .int .u32 0, .slice none 0 0], .slice none 0 0] 8 rfl (by kernel_rfl) (by kernel_rfl) (by kernel_rfl) (by kernel_rfl) (by kernel_rfl) (laidWorld_met os _)) ?_
      intro W base args ds gs before hval0 hW _ _ hL _
      have hG : GlobOK tab W := fun p hp => by
        obtain rfl := List.mem_singleton.1 hp
        exact handle_of_laid hL
      have hval : ∀ (j : Nat) t v, Tryz.f3.params[j]? = some t → args[j]? = some v → Value.okWide Tryz.prog W .any base t v := hval0
      have hW' := hW
      obtain ⟨p, q, hA0, hV, hps, hfz, hnd⟩ := hW
      have hA : DataW.TrodAll enc Tryz.prog W 0 (fun _ => true) true Tryz.f3.params.toList args.toList ds p := hA0
      rw [Tryz.params3] at hA hval
      obtain ⟨v0, vs0, d0, ds0, p0, q0, hargs, rfl, rfl, h0, r0⟩ := trodAll_cons hA
      obtain ⟨v1, vs1, d1, ds1, p1, q1, rfl, rfl, rfl, h1, r1⟩ := trodAll_cons r0
      obtain ⟨v2, vs2, d2, ds2, p2, q2, rfl, rfl, rfl, h2, r2⟩ := trodAll_cons r1
      obtain ⟨rfl, rfl, rfl⟩ := trodAll_nil r2
      obtain rfl : args = #[v0, v1, v2] := by cases args; simp_all
      obtain ⟨a0, w0, t0⟩ := rd23.val tabOK rfl (fun _ => rfl) (hval 0 23 v0 rfl rfl) h0
      obtain ⟨a1, w1, t1⟩ := rd27.val tabOK rfl (fun _ => rfl) (hval 1 27 v1 rfl rfl) h1
      obtain ⟨a2, w2, t2⟩ := rd28.val tabOK rfl (fun _ => rfl) (hval 2 28 v2 rfl rfl) h2
      obtain ⟨k, hk⟩ := h a0 a1 a2 w0 w1 w2
      have hrun : sp3.runK k [tab.enc 23 a0, tab.enc 27 a1, tab.enc 28 a2] (AV Ty) some = some (.bool true) := by
        have e : sp3.runK k [tab.enc 23 a0, tab.enc 27 a1, tab.enc 28 a2] (AV Ty) some = (F3 k (a0, a1, a2, ())).bind fun y => some (rs3.enc y) := by kernel_rfl
        rw [e, hk]; rfl
      refine (ok3.1 k _ _ hrun W (Below0 W) [v0, v1, v2] hG (fun _ h => h) (.cons t0 (.cons t1 (.cons t2 .nil)))).mono fun e W' ⟨x, he, hr, hg⟩ => ?_
      obtain rfl := hr.bool_inv
      exact ⟨_, he, law_post (tb := 4) laidOut (by kernel_rfl) (by kernel_rfl) Tryz.underlying4 rfl rfl rfl rfl hW' hg⟩
/-- JournalPlays, out of its plain law -/
theorem journalPlays_row (h : ∀ (a0 : T22) (a1 : T26) (a2 : List T52), WT22 a0 → WT26 a1 → WL_T52 a2 → ∃ k, F3 k (a0, a1, a2, ()) = some true) : Rows.JournalPlaysSaid :=
  OpenClaim.holds_of_wide 3 Tryz.f3 rfl rfl rfl rfl rfl rfl rfl ⟨rfl, rfl, rfl, rfl, rfl⟩ rfl rfl rfl rfl rfl (by kernel_rfl) Tryz.func3 (by kernel_rfl)
    (of_decide_eq_true (by kernel_rfl)) (by unfold Func.isWrapper; first | (rw [if_pos (by decide +kernel)]; kernel_rfl) | (rw [if_neg (by decide +kernel)]; exact ⟨rfl, rfl⟩))
    (fun os started H enc _ => journalPlays_lifted h os started H enc)
/-- JournalPlays: the card, out of its row -/
theorem journalPlays_card (h : Rows.JournalPlaysSaid) : Rows.JournalPlaysCardSaid :=
  Claim7.holds_tied_plain_at .later [] [.handle] true (true, "f80edb7fdc731143a2abb660511e48e3021a1c12f201c5ffd1e24c5bbb546ed8") true h (fun _ h => by cases h) (by kernel_rfl) (fun _ h => by cases h) journalPlays_row_tie rfl ⟨rfl, rfl⟩ (by kernel_rfl) rfl
    (fun f fn hf hfn => by
      obtain rfl : f = 3 := Option.some.inj ((show Tryz.prog.funcNamed "silt/siltlaw14.JournalPlays" = some 3 by kernel_rfl).symm.trans hf) |>.symm
      obtain rfl : fn = Tryz.f3 := (Option.some.inj (Tryz.func3.symm.trans hfn)).symm
      exact ⟨by kernel_rfl, fun j t ht => by
        rw [Tryz.params3] at ht
        rcases j with _ | _ | _ | j
        · obtain rfl : 23 = t := by simpa using ht
          exact (show Tryz.prog.wantsStandIn 23 = false by kernel_rfl)
        · obtain rfl : 27 = t := by simpa using ht
          exact (show Tryz.prog.wantsStandIn 27 = false by kernel_rfl)
        · obtain rfl : 28 = t := by simpa using ht
          exact (show Tryz.prog.wantsStandIn 28 = false by kernel_rfl)
        · simp at ht⟩)
    (by kernel_rfl)
end Go.Proofs.YtbhnkjnjeifdhaaGreatDoor.W
