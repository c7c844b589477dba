/-
  fold.Page: its contract. No conditions.
-/
import Derived.Test.YtpnnmpdjgnbkhaaDoorVH
set_option linter.unusedVariables false
namespace Go.Proofs.YtpnnmpdjgnbkhaaDoor.W.Pg
open Go Go.Proofs V
/-! ### one round, the end: as abstract runs -/
noncomputable def sB2 (x : T89) (z : List Int) (n : Int) (p : List Int) : NSt Ty := ⟨[.ptr cbase [], .ptr (cbase + 1) [], .ptr (cbase + 2) [], .ptr (cbase + 3) []], [.var (.arr 5 32 z), .var (.int .i64 n), .var (.arr 5 32 p), .var (tab.enc 90 x)]⟩
theorem body2_eq (k : Nat) (x : T89) (z : List Int) (n : Int) (p : List Int) : bodyF k x z n p = X fs36 kp57 noL tab k pBd ((sB2 x z n p).toSt [2, 3, 4, 6]) _ KB := by kernel_rfl
noncomputable def sE (z : List Int) (n : Int) (p : List Int) : NSt Ty := ⟨[.ptr cbase [], .ptr (cbase + 1) [], .ptr (cbase + 2) []], [.var (.arr 5 32 z), .var (.int .i64 n), .var (.arr 5 32 p)]⟩
noncomputable def KE (e : Ex) (s : St Ty) : Option (List Int × Int × List Int) :=
  match e, s.env 2, s.env 3, s.env 4, s.obj 100000, s.obj 100001, s.obj 100002 with
  | .ret, .ptr 100000 [], .ptr 100001 [], .ptr 100002 [], .var (.arr 5 32 z), .var (.int .i64 n), .var (.arr 5 32 p) => some (z, n, p)
  | _, _, _, _, _, _, _ => none
theorem end_eq (k : Nat) (z : List Int) (n : Int) (p : List Int) : some (p, 0, p) = X fs36 kp57 noL tab k pE ((sE z n p).toSt [2, 3, 4]) _ KE := by kernel_rfl
noncomputable def sR (z : List Int) (n : Int) : NSt Ty := ⟨[.ptr cbase [], .ptr (cbase + 1) []], [.var (.arr 5 32 z), .var (.int .i64 n)]⟩
theorem fin_eq (z : List Int) (n : Int) : finish tab Tryd.f57 ((sR z n).toSt [2, 3]) = some (rs25.enc (z, n, ())) := by kernel_rfl
/-! ### what delta.Apply comes to -/
theorem f25_some (k : Nat) (p : List Int) (o : Int) (b : List Int) : ∃ r, F25 k (p, o, b, ()) = some r := by
  have h30 : ∀ s, F30 k (1, s, ()) = some (.flt s (.num 1) false) := fun s => rfl
  have h34 : ∀ s t, F34 k (.flt s (.num 1) false, t, ()) = some (.flt t (.flt s (.num 1) false) true) := fun s t => rfl
  have h60 : (∃ s t, F60 k (o, b, ()) = some (.flt t (.flt s (.num 1) false) true)) ∨ (F60 k (o, b, ()) = some .nil ∧ 0 ≤ o ∧ o ≤ 32) := by
    unfold F60
    simp only [h30, h34, Option.bind_some]
    by_cases h1 : o < 0
    · rw [decide_eq_true h1, cond_true]; exact .inl ⟨_, _, rfl⟩
    · rw [decide_eq_false h1, cond_false]
      by_cases h2 : (b.length : Int) < 1
      · rw [decide_eq_true h2, cond_true]; exact .inl ⟨_, _, rfl⟩
      · rw [decide_eq_false h2, cond_false]
        by_cases h3 : (b.length : Int) > 32
        · rw [decide_eq_true h3, cond_true]; exact .inl ⟨_, _, rfl⟩
        · rw [decide_eq_false h3, cond_false, wI_in (by omega)]
          by_cases h4 : o > 32 - (b.length : Int)
          · rw [decide_eq_true h4, cond_true]; exact .inl ⟨_, _, rfl⟩
          · rw [decide_eq_false h4, cond_false]
            exact .inr ⟨rfl, by omega, by omega⟩
  unfold F25
  simp only
  rcases h60 with ⟨s, t, h⟩ | ⟨h, h1, h2⟩
  · rw [h]; exact ⟨_, rfl⟩
  · rw [h, Option.bind_some]
    refine ⟨(splice p b o.toNat (min b.length (32 - o).toNat), 0, ()), ?_⟩
    have e1 : decide (0 ≤ o) = true := decide_eq_true h1
    have e2 : decide (o ≤ ((32 : Nat) : Int)) = true := decide_eq_true h2
    rw [e1, e2]
    rfl
theorem body_some (k : Nat) (x : T89) (z : List Int) (n : Int) (p : List Int) : ∃ r, bodyF k x z n p = some r := by
  unfold bodyF
  cases hc : (x.1 == (1 : Int)) with
  | true => exact ⟨_, rfl⟩
  | false =>
    rw [cond_false]
    obtain ⟨r, hr⟩ := f25_some k p x.4 x.5
    rw [hr, Option.bind_some]
    cases hd : (r.2.1 != (0 : Int)) <;> exact ⟨_, rfl⟩
/-- the rounds that go on -/
def runB (k : Nat) : List T89 → List Int × Int × List Int → Option (List Int × Int × List Int)
  | [], s => some s
  | x :: r, s => match bodyF k x s.1 s.2.1 s.2.2 with
    | some (true, s') => runB k r s'
    | _ => none
/-- all rounds -/
def loopF (k : Nat) : List T89 → List Int × Int × List Int → Option (List Int × Int × Unit)
  | [], s => some (s.2.2, 0, ())
  | x :: r, s => match bodyF k x s.1 s.2.1 s.2.2 with
    | some (true, s') => loopF k r s'
    | some (false, s') => some (s'.1, s'.2.1, ())
    | none => none
theorem runB_snoc (k : Nat) (x : T89) : ∀ (l : List T89) (s s1 s2 : List Int × Int × List Int), runB k l s = some s1 → bodyF k x s1.1 s1.2.1 s1.2.2 = some (true, s2) → runB k (l ++ [x]) s = some s2
  | [], s, s1, s2, h, hb => by
    cases h
    show (match bodyF k x s.1 s.2.1 s.2.2 with | some (true, s') => runB k [] s' | _ => none) = _
    rw [hb]
    rfl
  | y :: r, s, s1, s2, h, hb => by
    unfold runB at h
    show (match bodyF k y s.1 s.2.1 s.2.2 with | some (true, s') => runB k (r ++ [x]) s' | _ => none) = _
    split at h
    · exact runB_snoc k x r _ s1 s2 h hb
    · cases h
theorem loopF_app (k : Nat) (post : List T89) : ∀ (l : List T89) (s s1 : List Int × Int × List Int), runB k l s = some s1 → loopF k (l ++ post) s = loopF k post s1
  | [], s, s1, h => by cases h; rfl
  | y :: r, s, s1, h => by
    unfold runB at h
    show (match bodyF k y s.1 s.2.1 s.2.2 with | some (true, s') => loopF k (r ++ post) s' | some (false, s') => some (s'.1, s'.2.1, ()) | none => none) = _
    split at h
    · rename_i s' e
      rw [e]
      exact loopF_app k post r s' s1 h
    · cases h
/-- fold.Page -/
def pageF (k : Nat) (x : (List T89) × Unit) : Option (List Int × Int × Unit) :=
  match x with
  | (bs, ()) => (preF k bs).bind fun r => match r with
    | .inl y => some y
    | .inr (bs', z, n, p) => loopF k bs'.reverse (z, n, p)
end Go.Proofs.YtpnnmpdjgnbkhaaDoor.W.Pg
namespace Go.Proofs.YtpnnmpdjgnbkhaaDoor.W.Pg
open Go Go.Proofs V Go.RowKit
/-- what holds a value without a pointer -/
def Holds (W : World) (b : Nat) (v : AV Ty) : Prop := ∃ cs e, W.heap[b]? = some (.cells cs e (0, 0)) ∧ ∀ (W' : World) (D : Nat → Prop) (gv : Nat → Option GObj), RepC tab W' D gv v cs.toList
theorem holds_of {W : World} {b : Nat} {v : AV Ty} {cs : Array Value} {e : TypeId} {W' : World} {D : Nat → Prop} {gv : Nat → Option GObj} (h : W.heap[b]? = some (.cells cs e (0, 0))) (hr : RepC tab W' D gv v cs.toList) (hf : v.flat tab = true) : Holds W b v :=
  ⟨cs, e, h, fun W2 D2 gv2 => ((hr.flat tabOK (D' := fun _ => False) (gv' := fun _ => none) hf).mono (D' := D2) (gv' := gv2) (w' := W2) (fun _ h => h.elim) (fun _ h => h.elim) (fun _ _ h => by cases h))⟩
theorem Holds.same {W W' : World} {b : Nat} {v : AV Ty} (h : Holds W b v) (e : W'.heap[b]? = W.heap[b]?) : Holds W' b v := by
  obtain ⟨cs, t, h1, h2⟩ := h
  exact ⟨cs, t, e.trans h1, h2⟩
theorem flatA (z : List Int) : (AV.arr 5 32 z : AV Ty).flat tab = true := by kernel_rfl
theorem flatI (n : Int) : (AV.int .i64 n : AV Ty).flat tab = true := by kernel_rfl
structure C3 (b2 b3 b4 : Nat) (W : World) (s : List Int × Int × List Int) : Prop where
  c2 : Holds W b2 (.arr 5 32 s.1)
  c3 : Holds W b3 (.int .i64 s.2.1)
  c4 : Holds W b4 (.arr 5 32 s.2.2)
/-- between two rounds: all below B is as it was, but for three blocks -/
structure Kp (B b2 b3 b4 : Nat) (W W' : World) : Prop where
  os : W'.os = W.os
  tape : W'.tape = W.tape
  output : W'.output = W.output
  size : W.heap.size ≤ W'.heap.size
  block : ∀ k, k < B → k ≠ b2 → k ≠ b3 → k ≠ b4 → W'.heap[k]? = W.heap[k]?
theorem Kp.refl (B b2 b3 b4 : Nat) (W : World) : Kp B b2 b3 b4 W W := ⟨rfl, rfl, rfl, Nat.le_refl _, fun _ _ _ _ _ => rfl⟩
theorem Kp.trans {B b2 b3 b4 : Nat} {X Y Z : World} (h : Kp B b2 b3 b4 X Y) (k : Kp B b2 b3 b4 Y Z) : Kp B b2 b3 b4 X Z :=
  ⟨k.os.trans h.os, k.tape.trans h.tape, k.output.trans h.output, Nat.le_trans h.size k.size, fun i a b c d => (k.block i a b c d).trans (h.block i a b c d)⟩
theorem Kp.grown {B b2 b3 b4 : Nat} {W W' : World} {row : Option Nat} (hg : W.grownBy W' row) (hr : ∀ r, row = some r → B ≤ r) (hB : B ≤ W.heap.size) : Kp B b2 b3 b4 W W' :=
  ⟨hg.os, hg.tape, hg.output, hg.size, fun k hk _ _ _ => hg.block k (Nat.lt_of_lt_of_le hk hB) (fun e => by have := hr k e.symm; omega)⟩
/-- an element: its number, its cells, what they say -/
def El (w1 : World) (D1 : Nat → Prop) : Type := { q : Int × List Value × T89 // RepC tab w1 D1 (fun _ => none) (tab.enc 90 q.2.2) q.2.1 }
theorem fp_size : tab.size 90 = 45 := by kernel_rfl
theorem known90 : (tab.td 90).known = true := by kernel_rfl
/-- the loop variable's box -/
theorem assign_in {F : Fence} {n : Nat} {Q : Exit → Act → World → Prop} (hF : ∀ f, F.fn f) {a : Act} {W W1 : World} {D1 : Nat → Prop} {x : T89} {cs : List Value} (hcs : RepC tab W1 D1 (fun _ => none) (tab.enc 90 x) cs) (h16 : a.eval (.tmp 16) = .agg cs.toArray) (h6 : 16 < a.tmps.size)
    (hQ : ∀ W' : World, W.grownBy W' none → W'.heap[W.heap.size]? = some (.cells cs.toArray 90 (0, 0)) → W'.heap.size = W.heap.size + 1 → Q .normal (a.put (some 6) (.pointer (some ⟨W.heap.size, 0, none⟩))) W') : pAs.wpIn F n Tryd.prog Q a W := by
  have hq : pAs = .region 5 #[{ dst := some 6, op := .alloc 90, type := 0, pos := "fold.go:46", after := #[], guard := none }, { dst := none, op := .store 90 (.tmp 6) (.tmp 16), type := 0, pos := "fold.go:46", after := #[{ on := 0, ground := .data }, { on := 0, ground := .phase }], guard := none }] false := by kernel_rfl
  rw [hq]
  obtain ⟨i, z, hi, _, _, _, _, hz, hrep, _, hzc⟩ := tabOK.info 90 known90
  have hzl : z.cells.toList.length = 45 := by rw [(hzc W D1 (fun _ => none)).len tabOK, tabOK.encSize, fp_size]
  refine wpIn_region_list ?_
  unfold wpListIn
  rw [if_pos (by simp [Region.wanted])]
  refine ⟨fun f _ => hF f, ?_⟩
  rw [Oper.semAt_eq _ _ _ (fun c e => by cases e)]
  have r1 : (execOp a.eval { dst := some 6, op := .alloc 90, type := 0, pos := "fold.go:46", after := #[], guard := none }).run Tryd.prog W = .ok (.value (.pointer (some ⟨W.heap.size, 0, none⟩))) (W.alloc (.cells z.cells 90)) := by
    simp [execOp, Instr.alloc, zeroValue, typeInfo, hi, hz, newVar, newRow]
  rw [r1]
  show wpListIn F n Tryd.prog _ Q _ (a.put (some 6) (.pointer (some ⟨W.heap.size, 0, none⟩))) (W.alloc (.cells z.cells 90))
  unfold wpListIn
  rw [if_pos (by simp [Region.wanted])]
  refine ⟨fun f _ => hF f, ?_⟩
  rw [Oper.semAt_eq _ _ _ (fun c e => by cases e)]
  have e6 : (a.put (some 6) (.pointer (some ⟨W.heap.size, 0, none⟩))).eval (.tmp 6) = .pointer (some ⟨W.heap.size, 0, none⟩) := by
    show (a.put (some 6) _).tmps.getD 6 Go.undef = _
    rw [getD_put _ _ _ _ (Nat.lt_trans (by decide) h6), if_pos rfl]
  have e16 : (a.put (some 6) (.pointer (some ⟨W.heap.size, 0, none⟩))).eval (.tmp 16) = .agg cs.toArray := by
    show (a.put (some 6) _).tmps.getD 16 Go.undef = _
    rw [getD_put _ _ _ _ (Nat.lt_trans (by decide) h6), if_neg (by decide)]
    exact h16
  have hlen : cs.length = 45 := (hcs.len tabOK).trans ((tabOK.encSize 90 x).trans fp_size)
  have hst := store_run (P := Tryd.prog) (w := W.alloc (.cells z.cells 90)) tabOK known90 (b := W.heap.size) (cur := z.cells) (e := 90) (by exact World.alloc_heap_new W _) (x := .agg cs.toArray) (sub' := cs) (pre := []) (sub := z.cells.toList) (post := []) rfl (by rw [hlen, fp_size]) (by simp) (by rw [hzl, hlen]) hcs.one
  have r2 : (execOp (a.put (some 6) (.pointer (some ⟨W.heap.size, 0, none⟩))).eval { dst := none, op := .store 90 (.tmp 6) (.tmp 16), type := 0, pos := "fold.go:46", after := #[{ on := 0, ground := .data }, { on := 0, ground := .phase }], guard := none }).run Tryd.prog (W.alloc (.cells z.cells 90)) = .ok .skip ((W.alloc (.cells z.cells 90)).setRow W.heap.size ([] ++ cs ++ []).toArray) := by
    have hst' : (storeVar 90 ⟨W.heap.size, 0, none⟩ (.agg cs.toArray)).run Tryd.prog (W.alloc (.cells z.cells 90)) = .ok () ((W.alloc (.cells z.cells 90)).setRow W.heap.size ([] ++ cs ++ []).toArray) := hst
    simp only [List.nil_append, List.append_nil] at hst' ⊢
    simp [execOp, e6, e16, Instr.storeAt, Instr.sureAddr, hst']
  rw [r2]
  show Q .normal (a.put (some 6) _) _
  simp only [List.nil_append, List.append_nil]
  refine hQ _ ⟨rfl, rfl, rfl, by simp, fun k hk _ => ?_⟩ ?_ (by simp)
  · rw [setRow_other _ _ _ _ (by omega)]
    exact (World.grownBy_alloc W (.cells z.cells 90) none).block k hk (by simp)
  · exact setRow_heap _ _ _ _ _ _ (World.alloc_heap_new W _)
end Go.Proofs.YtpnnmpdjgnbkhaaDoor.W.Pg
namespace Go.Proofs.YtpnnmpdjgnbkhaaDoor.W.Pg
open Go Go.Proofs V Go.RowKit
structure Ctx (w1 w2 : World) (D1 : Nat → Prop) (b2 b3 b4 : Nat) : Prop where
  dlt : ∀ b, D1 b → b < w1.heap.size
  glob : GlobOK tab w1
  globb : ∀ p ∈ tab.globs, p.1 ≠ b2 ∧ p.1 ≠ b3 ∧ p.1 ≠ b4
  size : w1.heap.size ≤ w2.heap.size
  lt2 : b2 < w1.heap.size
  lt3 : b3 < w1.heap.size
  lt4 : b4 < w1.heap.size
  d2 : ¬ D1 b2
  d3 : ¬ D1 b3
  d4 : ¬ D1 b4
  n23 : b2 ≠ b3
  n24 : b2 ≠ b4
  n34 : b3 ≠ b4
  old : ∀ k, k < w1.heap.size → w2.heap[k]? = w1.heap[k]?
structure Tmp3 (b2 b3 b4 : Nat) (a : Act) : Prop where
  size : a.tmps.size = 35
  t2 : a.tmps.getD 2 Go.undef = .pointer (some ⟨b2, 0, none⟩)
  t3 : a.tmps.getD 3 Go.undef = .pointer (some ⟨b3, 0, none⟩)
  t4 : a.tmps.getD 4 Go.undef = .pointer (some ⟨b4, 0, none⟩)
theorem Tmp3.put {b2 b3 b4 : Nat} {a : Act} (h : Tmp3 b2 b3 b4 a) (d : Nat) (v : Value) (hd : 5 ≤ d) (hd2 : d < 35) : Tmp3 b2 b3 b4 (a.put (some d) v) := by
  have hs : d < a.tmps.size := by rw [h.size]; exact hd2
  refine ⟨by simp [Act.put, h.size], ?_, ?_, ?_⟩
  · rw [getD_put _ _ _ _ hs, if_neg (by omega)]; exact h.t2
  · rw [getD_put _ _ _ _ hs, if_neg (by omega)]; exact h.t3
  · rw [getD_put _ _ _ _ hs, if_neg (by omega)]; exact h.t4
section
variable {w1 w2 W : World} {D1 : Nat → Prop} {b2 b3 b4 : Nat}
theorem Ctx.dsame (C : Ctx w1 w2 D1 b2 b3 b4) (hK : Kp w2.heap.size b2 b3 b4 w2 W) {b : Nat} (hb : D1 b) : W.heap[b]? = w1.heap[b]? := by
  have h1 := C.dlt b hb
  have := C.size
  rw [hK.block b (by omega) (fun e => C.d2 (e ▸ hb)) (fun e => C.d3 (e ▸ hb)) (fun e => C.d4 (e ▸ hb)), C.old b h1]
theorem cell_lt {w : World} {b : Nat} {v : Value} (h : w.cell? ⟨b, 0, none⟩ = some v) : b < w.heap.size := by
  rcases Nat.lt_or_ge b w.heap.size with h2 | h2
  · exact h2
  · simp [World.cell?, Array.getElem?_eq_none h2] at h
theorem Ctx.globW (C : Ctx w1 w2 D1 b2 b3 b4) (hK : Kp w2.heap.size b2 b3 b4 w2 W) : GlobOK tab W := by
  intro p hp
  have h1 := C.glob p hp
  have h2 := C.globb p hp
  have hlt := cell_lt h1
  have hsz := C.size
  have e : W.heap[p.1]? = w1.heap[p.1]? := by rw [hK.block p.1 (by omega) h2.1 h2.2.1 h2.2.2, C.old p.1 hlt]
  unfold World.cell? at h1 ⊢
  simp only [e]
  exact h1
theorem holds_pin {W : World} {D : Nat → Prop} {gv : Nat → Option GObj} {b : Nat} {v : AV Ty} (h : Holds W b v) (hd : ¬ D b) : ∃ c cs e, some (V.Obj.var v : V.Obj Ty) = some (.var c) ∧ W.heap[b]? = some (.cells cs e (0, 0)) ∧ RepC tab W D gv c cs.toList ∧ ¬ D b := by
  obtain ⟨cs, e, h1, h2⟩ := h
  exact ⟨v, cs, e, rfl, h1, h2 _ _ _, hd⟩
theorem noLoops {c : Code} {fn : Func} (h : loopsIn c = []) : LoopsAt fn c := fun b hb => by rw [h] at hb; cases hb
theorem ptr_rep {W : World} {D : Nat → Prop} {blks : List Nat} {j b : Nat} (h : blks[j]? = some b) : RepV tab W D (pinGv blks) (.ptr (cbase + j) []) (.pointer (some ⟨b, 0, none⟩)) :=
  .elem (.one rfl (.ptr (p := []) (pinGv_at blks j h) trivial))
theorem round_in (C : Ctx w1 w2 D1 b2 b3 b4) (k : Nat) (l : Nat) {n : Nat} {a : Act} {x : T89} {cs : List Value} (hcs : RepC tab w1 D1 (fun _ => none) (tab.enc 90 x) cs) {Bx : Nat} (hK : Kp w2.heap.size b2 b3 b4 w2 W) {s : List Int × Int × List Int} (c3 : C3 b2 b3 b4 W s)
    (ha : Tmp3 b2 b3 b4 a) (h6 : a.tmps.getD 6 Go.undef = .pointer (some ⟨Bx, 0, none⟩)) (hds : a.defers = []) (hBx : w2.heap.size ≤ Bx) (hBc : W.heap[Bx]? = some (.cells cs.toArray 90 (0, 0))) {Q : Exit → Act → World → Prop}
    (hQ : ∀ b s' a' W', bodyF k x s.1 s.2.1 s.2.2 = some (b, s') → Kp w2.heap.size b2 b3 b4 W W' → KeepsOthers W W' → C3 b2 b3 b4 W' s' → Q (bif b then .normal else .ret) a' W') : pBd.wpIn (outF (some l)) n Tryd.prog Q a W := by
  have hsz := C.size
  have hBD : ¬ D1 Bx := fun h => by have := C.dlt _ h; omega
  have l2 := C.lt2
  have l3 := C.lt3
  have l4 := C.lt4
  have hpin : PinOK tab W D1 (pinGv [b2, b3, b4, Bx]) (sB2 x s.1 s.2.1 s.2.2).objs [b2, b3, b4, Bx] := by
    refine ⟨rfl, ?_, ?_⟩
    · intro i b hb
      match i, hb with
      | 0, hb => cases hb; exact holds_pin c3.c2 C.d2
      | 1, hb => cases hb; exact holds_pin c3.c3 C.d3
      | 2, hb => cases hb; exact holds_pin c3.c4 C.d4
      | 3, hb =>
        cases hb
        exact ⟨_, _, _, rfl, hBc, by simpa using hcs.mono (fun _ h => h) (fun b hb => C.dsame hK hb) (fun _ _ h => by cases h), hBD⟩
      | i + 4, hb => cases hb
    · have := C.n23
      have := C.n24
      have := C.n34
      simp only [List.nodup_cons, List.mem_cons, List.not_mem_nil, not_or, not_false_iff, List.nodup_nil, and_true, or_false]
      refine ⟨⟨?_, ?_, ?_⟩, ⟨?_, ?_⟩, ?_⟩ <;> omega
  have hinv := pin_inv (N := 35) (keep := [2, 3, 4, 6]) hpin hds ha.size (fun t => by
    by_cases e2 : t = 2
    · subst e2; rw [ha.t2]; exact ptr_rep (j := 0) rfl
    · by_cases e3 : t = 3
      · subst e3; rw [ha.t3]; exact ptr_rep (j := 1) rfl
      · by_cases e4 : t = 4
        · subst e4; rw [ha.t4]; exact ptr_rep (j := 2) rfl
        · by_cases e6 : t = 6
          · subst e6; rw [h6]; exact ptr_rep (j := 3) rfl
          · have : ((sB2 x s.1 s.2.1 s.2.2).toSt [2, 3, 4, 6]).env t = .undef := by
              have q2 : (t == 2) = false := by simpa using e2
              have q3 : (t == 3) = false := by simpa using e3
              have q4 : (t == 4) = false := by simpa using e4
              have q6 : (t == 6) = false := by simpa using e6
              simp [NSt.toSt, sB2, List.lookup, q2, q3, q4, q6]
            rw [this]
            exact .elem (.undef _)) (fun b hb => by have := C.dlt b hb; have := hK.size; omega) (C.globW hK) (fun p hp hm => by
      have h1 := C.glob p hp
      have h2 := C.globb p hp
      have hlt := cell_lt h1
      simp only [List.mem_cons, List.not_mem_nil, or_false] at hm
      rcases hm with h | h | h | h
      · exact h2.1 h
      · exact h2.2.1 h
      · exact h2.2.2 h
      · omega)
  obtain ⟨⟨b, s'⟩, hr⟩ := body_some k x s.1 s.2.1 s.2.2
  have hx := (body2_eq k x s.1 s.2.1 s.2.2).symm.trans hr
  obtain ⟨e, st, hrun, hKB⟩ := X_run (fn := Tryd.f57) LSOK.none pBd (noLoops (by kernel_rfl)) _ _ _ _ hx
  have hsame : a = { a with defers := [] } := (act_same hds).symm
  rw [hsame]
  refine run_in tabOK fs36OK pBd (by kernel_rfl) (N := 35) (by kernel_rfl) ⟨_, _, hinv⟩ hrun ?_
  rintro a' W' ⟨D', gv', h⟩
  have hblk : ∀ b, b < W.heap.size → b ∉ [b2, b3, b4, Bx] → W'.heap[b]? = W.heap[b]? := fun b h1 h2 => h.grown.block b h1 h2
  have kp : Kp w2.heap.size b2 b3 b4 W W' := ⟨h.grown.os, h.grown.tape, h.grown.output, h.grown.size, fun i hi j2 j3 j4 => hblk i (by have := hK.size; omega) (by
    simp only [List.mem_cons, List.not_mem_nil, or_false, not_or]
    exact ⟨j2, j3, j4, by omega⟩)⟩
  have ko : KeepsOthers W W' := ⟨h.grown.size, fun i o hi ho => by
    rw [hblk i (Array.getElem?_eq_some_iff.1 hi).1 (fun hm => ?_)]
    · exact hi
    · simp only [List.mem_cons, List.not_mem_nil, or_false] at hm
      have hcell : ∀ {c : Nat} {v : AV Ty}, Holds W c v → i ≠ c := by
        rintro c v ⟨cs, e, h1, _⟩ rfl
        rw [h1] at hi
        cases hi
        cases ho
      rcases hm with h | h | h | h
      · exact hcell c3.c2 h
      · exact hcell c3.c3 h
      · exact hcell c3.c4 h
      · subst h
        rw [hBc] at hi
        cases hi
        cases ho⟩
  have fin : ∀ {z : List Int} {m : Int} {p : List Int}, st.obj 100000 = .var (.arr 5 32 z) → st.obj 100001 = .var (.int .i64 m) → st.obj 100002 = .var (.arr 5 32 p) → C3 b2 b3 b4 W' (z, m, p) := by
    intro z m p o1 o2 o3
    obtain ⟨_, _, x1, x2, _⟩ := pin_out h (j := 0) (b := b2) rfl o1
    obtain ⟨_, _, y1, y2, _⟩ := pin_out h (j := 1) (b := b3) rfl o2
    obtain ⟨_, _, z1, z2, _⟩ := pin_out h (j := 2) (b := b4) rfl o3
    exact ⟨holds_of x1 x2 (flatA _), holds_of y1 y2 (flatI _), holds_of z1 z2 (flatA _)⟩
  unfold KB at hKB
  split at hKB
  · rename_i z m p o1 o2 o3
    cases hKB
    exact hQ true _ _ _ hr kp ko (fin o1 o2 o3)
  · rename_i z m p o1 o2 o3
    cases hKB
    exact hQ false _ _ _ hr kp ko (fin o1 o2 o3)
  · cases hKB
end
end Go.Proofs.YtpnnmpdjgnbkhaaDoor.W.Pg
namespace Go.Proofs.YtpnnmpdjgnbkhaaDoor.W.Pg
open Go Go.Proofs V Go.RowKit
section
variable {w0 w1 w2 W : World} {D1 : Nat → Prop} {b2 b3 b4 : Nat}
/-- what the call's end is to say -/
def RP (w : World) (D : Nat → Prop) (y : List Int × Int × Unit) (e : Ending) (w' : World) : Prop := ∃ v, e = .returned v ∧ RepV tab w' (fun b => (false = true ∧ D b) ∨ (w.heap.size ≤ b ∧ b < w'.heap.size)) (fun _ => none) (rs25.enc y) v ∧ w.grownBy w' none
theorem c3_pin (C : Ctx w1 w2 D1 b2 b3 b4) {s : List Int × Int × List Int} (c3 : C3 b2 b3 b4 W s) {gv : Nat → Option GObj} : PinOK tab W D1 gv (sE s.1 s.2.1 s.2.2).objs [b2, b3, b4] := by
  refine ⟨rfl, ?_, ?_⟩
  · intro i b hb
    match i, hb with
    | 0, hb => cases hb; exact holds_pin c3.c2 C.d2
    | 1, hb => cases hb; exact holds_pin c3.c3 C.d3
    | 2, hb => cases hb; exact holds_pin c3.c4 C.d4
    | i + 3, hb => cases hb
  · have := C.n23
    have := C.n24
    have := C.n34
    simp only [List.nodup_cons, List.mem_cons, List.not_mem_nil, not_or, not_false_iff, List.nodup_nil, and_true, or_false]
    refine ⟨⟨?_, ?_⟩, ?_⟩ <;> omega
theorem glob_nin (C : Ctx w1 w2 D1 b2 b3 b4) {p : Nat × Value} (hp : p ∈ tab.globs) : p.1 ∉ [b2, b3, b4] := by
  intro hm
  have h2 := C.globb p hp
  simp only [List.mem_cons, List.not_mem_nil, or_false] at hm
  rcases hm with h | h | h
  · exact h2.1 h
  · exact h2.2.1 h
  · exact h2.2.2 h
/-- the call's end, the loop's mark being on it -/
theorem fin_in {D : Nat → Prop} (C : Ctx w1 w2 D1 b2 b3 b4) (hw : ∀ W, Kp w2.heap.size b2 b3 b4 w2 W → w0.grownBy W none) (hw0 : w0.heap.size ≤ w1.heap.size) {F : Fence} {n : Nat} {a : Act} {B : Nat} (hB : w2.heap.size ≤ B) (hBW : W.heap[B]? = some (.deferred (some []))) (ha : Tmp3 b2 b3 b4 a) (hds : a.defers = [{ target := .collected B, args := #[] }])
    (hK : Kp w2.heap.size b2 b3 b4 w2 W) {s : List Int × Int × List Int} (c3 : C3 b2 b3 b4 W s) : bodyPostM F n Tryd.prog Tryd.f57 (RP w0 D (s.1, s.2.1, ())) .ret a W := by
  show LeavesInM F n Tryd.prog Tryd.f57 a.tmps _ a.defers .returning W
  rw [hds]
  refine ⟨by simp, .inl ⟨B, _, rfl, run_takeDeferred hBW, ?_⟩⟩
  have hg : W.grownBy (W.putObj B (.deferred none)) (some B) := grownBy_putObj' W B _
  generalize W.putObj B (.deferred none) = W' at hg ⊢
  have k2 : Kp w2.heap.size b2 b3 b4 W W' := .grown hg (fun r e => by cases e; exact hB) hK.size
  have hK' := hK.trans k2
  have hne : ∀ {b : Nat}, b < w1.heap.size → W'.heap[b]? = W.heap[b]? := fun {b} h => hg.block b (by have := hK.size; have := C.size; omega) (by have := C.size; simp; omega)
  have c3' : C3 b2 b3 b4 W' s := ⟨c3.c2.same (hne C.lt2), c3.c3.same (hne C.lt3), c3.c4.same (hne C.lt4)⟩
  have hpin : PinOK tab W' D1 (pinGv [b2, b3]) (sR s.1 s.2.1).objs [b2, b3] := by
    refine ⟨rfl, ?_, ?_⟩
    · intro i b hb
      match i, hb with
      | 0, hb => cases hb; exact holds_pin c3'.c2 C.d2
      | 1, hb => cases hb; exact holds_pin c3'.c3 C.d3
      | i + 2, hb => cases hb
    · have := C.n23
      simp only [List.nodup_cons, List.mem_cons, List.not_mem_nil, not_false_iff, List.nodup_nil, and_true, or_false]
      omega
  have hinv := pin_inv (N := 35) (keep := [2, 3]) (a := { tmps := a.tmps, defers := [] }) hpin rfl ha.size (fun t => by
    show RepV tab W' D1 _ _ (a.tmps.getD t Go.undef)
    by_cases e2 : t = 2
    · subst e2; rw [ha.t2]; exact ptr_rep (j := 0) rfl
    · by_cases e3 : t = 3
      · subst e3; rw [ha.t3]; exact ptr_rep (j := 1) rfl
      · have : ((sR s.1 s.2.1).toSt [2, 3]).env t = .undef := by
          have q2 : (t == 2) = false := by simpa using e2
          have q3 : (t == 3) = false := by simpa using e3
          simp [NSt.toSt, sR, List.lookup, q2, q3]
        rw [this]
        exact .elem (.undef _)) (fun b hb => by have := C.dlt b hb; have := hK'.size; have := C.size; omega) (C.globW hK') (fun p hp hm => glob_nin C hp (by
      simp only [List.mem_cons, List.not_mem_nil, or_false] at hm ⊢
      exact hm.imp id .inl))
  obtain ⟨x, h1, h2⟩ := finish_sound (D' := fun _ => True) tabOK hinv (fin_eq s.1 s.2.1) (fun vs e => by cases e; rfl) (fun _ _ => trivial) (fun _ _ _ => trivial)
  exact ⟨x, h1, x, rfl, h2.flat tabOK rfl, hw _ hK'⟩
end
end Go.Proofs.YtpnnmpdjgnbkhaaDoor.W.Pg
namespace Go.Proofs.YtpnnmpdjgnbkhaaDoor.W.Pg
open Go Go.Proofs V Go.RowKit
theorem els_rev {β : Type} (l : List β) (f : Nat → β) (h : ∀ (i : Nat) (hi : i < l.length), f i = l[i]) {k : Nat} (hk : k ≤ l.length) : (List.range k).map (fun j => f (l.length - 1 - j)) = l.reverse.take k := by
  apply List.ext_getElem
  · simp; omega
  · intro i h1 h2
    simp at h1
    rw [List.getElem_map, List.getElem_range, List.getElem_take, List.getElem_reverse, h _ (by omega)]
theorem load_agg {W : World} {b off : Nat} {cs : List Value} (ha : At W b off cs) (hl : cs.length = 45) : (loadVar 90 ⟨b, off, none⟩).run Tryd.prog W = .ok (.agg cs.toArray) W := by
  unfold loadVar
  rw [Sem.run_bind, isAgg_run tabOK known90]
  simp only [Result.andThen_ok]
  have hload := run_loadCells_list (P := Tryd.prog) (w := W) ⟨b, off, none⟩ cs (fun j v hv => by rw [Addr.add_lit]; exact ha j v hv)
  rw [hl] at hload
  have : (tab.td 90).agg = true := by kernel_rfl
  rw [this]
  simp [Sem.run_bind, size_run tabOK known90, fp_size, hload]
section
variable {w1 w2 : World} {D1 : Nat → Prop} {b2 b3 b4 : Nat}
def encEl (x : El w1 D1) : Array Value := #[.int .i64 x.1.1, .agg x.1.2.1.toArray]
theorem enc_agg (x : T89) : (tab.enc 90 x).isAgg = true := (tabOK.encAgg 90 x known90).trans (by kernel_rfl)
/-- slices.Backward's function value gives the elements, the last one first -/
theorem stops (C : Ctx w1 w2 D1 b2 b3 b4) {n : Nat} (hn : 1 ≤ n) {bs : List T89} (hm : bs.length ≤ 1000) {v : Value} (hv : RepC tab w1 D1 (fun _ => none) (.slice 90 bs) [v]) (hcell : w2.cell? ⟨w1.heap.size, 0, none⟩ = some v) (hlt : w1.heap.size < w2.heap.size) :
    SeqStopsK Fence.wide n Tryd.prog 97 #[.pointer (some ⟨w1.heap.size, 0, none⟩)] (encEl (w1 := w1) (D1 := D1)) (Kp w2.heap.size b2 b3 b4) (fun xs => xs.map (·.1.2.2) = bs.reverse) (fun pre => pre.map (·.1.2.2) <+: bs.reverse) bs.length w2 := by
  intro l J Jx W hW hJ hJx hY h0
  have hsz := C.size
  have l2 := C.lt2
  have l3 := C.lt3
  have l4 := C.lt4
  have hKW : Kp w2.heap.size b2 b3 b4 w2 W := ⟨hW.os, hW.tape, hW.output, hW.size, fun k hk _ _ _ => hW.block k hk⟩
  obtain ⟨i0, z0, _, _, _, _, _, _, _, _, hzc⟩ := tabOK.info 90 known90
  have dfl : El w1 D1 := ⟨(0, z0.cells.toList, tab.dflt 90), hzc _ _ _⟩
  obtain ⟨a, cap, b, off, rfl, ha, hel⟩ : ∃ a cap b off, v = .slice a bs.length cap ∧ (0 < bs.length → a = some ⟨b, off, none⟩) ∧ ∀ i (hi : i < bs.length), ∃ sub, RepC tab w1 D1 (fun _ => none) (tab.enc 90 (bs[i])) sub ∧ D1 b ∧ At w1 b (off + i * 45) sub := by
    cases hv with
    | snil _ a cap h => exact ⟨a, cap, 0, 0, rfl, fun h => absurd h (Nat.not_lt_zero _), fun i hi => absurd hi (Nat.not_lt_zero _)⟩
    | slice hd hle hat hr =>
      refine ⟨_, _, _, _, rfl, fun _ => rfl, fun i hi => ?_⟩
      obtain ⟨pre, sub, post, e, hl, hs, _⟩ := encs_rep tabOK hr hi
      refine ⟨sub, hs, hd, fun j u hj => ?_⟩
      have hl' : pre.length = i * 45 := hl.trans (by rw [fp_size])
      have := hat (i * 45 + j) u (by
        rw [e, ← hl', List.append_assoc, List.getElem?_append_right (by omega), Nat.add_sub_cancel_left, List.getElem?_append_left (List.getElem?_eq_some_iff.1 hj).1]
        exact hj)
      rw [← Nat.add_assoc] at this
      exact this
  let els : Nat → El w1 D1 := fun i => if h : i < bs.length then ⟨(i, (hel i h).choose, bs[i]), (hel i h).choose_spec.1⟩ else dfl
  have hel2 : ∀ (i : Nat) (h : i < bs.length), els i = ⟨(i, (hel i h).choose, bs[i]), (hel i h).choose_spec.1⟩ := fun i h => dif_pos h
  have hb2 : ∀ {W : World}, Kp w2.heap.size b2 b3 b4 w2 W → W.cell? ⟨w1.heap.size, 0, none⟩ = some (.slice a bs.length cap) := fun {W} hk => by
    have := hk.block w1.heap.size hlt (by omega) (by omega) (by omega)
    rw [← hcell]
    unfold World.cell?
    simp only [this]
  have hrev : ∀ {k : Nat}, k ≤ bs.length → ((List.range k).map fun j => els (bs.length - 1 - j)).map (·.1.2.2) = bs.reverse.take k := fun {k} hk => by
    rw [List.map_map]
    exact els_rev bs (fun i => (els i).1.2.2) (fun i hi => by rw [hel2 i hi]) hk
  refine (back1_in (Kp w2.heap.size b2 b3 b4) (Kp.refl _ _ _ _) (fun h k => h.trans k) (fun x : El w1 D1 => Value.agg x.1.2.1.toArray) (fun x => x.1.1) Fence.wide n trivial rfl hn l w1.heap.size a b off cap els bs.length hm (fun i hi => by rw [hel2 i hi]) ha w2 (fun i hi W' hk => ?_) J Jx hY W hKW (fun W' hk => hb2 hk) h0).mono ?_
  · rw [hel2 i hi]
    obtain ⟨hr, hd, hat⟩ := (hel i hi).choose_spec
    have hbl := C.dlt _ hd
    have hsame : W'.heap[b]? = w1.heap[b]? := C.dsame hk hd
    exact load_agg (hat.mono hsame) ((hr.len tabOK).trans ((tabOK.encSize 90 _).trans fp_size))
  · rintro e W' ⟨he, ⟨ys, rfl, hj⟩ | ⟨pre, ⟨k, hk, rfl⟩, hj⟩⟩
    · exact ⟨he, .inl ⟨_, (hrev (Nat.le_refl _)).trans (by rw [List.take_of_length_le (by simp)]), hj⟩⟩
    · exact ⟨he, .inr ⟨_, by show _ <+: _; rw [hrev hk]; exact List.take_prefix _ _, hj⟩⟩
end
end Go.Proofs.YtpnnmpdjgnbkhaaDoor.W.Pg
namespace Go.Proofs.YtpnnmpdjgnbkhaaDoor.W.Pg
open Go Go.Proofs V Go.RowKit
section
variable {w0 w1 w2 : World} {D1 : Nat → Prop} {b2 b3 b4 : Nat}
theorem C3.grown (C : Ctx w1 w2 D1 b2 b3 b4) {W W' : World} {row : Option Nat} {s : List Int × Int × List Int} (h : C3 b2 b3 b4 W s) (hg : W.grownBy W' row) (hs : w2.heap.size ≤ W.heap.size) (hr : ∀ r, row = some r → w2.heap.size ≤ r) : C3 b2 b3 b4 W' s := by
  have hsz := C.size
  have key : ∀ {b : Nat}, b < w1.heap.size → W'.heap[b]? = W.heap[b]? := fun {b} hb => hg.block b (by omega) (fun e => by have := hr b e.symm; omega)
  exact ⟨h.c2.same (key C.lt2), h.c3.same (key C.lt3), h.c4.same (key C.lt4)⟩
theorem loop_in {D : Nat → Prop} (C : Ctx w1 w2 D1 b2 b3 b4) (hw : ∀ W, Kp w2.heap.size b2 b3 b4 w2 W → w0.grownBy W none) (hw0 : w0.heap.size ≤ w1.heap.size) {k : Nat} {bs : List T89} {y : List Int × Int × Unit} (hm : bs.length ≤ 1000) {v : Value} (hv : RepC tab w1 D1 (fun _ => none) (.slice 90 bs) [v]) (hcell : w2.cell? ⟨w1.heap.size, 0, none⟩ = some v) (hlt : w1.heap.size < w2.heap.size)
    {s0 : List Int × Int × List Int} (c30 : C3 b2 b3 b4 w2 s0) (hy : loopF k bs.reverse s0 = some y) {a : Act} (ha : Tmp3 b2 b3 b4 a) (h14 : a.eval (.tmp 14) = .func (.func 97) #[] #[.pointer (some ⟨w1.heap.size, 0, none⟩)]) (hds : a.defers = []) :
    (Code.block 0 (.rangeFunc (.tmp 14) #[15, 16] pAs pBd)).wpIn Fence.wide 5 Tryd.prog (Exit.then (pE.wpIn Fence.wide 5 Tryd.prog (bodyPostM Fence.wide 5 Tryd.prog Tryd.f57 (RP w0 D y))) (bodyPostM Fence.wide 5 Tryd.prog Tryd.f57 (RP w0 D y))) a w2 := by
  have hsz := C.size
  apply wpIn_block
  refine wpIn_rangeFunc_ownH (F := Fence.wide) rfl (by omega) (gf := 97) (lb := #[.pointer (some ⟨w1.heap.size, 0, none⟩)]) h14 trivial (enters_of Tryd.func97 (by kernel_rfl) rfl) (stops C (by omega) hm hv hcell hlt) (fun h k => h.trans k)
    (fun W l o o' hl ho _ _ => Kp.grown (grownBy_putObj' W l o') (fun r e => by cases e; exact hl) (by have := (Array.getElem?_eq_some_iff.1 ho).1; omega)) (Below.refl _ _) (fun _ => rfl)
    (fun pre W => Kp w2.heap.size b2 b3 b4 w2 W ∧ ∃ s, runB k (pre.map (·.1.2.2)) s0 = some s ∧ C3 b2 b3 b4 W s)
    (fun c pre W => c = .ret ∧ Kp w2.heap.size b2 b3 b4 w2 W ∧ ∃ pre0 x s s', pre = pre0 ++ [x] ∧ runB k (pre0.map (·.1.2.2)) s0 = some s ∧ bodyF k x.1.2.2 s.1 s.2.1 s.2.2 = some (false, s') ∧ C3 b2 b3 b4 W s')
    ?hI ?hIx ⟨Kp.refl _ _ _ _ _, s0, rfl, c30⟩
    (fun x a' W => ∃ Bx, w2.heap.size ≤ Bx ∧ W.heap[Bx]? = some (.cells x.1.2.1.toArray 90 (0, 0)) ∧ Tmp3 b2 b3 b4 a' ∧ a'.tmps.getD 6 Go.undef = .pointer (some ⟨Bx, 0, none⟩) ∧ a'.defers = [])
    ?hAx ?assign ?body ?done ?stop
  case hI =>
    rintro pre W W' row ⟨hk, s, hr, c3⟩ hg hrow
    exact ⟨hk.trans (.grown hg (fun r e => (hrow r e).1) hk.size), s, hr, c3.grown C hg hk.size (fun r e => (hrow r e).1)⟩
  case hIx =>
    rintro c pre W W' row ⟨rfl, hk, p0, x, s, s', e1, e2, e3, c3⟩ hg hrow
    exact ⟨rfl, hk.trans (.grown hg (fun r e => (hrow r e).1) hk.size), p0, x, s, s', e1, e2, e3, c3.grown C hg hk.size (fun r e => (hrow r e).1)⟩
  case hAx =>
    rintro x a' u W W' row ⟨Bx, h1, h2, h3⟩ hg hrow
    refine ⟨Bx, h1, ?_, h3⟩
    rw [hg.block Bx (Array.getElem?_eq_some_iff.1 h2).1 (fun e => ?_)]
    · exact h2
    · obtain ⟨_, o, ho, hc⟩ := hrow Bx e.symm
      rw [h2] at ho
      cases ho
      cases hc
  case assign =>
    rintro l pre x W K ⟨hk, s, hr, c3⟩ hK
    have ha15 : Tmp3 b2 b3 b4 { tmps := (a.tmps.setIfInBounds 15 (.int .i64 x.1.1)).setIfInBounds 16 (.agg x.1.2.1.toArray), defers := [] } := by
      have h1 := (ha.put 15 (.int .i64 x.1.1) (by decide) (by decide)).put 16 (.agg x.1.2.1.toArray) (by decide) (by decide)
      exact ⟨h1.size, h1.t2, h1.t3, h1.t4⟩
    have hz : Array.foldl (fun (t : Array Value) (x : Tmp × Value) => match x with | (p, v) => t.setIfInBounds p v) a.tmps ((#[15, 16] : Array Tmp).zip (encEl x)) = (a.tmps.setIfInBounds 15 (.int .i64 x.1.1)).setIfInBounds 16 (.agg x.1.2.1.toArray) := by
      simp [encEl]
    rw [hz]
    show pAs.wpIn _ _ _ _ { tmps := (a.tmps.setIfInBounds 15 (.int .i64 x.1.1)).setIfInBounds 16 (.agg x.1.2.1.toArray), defers := [] } W
    refine assign_in (fun _ => trivial) x.2 ?_ (by rw [ha15.size]; decide) (fun W' hg hb hs => ?_)
    · show ((a.tmps.setIfInBounds 15 (.int .i64 x.1.1)).setIfInBounds 16 (.agg x.1.2.1.toArray)).getD 16 Go.undef = _
      rw [Array.getD_eq_getD_getElem?, Array.getElem?_setIfInBounds_self_of_lt (by rw [Array.size_setIfInBounds, ha.size]; decide)]
      rfl
    · refine hK _ _ ⟨hg.size, fun i o _ hi _ => (hg.block i (Array.getElem?_eq_some_iff.1 hi).1 (by simp)).trans hi⟩ (.grown hg (fun r e => by cases e) hk.size) ⟨hk.trans (.grown hg (fun r e => by cases e) hk.size), s, hr, c3.grown C hg hk.size (fun r e => by cases e)⟩ ⟨W.heap.size, hk.size, hb, ha15.put 6 _ (by decide) (by decide), ?_, rfl⟩
      rw [getD_put _ _ _ _ (by rw [ha15.size]; decide), if_pos rfl]
  case body =>
    rintro l pre x a' W hl hr ⟨hk, s, hrun, c3⟩ ⟨Bx, h1, h2, h3, h4, h5⟩ hlen
    refine round_in C k l x.2 hk c3 h3 h4 h5 h1 h2 (fun b s' a'' W' hb hk2 hko hc3 => ?_)
    cases b with
    | true => exact ⟨hko.from _, hk2, hk.trans hk2, s', by rw [List.map_append]; exact runB_snoc k _ _ _ _ _ hrun hb, hc3⟩
    | false => exact ⟨hko.from _, rfl, hk.trans hk2, pre, x, s, s', rfl, hrun, hb, hc3⟩
  case done =>
    rintro B xs W hB hS ⟨hk, s, hrun, c3⟩ hdef
    rw [hS] at hrun
    have hye : y = (s.2.2, 0, ()) := by
      have := loopF_app k [] _ _ _ hrun
      rw [List.append_nil, hy] at this
      exact Option.some.inj this
    subst hye
    show pE.wpIn (outF none) 5 Tryd.prog _ { ({ tmps := a.tmps, defers := [] } : Act) with defers := { target := .collected B, args := #[] } :: a.defers } W
    obtain ⟨e, st, hrun2, hKE⟩ := X_run (fn := Tryd.f57) LSOK.none pE (noLoops (by kernel_rfl)) _ _ _ _ (end_eq k s.1 s.2.1 s.2.2).symm
    have hinv := pin_inv (N := 35) (keep := [2, 3, 4]) (a := { tmps := a.tmps, defers := [] }) (c3_pin C c3) rfl ha.size (fun t => by
      show RepV tab W D1 _ _ (a.tmps.getD t Go.undef)
      by_cases e2 : t = 2
      · subst e2; rw [ha.t2]; exact ptr_rep (j := 0) rfl
      · by_cases e3 : t = 3
        · subst e3; rw [ha.t3]; exact ptr_rep (j := 1) rfl
        · by_cases e4 : t = 4
          · subst e4; rw [ha.t4]; exact ptr_rep (j := 2) rfl
          · have : ((sE s.1 s.2.1 s.2.2).toSt [2, 3, 4]).env t = .undef := by
              have q2 : (t == 2) = false := by simpa using e2
              have q3 : (t == 3) = false := by simpa using e3
              have q4 : (t == 4) = false := by simpa using e4
              simp [NSt.toSt, sE, List.lookup, q2, q3, q4]
            rw [this]
            exact .elem (.undef _)) (fun b hb => by have := C.dlt b hb; have := hk.size; omega) (C.globW hk) (fun p hp => glob_nin C hp)
    refine run_in tabOK fs36OK pE (by kernel_rfl) (N := 35) (by kernel_rfl) ⟨_, _, hinv⟩ hrun2 ?_
    rintro a' W' ⟨D', gv', h⟩
    unfold KE at hKE
    split at hKE
    case h_2 => cases hKE
    rename_i z m p v2 v3 v4 o1 o2 o3
    cases hKE
    have hblk : ∀ b, b < W.heap.size → b ∉ [b2, b3, b4] → W'.heap[b]? = W.heap[b]? := fun b h1 h2 => h.grown.block b h1 h2
    have kp : Kp w2.heap.size b2 b3 b4 W W' := ⟨h.grown.os, h.grown.tape, h.grown.output, h.grown.size, fun i hi j2 j3 j4 => hblk i (by have := hk.size; omega) (by
      simp only [List.mem_cons, List.not_mem_nil, or_false, not_or]
      exact ⟨j2, j3, j4⟩)⟩
    have hBlt := (Array.getElem?_eq_some_iff.1 hdef).1
    obtain ⟨_, _, x1, x2, _⟩ := pin_out h (j := 0) (b := b2) rfl o1
    obtain ⟨_, _, y1, y2, _⟩ := pin_out h (j := 1) (b := b3) rfl o2
    obtain ⟨_, _, z1, z2, _⟩ := pin_out h (j := 2) (b := b4) rfl o3
    have l2 := C.lt2
    have l3 := C.lt3
    have l4 := C.lt4
    refine fin_in (a := { a' with defers := { target := .collected B, args := #[] } :: a.defers }) (s := (s.2.2, 0, s.2.2)) C hw hw0 (B := B) hB ?_ ⟨h.size, pin_ptr h (j := 0) rfl v2, pin_ptr h (j := 1) rfl v3, pin_ptr h (j := 2) rfl v4⟩ (by rw [hds]) (hk.trans kp) ⟨holds_of x1 x2 (flatA _), holds_of y1 y2 (flatI _), holds_of z1 z2 (flatA _)⟩
    rw [hblk B hBlt (by
      simp only [List.mem_cons, List.not_mem_nil, or_false, not_or]
      exact ⟨by omega, by omega, by omega⟩)]
    exact hdef
  case stop =>
    rintro B c pre W hB hSp ⟨rfl, hk, pre0, x, s, s', rfl, hrun, hb, c3⟩ hdef
    obtain ⟨rest, hrest⟩ := hSp
    have hye : y = (s'.1, s'.2.1, ()) := by
      have h1 := loopF_app k (x.1.2.2 :: rest) _ _ _ hrun
      have h2 : pre0.map (·.1.2.2) ++ x.1.2.2 :: rest = bs.reverse := by rw [← hrest, List.map_append]; simp
      rw [h2, hy] at h1
      have h3 : loopF k (x.1.2.2 :: rest) s = some (s'.1, s'.2.1, ()) := by
        show (match bodyF k x.1.2.2 s.1 s.2.1 s.2.2 with | some (true, s') => loopF k rest s' | some (false, s') => some (s'.1, s'.2.1, ()) | none => none) = _
        rw [hb]
      rw [h3] at h1
      exact Option.some.inj h1
    subst hye
    refine wpIn_ret ?_
    exact fin_in (a := { a with defers := { target := .collected B, args := #[] } :: a.defers }) C hw hw0 (B := B) hB hdef ⟨ha.size, ha.t2, ha.t3, ha.t4⟩ (by rw [hds]) hk c3
end
end Go.Proofs.YtpnnmpdjgnbkhaaDoor.W.Pg
namespace Go.Proofs.YtpnnmpdjgnbkhaaDoor.W.Pg
open Go Go.Proofs V Go.RowKit
theorem wrong_short {k : Nat} {bs bs' : List T89} {z : List Int} {n : Int} {p : List Int} (h : preF k bs = some (.inr (bs', z, n, p))) : bs' = bs ∧ bs.length ≤ 3 := by
  unfold preF at h
  have h85 : (bs.length : Int) > 3 → F85 k (bs, ()) = some (.flt (ByteArray.mk (Array.mk [(108 : UInt8), (111 : UInt8), (110 : UInt8), (103 : UInt8)])) (.num 11) false) := by
    intro hl
    unfold F85
    simp only
    rw [decide_eq_true hl, cond_true]
    rfl
  by_cases hl : (bs.length : Int) > 3
  · rw [h85 hl] at h
    cases h
  · cases he : F85 k (bs, ()) with
    | none => rw [he] at h; cases h
    | some e =>
      rw [he, Option.bind_some] at h
      cases hh : e.has 11 with
      | true => rw [hh] at h; cases h
      | false => rw [hh] at h; cases h; exact ⟨rfl, by omega⟩
theorem pD_eq : pD = .region 4 #[{ dst := some 13, op := .move (.tmp 0), type := 100, pos := "fold.go:46", after := #[], guard := none }, { dst := some 14, op := .call { callee := .value (.func 86), args := #[.tmp 13], argTypes := #[100] }, type := 150, pos := "fold.go:46", after := #[{ on := 0, ground := .data }], guard := none }] false := by kernel_rfl
theorem pD_in {Q : Exit → Act → World → Prop} {a : Act} {w1 : World} {p : Option Addr} {len cap : Nat} (h0 : a.eval (.tmp 0) = .slice p len cap) (hs : a.tmps.size = 35)
    (hQ : Q .normal ((a.put (some 13) (.slice p len cap)).put (some 14) (.func (.func 97) #[] #[.pointer (some ⟨w1.heap.size, 0, none⟩)])) (w1.alloc (.cells #[.slice p len cap] 100))) : pD.wpIn Fence.wide 5 Tryd.prog Q a w1 := by
  rw [pD_eq]
  refine wpIn_region_list ?_
  unfold wpListIn
  rw [if_pos (by simp [Region.wanted])]
  refine ⟨fun f _ => trivial, ?_⟩
  rw [Oper.semAt_eq _ _ _ (fun c e => by cases e)]
  have r1 : (execOp a.eval { dst := some 13, op := .move (.tmp 0), type := 100, pos := "fold.go:46", after := #[], guard := none }).run Tryd.prog w1 = .ok (.value (.slice p len cap)) w1 := by
    simp [execOp, h0]
  rw [r1]
  show wpListIn Fence.wide 5 Tryd.prog _ Q _ (a.put (some 13) (.slice p len cap)) w1
  unfold wpListIn
  rw [if_pos (by simp [Region.wanted])]
  refine ⟨fun f _ => trivial, ?_⟩
  rw [Oper.semAt_eq _ _ _ (fun c e => by cases e)]
  have e13 : (a.put (some 13) (.slice p len cap)).eval (.tmp 13) = .slice p len cap := by
    show (a.put (some 13) _).tmps.getD 13 Go.undef = _
    rw [getD_put _ _ _ _ (by rw [hs]; decide), if_pos rfl]
  have ef : (a.put (some 13) (.slice p len cap)).eval (.func 86) = .func (.func 86) #[] #[] := rfl
  have r2 : (execOp (a.put (some 13) (.slice p len cap)).eval { dst := some 14, op := .call { callee := .value (.func 86), args := #[.tmp 13], argTypes := #[100] }, type := 150, pos := "fold.go:46", after := #[{ on := 0, ground := .data }], guard := none }).run Tryd.prog w1 = .ok (.enter 86 #[.slice p len cap]) w1 := by
    simp only [execOp, resolve, ef, Deferred.ofValue, Sem.run_bind, Sem.run_pure, Result.andThen_ok, invoke]
    have : (#[] ++ #[Operand.tmp 13].map (a.put (some 13) (.slice p len cap)).eval ++ #[] : Array Value) = #[.slice p len cap] := by simp [e13]
    rw [this]
    exact Tryd.call86 _ _
  rw [r2]
  refine ⟨(fun h => (by cases h)), ?_⟩
  refine (back_in Fence.wide _ trivial rfl p len cap w1).mono ?_
  rintro e w' ⟨rfl, rfl⟩
  exact hQ
theorem pageOK : FOK Tryd.prog tab 57 (spec (V.arg (tab.den 100) noArgs : Args Ty ((List T89) × Unit)) rs25 pageF) := by
  refine hand_ok fun k x y hF w D vals hG hD hrep => ?_
  obtain ⟨bs, u⟩ := x
  cases u
  unfold pageF at hF
  simp only at hF
  cases hp : preF k bs with
  | none => rw [hp] at hF; cases hF
  | some r =>
    rw [hp, Option.bind_some] at hF
    have hx := (pre_eq k bs).symm.trans hp
    obtain ⟨e, s1, hrun, hKP⟩ := X_run (fn := Tryd.f57) LSOK.none _ (noLoops (by kernel_rfl)) _ _ _ _ hx
    have hrep' : RepL tab w D [.slice 90 bs] vals := hrep
    have hent := entry_sound (T := tab) (fn := Tryd.f57) hG hD hrep'
    obtain ⟨v, rfl⟩ : ∃ v, vals = [v] := by
      cases hrep' with
      | cons h1 h2 => cases h2; exact ⟨_, rfl⟩
    have hN : ((([v] : List Value).toArray ++ Array.replicate (Tryd.f57.ntmps - ([v] : List Value).toArray.size) Go.undef).size) = 35 := by
      have hnt : Tryd.f57.ntmps = 35 := by kernel_rfl
      rw [hnt]
      simp
    rw [hN] at hent
    show Calls Tryd.prog 57 _ w (RP w D y)
    refine (callsIn_wide (n := 5)).1 ?_
    refine callsIn_of_wp_marks (c := pb) Tryd.func57 rfl trivial ?_ rfl
    rw [pb_eq]
    refine seq3_in (r := none) (ds := []) (act := { tmps := ([v] : List Value).toArray ++ Array.replicate (Tryd.f57.ntmps - ([v] : List Value).toArray.size) Go.undef, defers := [] }) tabOK fs36OK (by kernel_rfl) (N := 35) (by kernel_rfl) ⟨_, _, hent⟩ hrun ?_ ?_
    · rintro rfl a w1 hg
      unfold KP at hKP
      simp only at hKP
      split at hKP
      case h_2 => cases hKP
      rename_i yy hyy
      cases hKP
      obtain ⟨⟨bs', z, n, p⟩, hof⟩ := yy
      simp only at hF
      obtain ⟨rfl, hlen⟩ := wrong_short hp
      have hg2 := norm_sound tabOK hg (np := 0) (fun _ _ h => by cases h) [0, 2, 3, 4]
      rw [← hof] at hg2
      obtain ⟨D1, gv, hi⟩ := hg2
      have v0 : RepV tab w1 D1 gv (.slice 90 bs') (a.tmps.getD 0 Go.undef) := hi.env 0
      have v2 : RepV tab w1 D1 gv (.ptr cbase []) (a.tmps.getD 2 Go.undef) := hi.env 2
      have v3 : RepV tab w1 D1 gv (.ptr (cbase + 1) []) (a.tmps.getD 3 Go.undef) := hi.env 3
      have v4 : RepV tab w1 D1 gv (.ptr (cbase + 2) []) (a.tmps.getD 4 Go.undef) := hi.env 4
      obtain ⟨b2, g2, _, t2⟩ := v2.ptr_inv
      obtain ⟨b3, g3, _, t3⟩ := v3.ptr_inv
      obtain ⟨b4, g4, _, t4⟩ := v4.ptr_inv
      have ob : ∀ {j b : Nat} {c : AV Ty}, gv (cbase + j) = some (.var b) → ((ofP (bs', z, n, p)).toSt [0, 2, 3, 4]).obj (cbase + j) = .var c → (w.heap.size ≤ b ∧ ¬ D1 b ∧ ∃ cs e, w1.heap[b]? = some (.cells cs e (0, 0)) ∧ RepC tab w1 D1 gv c cs.toList) := by
        intro j b c hg ho
        have h := hi.obj (cbase + j)
        rw [ho] at h
        cases h with
        | var h1 h2 h3 h4 h5 =>
          rw [hg] at h1
          cases h1
          exact ⟨h2.resolve_left id, h3, _, _, h4, h5⟩
      obtain ⟨s2, nd2, c2, e2, hc2, hr2⟩ := ob (j := 0) (c := .arr 5 32 z) g2 rfl
      obtain ⟨s3, nd3, c3, e3, hc3, hr3⟩ := ob (j := 1) (c := .int .i64 n) g3 rfl
      obtain ⟨s4, nd4, c4, e4, hc4, hr4⟩ := ob (j := 2) (c := .arr 5 32 p) g4 rfl
      have lt2 := (Array.getElem?_eq_some_iff.1 hc2).1
      have lt3 := (Array.getElem?_eq_some_iff.1 hc3).1
      have lt4 := (Array.getElem?_eq_some_iff.1 hc4).1
      have ap : ∀ {i j b : Nat} (x y : AV Ty), i ≠ j → ((ofP (bs', z, n, p)).toSt [0, 2, 3, 4]).obj (cbase + i) = .var x → ((ofP (bs', z, n, p)).toSt [0, 2, 3, 4]).obj (cbase + j) = .var y → gv (cbase + i) = some (.var b) → gv (cbase + j) ≠ some (.var b) := by
        intro i j b x y hne hx hy h1 h2
        exact hi.apart (cbase + i) (cbase + j) _ _ b (by omega) (by rw [hx]; rfl) (by rw [hy]; rfl) h1 h2 rfl rfl
      obtain ⟨pa, len, cap, hv, hvr⟩ : ∃ pa len cap, a.tmps.getD 0 Go.undef = .slice pa len cap ∧ RepC tab w1 D1 (fun _ => none) (.slice 90 bs') [.slice pa len cap] := by
        have h := v0.one_inv rfl (by simp) (by simp) (by simp)
        have h2 : RepC tab w1 D1 (fun _ => none) (.slice 90 bs') [a.tmps.getD 0 Go.undef] := h.regv tabOK rfl
        generalize a.tmps.getD 0 Go.undef = vv at h2
        cases h2 with
        | snil _ q c hq => exact ⟨_, _, _, rfl, .snil _ _ _ hq⟩
        | slice h1 h2 h3 h4 => exact ⟨_, _, _, rfl, .slice h1 h2 h3 h4⟩
      rw [act_same hi.defers]
      show (Code.seq (pD.seq _) pE).wpIn Fence.wide 5 Tryd.prog _ a w1
      apply wpIn_seq
      apply wpIn_seq
      refine pD_in hv hi.size ?_
      have hsz : (w1.alloc (.cells #[.slice pa len cap] 100)).heap.size = w1.heap.size + 1 := by simp
      have hold : ∀ k, k < w1.heap.size → (w1.alloc (.cells #[.slice pa len cap] 100)).heap[k]? = w1.heap[k]? := fun k hk => (World.grownBy_alloc w1 (.cells #[.slice pa len cap] 100) none).block k hk (by simp)
      have C : Ctx w1 (w1.alloc (.cells #[.slice pa len cap] 100)) D1 b2 b3 b4 := by
        refine ⟨hi.dlt, hi.globOK, fun p hp => ?_, by omega, lt2, lt3, lt4, nd2, nd3, nd4, ?_, ?_, ?_, hold⟩
        · have hno := glob_own hi p hp
          exact ⟨fun e => hno (.inr (by rw [e]; exact s2)), fun e => hno (.inr (by rw [e]; exact s3)), fun e => hno (.inr (by rw [e]; exact s4))⟩
        · rintro rfl; exact ap (i := 0) (j := 1) _ _ (by decide) rfl rfl g2 g3
        · rintro rfl; exact ap (i := 0) (j := 2) _ _ (by decide) rfl rfl g2 g4
        · rintro rfl; exact ap (i := 1) (j := 2) _ _ (by decide) rfl rfl g3 g4
      have hT : Tmp3 b2 b3 b4 a := ⟨hi.size, t2, t3, t4⟩
      have hT2 := (hT.put 13 (.slice pa len cap) (by decide) (by decide)).put 14 (.func (.func 97) #[] #[.pointer (some ⟨w1.heap.size, 0, none⟩)]) (by decide) (by decide)
      refine loop_in C (fun W hk => ?_) hi.grown.size (by omega) hvr ?_ (by omega) (s0 := (z, n, p)) ⟨?_, ?_, ?_⟩ hF hT2 ?_ ?_
      · have g1 := hi.grown.grownBy (fun _ h => h)
        refine ⟨hk.os.trans g1.os, hk.tape.trans g1.tape, hk.output.trans g1.output, Nat.le_trans g1.size (by have := hk.size; omega), fun j hj hne => ?_⟩
        have hj' : j < w.heap.size := hj
        have g1s : w.heap.size ≤ w1.heap.size := g1.size
        rw [hk.block j (by omega) (by omega) (by omega) (by omega), hold j (by omega)]
        exact g1.block j hj (by simp)
      · have : (w1.alloc (.cells #[.slice pa len cap] 100)).heap[w1.heap.size]? = some (.cells #[.slice pa len cap] 100) := World.alloc_heap_new w1 _
        unfold World.cell?
        simp only [this]
        rfl
      · exact holds_of ((hold _ lt2).trans hc2) hr2 (flatA _)
      · exact holds_of ((hold _ lt3).trans hc3) hr3 (flatI _)
      · exact holds_of ((hold _ lt4).trans hc4) hr4 (flatA _)
      · show (Act.put _ _ _).tmps.getD 14 Go.undef = _
        rw [getD_put _ _ _ _ (by simp [Act.put, hi.size]), if_pos rfl]
      · exact hi.defers
    · intro hne a w1 hg
      cases e with
      | normal => exact absurd rfl hne
      | exit i => cases hKP
      | ret =>
        unfold KP at hKP
        simp only at hKP
        split at hKP
        case h_2 => cases hKP
        rename_i vv hfin
        split at hKP
        case h_2 => cases hKP
        rename_i y1 hdec
        cases hKP
        simp only at hF
        cases hF
        obtain ⟨D1, gv, hi⟩ := hg
        have hv := rs25.spec _ _ hdec
        subst hv
        obtain ⟨x, h1, h2⟩ := finish_sound (D' := fun _ => True) tabOK hi hfin (fun vs e => by cases e; rfl) (fun _ _ => trivial) (fun _ _ _ => trivial)
        exact ⟨x, h1, x, rfl, h2.flat tabOK rfl, hi.grown.grownBy fun _ h => h⟩
end Go.Proofs.YtpnnmpdjgnbkhaaDoor.W.Pg
namespace Go.Proofs.YtpnnmpdjgnbkhaaDoor.W
open Go Go.Proofs V
def pageF : Nat → (List T89) × Unit → Option (List Int × Int × Unit) := Pg.pageF
theorem pageOK : FOK Tryd.prog tab 57 (spec (V.arg (tab.den 100) noArgs : Args Ty ((List T89) × Unit)) (V.manyRes (V.part (tab.den 23) (ent 23).ids (ent 23).plain (fun x _ => (ent 23).flat x rfl) (V.part (tab.den 33) (ent 33).ids (ent 33).plain (fun x _ => (ent 33).flat x rfl) (noParts))) : Res Ty tab ((List Int) × Int × Unit) false) pageF) := Pg.pageOK
end Go.Proofs.YtpnnmpdjgnbkhaaDoor.W
