/-
  slices.Backward: its contract; the parts of fold.Page as abstract runs. No conditions.
-/
import Derived.Test.YtpnnmpdjgnbkhaaDoorVB
import Derived.Test.YtpnnmpdjgnbkhaaDoorVN
import Derived.Shelf.Abstract
import Derived.Shelf.RegionOpen
import Derived.WalkKit
import Derived.OwnWalkIn
import Derived.LoopNIn
import Derived.LoopIn
set_option linter.unusedVariables false
namespace Go.Proofs.YtpnnmpdjgnbkhaaDoor.W.Pg
open Go Go.Proofs V

noncomputable def fstC : Code → Code
  | .seq a _ => a
  | .block _ b => b
  | .rangeFunc _ _ a _ => a
  | c => c
noncomputable def sndC : Code → Code
  | .seq _ b => b
  | .rangeFunc _ _ _ b => b
  | c => c
noncomputable def pb : Code := bodyOf Tryd.f57
noncomputable def pA : Code := fstC pb
noncomputable def pB : Code := fstC (sndC pb)
noncomputable def pC : Code := fstC (sndC (sndC pb))
noncomputable def pDR : Code := fstC (sndC (sndC (sndC pb)))
noncomputable def pE : Code := sndC (sndC (sndC (sndC pb)))
noncomputable def pD : Code := fstC pDR
noncomputable def pF : Code := fstC (sndC pDR)
noncomputable def pAs : Code := fstC pF
noncomputable def pBd : Code := sndC pF
theorem pb_eq : pb = pA.seq (pB.seq (pC.seq ((pD.seq (.block 0 (.rangeFunc (.tmp 14) #[15, 16] pAs pBd))).seq pE))) := by kernel_rfl
noncomputable def kp57 : Nat → Keep := fun _ => ⟨[], [], 0⟩
/-- the first part: the answer, or on -/
noncomputable def ofP : List T89 × List Int × Int × List Int → NSt Ty := fun x => ⟨[.slice 90 x.1, .ptr cbase [], .ptr (cbase + 1) [], .ptr (cbase + 2) []], [.var (.arr 5 32 x.2.1), .var (.int .i64 x.2.2.1), .var (.arr 5 32 x.2.2.2)]⟩
noncomputable def abP : (n : NSt Ty) → Option {x : List T89 × List Int × Int × List Int // ofP x = n}
  | ⟨[.slice 90 bs, .ptr 100000 [], .ptr 100001 [], .ptr 100002 []], [.var (.arr 5 32 z), .var (.int .i64 n), .var (.arr 5 32 p)]⟩ => some ⟨(bs, z, n, p), rfl⟩
  | _ => none
noncomputable def KP (e : Ex) (s : St Ty) : Option ((List Int × Int × Unit) ⊕ (List T89 × List Int × Int × List Int)) :=
  match e with
  | .exit _ => none
  | .ret => match finish tab Tryd.f57 s with
    | some v => match rs25.dec v with
      | some y => some (.inl y)
      | none => none
    | none => none
  | .normal => match abP (s.norm 0 [0, 2, 3, 4]) with
    | some y => some (.inr y.1)
    | none => none
def zs32 : List Int := List.replicate 32 0
def preF (k : Nat) (bs : List T89) : Option ((List Int × Int × Unit) ⊕ (List T89 × List Int × Int × List Int)) :=
  (F85 k (bs, ())).bind fun e => bif e.has 11 then some (.inl (List.replicate (32 : Nat) (0 : Int), (11 : Int), ())) else some (.inr (bs, List.replicate (32 : Nat) (0 : Int), (0 : Int), List.replicate (32 : Nat) (0 : Int)))
theorem pre_eq (k : Nat) (bs : List T89) : preF k bs = X fs36 kp57 noL tab k (pA.seq (pB.seq pC)) (entry [.slice 90 bs]) _ KP := by kernel_rfl
/-- a round -/
noncomputable def sB (x : T89) (i : Int) (z : List Int) (n : Int) (p : List Int) : NSt Ty := ⟨[.ptr cbase [], .ptr (cbase + 1) [], .ptr (cbase + 2) [], .int .i64 i, tab.enc 90 x], [.var (.arr 5 32 z), .var (.int .i64 n), .var (.arr 5 32 p)]⟩
noncomputable def KB (e : Ex) (s : St Ty) : Option (Bool × List Int × Int × List Int) :=
  match e, s.obj 100000, s.obj 100001, s.obj 100002 with
  | .normal, .var (.arr 5 32 z), .var (.int .i64 n), .var (.arr 5 32 p) => some (true, z, n, p)
  | .ret, .var (.arr 5 32 z), .var (.int .i64 n), .var (.arr 5 32 p) => some (false, z, n, p)
  | _, _, _, _ => none
def bodyF (k : Nat) (x : T89) (z : List Int) (n : Int) (p : List Int) : Option (Bool × List Int × Int × List Int) :=
  bif x.1 == (1 : Int) then some (true, z, n, x.3) else (F25 k (p, x.4, x.5, ())).bind fun r => bif r.2.1 != (0 : Int) then some (false, List.replicate (32 : Nat) (0 : Int), (11 : Int), r.1) else some (true, z, n, r.1)
theorem body_eq (k : Nat) (x : T89) (i : Int) (z : List Int) (n : Int) (p : List Int) : bodyF k x z n p = X fs36 kp57 noL tab k (pAs.seq pBd) ((sB x i z n p).toSt [2, 3, 4, 15, 16]) _ KB := by kernel_rfl

end Go.Proofs.YtpnnmpdjgnbkhaaDoor.W.Pg
namespace Go.Proofs.YtpnnmpdjgnbkhaaDoor.W.Pg
open Go Go.Proofs V Go.RowKit Go.Shelf
attribute [local go_sem] Oper.semAt_some
theorem load_arm {F : Fence} {n : Nat} {P : Program} {ops : Array Oper} {Q : Exit → Act → World → Prop} {rest : List Oper} {a : Act} {w : World} {d : Nat} {t ty : TypeId} {x : Operand} {pos : String} {after : Array Edge} {p : Addr} {v : Value}
    (h : (loadVar t p).run P w = .ok v w) (hp : a.eval x = .pointer (some p)) (hr : wpListIn F n P ops Q rest (a.put (some d) v) w) : wpListIn F n P ops Q ({ dst := some d, op := .load t x, type := ty, pos := pos, after := after, guard := none } :: rest) a w := by
  unfold wpListIn
  rw [if_pos (by simp [Region.wanted])]
  refine ⟨fun f hf => by simp [Oper.about] at hf, ?_⟩
  rw [Oper.semAt_eq _ _ _ (fun c e => by cases e)]
  have : (execOp a.eval { dst := some d, op := .load t x, type := ty, pos := pos, after := after, guard := none }).run P w = .ok (.value v) w := by
    simp [execOp, hp, Instr.loadAt, Instr.sureAddr, h]
  rw [this]
  exact hr
/-- slices.Backward: the slice is boxed, the function value holds the box -/
theorem back_in (F : Fence) (n : Nat) (h86 : F.fn 86) (hro : F.round = none) (a : Option Addr) (len cap : Nat) (w : World) :
    CallsIn F n Tryd.prog 86 #[.slice a len cap] w fun e w' => e = .returned (.func (.func 97) #[] #[.pointer (some ⟨w.heap.size, 0, none⟩)]) ∧ w' = w.alloc (.cells #[.slice a len cap] 100) := by
  refine callsIn_of_wp Tryd.func86 rfl h86 ?_ hro
  simp only [Tryd.ntmps86, List.size_toArray, List.length_cons, List.length_nil, Nat.reduceAdd, Nat.reduceSub, Array.replicate_succ, Array.replicate_zero, List.push_toArray, List.append_toArray, List.nil_append, List.cons_append]
  gi_wp2
  go_ret
  exact ⟨rfl, rfl⟩
set_option maxRecDepth 100000 in
set_option maxHeartbeats 2000000 in
theorem back1_in {α : Type} (Kp : World → World → Prop) (hKr : ∀ W, Kp W W) (hKt : ∀ {A B C : World}, Kp A B → Kp B C → Kp A C) (encs : α → Value) (num : α → Int) (F : Fence) (n : Nat) (h97 : F.fn 97) (hro : F.round = none) (hn : 1 ≤ n) (l Bs : Nat) (a : Option Addr) (b off cap : Nat) (els : Nat → α) (m : Nat) (hm : m ≤ 1000) (hnum : ∀ i, i < m → num (els i) = i)
    (ha : 0 < m → a = some ⟨b, off, none⟩) (W0 : World) (hload : ∀ i, i < m → ∀ W : World, Kp W0 W → (loadVar 90 ⟨b, off + i * 45, none⟩).run Tryd.prog W = .ok (encs (els i)) W) (J Jx : List α → World → Prop)
    (hY : ∀ pre x W, J pre W → pre.length < m → YieldAt F (n - 1) Tryd.prog l #[.int .i64 (num x), encs x] W fun e W' =>
      (e = .returned (.bool true) ∧ J (pre ++ [x]) W' ∧ Kp W W') ∨ (e = .returned (.bool false) ∧ Jx (pre ++ [x]) W'))
    (W : World) (hW0 : Kp W0 W) (hBs : ∀ W : World, Kp W0 W → W.cell? ⟨Bs, 0, none⟩ = some (.slice a m cap)) (h0 : J [] W) :
    CallsIn F n Tryd.prog 97 #[.func (.yield l) #[] #[], .pointer (some ⟨Bs, 0, none⟩)] W fun e W' => (∃ v, e = .returned v) ∧
      ((∃ ys, ys = (List.range m).map (fun j => els (m - 1 - j)) ∧ J ys W') ∨ (∃ pre, (∃ k, k ≤ m ∧ pre = (List.range k).map (fun j => els (m - 1 - j))) ∧ Jx pre W')) := by
  refine callsIn_of_wp Tryd.func97 rfl h97 ?_ hro
  simp only [Tryd.ntmps97, List.size_toArray, List.length_cons, List.length_nil, Nat.reduceAdd, Nat.reduceSub, Array.replicate_succ, Array.replicate_zero, List.push_toArray, List.append_toArray, List.nil_append, List.cons_append]
  have hbs0 := hBs W hW0
  gi_wp2
  gi_loopw [3] (fun i wr => ∃ k : Nat, k ≤ m ∧ i = .int .i64 ((m : Int) - 1 - k) ∧ J ((List.range k).map (fun j => els (m - 1 - j))) wr ∧ Kp W wr)
    (fun i _ => (intOf i + 1).toNat)
  case atStart => exact ⟨0, Nat.zero_le _, by simp, h0, hKr _⟩
  case round =>
    obtain ⟨k, hk, rfl, hJs, hnx⟩ := hrel
    have hbs' := hBs wr (hKt hW0 hnx)
    by_cases hlt : k < m
    · obtain ⟨fn, tmps, assign, body, hy, hR⟩ := hY _ (els (m - 1 - k)) wr hJs (by simpa using hlt)
      have hcx := hload (m - 1 - k) (by omega) wr (hKt hW0 hnx)
      rw [hnum _ (by omega), show (((m - 1 - k : Nat)) : Int) = (m : Int) - 1 - k by omega] at hy
      obtain rfl := ha (by omega)
      clear hload hY hBs
      gi_wp2_with (refine load_arm hcx (by rfl) ?_)
      refine hR.mono ?_
      rintro e W3 (⟨rfl, hJ3, hk3⟩ | ⟨rfl, hJx3⟩)
      · gi_wp2
        go_roundw
        case rel => exact ⟨k + 1, by omega, by congr 1; omega, by rw [List.range_succ, List.map_append]; exact hJ3, hKt hnx hk3⟩
        case measure => simp [intOf]; omega
      · gi_wp2
        refine bodyPost_ret (results_none rfl _ _ _) rfl ?_
        exact ⟨⟨_, rfl⟩, .inr ⟨_, ⟨k + 1, by omega, by rw [List.range_succ, List.map_append]; rfl⟩, hJx3⟩⟩
    · obtain rfl : k = m := by omega
      gi_wp2
      go_end0
      exact ⟨⟨_, rfl⟩, .inl ⟨_, rfl, hJs⟩⟩
end Go.Proofs.YtpnnmpdjgnbkhaaDoor.W.Pg
