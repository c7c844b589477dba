/-
  The abstract runs within a round of a range over a function; objects that stay where they are. No conditions.
-/
import Derived.Test.YtpnnmpdjgnbkhaaDoorVK4
import Derived.RangeFuncNested
import Derived.RangeFuncBound
import Derived.RangeFuncCalls
import Derived.RangeFuncLeaves
import Derived.TacticsInMore
set_option linter.unusedVariables false
namespace V
open Go
section
variable {Ty : Nat → Type} {T : Tab Ty} {P : Program}
variable {specs : Nat → Option (FSpec Ty)} {keeps : Nat → Keep} {o : Oper}
variable {w0 : Base} {D0 : Nat → Prop} {N : Nat} {s : St Ty} {a : Act} {w : World}

/-- no fence; within a round, or not -/
def outF (r : Option Nat) : Fence := { Fence.wide with round := r }
def noDefer (o : Oper) : Bool :=
  match o.op with
  | .defer _ => false
  | _ => true
def plainCode : Code → Bool
  | .region _ ops draw => !draw && ops.toList.all noDefer
  | .seq x y => plainCode x && plainCode y
  | .cond _ x y => plainCode x && plainCode y
  | .block _ b => plainCode b
  | .skip | .exit _ | .ret => true
  | _ => false

theorem noDefer_ne (h : noDefer o = true) (c : Call) : o.op ≠ .defer c := by
  intro e
  unfold noDefer at h
  rw [e] at h
  cases h
theorem calls_outF {r : Option Nat} {n : Nat} {f : FuncId} {args : Array Value} {R : Ending → World → Prop} (h : Calls P f args w R) : CallsIn (outF r) n P f args w R := (callsIn_wide (n := n)).2 h
theorem put_defers (a : Act) (ds : List Deferred) (d : Option Tmp) (v : Value) : ({ a with defers := ds } : Act).put d v = { a.put d v with defers := ds } := by
  cases d <;> rfl
theorem act_same {a : Act} {ds : List Deferred} (h : a.defers = ds) : ({ a with defers := ds } : Act) = a := by
  subst h
  rfl
/-- an operation, whatever is deferred, within a round or not -/
theorem oper_in {r : Option Nat} {n : Nat} {ds : List Deferred} {K K' : Act → World → Prop} {Q' : Exit → Act → World → Prop} (hnd : noDefer o = true) (h : o.wp P a w K (fun _ _ _ => False))
    (hK0 : ∀ a' w', K a' w' → a'.defers = []) (hK : ∀ a' w', K a' w' → K' { a' with defers := ds } w') : o.wpIn (outF r) n P { a with defers := ds } w K' Q' := by
  refine ⟨fun _ _ => trivial, ?_⟩
  have he : ({ a with defers := ds } : Act).eval = a.eval := by funext x; cases x <;> rfl
  rw [Oper.semAt_eq _ _ _ (noDefer_ne hnd), he]
  unfold Oper.wp Oper.upon at h
  unfold Oper.uponIn
  generalize (execOp a.eval o).run P w = res at h
  cases res with
  | ok nx w' =>
    cases nx with
    | value v => simp only at h ⊢; rw [put_defers]; exact hK _ _ h
    | skip => simp only at h ⊢; rw [put_defers]; exact hK _ _ h
    | defer d =>
      simp only at h
      have := hK0 _ _ h
      cases hd : o.dst <;> (rw [hd] at this; cases this)
    | enter f args =>
      refine ⟨(fun hd => (by cases hd)), ?_⟩
      refine (calls_outF h).mono ?_
      rintro e w2 he
      cases e with
      | returned v => simp only at he ⊢; rw [put_defers]; exact hK _ _ he
      | panicked c => exact he.elim
      | outgrown => obtain ⟨_, _, hh⟩ := he; exact hh.elim
    | row row args =>
      refine ⟨(fun hd => (by cases hd)), ?_⟩
      intro c cs _
      obtain ⟨v, w2, hR, hs⟩ := h c cs
      exact ⟨v, w2, by show K' (({ a with defers := ds } : Act).put o.dst v) w2; rw [put_defers]; exact hK _ _ hR, stepsIn_wide.2 hs⟩
    | _ => exact h.elim
  | halt k w' => cases k <;> exact h.elim

theorem ops_in (hT : TabOK P T) (hS : SpecsOK P T specs) {r : Option Nat} {n : Nat} {ds : List Deferred} {k : Nat} {ops : List Oper} {Q : Exit → Act → World → Prop} : ∀ (todo : List Oper) {s s' : St Ty} {a : Act} {w : World}, (∀ o ∈ todo, noDefer o = true) → (∀ o ∈ todo, ∀ d, o.dst = some d → d < N) → Gam T w0 D0 N s a w →
    opsK specs T k ops todo s some = some s' → (∀ a' w', Gam T w0 D0 N s' a' w' → Q .normal { a' with defers := ds } w') → wpListIn (outF r) n P ops.toArray Q todo { a with defers := ds } w := by
  intro todo
  induction todo with
  | nil =>
    intro s s' a w _ _ h hk hQ
    simp only [opsK, Option.some.injEq] at hk
    subst hk
    exact hQ _ _ h
  | cons o r' ih =>
    intro s s' a w hnd hd h hk hQ
    simp only [opsK] at hk
    unfold wpListIn
    have hr : ∀ o ∈ r', ∀ d, o.dst = some d → d < N := fun o ho => hd o (List.mem_cons_of_mem _ ho)
    rcases guard_sound h hk with ⟨hw, hk⟩ | ⟨hw, hk⟩
    · rw [if_pos hw]
      have hnat : opK specs T k o s (fun s => opsK specs T k ops r' s some) = (opK specs T k o s some).bind fun s => opsK specs T k ops r' s some := by
        unfold opK
        split
        · rename_i hc _
          cases hc.ok with
          | false => rfl
          | true =>
            simp only [cond_true]
            rw [hc.sp.natH k _ _ (St Ty), hc.sp.natH k _ _ (St Ty)]
            cases hc.sp.runH k hc.roots.length hc.n (NSt Ty) some with
            | none => rfl
            | some n =>
              simp only [Option.bind_some]
              split <;> rfl
        split
        · rename_i sp args ups _
          rw [sp.nat k args (St Ty), sp.nat k args (St Ty)]
          cases sp.runK k args (AV Ty) some <;> rfl
        · split
          · rfl
          · split
            · rfl
            · rename_i c _ _ _; cases c <;> rfl
      rw [hnat] at hk
      cases ho : opK specs T k o s some with
      | none => rw [ho] at hk; cases hk
      | some s1 =>
        rw [ho] at hk
        simp only [Option.bind_some] at hk
        refine oper_in (hnd o (by simp)) (op_sound hT hS h (hd o (by simp)) ho fun a' w' h' => h') (fun a' w' h' => ?_) fun a' w' h' => ih (fun o ho => hnd o (List.mem_cons_of_mem _ ho)) hr h' hk hQ
        obtain ⟨_, _, h'⟩ := h'
        exact h'.defers
    · have hw' : ¬ (Region.wanted o (yielded ops.toArray a.tmps) = true) := by rw [hw]; simp
      rw [if_neg hw', put_defers]
      exact ⟨fun _ _ => trivial, ih (fun o ho => hnd o (List.mem_cons_of_mem _ ho)) hr (put_skp h (hd o (by simp))) hk hQ⟩

theorem run_in (hT : TabOK P T) (hS : SpecsOK P T specs) {r : Option Nat} {n : Nat} {ds : List Deferred} {k : Nat} : ∀ (c : Code), plainCode c = true → dsts N c = true → ∀ {s : St Ty} {a : Act} {w : World} {e : Ex} {s' : St Ty} {Q : Exit → Act → World → Prop}, Gam T w0 D0 N s a w →
    Run specs keeps T k c s = some (e, s') → (∀ a w, Gam T w0 D0 N s' a w → Q e.to { a with defers := ds } w) → c.wpIn (outF r) n P Q { a with defers := ds } w := by
  intro c
  induction c with
  | skip =>
    intro _ _ s a w e s' Q hg hr hQ
    simp only [Run, Option.some.injEq, Prod.mk.injEq] at hr
    obtain ⟨rfl, rfl⟩ := hr
    exact wpIn_skip (hQ _ _ hg)
  | region id ops draw =>
    intro hp hd s a w e s' Q hg hr hQ
    simp only [plainCode, Bool.and_eq_true, Bool.not_eq_true'] at hp
    obtain ⟨rfl, hp⟩ := hp
    simp only [Run] at hr
    rw [regionK_nat] at hr
    cases hk : regionK specs T k ops.toList false s some with
    | none => rw [hk] at hr; cases hr
    | some s1 =>
      rw [hk] at hr
      simp only [Option.bind_some, Option.some.injEq, Prod.mk.injEq] at hr
      obtain ⟨rfl, rfl⟩ := hr
      refine wpIn_region_list ?_
      have := ops_in (r := r) (n := n) (ds := ds) (ops := ops.toList) hT hS ops.toList (fun o ho => List.all_eq_true.1 hp o ho) (fun o ho d hdst => by
        have := List.all_eq_true.1 hd o (by simpa using ho)
        rw [hdst] at this
        simpa [Nat.blt_eq] using this) hg hk hQ
      simpa using this
  | seq x y ihx ihy =>
    intro hp hd s a w e s' Q hg hr hQ
    simp only [plainCode, Bool.and_eq_true] at hp
    simp only [dsts, Bool.and_eq_true] at hd
    simp only [Run] at hr
    apply wpIn_seq
    cases hx : Run specs keeps T k x s with
    | none => rw [hx] at hr; cases hr
    | some p =>
      obtain ⟨e1, s1⟩ := p
      rw [hx] at hr
      refine ihx hp.1 hd.1 hg hx fun a' w' hg' => ?_
      cases e1 with
      | normal => exact ihy hp.2 hd.2 hg' hr hQ
      | exit i =>
        simp only [Option.some.injEq, Prod.mk.injEq] at hr
        obtain ⟨rfl, rfl⟩ := hr
        exact hQ _ _ hg'
      | ret =>
        simp only [Option.some.injEq, Prod.mk.injEq] at hr
        obtain ⟨rfl, rfl⟩ := hr
        exact hQ _ _ hg'
  | cond c x y ihx ihy =>
    intro hp hd s a w e s' Q hg hr hQ
    simp only [plainCode, Bool.and_eq_true] at hp
    simp only [dsts, Bool.and_eq_true] at hd
    simp only [Run] at hr
    split at hr
    case h_2 => cases hr
    rename_i t ht
    obtain ⟨D, gv, h⟩ := hg
    have hv := h.eval c
    rw [ht] at hv
    have he : ({ a with defers := ds } : Act).eval c = a.eval c := by cases c <;> rfl
    cases t with
    | true => exact wpIn_cond_true (he.trans hv.bool_inv) (ihx hp.1 hd.1 ⟨D, gv, h⟩ hr hQ)
    | false => exact wpIn_cond_false (he.trans hv.bool_inv) (ihy hp.2 hd.2 ⟨D, gv, h⟩ hr hQ)
  | block id b ih =>
    intro hp hd s a w e s' Q hg hr hQ
    simp only [Run] at hr
    apply wpIn_block
    cases hx : Run specs keeps T k b s with
    | none => rw [hx] at hr; cases hr
    | some p =>
      obtain ⟨e1, s1⟩ := p
      rw [hx] at hr
      simp only [Option.some.injEq, Prod.mk.injEq] at hr
      obtain ⟨rfl, rfl⟩ := hr
      refine ih hp hd hg hx fun a' w' hg' => ?_
      have := hQ a' w' hg'
      cases e1 with
      | normal => simpa [Ex.to, Exit.inBlock] using this
      | ret => simpa [Ex.to, Exit.inBlock] using this
      | exit i =>
        unfold Ex.to Exit.inBlock
        simp only
        by_cases hi : i = id
        · subst hi
          rw [if_pos rfl] at this ⊢
          exact this
        · have : Q (.exit i) { a' with defers := ds } w' := by
            rw [if_neg (by simpa using hi)] at this
            exact this
          rw [if_neg hi]; exact this
  | exit id =>
    intro _ _ s a w e s' Q hg hr hQ
    simp only [Run, Option.some.injEq, Prod.mk.injEq] at hr
    obtain ⟨rfl, rfl⟩ := hr
    exact wpIn_exit (hQ _ _ hg)
  | ret =>
    intro _ _ s a w e s' Q hg hr hQ
    simp only [Run, Option.some.injEq, Prod.mk.injEq] at hr
    obtain ⟨rfl, rfl⟩ := hr
    exact wpIn_ret (hQ _ _ hg)
  | _ => intro hp; cases hp
end
end V
namespace V
open Go
section
variable {Ty : Nat → Type} {T : Tab Ty} {P : Program}
/-- the objects are the blocks' -/
structure PinOK (T : Tab Ty) (W : World) (D : Nat → Prop) (gv : Nat → Option GObj) (objs : List (Obj Ty)) (blks : List Nat) : Prop where
  len : objs.length = blks.length
  at' : ∀ (i b : Nat), blks[i]? = some b → ∃ c cs e, objs[i]? = some (.var c) ∧ W.heap[b]? = some (.cells cs e (0, 0)) ∧ RepC T W D gv c cs.toList ∧ ¬ D b
  nodup : blks.Nodup
def pinGv (blks : List Nat) (o : Nat) : Option GObj := cond (Nat.blt o cbase) none ((blks[o - cbase]?).map .var)
def pinBase (W : World) (blks : List Nat) : Base := ⟨W, (· ∈ blks), fun j => blks[j]?⟩

theorem pinGv_some {blks : List Nat} {o : Nat} {g : GObj} (h : pinGv blks o = some g) : cbase ≤ o ∧ ∃ b, blks[o - cbase]? = some b ∧ g = .var b := by
  unfold pinGv at h
  cases hb : Nat.blt o cbase with
  | true => rw [hb] at h; cases h
  | false =>
    rw [hb, cond_false] at h
    obtain ⟨b, h1, h2⟩ := Option.map_eq_some_iff.1 h
    refine ⟨?_, b, h1, h2.symm⟩
    rcases Nat.lt_or_ge o cbase with h3 | h3
    · rw [show Nat.blt o cbase = true by rw [Nat.blt_eq]; exact h3] at hb; cases hb
    · exact h3
theorem pinGv_at (blks : List Nat) (j : Nat) {b : Nat} (h : blks[j]? = some b) : pinGv blks (cbase + j) = some (.var b) := by
  unfold pinGv
  have : Nat.blt (cbase + j) cbase = false := by
    cases hb : Nat.blt (cbase + j) cbase with
    | false => rfl
    | true => rw [Nat.blt_eq] at hb; omega
  rw [this, cond_false, Nat.add_sub_cancel_left, h]
  rfl
theorem pin_inv {n : NSt Ty} {blks : List Nat} {W : World} {D : Nat → Prop} {N : Nat} {keep : List Nat} {a : Act} (h : PinOK T W D (pinGv blks) n.objs blks) (hd : a.defers = []) (hN : a.tmps.size = N)
    (henv : ∀ t, RepV T W D (pinGv blks) ((n.toSt keep).env t) (a.tmps.getD t Go.undef)) (hdlt : ∀ b, D b → b < W.heap.size) (hG : GlobOK T W) (hGb : ∀ p ∈ T.globs, p.1 ∉ blks) :
    Inv T (pinBase W blks) D N (n.toSt keep) a W D (pinGv blks) := by
  refine { defers := hd, size := hN, env := henv, obj := fun o => ?_, apart := ?_, grown := ⟨rfl, rfl, rfl, Nat.le_refl _, fun _ _ _ => rfl⟩, dold := fun _ h => h, dlt := hdlt, dnew := fun _ h => .inl h, glob := ⟨hG, hGb⟩, pins := ?_ }
  · show ObjOK T W _ D (pinGv blks) o (cond (Nat.blt o cbase) .none (n.objs.getD (o - cbase) .dead))
    cases hb : Nat.blt o cbase with
    | true => exact .none (by unfold pinGv; rw [hb]; rfl)
    | false =>
      rw [cond_false]
      cases hk : blks[o - cbase]? with
      | none =>
        have : n.objs.getD (o - cbase) .dead = .dead := by
          rw [List.getD_eq_getElem?_getD, List.getElem?_eq_none (by rw [h.len]; exact List.getElem?_eq_none_iff.1 hk)]
          rfl
        rw [this]
        exact .dead
      | some b =>
        obtain ⟨c, cs, e, h1, h2, h3, h4⟩ := h.at' _ b hk
        have : n.objs.getD (o - cbase) .dead = .var c := by rw [List.getD_eq_getElem?_getD, h1]; rfl
        rw [this]
        exact .var (by unfold pinGv; rw [hb, hk]; rfl) (.inl (List.mem_of_getElem? hk)) h4 h2 h3
  · intro o o' g g' b hne hl hl' hg hg' hb hb'
    obtain ⟨k1, b1, e1, rfl⟩ := pinGv_some hg
    obtain ⟨k2, b2, e2, rfl⟩ := pinGv_some hg'
    simp only [GObj.blk, Option.some.injEq] at hb hb'
    subst hb
    subst hb'
    have l1 := (List.getElem?_eq_some_iff.1 e1)
    have l2 := (List.getElem?_eq_some_iff.1 e2)
    obtain ⟨l1, m1⟩ := l1
    obtain ⟨l2, m2⟩ := l2
    have := (List.getElem_inj (xs := blks) (h₀ := l1) (h₁ := l2) h.nodup).1 (m1.trans m2.symm)
    omega
  · intro j b hj
    exact pinGv_at blks j hj
theorem pin_out {blks : List Nat} {W0 : World} {D0 : Nat → Prop} {N : Nat} {s : St Ty} {a : Act} {w : World} {D : Nat → Prop} {gv : Nat → Option GObj} (h : Inv T (pinBase W0 blks) D0 N s a w D gv) {j b : Nat} {c : AV Ty} (hj : blks[j]? = some b) (hs : s.obj (cbase + j) = .var c) :
    ∃ cs e, w.heap[b]? = some (.cells cs e (0, 0)) ∧ RepC T w D gv c cs.toList ∧ ¬ D b := by
  have hg := h.pins j b hj
  have ho := h.obj (cbase + j)
  rw [hs] at ho
  cases ho with
  | var h1 h2 h3 h4 h5 =>
    rw [hg] at h1
    cases h1
    exact ⟨_, _, h4, h5, h3⟩
theorem pin_ptr {blks : List Nat} {W0 : World} {D0 : Nat → Prop} {N : Nat} {s : St Ty} {a : Act} {w : World} {D : Nat → Prop} {gv : Nat → Option GObj} (h : Inv T (pinBase W0 blks) D0 N s a w D gv) {j b t : Nat} (hj : blks[j]? = some b) (hs : s.env t = .ptr (cbase + j) []) :
    a.tmps.getD t Go.undef = .pointer (some ⟨b, 0, none⟩) := by
  have hg := h.pins j b hj
  have he := h.env t
  rw [hs] at he
  obtain ⟨b', h1, _, h2⟩ := he.ptr_inv
  rw [hg] at h1
  cases h1
  exact h2
/-- three codes ahead of a fourth -/
theorem seq3_in (hT : TabOK P T) {specs : Nat → Option (FSpec Ty)} {keeps : Nat → Keep} (hS : SpecsOK P T specs) {w0 : Base} {D0 : Nat → Prop} {N : Nat} {r : Option Nat} {n : Nat} {ds : List Deferred} {k : Nat} {a b c d : Code} (hp : plainCode (a.seq (b.seq c)) = true) (hd : dsts N (a.seq (b.seq c)) = true)
    {s : St Ty} {act : Act} {w : World} {e : Ex} {s' : St Ty} {Q : Exit → Act → World → Prop} (hg : Gam T w0 D0 N s act w) (hr : Run specs keeps T k (a.seq (b.seq c)) s = some (e, s'))
    (h1 : e = .normal → ∀ a w, Gam T w0 D0 N s' a w → d.wpIn (outF r) n P Q { a with defers := ds } w) (h2 : e ≠ .normal → ∀ a w, Gam T w0 D0 N s' a w → Q e.to { a with defers := ds } w) :
    (a.seq (b.seq (c.seq d))).wpIn (outF r) n P Q { act with defers := ds } w := by
  simp only [plainCode, Bool.and_eq_true] at hp
  simp only [dsts, Bool.and_eq_true] at hd
  simp only [Run] at hr
  apply wpIn_seq
  cases hx : Run specs keeps T k a s with
  | none => rw [hx] at hr; cases hr
  | some p =>
    obtain ⟨e1, s1⟩ := p
    rw [hx] at hr
    refine run_in hT hS a hp.1 hd.1 hg hx fun a' w' hg' => ?_
    cases e1 with
    | exit i => cases hr; exact h2 (by simp) _ _ hg'
    | ret => cases hr; exact h2 (by simp) _ _ hg'
    | normal =>
      simp only at hr
      show (b.seq (c.seq d)).wpIn _ _ _ _ _ _
      apply wpIn_seq
      cases hy : Run specs keeps T k b s1 with
      | none => rw [hy] at hr; cases hr
      | some p =>
        obtain ⟨e2, s2⟩ := p
        rw [hy] at hr
        refine run_in hT hS b hp.2.1 hd.2.1 hg' hy fun a' w' hg' => ?_
        cases e2 with
        | exit i => cases hr; exact h2 (by simp) _ _ hg'
        | ret => cases hr; exact h2 (by simp) _ _ hg'
        | normal =>
          simp only at hr
          show (c.seq d).wpIn _ _ _ _ _ _
          apply wpIn_seq
          refine run_in hT hS c hp.2.2 hd.2.2 hg' hr fun a' w' hg' => ?_
          cases e with
          | normal => exact h1 rfl _ _ hg'
          | exit i => exact h2 (by simp) _ _ hg'
          | ret => exact h2 (by simp) _ _ hg'
end
end V
