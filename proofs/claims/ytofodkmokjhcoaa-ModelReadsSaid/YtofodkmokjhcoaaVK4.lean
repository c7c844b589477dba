/-
  Loops, functions, readings, rows: what the abstract run of a function computes is what the function returns. No conditions.
-/
import Derived.LoopN
import Derived.WalkKit
import Derived.ProofKit
import Derived.OpenShut
import Derived.WideKeyArgs
import Derived.Test.YtofodkmokjhcoaaVK3
namespace V
open Go

def Ex.to : Ex → Exit
  | .normal => .normal
  | .exit i => .exit i
  | .ret => .ret

/-- every operation's temporary is one of the frame's -/
def dsts (N : Nat) : Code → Bool
  | .region _ ops _ => ops.toList.all fun o => match o.dst with
    | some d => Nat.blt d N
    | none => true
  | .seq a b => dsts N a && dsts N b
  | .cond _ a b => dsts N a && dsts N b
  | .block _ b => dsts N b
  | .loop b => dsts N b
  | .scope b => dsts N b
  | _ => true

def loopsIn : Code → List Code
  | .seq a b => loopsIn a ++ loopsIn b
  | .cond _ a b => loopsIn a ++ loopsIn b
  | .block _ b | .scope b => loopsIn b
  | .loop b => b :: loopsIn b
  | _ => []

def nodupB : List Nat → Bool
  | [] => true
  | x :: l => !(l.contains x) && nodupB l

section
variable {Ty : Nat → Type} {T : Tab Ty} {P : Program}
variable {specs : Nat → Option (FSpec Ty)} {keeps : Nat → Keep} {k : Nat}

/-! ### what goes on behind may be asked later -/

theorem opsK_nat {R : Type} (ops : List Oper) : ∀ (todo : List Oper) (s : St Ty) (K : St Ty → Option R), opsK specs T k ops todo s K = (opsK specs T k ops todo s some).bind K := by
  intro todo
  induction todo with
  | nil => intro s K; rfl
  | cons o r ih =>
    intro s K
    simp only [opsK, guardK_eq]
    split
    · rw [opK_eq, opK_eq]
      cases opV specs T k o s with
      | none => rfl
      | some x => simp only [Option.bind_some]; exact ih _ _
    · exact ih _ _
    · rfl

theorem opsD_nat {R : Type} (ops : List Oper) : ∀ (todo : List Oper) (an : List Nat) (i : Nat) (l : List Acc) (s : St Ty) (K : St Ty → Option R), opsD specs T k ops todo an i l s K = (opsD specs T k ops todo an i l s some).bind K := by
  intro todo
  induction todo with
  | nil => intro an i l s K; simp only [opsD]; cases accOk l <;> rfl
  | cons o r ih =>
    intro an i l s K
    simp only [opsD, guardK_eq]
    split
    · rw [opD_eq, opD_eq]
      cases opV specs T k o s with
      | none => rfl
      | some x => simp only [Option.bind_some]; exact ih _ _ _ _ _
    · exact ih _ _ _ _ _
    · rfl

theorem regionK_nat {R : Type} (ops : List Oper) (draw : Bool) (s : St Ty) (K : St Ty → Option R) : regionK specs T k ops draw s K = (regionK specs T k ops draw s some).bind K := by
  unfold regionK
  cases draw with
  | false => exact opsK_nat ops ops s K
  | true =>
    simp only [cond_true]
    cases freeRows [] (rowsOf ops ops (ancs ops)) with
    | false => rfl
    | true => exact opsD_nat ops ops _ _ _ s K

/-! ### the run -/

variable {w0 : Base} {D0 : Nat → Prop} {N : Nat}

theorem loopN_sound (hT : TabOK P T) {b : Code} {Q : Exit → Act → World → Prop} {hd ou : List Nat} {np : Nat} (hp : ∀ j b, w0.pin j = some b → j < np)
    (ih : ∀ {s : St Ty} {a : Act} {w : World} {e : Ex} {s' : St Ty} {Q : Exit → Act → World → Prop}, Gam T w0 D0 N s a w → Run specs keeps T k b s = some (e, s') → (∀ a w, Gam T w0 D0 N s' a w → Q e.to a w) → b.wp P Q a w)
    {e : Ex} {n' : NSt Ty} (hQ : ∀ a w, Gam T w0 D0 N (n'.toSt ou) a w → Q e.to a w) :
    ∀ (f : Nat) (n : NSt Ty) (a : Act) (w : World), Gam T w0 D0 N (n.toSt hd) a w → loopN (fun n => Run specs keeps T k b (n.toSt hd)) (St.norm np hd) (St.norm np ou) f n = some (e, n') → Code.rounds P b Q f a w := by
  intro f
  induction f with
  | zero => intro n a w _ h; cases h
  | succ f ihf =>
    intro n a w hg h
    rw [rounds_succ]
    simp only [loopN] at h
    cases hr : Run specs keeps T k b (n.toSt hd) with
    | none => rw [hr] at h; cases h
    | some p =>
      obtain ⟨e1, s1⟩ := p
      rw [hr] at h
      refine ih hg hr fun a' w' hg' => ?_
      cases e1 with
      | normal => exact ihf _ a' w' (norm_sound hT hg' hp hd) h
      | exit i =>
        simp only [Option.some.injEq, Prod.mk.injEq] at h
        obtain ⟨h1, h2⟩ := h
        subst h1; subst h2
        exact hQ _ _ (norm_sound hT hg' hp ou)
      | ret =>
        simp only [Option.some.injEq, Prod.mk.injEq] at h
        obtain ⟨h1, h2⟩ := h
        subst h1; subst h2
        exact hQ _ _ (norm_sound hT hg' hp ou)

theorem run_sound (hT : TabOK P T) (hS : SpecsOK P T specs) (hpins : ∀ i j b, w0.pin j = some b → j < (keeps i).pins) : ∀ (c : Code), dsts N c = true → ∀ {s : St Ty} {a : Act} {w : World} {e : Ex} {s' : St Ty} {Q : Exit → Act → World → Prop}, Gam T w0 D0 N s a w →
    Run specs keeps T k c s = some (e, s') → (∀ a w, Gam T w0 D0 N s' a w → Q e.to a w) → c.wp P Q a w := by
  intro c
  induction c with
  | skip =>
    intro _ s a w e s' Q hg hr hQ
    simp only [Run, Option.some.injEq, Prod.mk.injEq] at hr
    obtain ⟨rfl, rfl⟩ := hr
    exact wp_skip (hQ _ _ hg)
  | region id ops draw =>
    intro hd s a w e s' Q hg hr hQ
    simp only [Run] at hr
    rw [regionK_nat] at hr
    cases hk : regionK specs T k ops.toList draw s some with
    | none => rw [hk] at hr; cases hr
    | some s1 =>
      rw [hk] at hr
      simp only [Option.bind_some, Option.some.injEq, Prod.mk.injEq] at hr
      obtain ⟨rfl, rfl⟩ := hr
      refine region_sound hT hS hg (fun o ho d hdst => ?_) hk hQ
      have := List.all_eq_true.1 hd o (by simpa using ho)
      rw [hdst] at this
      simpa [Nat.blt_eq] using this
  | seq x y ihx ihy =>
    intro hd s a w e s' Q hg hr hQ
    simp only [dsts, Bool.and_eq_true] at hd
    simp only [Run] at hr
    apply wp_seq
    cases hx : Run specs keeps T k x s with
    | none => rw [hx] at hr; cases hr
    | some p =>
      obtain ⟨e1, s1⟩ := p
      rw [hx] at hr
      refine ihx hd.1 hg hx fun a' w' hg' => ?_
      cases e1 with
      | normal => exact ihy hd.2 hg' hr hQ
      | exit i =>
        simp only [Option.some.injEq, Prod.mk.injEq] at hr
        obtain ⟨rfl, rfl⟩ := hr
        exact hQ _ _ hg'
      | ret =>
        simp only [Option.some.injEq, Prod.mk.injEq] at hr
        obtain ⟨rfl, rfl⟩ := hr
        exact hQ _ _ hg'
  | cond c x y ihx ihy =>
    intro hd s a w e s' Q hg hr hQ
    simp only [dsts, Bool.and_eq_true] at hd
    simp only [Run] at hr
    split at hr
    case h_2 => cases hr
    rename_i t ht
    obtain ⟨D, gv, h⟩ := hg
    have hv := h.eval c
    rw [ht] at hv
    cases t with
    | true => exact wp_cond_true hv.bool_inv (ihx hd.1 ⟨D, gv, h⟩ hr hQ)
    | false => exact wp_cond_false hv.bool_inv (ihy hd.2 ⟨D, gv, h⟩ hr hQ)
  | block id b ih =>
    intro hd s a w e s' Q hg hr hQ
    simp only [Run] at hr
    apply wp_block
    cases hx : Run specs keeps T k b s with
    | none => rw [hx] at hr; cases hr
    | some p =>
      obtain ⟨e1, s1⟩ := p
      rw [hx] at hr
      simp only [Option.some.injEq, Prod.mk.injEq] at hr
      obtain ⟨rfl, rfl⟩ := hr
      refine ih hd hg hx fun a' w' hg' => ?_
      have := hQ a' w' hg'
      cases e1 with
      | normal => simpa [Ex.to, Exit.inBlock] using this
      | ret => simpa [Ex.to, Exit.inBlock] using this
      | exit i =>
        unfold Ex.to Exit.inBlock
        simp only
        by_cases hi : i = id
        · subst hi
          rw [if_pos rfl] at this ⊢
          exact this
        · have : Q (.exit i) a' w' := by
            rw [if_neg (by simpa using hi)] at this
            exact this
          rw [if_neg hi]; exact this
  | loop b ih =>
    intro hd s a w e s' Q hg hr hQ
    simp only [Run] at hr
    split at hr
    case h_2 => cases hr
    rename_i e1 n hl
    simp only [Option.some.injEq, Prod.mk.injEq] at hr
    obtain ⟨rfl, rfl⟩ := hr
    exact wp_loop_rounds k (loopN_sound hT (hpins (firstRegion b)) (fun hg hr hQ => ih hd hg hr hQ) hQ k _ a w (norm_sound hT hg (hpins _) _) hl)
  | exit id =>
    intro _ s a w e s' Q hg hr hQ
    simp only [Run, Option.some.injEq, Prod.mk.injEq] at hr
    obtain ⟨rfl, rfl⟩ := hr
    exact wp_exit (hQ _ _ hg)
  | ret =>
    intro _ s a w e s' Q hg hr hQ
    simp only [Run, Option.some.injEq, Prod.mk.injEq] at hr
    obtain ⟨rfl, rfl⟩ := hr
    exact wp_ret (hQ _ _ hg)
  | _ => intro _ s a w e s' Q hg hr hQ; simp only [Run] at hr; cases hr

/-! ### the ways on to the end -/

variable {lsums : Nat → Option (LSum Ty)}

def LOK (specs : Nat → Option (FSpec Ty)) (keeps : Nat → Keep) (T : Tab Ty) (b : Code) (L : LSum Ty) : Prop := ∀ (k : Nat) (n : NSt Ty) (R : Type) (K : Ex → NSt Ty → Option R) (r : R), L.runK k n R K = some r →
  ∃ e n', loopN (fun n => Run specs keeps T k b (n.toSt (keeps (firstRegion b)).head)) (St.norm (keeps (firstRegion b)).pins (keeps (firstRegion b)).head) (St.norm (keeps (firstRegion b)).pins (keeps (firstRegion b)).out) k n = some (e, n') ∧ K e n' = some r

def LSOK (specs : Nat → Option (FSpec Ty)) (keeps : Nat → Keep) (T : Tab Ty) (fn : Func) (lsums : Nat → Option (LSum Ty)) : Prop := ∀ i L, lsums i = some L → LOK specs keeps T (bodyAt fn i) L

/-- the loops of a code are told apart by their numbers -/
def LoopsAt (fn : Func) (c : Code) : Prop := ∀ b ∈ loopsIn c, bodyAt fn (firstRegion b) = b

theorem know_same {s : St Ty} {c : Operand} {b : Bool} (h : s.eval c = .bool b) : s.know c b = s := by
  cases c with
  | tmp t => exact set_same h
  | _ => rfl

theorem X_run {fn : Func} (hL : LSOK specs keeps T fn lsums) : ∀ (c : Code), LoopsAt fn c → ∀ (s : St Ty) (R : Type) (K : Ex → St Ty → Option R) (r : R), X specs keeps lsums T k c s R K = some r →
    ∃ e s', Run specs keeps T k c s = some (e, s') ∧ K e s' = some r := by
  intro c
  induction c with
  | skip => intro _ s R K r h; exact ⟨.normal, s, rfl, h⟩
  | region id ops draw =>
    intro _ s R K r h
    simp only [X] at h
    rw [regionK_nat] at h
    cases hk : regionK specs T k ops.toList draw s some with
    | none => rw [hk] at h; cases h
    | some s1 =>
      rw [hk] at h
      refine ⟨.normal, s1, ?_, h⟩
      simp only [Run]
      rw [regionK_nat, hk]; rfl
  | seq x y ihx ihy =>
    intro hl s R K r h
    simp only [X] at h
    obtain ⟨e1, s1, h1, h2⟩ := ihx (fun b hb => hl b (by simp [loopsIn, hb])) _ _ _ _ h
    simp only [Run]
    rw [h1]
    cases e1 with
    | normal =>
      obtain ⟨e2, s2, h3, h4⟩ := ihy (fun b hb => hl b (by simp [loopsIn, hb])) _ _ _ _ h2
      exact ⟨e2, s2, h3, h4⟩
    | exit i => exact ⟨_, _, rfl, h2⟩
    | ret => exact ⟨_, _, rfl, h2⟩
  | cond c x y ihx ihy =>
    intro hl s R K r h
    simp only [X] at h
    simp only [Run]
    split at h
    case h_2 => cases h
    rename_i t ht
    cases t with
    | true => rw [know_same ht] at h; exact ihx (fun b hb => hl b (by simp [loopsIn, hb])) _ _ _ _ h
    | false => rw [know_same ht] at h; exact ihy (fun b hb => hl b (by simp [loopsIn, hb])) _ _ _ _ h
  | block id b ih =>
    intro hl s R K r h
    simp only [X] at h
    obtain ⟨e1, s1, h1, h2⟩ := ih hl _ _ _ _ h
    simp only [Run]
    rw [h1]
    refine ⟨_, _, rfl, ?_⟩
    cases e1 with
    | normal => simpa using h2
    | ret => simpa using h2
    | exit i =>
      simp only at h2
      by_cases hi : i = id
      · subst hi
        rw [beq_self_eq_true] at h2
        rw [if_pos rfl]; exact h2
      · have : (i == id) = false := by simpa using hi
        rw [this] at h2
        rw [if_neg (by simpa using hi)]; exact h2
  | loop b ih =>
    intro hl s R K r h
    simp only [X] at h
    simp only [Run]
    split at h
    case h_2 => cases h
    rename_i L hLs
    have hb := hl b (by simp [loopsIn])
    have hok := hL _ _ hLs
    rw [hb] at hok
    obtain ⟨e, n', h1, h2⟩ := hok _ _ _ _ _ h
    rw [h1]
    exact ⟨_, _, rfl, h2⟩
  | exit id => intro _ s R K r h; exact ⟨_, _, rfl, h⟩
  | ret => intro _ s R K r h; exact ⟨_, _, rfl, h⟩
  | _ => intro _ s R K r h; simp only [X] at h; cases h

/-- a typed loop serves -/
theorem LOK.of {fn : Func} (hL : LSOK specs keeps T fn lsums) {S O : Type} {i : Nat} (hl : LoopsAt fn (bodyAt fn i)) (ofS : S → NSt Ty) (abs : (n : NSt Ty) → Option {x : S // ofS x = n}) (outE : O → Ex) (outN : O → NSt Ty)
    (outA : (e : Ex) → (n : NSt Ty) → Option {y : O // outE y = e ∧ outN y = n}) (L : Nat → Nat → S → Option O) (h0 : ∀ k x, L k 0 x = none)
    (h1 : ∀ k n x, L k (n + 1) x = roundK specs keeps lsums T (bodyAt fn i) ofS abs outE outN outA k (L k n) x) : LOK specs keeps T (bodyAt fn i) (LSum.of ofS abs L outE outN) := by
  have key : ∀ k n x y, L k n x = some y → loopN (fun n => Run specs keeps T k (bodyAt fn i) (n.toSt (keeps (firstRegion (bodyAt fn i))).head)) (St.norm (keeps (firstRegion (bodyAt fn i))).pins (keeps (firstRegion (bodyAt fn i))).head) (St.norm (keeps (firstRegion (bodyAt fn i))).pins (keeps (firstRegion (bodyAt fn i))).out) n (ofS x) = some (outE y, outN y) := by
    intro k n
    induction n with
    | zero => intro x y h; rw [h0] at h; cases h
    | succ n ih =>
      intro x y h
      rw [h1] at h
      unfold roundK at h
      obtain ⟨e, s1, hr, hK⟩ := X_run hL _ hl _ _ _ _ h
      simp only [loopN]
      rw [hr]
      cases e with
      | normal =>
        simp only at hK ⊢
        split at hK
        case h_2 => cases hK
        rename_i z _
        have := ih z.1 y hK
        rw [z.2] at this
        exact this
      | exit j =>
        simp only at hK ⊢
        split at hK
        case h_2 => cases hK
        rename_i z _
        cases hK
        rw [z.2.1, z.2.2]
      | ret =>
        simp only at hK ⊢
        split at hK
        case h_2 => cases hK
        rename_i z _
        cases hK
        rw [z.2.1, z.2.2]
  intro k n R K r h
  unfold LSum.of at h
  simp only at h
  split at h
  case h_2 => cases h
  rename_i x _
  cases hy : L k k x.1 with
  | none => rw [hy] at h; cases h
  | some y =>
    rw [hy] at h
    have := key k k x.1 y hy
    rw [x.2] at this
    exact ⟨_, _, this, h⟩

/-- a loop whose rounds are laid one behind the other serves -/
theorem LOK.unroll {fn : Func} (hL : LSOK specs keeps T fn lsums) {i m : Nat} (hl : LoopsAt fn (bodyAt fn i)) : LOK specs keeps T (bodyAt fn i) (LSum.unroll specs keeps lsums T (bodyAt fn i) m) := by
  generalize hb : bodyAt fn i = b at hl
  have key : ∀ (k : Nat) (R : Type) (K : Ex → NSt Ty → Option R) (r : R) (m : Nat) (n : NSt Ty), unrollK specs keeps lsums T k b m n R K = some r → ∀ j, m ≤ j →
      ∃ e n', loopN (fun n => Run specs keeps T k b (n.toSt (keeps (firstRegion b)).head)) (St.norm (keeps (firstRegion b)).pins (keeps (firstRegion b)).head) (St.norm (keeps (firstRegion b)).pins (keeps (firstRegion b)).out) j n = some (e, n') ∧ K e n' = some r := by
    intro k R K r m
    induction m with
    | zero => intro n h; cases h
    | succ m ih =>
      intro n h j hj
      obtain ⟨j, rfl⟩ : ∃ j', j = j' + 1 := ⟨j - 1, by omega⟩
      unfold unrollK at h
      obtain ⟨e, s1, hr, hK⟩ := X_run hL _ hl _ _ _ _ h
      simp only [loopN]
      rw [hr]
      cases e with
      | normal => exact ih _ hK j (by omega)
      | exit q => exact ⟨_, _, rfl, hK⟩
      | ret => exact ⟨_, _, rfl, hK⟩
  intro k n R K r h
  unfold LSum.unroll at h
  simp only at h
  cases hm : Nat.ble m k with
  | false => rw [hm] at h; cases h
  | true =>
    rw [hm, cond_true] at h
    exact key k R K r m n h k (Nat.le_of_ble_eq_true hm)

def noL : Nat → Option (LSum Ty) := fun _ => none
def addL (i : Nat) (L : LSum Ty) (ls : Nat → Option (LSum Ty)) : Nat → Option (LSum Ty) := fun j => cond (j == i) (some L) (ls j)
theorem LSOK.none {fn : Func} : LSOK specs keeps T fn noL := fun i L h => by cases h
theorem LSOK.add {fn : Func} {i : Nat} {L : LSum Ty} (hL : LSOK specs keeps T fn lsums) (h : LOK specs keeps T (bodyAt fn i) L) : LSOK specs keeps T fn (addL i L lsums) := by
  intro j M hM
  unfold addL at hM
  by_cases e : j = i
  · subst e
    simp only [beq_self_eq_true, cond_true, Option.some.injEq] at hM
    subst hM; exact h
  · have : (j == i) = false := by simpa using e
    rw [this] at hM
    exact hL j M hM

/-! ### the loops' numbers -/

theorem nodupB_spec : ∀ (l : List Nat), nodupB l = true → l.Nodup := by
  intro l
  induction l with
  | nil => intro _; exact .nil
  | cons x r ih =>
    intro h
    simp only [nodupB, Bool.and_eq_true, Bool.not_eq_true'] at h
    refine List.nodup_cons.2 ⟨fun hm => ?_, ih h.2⟩
    have : r.contains x = true := by simpa using hm
    rw [this] at h; cases h.1

theorem loopAt_mem {i : Nat} : ∀ (c b : Code), loopAt i c = some b → b ∈ loopsIn c ∧ firstRegion b = i := by
  intro c
  induction c with
  | seq x y ihx ihy =>
    intro b h
    simp only [loopAt] at h
    simp only [loopsIn, List.mem_append]
    split at h
    · rename_i c hc; cases h; exact ⟨.inl (ihx _ hc).1, (ihx _ hc).2⟩
    · exact ⟨.inr (ihy _ h).1, (ihy _ h).2⟩
  | cond c x y ihx ihy =>
    intro b h
    simp only [loopAt] at h
    simp only [loopsIn, List.mem_append]
    split at h
    · rename_i c hc; cases h; exact ⟨.inl (ihx _ hc).1, (ihx _ hc).2⟩
    · exact ⟨.inr (ihy _ h).1, (ihy _ h).2⟩
  | block id c ih => intro b h; exact ih b h
  | scope c ih => intro b h; exact ih b h
  | loop c ih =>
    intro b h
    simp only [loopAt] at h
    simp only [loopsIn, List.mem_cons]
    cases hb : firstRegion c == i with
    | true =>
      rw [hb] at h
      cases h
      exact ⟨.inl rfl, by simpa using hb⟩
    | false => rw [hb] at h; exact ⟨.inr (ih _ h).1, (ih _ h).2⟩
  | _ => intro b h; simp [loopAt] at h

theorem loopAt_some {i : Nat} : ∀ (c b : Code), b ∈ loopsIn c → firstRegion b = i → ∃ b', loopAt i c = some b' := by
  intro c
  induction c with
  | seq x y ihx ihy =>
    intro b h hi
    simp only [loopsIn, List.mem_append] at h
    simp only [loopAt]
    split
    · exact ⟨_, rfl⟩
    · rename_i hn
      rcases h with h | h
      · obtain ⟨b', hb'⟩ := ihx b h hi; rw [hn] at hb'; cases hb'
      · exact ihy b h hi
  | cond c x y ihx ihy =>
    intro b h hi
    simp only [loopsIn, List.mem_append] at h
    simp only [loopAt]
    split
    · exact ⟨_, rfl⟩
    · rename_i hn
      rcases h with h | h
      · obtain ⟨b', hb'⟩ := ihx b h hi; rw [hn] at hb'; cases hb'
      · exact ihy b h hi
  | block id c ih => intro b h hi; exact ih b h hi
  | scope c ih => intro b h hi; exact ih b h hi
  | loop c ih =>
    intro b h hi
    simp only [loopsIn, List.mem_cons] at h
    simp only [loopAt]
    cases hb : firstRegion c == i with
    | true => exact ⟨_, rfl⟩
    | false =>
      rcases h with rfl | h
      · have : (firstRegion b == i) = true := by simpa using hi
        rw [hb] at this; cases this
      · exact ih b h hi
  | _ => intro b h; simp [loopsIn] at h

theorem inj_of_nodup {α : Type} {f : α → Nat} : ∀ (l : List α), (l.map f).Nodup → ∀ x ∈ l, ∀ y ∈ l, f x = f y → x = y := by
  intro l
  induction l with
  | nil => intro _ x hx; cases hx
  | cons z r ih =>
    intro h x hx y hy he
    simp only [List.map_cons, List.nodup_cons, List.mem_map, not_exists, not_and] at h
    rcases List.mem_cons.1 hx with rfl | hx'
    · rcases List.mem_cons.1 hy with rfl | hy'
      · rfl
      · exact absurd he.symm (h.1 y hy')
    · rcases List.mem_cons.1 hy with rfl | hy'
      · exact absurd he (h.1 x hx')
      · exact ih h.2 x hx' y hy' he

theorem loopsAt_of {fn : Func} {c : Code} (hb : fn.body = some c) (hn : nodupB ((loopsIn c).map firstRegion) = true) : LoopsAt fn c := by
  intro b hm
  obtain ⟨b', hb'⟩ := loopAt_some c b hm rfl
  have := loopAt_mem c b' hb'
  unfold bodyAt
  rw [hb]
  simp only [Option.bind_some, hb', Option.getD_some]
  exact inj_of_nodup _ (nodupB_spec _ hn) _ this.1 _ hm this.2

theorem loopsIn_sub : ∀ (c b : Code), b ∈ loopsIn c → ∀ x ∈ loopsIn b, x ∈ loopsIn c := by
  intro c
  induction c with
  | seq x y ihx ihy =>
    intro b h z hz
    simp only [loopsIn, List.mem_append] at h ⊢
    exact h.imp (fun h => ihx b h z hz) (fun h => ihy b h z hz)
  | cond c x y ihx ihy =>
    intro b h z hz
    simp only [loopsIn, List.mem_append] at h ⊢
    exact h.imp (fun h => ihx b h z hz) (fun h => ihy b h z hz)
  | block id c ih => intro b h z hz; exact ih b h z hz
  | scope c ih => intro b h z hz; exact ih b h z hz
  | loop c ih =>
    intro b h z hz
    simp only [loopsIn, List.mem_cons] at h ⊢
    rcases h with rfl | h
    · exact .inr hz
    · exact .inr (ih b h z hz)
  | _ => intro b h; simp [loopsIn] at h

theorem loopsAt_body {fn : Func} {c : Code} (hb : fn.body = some c) (hn : nodupB ((loopsIn c).map firstRegion) = true) (i : Nat) : LoopsAt fn (bodyAt fn i) := by
  have hl := loopsAt_of hb hn
  unfold bodyAt
  rw [hb]
  simp only [Option.bind_some]
  cases h : loopAt i c with
  | none => intro b hm; simp [loopsIn] at hm
  | some b' => exact fun x hx => hl x (loopsIn_sub c b' (loopAt_mem c b' h).1 x hx)
end
end V
namespace V
open Go
section
variable {Ty : Nat → Type} {T : Tab Ty} {P : Program}
variable {specs : Nat → Option (FSpec Ty)} {keeps : Nat → Keep} {k : Nat} {lsums : Nat → Option (LSum Ty)}
variable {w0 : Base} {D0 : Nat → Prop} {N : Nat} {s : St Ty} {a : Act} {w : World} {D : Nat → Prop} {gv : Nat → Option GObj}

def resF (tmps : Array Value) : ResultVar → Sem Value
  | .tmp t => pure (tmps.getD t Go.undef)
  | .cell c t => do loadVar t (← asAddr (tmps.getD c Go.undef))

theorem resultAV_sound (hT : TabOK P T) (h : Inv T w0 D0 N s a w D gv) {r : ResultVar} {v : AV Ty} (hr : resultAV T s r = some v) {D' : Nat → Prop} (hD : ∀ b, D b → D' b) (hall : ∀ b, w0.Own b → b < w.heap.size → D' b) :
    ∃ x, ((resF a.tmps r)).run P w = .ok x w ∧ RepV T w D' gv v x := by
  have hb : ∀ (l : List Nat) b, blocksOf s.obj gv l b → D' b := fun l b ⟨o1, _, hl, g, hg, hb⟩ => by
    have := live_blk (h.obj o1) hl hg hb
    exact hall b this.2 this.1
  cases r with
  | tmp t =>
    simp only [resultAV, Option.some.injEq] at hr
    subst hr
    exact ⟨_, rfl, settleV_rep hT h.obj hD (h.env t) (hb _)⟩
  | cell c t =>
    simp only [resultAV] at hr
    split at hr
    case h_2 => cases hr
    rename_i o ho
    have hv := h.env c
    rw [ho] at hv
    obtain ⟨b, hgo, _, hx⟩ := hv.ptr_inv
    have hobj := h.obj o
    have key : ∀ c0 : AV Ty, (cond (fits T t c0) (some (settle T s.obj c0)) none) = some v → (∃ cs e, w.heap[b]? = some (.cells cs e (0, 0)) ∧ RepC T w D gv c0 cs.toList) →
        ∃ x, (do loadVar t (← asAddr (a.tmps.getD c Go.undef)) : Sem Value).run P w = .ok x w ∧ RepV T w D' gv v x := by
      intro c0 hr ⟨cs, e, hw, hrep⟩
      cases hf : fits T t c0 with
      | false => rw [hf] at hr; cases hr
      | true =>
        rw [hf] at hr
        simp only [cond_true, Option.some.injEq] at hr
        subst hr
        have hat : At w b (poff []) cs.toList := by
          intro j v hj
          simp only [poff, Nat.zero_add]
          simp only [World.cell?, hw]
          simpa using hj
        obtain ⟨x, h1, h2⟩ := load_run hT hf hat hrep
        refine ⟨x, ?_, settleV_rep hT h.obj hD h2 (hb _)⟩
        rw [hx, Sem.run_bind]
        simpa [asAddr] using h1
    split at hr
    · rename_i c0 hob
      rw [hob] at hobj
      cases hobj with
      | var k1 k2 k3 k4 k5 => rw [hgo] at k1; cases k1; exact key c0 hr ⟨_, _, k4, k5⟩
    · rename_i c0 hob
      rw [hob] at hobj
      cases hobj with
      | fvar k1 k2 k3 k4 => rw [hgo] at k1; cases k1; exact key c0 hr ⟨_, _, k3, k4⟩
    · cases hr

/-- a value that is no tuple -/
theorem RepV.elem_inv {v : AV Ty} {x : Value} (h : RepV T w D gv v x) (hv : ∀ vs, v ≠ .tup vs) : RepE T w D gv v x := by
  cases h with
  | elem h => exact h
  | tup h => exact absurd rfl (hv _)


theorem optR_rep (hT : TabOK P T) (h : Inv T w0 D0 N s a w D gv) {ty : Nat} {v : AV Ty} {x : Value} {D' : Nat → Prop} (hD : ∀ b, D b → D' b) (hall : ∀ b, w0.Own b → b < w.heap.size → D' b) (hv : RepV T w D' gv v x) :
    RepV T w D' gv (optR T s.obj ty v) x := by
  have hb : ∀ (l : List Nat) b, blocksOf s.obj gv l b → D' b := fun l b ⟨o1, _, hl, g, hg, hb⟩ => by
    have := live_blk (h.obj o1) hl hg hb
    exact hall b this.2 this.1
  unfold optR
  split
  case h_2 => exact hv
  rename_i e _
  split
  · rw [hv.nilp_inv]; exact .elem (.one rfl (.optn e))
  · rename_i o
    obtain ⟨b, hg, _, rfl⟩ := hv.ptr_inv
    have hob := h.obj o
    have key : ∀ (c : AV Ty) (cs : Array Value) (et : TypeId), D' b → w.heap[b]? = some (.cells cs et (0, 0)) → RepC T w D gv c cs.toList →
        RepV T w D' gv (match T.dec e (settle T s.obj c) with
          | some y => .opt e (some y)
          | none => .undef) (.pointer (some ⟨b, poff [], none⟩)) := by
      intro c cs et hDb hbb hr
      split
      · rename_i y hy
        have h1 := settle_rep hT h.obj hD hr (hb _)
        have h2 : T.enc e y = settle T s.obj c := (T.den e).spec _ _ hy
        rw [← h2] at h1
        have hA := At.block hbb
        exact .elem (.one rfl (.opts hDb hA h1))
      · exact .elem (.undef _)
    split
    · rename_i c hc
      rw [hc] at hob
      cases hob with | var h1 h2 _ h4 h5 => rw [hg] at h1; cases h1; exact key _ _ _ (hall _ h2 (Array.getElem?_eq_some_iff.1 h4).1) h4 h5
    · rename_i c hc
      rw [hc] at hob
      cases hob with | fvar h1 h2 h4 h5 => rw [hg] at h1; cases h1; exact key _ _ _ (hD _ h2) h4 h5
    · exact .elem (.undef _)
  · exact hv

theorem finish_sound (hT : TabOK P T) (h : Inv T w0 D0 N s a w D gv) {fn : Func} {v : AV Ty} (hr : finish T fn s = some v) (hn : ∀ vs, v = .tup vs → vs.noTups = true) {D' : Nat → Prop} (hD : ∀ b, D b → D' b) (hall : ∀ b, w0.Own b → b < w.heap.size → D' b) :
    ∃ x, (results fn a.tmps).run P w = .ok x w ∧ RepV T w D' gv v x := by
  have many : ∀ (l : List ResultVar) (v : AV Ty), resultsAV T s l = some v → v.noTups = true → ∃ xs : List Value, xs.length = l.length ∧
      (l.mapM (resF a.tmps)).run P w = .ok xs w ∧ RepT T w D' gv v xs := by
    intro l
    induction l with
    | nil => intro v h _; simp only [resultsAV, Option.some.injEq] at h; subst h; exact ⟨[], rfl, rfl, .nil⟩
    | cons r l ih =>
      intro v hv hn
      simp only [resultsAV] at hv
      split at hv
      case h_2 => cases hv
      rename_i v1 v2 e1 e2
      cases hv
      simp only [AV.noTups, Bool.and_eq_true] at hn
      obtain ⟨x, h1, h2⟩ := resultAV_sound hT h e1 hD hall
      obtain ⟨xs, h3, h4, h5⟩ := ih v2 e2 hn.2
      refine ⟨x :: xs, by simp [h3], ?_, .cons (h2.elem_inv fun vs e => by rw [e] at hn; cases hn.1) h5⟩
      rw [List.mapM_cons, Sem.run_bind]
      simp only [h1, Result.andThen_ok, Sem.run_bind, h4, Sem.run_pure]
  have arr : ∀ (xs : List Value), (fn.results.toList.mapM (resF a.tmps)).run P w = .ok xs w →
      (results fn a.tmps).run P w = .ok (if h : xs.toArray.size = 1 then xs.toArray[0] else .tuple xs.toArray) w := by
    intro xs hx
    have h0 : results fn a.tmps = (fn.results.mapM (resF a.tmps) >>= fun vs => pure (if h : vs.size = 1 then vs[0] else .tuple vs)) := by
      unfold results
      congr 2
    rw [h0, Sem.run_bind, Array.mapM_eq_mapM_toList]
    rw [map_eq_pure_bind, Sem.run_bind, hx]
    simp only [Result.andThen_ok, Sem.run_pure]
  unfold finish at hr
  split at hr
  · rename_i r hl
    cases hr0 : resultAV T s r with
    | none => rw [hr0] at hr; cases hr
    | some v0 =>
    rw [hr0] at hr
    simp only [Option.map_some, Option.some.injEq] at hr
    subst hr
    obtain ⟨x, h1, h2⟩ := resultAV_sound hT h hr0 hD hall
    refine ⟨x, ?_, optR_rep hT h hD hall h2⟩
    have := arr [x] (by
      rw [hl, List.mapM_cons, Sem.run_bind]
      rw [h1]
      simp)
    simpa using this
  · rename_i hl
    split at hr
    case h_2 => cases hr
    rename_i v1 e1
    cases hr
    obtain ⟨xs, h1, h2, h3⟩ := many _ v1 e1 (hn v1 rfl)
    refine ⟨.tuple xs.toArray, ?_, .tup h3⟩
    have := arr xs h2
    rw [this]
    have hne : ¬ xs.toArray.size = 1 := by
      intro e
      have : fn.results.toList.length = 1 := by rw [← h1]; simpa using e
      match hfl : fn.results.toList, this with
      | [r], _ => exact hl r hfl
    rw [dif_neg hne]

theorem repL_get : ∀ {args : List (AV Ty)} {vals : List Value}, RepL T w D args vals → args.length = vals.length ∧ ∀ (i : Nat) v, args[i]? = some v → ∃ x, vals[i]? = some x ∧ RepV T w D (fun _ => none) v x := by
  intro args vals h
  induction h with
  | nil => exact ⟨rfl, fun i v h => by simp at h⟩
  | cons h _ ih =>
    refine ⟨by simp [ih.1], fun i v hv => ?_⟩
    cases i with
    | zero =>
      simp only [List.getElem?_cons_zero, Option.some.injEq] at hv
      subst hv; exact ⟨_, rfl, h⟩
    | succ i => simpa using ih.2 i v (by simpa using hv)

theorem entry_sound {fn : Func} {args : List (AV Ty)} {vals : List Value} (hG : GlobOK T w) (hD : ∀ b, D b → b < w.heap.size) (h : RepL T w D args vals) :
    Inv T ⟨w, fun _ => False, fun _ => none⟩ D (vals.toArray ++ Array.replicate (fn.ntmps - vals.toArray.size) Go.undef).size (entry args) { tmps := vals.toArray ++ Array.replicate (fn.ntmps - vals.toArray.size) Go.undef, defers := [] } w D (fun _ => none) := by
  obtain ⟨hlen, hget⟩ := repL_get h
  refine { defers := rfl, size := rfl, env := fun t => ?_, obj := fun o => .none rfl, apart := fun _ _ _ _ _ _ h => (by cases h), grown := ⟨rfl, rfl, rfl, Nat.le_refl _, fun _ _ _ => rfl⟩, dold := fun b h => h, dlt := hD, dnew := fun b h => .inl h, glob := ⟨hG, fun _ _ h => h⟩, pins := fun _ _ h => (by cases h) }
  simp only [entry]
  cases hv : args[t]? with
  | none => rw [List.getD_eq_getElem?_getD, hv]; exact .elem (.undef _)
  | some v =>
    obtain ⟨x, hx, hr⟩ := hget t v hv
    rw [List.getD_eq_getElem?_getD, hv]
    have hlt := (List.getElem?_eq_some_iff.1 hx).1
    have : (vals.toArray ++ Array.replicate (fn.ntmps - vals.toArray.size) Go.undef).getD t Go.undef = x := by
      rw [Array.getD_eq_getD_getElem?, Array.getElem?_append_left (by simpa using hlt)]
      simp [hx]
    simp only [this]
    exact hr

theorem dsts_mono {n m : Nat} (h : n ≤ m) : ∀ c, dsts n c = true → dsts m c = true := by
  intro c
  induction c with
  | region id ops draw =>
    intro hd
    refine List.all_eq_true.2 fun o ho => ?_
    have := List.all_eq_true.1 hd o ho
    cases hdst : o.dst with
    | none => rfl
    | some d => rw [hdst] at this; simp only [Nat.blt_eq] at this ⊢; omega
  | seq x y i1 i2 => intro hd; simp only [dsts, Bool.and_eq_true] at hd ⊢; exact ⟨i1 hd.1, i2 hd.2⟩
  | cond c x y i1 i2 => intro hd; simp only [dsts, Bool.and_eq_true] at hd ⊢; exact ⟨i1 hd.1, i2 hd.2⟩
  | block id b ih => intro hd; exact ih hd
  | loop b ih => intro hd; exact ih hd
  | scope b ih => intro hd; exact ih hd
  | _ => intro _; rfl

/-- what is asked of an answer that is handed on -/
def AV.out (al : Bool) (T : Tab Ty) (v : AV Ty) : Prop := v.ids = [] ∧ (∀ vs, v = .tup vs → vs.noTups = true) ∧ (al = false → v.flat T = true)

/-- a call, by what the abstract run of the body comes to -/
theorem xf_calls (hT : TabOK P T) (hS : SpecsOK P T specs) {f : FuncId} {fn : Func} {c : Code} (hf : P.funcs[f]? = some fn) (hb : fn.body = some c) (hd : dsts fn.ntmps c = true) (hn : nodupB ((loopsIn c).map firstRegion) = true)
    (hL : LSOK specs keeps T fn lsums) {al : Bool} {k' : Nat} {args : List (AV Ty)} {B : Type} {dec : AV Ty → Option B} {y : B} {r : AV Ty} (hx : XF specs keeps lsums T k' fn args B dec = some y) (hdec : ∀ v, dec v = some y → v = r) (hout : r.out al T)
    {w : World} {D : Nat → Prop} {vals : List Value} (hG : GlobOK T w) (hD : ∀ b, D b → b < w.heap.size) (hrep : RepL T w D args vals) :
    Calls P f vals.toArray w fun e w' => ∃ x, e = .returned x ∧ RepV T w' (fun b => (al = true ∧ D b) ∨ (w.heap.size ≤ b ∧ b < w'.heap.size)) (fun _ => none) r x ∧ w.grownBy w' none := by
  obtain ⟨hids, hnt, hfl⟩ := hout
  have hX : ∃ e s', Run specs keeps T k' c (entry args) = some (e, s') ∧ (∀ i, e ≠ .exit i) ∧ finish T fn s' = some r := by
    unfold XF at hx
    rw [hb] at hx
    simp only at hx
    obtain ⟨e, s', h1, h2⟩ := X_run hL c (loopsAt_of hb hn) _ _ _ _ hx
    refine ⟨e, s', h1, ?_, ?_⟩
    · intro i e; subst e; cases h2
    · cases e with
      | exit i => cases h2
      | normal =>
        simp only at h2
        cases hfi : finish T fn s' with
        | none => rw [hfi] at h2; cases h2
        | some v => rw [hfi] at h2; rw [hdec v h2]
      | ret =>
        simp only at h2
        cases hfi : finish T fn s' with
        | none => rw [hfi] at h2; cases h2
        | some v => rw [hfi] at h2; rw [hdec v h2]
  obtain ⟨e, s', hrun, hne, hfin⟩ := hX
  refine calls_of_wp hf hb ?_
  have hent := entry_sound (T := T) (fn := fn) hG hD hrep
  refine run_sound (w0 := ⟨w, fun _ => False, fun _ => none⟩) (D0 := D) hT hS (fun _ _ _ h => by cases h) c (dsts_mono (by simp; omega) c hd) ⟨_, _, hent⟩ hrun ?_
  rintro a' w' ⟨D1, gv, h⟩
  obtain ⟨x, h1, h2⟩ := finish_sound (D' := fun b => D b ∨ (w.heap.size ≤ b ∧ b < w'.heap.size)) hT h hfin hnt (fun b hb => (h.dnew b hb).imp id fun h2 => ⟨h2.resolve_left id, h.dlt b hb⟩) (fun b h1 h2 => .inr ⟨h1.resolve_left id, h2⟩)
  have h3 : RepV T w' (fun b => (al = true ∧ D b) ∨ (w.heap.size ≤ b ∧ b < w'.heap.size)) (fun _ => none) r x := by
    cases hal : al with
    | true => exact (h2.regv hT hids).mono (fun b hb => hb.imp (fun h => ⟨rfl, h⟩) id) (fun _ _ => rfl) (fun _ _ h => h)
    | false => exact h2.flat hT (hfl hal)
  have hbody : a'.defers = [] ∧ ∃ v, (results fn a'.tmps).run P w' = .ok v w' ∧ ∃ x, Ending.returned v = .returned x ∧ RepV T w' (fun b => (al = true ∧ D b) ∨ (w.heap.size ≤ b ∧ b < w'.heap.size)) (fun _ => none) r x ∧ w.grownBy w' none :=
    ⟨h.defers, x, h1, x, rfl, h3, h.grown.grownBy fun _ h => h⟩
  cases e with
  | normal => exact hbody
  | ret => exact hbody
  | exit i => exact absurd rfl (hne i)

theorem fn_sound (hT : TabOK P T) (hS : SpecsOK P T specs) {f : FuncId} {fn : Func} {c : Code} (hf : P.funcs[f]? = some fn) (hb : fn.body = some c) (hd : dsts fn.ntmps c = true) (hn : nodupB ((loopsIn c).map firstRegion) = true)
    (hL : LSOK specs keeps T fn lsums) {sp : FSpec Ty} (hsp : ∀ k args r, sp.runK k args (AV Ty) some = some r → ∃ (k' : Nat) (B : Type) (dec : AV Ty → Option B) (y : B), XF specs keeps lsums T k' fn args B dec = some y ∧ (∀ v, dec v = some y → v = r) ∧ r.out sp.alias T) (hh : sp.heap = false) (hp : sp.prim = none) : FOK P T f sp := by
  refine ⟨?_, HOK.none hh, POK.none hp⟩
  intro k args r hr w D vals hG hD hrep
  obtain ⟨k', B, dec, y, hx, hdec, hout⟩ := hsp k args r hr
  exact xf_calls hT hS hf hb hd hn hL hx hdec hout hG hD hrep

/-! ### a function that takes or gives objects -/

theorem resultRaw_sound (hT : TabOK P T) (h : Inv T w0 D0 N s a w D gv) {r : ResultVar} {v : AV Ty} (hr : resultRaw T s r = some v) :
    ∃ x, ((resF a.tmps r)).run P w = .ok x w ∧ RepV T w D gv v x := by
  cases r with
  | tmp t =>
    simp only [resultRaw, Option.some.injEq] at hr
    subst hr
    exact ⟨_, rfl, h.env t⟩
  | cell c t =>
    simp only [resultRaw] at hr
    split at hr
    case h_2 => cases hr
    rename_i o ho
    have hv := h.env c
    rw [ho] at hv
    obtain ⟨b, hgo, _, hx⟩ := hv.ptr_inv
    have hobj := h.obj o
    have key : ∀ c0 : AV Ty, (cond (fits T t c0) (some c0) none) = some v → (∃ cs e, w.heap[b]? = some (.cells cs e (0, 0)) ∧ RepC T w D gv c0 cs.toList) →
        ∃ x, (do loadVar t (← asAddr (a.tmps.getD c Go.undef)) : Sem Value).run P w = .ok x w ∧ RepV T w D gv v x := by
      intro c0 hr ⟨cs, e, hw, hrep⟩
      cases hf : fits T t c0 with
      | false => rw [hf] at hr; cases hr
      | true =>
        rw [hf] at hr
        simp only [cond_true, Option.some.injEq] at hr
        subst hr
        have hat : At w b (poff []) cs.toList := by
          intro j v hj
          simp only [poff, Nat.zero_add]
          simp only [World.cell?, hw]
          simpa using hj
        obtain ⟨x, h1, h2⟩ := load_run hT hf hat hrep
        refine ⟨x, ?_, h2⟩
        rw [hx, Sem.run_bind]
        simpa [asAddr] using h1
    split at hr
    · rename_i c0 hob
      rw [hob] at hobj
      cases hobj with
      | var k1 k2 k3 k4 k5 => rw [hgo] at k1; cases k1; exact key c0 hr ⟨_, _, k4, k5⟩
    · rename_i c0 hob
      rw [hob] at hobj
      cases hobj with
      | fvar k1 k2 k3 k4 => rw [hgo] at k1; cases k1; exact key c0 hr ⟨_, _, k3, k4⟩
    · cases hr

/-- parts of rows that are given back, as rows -/
theorem truncT_inv (hT : TabOK P T) : ∀ (rs : List ResultVar) {s : St Ty} {gv : Nat → Option GObj}, Inv T w0 D0 N s a w D gv → ∃ gv', Inv T w0 D0 N (truncT s rs) a w D gv' := by
  intro rs
  induction rs with
  | nil => intro s gv h; exact ⟨gv, h⟩
  | cons r rs ih =>
    intro s gv h
    cases r with
    | cell c t => exact ih h
    | tmp t =>
      unfold truncT
      split
      case h_2 => exact ih h
      rename_i o k henv
      split
      case h_2 => exact ih h
      rename_i e xs hobj hdn
      · have hdo : 90000 + t ≠ o := fun e0 => by rw [e0, hobj] at hdn; cases hdn
        have hv := h.env t
        rw [henv] at hv
        have hv := hv.one_inv rfl (by simp) (by simp) (by simp)
        generalize hX : a.tmps.getD t Go.undef = X at hv
        have hob := h.obj o
        rw [hobj] at hob
        cases hob with
        | @row _ _ g cap flat h1 h2 h3 h4 =>
          have hkl : k ≤ xs.length := by
            cases hv with
            | subz _ q => omega
            | sub0 _ => omega
            | sub hg hl _ => rw [hg] at h1; cases h1; omega
          have new : ∃ g' cap' flat', X = rowVal g' k cap' ∧ RepC T w D gv (encs T e (xs.take k)) flat' ∧ w.ownsRow 0 e (T.size e) (rowVal g' k cap') k flat' ∧ (∀ b, g' = some b → g = some b) := by
            cases hv with
            | subz _ q => omega
            | sub0 hg =>
              refine ⟨none, 0, [], rfl, ?_, World.ownsRow_nil w _ _ _, fun b hb => by cases hb⟩
              rw [List.take_zero]
              simpa [encs, listAV] using RepC.nil
            | @sub _ _ _ b nn cap1 sz1 hg hl hcap =>
              rw [hg] at h1
              cases h1
              rcases h3.2 with ⟨hvv, _⟩ | ⟨b', cap'', cur, hvv, hbb, hcur, hnc, hcm, hcs, htake⟩
              · simp [rowVal] at hvv
              · simp only [rowVal, Option.map_some, Value.slice.injEq, Option.some.injEq, Addr.mk.injEq, and_true, true_and] at hvv
                obtain ⟨rfl, rfl⟩ := hvv
                obtain ⟨c1, c2, q1, q2, q3, _⟩ := encs_split hT xs flat h2 k hkl
                refine ⟨some b, cap, c1, by simp [rowVal], q3, ⟨q2, .inr ⟨b, cap, cur, rfl, hbb, hcur, by omega, hcm, hcs, ?_⟩⟩, fun b' hb => hb⟩
                have : cur.toList.take (k * T.size e) = (cur.toList.take (xs.length * T.size e)).take (k * T.size e) := by
                  rw [List.take_take, Nat.min_eq_left (Nat.mul_le_mul_right _ hkl)]
                rw [this, htake, q1, ← q2]
                exact List.take_left
          obtain ⟨g', cap', flat', hXv, hrep, hown, hgg⟩ := new
          have hkill := h.kill o
          have hdn' : (Obj.upd s.obj [(o, .dead)]) (90000 + t) = .none := by rw [upd1, if_neg hdo, hdn]
          have hlen : (xs.take k).length = k := by simp; omega
          have hn := gv_none h hdn
          have hnew := Inv.new hkill hdn' (g := .row g' k cap' (T.size e)) (x := .row e (xs.take k)) (.row (by rw [hlen]; exact gset_same _ _ _) (hrep.mono (fun _ h => h) (fun _ _ => rfl) (gset_mono hn)) (by rw [hlen]; exact hown) fun b hb => h4 b (hgg b hb)) (fun o1 g1 b ho1 hl1 hg1 hb1 hgb => by
            have hgb' : g = some b := hgg b (by simpa [GObj.blk] using hgb)
            simp only [upd1] at hl1
            by_cases e0 : o1 = o
            · rw [if_pos e0] at hl1; cases hl1
            · rw [if_neg e0] at hl1
              exact h.apart o1 o g1 _ b e0 hl1 (by rw [hobj]; rfl) hg1 h1 hb1 (by simpa [GObj.blk] using hgb'))
          have hup : Obj.upd s.obj [(90000 + t, .row e (xs.take k)), (o, .dead)] = Obj.upd (Obj.upd s.obj [(o, .dead)]) [(90000 + t, .row e (xs.take k))] := by
            funext q
            have : Obj.upd s.obj [(90000 + t, .row e (xs.take k)), (o, .dead)] q = Obj.upd (Obj.upd s.obj [(90000 + t, .row e (xs.take k))]) [(o, .dead)] q := rfl
            rw [this, upd1, upd1, upd1, upd1]
            by_cases k1 : q = o
            · subst k1; simp [Ne.symm hdo]
            · simp [k1]
          refine ih (s := s.put (some t) (.row (90000 + t)) [(90000 + t, .row e (xs.take k)), (o, .dead)]) (gv := gset gv (90000 + t) (.row g' k cap' (T.size e))) ?_
          refine { defers := hnew.defers, size := hnew.size, env := fun i => ?_, obj := fun i => ?_, apart := ?_, grown := hnew.grown, dold := hnew.dold, dlt := hnew.dlt, dnew := hnew.dnew, glob := hnew.glob, pins := hnew.pins }
          · show RepV T w D _ (cond (i == t) (.row (90000 + t)) (s.env i)) _
            by_cases e0 : i = t
            · subst e0
              rw [beq_self_eq_true, cond_true, hX, hXv]
              exact .elem (.one rfl (.row (gset_same _ _ _)))
            · rw [show (i == t) = false by simpa using e0, cond_false]
              exact hnew.env i
          · have := hnew.obj i
            show ObjOK T w w0.Own D _ i (Obj.upd s.obj [(90000 + t, .row e (xs.take k)), (o, .dead)] i)
            rw [hup]
            exact this
          · have := hnew.apart
            show ∀ o1 o2 g1 g2 b, o1 ≠ o2 → (Obj.upd s.obj [(90000 + t, .row e (xs.take k)), (o, .dead)] o1).live = true → (Obj.upd s.obj [(90000 + t, .row e (xs.take k)), (o, .dead)] o2).live = true → _
            rw [hup]
            exact this

theorem finishR_sound (hT : TabOK P T) (h : Inv T w0 D0 N s a w D gv) {np : Nat} (hp : ∀ j b, w0.pin j = some b → j < np) {fn : Func} {n : NSt Ty} (hr : finishR T np fn s = some n) :
    ∃ x gv', (results fn a.tmps).run P w = .ok x w ∧ Inv T w0 D0 1 (n.toSt [0]) { tmps := #[x], defers := [] } w D gv' := by
  have many : ∀ (l : List ResultVar) (v : AV Ty), resultsRaw T s l = some v → v.noTups = true → ∃ xs : List Value, xs.length = l.length ∧
      (l.mapM (resF a.tmps)).run P w = .ok xs w ∧ RepT T w D gv v xs := by
    intro l
    induction l with
    | nil => intro v h _; simp only [resultsRaw, Option.some.injEq] at h; subst h; exact ⟨[], rfl, rfl, .nil⟩
    | cons r l ih =>
      intro v hv hn
      simp only [resultsRaw] at hv
      split at hv
      case h_2 => cases hv
      rename_i v1 v2 e1 e2
      cases hv
      simp only [AV.noTups, Bool.and_eq_true] at hn
      obtain ⟨x, h1, h2⟩ := resultRaw_sound hT h e1
      obtain ⟨xs, h3, h4, h5⟩ := ih v2 e2 hn.2
      refine ⟨x :: xs, by simp [h3], ?_, .cons (h2.elem_inv fun vs e => by rw [e] at hn; cases hn.1) h5⟩
      rw [List.mapM_cons, Sem.run_bind]
      simp only [h1, Result.andThen_ok, Sem.run_bind, h4, Sem.run_pure]
  have arr : ∀ (xs : List Value), (fn.results.toList.mapM (resF a.tmps)).run P w = .ok xs w →
      (results fn a.tmps).run P w = .ok (if h : xs.toArray.size = 1 then xs.toArray[0] else .tuple xs.toArray) w := by
    intro xs hx
    have h0 : results fn a.tmps = (fn.results.mapM (resF a.tmps) >>= fun vs => pure (if h : vs.size = 1 then vs[0] else .tuple vs)) := by
      unfold results
      congr 2
    rw [h0, Sem.run_bind, Array.mapM_eq_mapM_toList]
    rw [map_eq_pure_bind, Sem.run_bind, hx]
    simp only [Result.andThen_ok, Sem.run_pure]
  have fin : ∀ (v : AV Ty) (x : Value), (results fn a.tmps).run P w = .ok x w → RepV T w D gv v x → n = normW (pinMets np) [v] s →
      ∃ x gv', (results fn a.tmps).run P w = .ok x w ∧ Inv T w0 D0 1 (n.toSt [0]) { tmps := #[x], defers := [] } w D gv' := by
    intro v x hx hv hn
    obtain ⟨gv', h'⟩ := normW_inv hT h hp (vs := [v]) (xs := fun _ => x) (keep := [0]) (a' := { tmps := #[x], defers := [] }) (N' := 1) (fun i u hu => by
      cases i with
      | zero => simp only [List.getElem?_cons_zero, Option.some.injEq] at hu; subst hu; exact hv
      | succ i => simp at hu) rfl rfl (fun i t hk => by
      cases i with
      | zero => simp only [List.getElem?_cons_zero, Option.some.injEq] at hk; subst hk; rfl
      | succ i => simp at hk)
    rw [← hn] at h'
    exact ⟨x, gv', hx, h'⟩
  unfold finishR at hr
  split at hr
  · rename_i r hl
    split at hr
    case h_2 => cases hr
    rename_i v hv
    obtain ⟨x, h1, h2⟩ := resultRaw_sound hT h hv
    have := arr [x] (by
      rw [hl, List.mapM_cons, Sem.run_bind]
      rw [h1]
      simp)
    exact fin v x (by simpa using this) h2 (Option.some.inj hr).symm
  · rename_i hl
    split at hr
    case h_2 => cases hr
    rename_i v1 e1
    cases hn : v1.noTups with
    | false => rw [hn] at hr; cases hr
    | true =>
    rw [hn] at hr
    obtain ⟨xs, h1, h2, h3⟩ := many _ v1 e1 hn
    have := arr xs h2
    have hne : ¬ xs.toArray.size = 1 := by
      intro e
      have : fn.results.toList.length = 1 := by rw [← h1]; simpa using e
      match hfl : fn.results.toList, this with
      | [r], _ => exact hl r hfl
    rw [dif_neg hne] at this
    exact fin (.tup v1) _ this (.tup h3) (Option.some.inj hr).symm

theorem settleR_inv (hT : TabOK P T) : ∀ (rs : List ResultVar) {s : St Ty} {D : Nat → Prop}, Inv T w0 D0 N s a w D gv → ∃ D', (∀ b, D b → D' b) ∧ Inv T w0 D0 N (settleR T s rs) a w D' gv := by
  intro rs
  induction rs with
  | nil => intro s D h; exact ⟨D, fun _ h => h, h⟩
  | cons r rs ih =>
    intro s D h
    cases r with
    | cell c t =>
      unfold settleR
      split
      case h_2 => exact ih h
      rename_i o henv
      split
      case h_2 => exact ih h
      rename_i c0 hobj
      cases hc : c0.shares.contains o with
      | true => exact ih h
      | false =>
        rw [cond_false]
        have hno : o ∉ c0.shares := by simpa using hc
        obtain ⟨D1, hD, hsh, _, hinv⟩ := h.freeze hT c0.shares
        have hob := h.obj o
        rw [hobj] at hob
        have hob1 := hinv.obj o
        simp only at hob1
        have hsame : Obj.upd s.obj (c0.shares.map (freeze s.obj)) o = .var c0 := by
          rcases upd_cases o (c0.shares.map (freeze s.obj)) s.obj with ⟨_, q⟩ | ⟨x, q, _⟩
          · rw [q, hobj]
          · obtain ⟨p, hp, e⟩ := List.mem_map.1 q
            simp only [freeze, Prod.mk.injEq] at e
            rw [e.1] at hp
            exact absurd hp hno
        rw [hsame] at hob1
        cases hob with
        | var k1 k2 k3 k4 k5 =>
          cases hob1 with
          | var m1 m2 m3 m4 m5 =>
            rw [k1] at m1
            cases m1
            rw [k4] at m4
            cases m4
            have hset := settle_rep hT h.obj hD k5 hsh
            have := hinv.write (o1 := o) (x := .var (settle T s.obj c0)) (by simp only; rw [hsame]; rfl) k1 rfl ⟨rfl, rfl, rfl, Nat.le_refl _, fun _ _ _ => rfl⟩ (.var k1 k2 m3 k4 hset)
            obtain ⟨D2, hD2, h2⟩ := ih this
            exact ⟨D2, fun b hb => hD2 b (hD b hb), h2⟩
    | tmp t =>
      unfold settleR
      obtain ⟨D1, hD, hsh, _, hinv⟩ := h.freeze hT (s.env t).shares
      have hset := settleV_rep hT h.obj hD (h.env t) hsh
      have h1 : Inv T w0 D0 N { env := fun i => cond (i == t) (settle T s.obj (s.env t)) (s.env i), obj := Obj.upd s.obj ((s.env t).shares.map (freeze s.obj)) } a w D1 gv := by
        refine { defers := hinv.defers, size := hinv.size, env := fun i => ?_, obj := hinv.obj, apart := hinv.apart, grown := hinv.grown, dold := fun b hb => hD b (h.dold b hb), dlt := hinv.dlt, dnew := hinv.dnew, glob := hinv.glob, pins := hinv.pins }
        show RepV T w D1 gv (cond (i == t) (settle T s.obj (s.env t)) (s.env i)) _
        by_cases e0 : i = t
        · subst e0
          rw [beq_self_eq_true, cond_true]
          exact hset
        · rw [show (i == t) = false by simpa using e0, cond_false]
          exact hinv.env i
      obtain ⟨D2, hD2, h2⟩ := ih h1
      exact ⟨D2, fun b hb => hD2 b (hD b hb), h2⟩

theorem finishH_sound (hT : TabOK P T) (h : Inv T w0 D0 N s a w D gv) {np : Nat} (hp : ∀ j b, w0.pin j = some b → j < np) {fn : Func} {n : NSt Ty} (hr : finishH T np fn s = some n) :
    ∃ x D' gv', (results fn a.tmps).run P w = .ok x w ∧ Inv T w0 D0 1 (n.toSt [0]) { tmps := #[x], defers := [] } w D' gv' := by
  obtain ⟨gv0, h0⟩ := truncT_inv hT fn.results.toList h
  unfold finishH at hr
  cases hs : T.stl.contains (fn.resultTypes.toList.headD 0, fn.ntmps) with
  | false =>
    rw [hs, cond_false] at hr
    obtain ⟨x, gv', h1, h2⟩ := finishR_sound hT h0 hp hr
    exact ⟨x, D, gv', h1, h2⟩
  | true =>
    rw [hs, cond_true] at hr
    obtain ⟨D1, _, h3⟩ := settleR_inv hT fn.results.toList h0
    obtain ⟨x, gv', h1, h2⟩ := finishR_sound hT h3 hp hr
    exact ⟨x, D1, gv', h1, h2⟩

theorem hn_sound (hT : TabOK P T) (hS : SpecsOK P T specs) {f : FuncId} {fn : Func} {c : Code} (hf : P.funcs[f]? = some fn) (hb : fn.body = some c) (hd : dsts fn.ntmps c = true) (hn : nodupB ((loopsIn c).map firstRegion) = true)
    (hL : LSOK specs keeps T fn lsums) {np : Nat} {n n' : NSt Ty} (hnp : ∀ i, np ≤ (keeps i).pins) {k' : Nat} {B : Type} {dec : NSt Ty → Option B} {y : B} (hx : XH specs keeps lsums T k' np fn n B dec = some y) (hdec : ∀ v, dec v = some y → v = n')
    (B0 : Base) (D : Nat → Prop) (gv : Nat → Option GObj) (vals : List Value) (hpin : ∀ j b, B0.pin j = some b → j < np)
    (hent : Inv T B0 D vals.length (n.toSt (List.range vals.length)) { tmps := vals.toArray, defers := [] } B0.world D gv) (hlen : n.tmps.length = vals.length) :
    Calls P f vals.toArray B0.world fun e w' => ∃ x D' gv', e = .returned x ∧ Inv T B0 D 1 (n'.toSt [0]) { tmps := #[x], defers := [] } w' D' gv' := by
  have hX : ∃ e s', Run specs keeps T k' c (n.toSt (List.range n.tmps.length)) = some (e, s') ∧ (∀ i, e ≠ .exit i) ∧ finishH T np fn s' = some n' := by
    unfold XH at hx
    rw [hb] at hx
    simp only at hx
    obtain ⟨e, s', h1, h2⟩ := X_run hL c (loopsAt_of hb hn) _ _ _ _ hx
    refine ⟨e, s', h1, ?_, ?_⟩
    · intro i e; subst e; cases h2
    · cases e with
      | exit i => cases h2
      | normal =>
        simp only at h2
        cases hfi : finishH T np fn s' with
        | none => rw [hfi] at h2; cases h2
        | some v => rw [hfi] at h2; rw [hdec v h2]
      | ret =>
        simp only at h2
        cases hfi : finishH T np fn s' with
        | none => rw [hfi] at h2; cases h2
        | some v => rw [hfi] at h2; rw [hdec v h2]
  obtain ⟨e, s', hrun, hne, hfin⟩ := hX
  rw [hlen] at hrun
  refine calls_of_wp hf hb ?_
  have hent' : Inv T B0 D (vals.toArray ++ Array.replicate (fn.ntmps - vals.toArray.size) Go.undef).size (n.toSt (List.range vals.length)) { tmps := vals.toArray ++ Array.replicate (fn.ntmps - vals.toArray.size) Go.undef, defers := [] } B0.world D gv := by
    refine { defers := rfl, size := rfl, env := fun t => ?_, obj := hent.obj, apart := hent.apart, grown := hent.grown, dold := hent.dold, dlt := hent.dlt, dnew := hent.dnew, glob := hent.glob, pins := hent.pins }
    rcases Nat.lt_or_ge t vals.length with ht | ht
    · have := hent.env t
      have e1 : (vals.toArray ++ Array.replicate (fn.ntmps - vals.toArray.size) Go.undef).getD t Go.undef = vals.toArray.getD t Go.undef := by
        rw [Array.getD_eq_getD_getElem?, Array.getElem?_append_left (by simpa using ht), Array.getD_eq_getD_getElem?]
      simp only at this ⊢
      rw [e1]
      exact this
    · have : (n.toSt (List.range vals.length)).env t = .undef := by
        show (((List.range vals.length).zip n.tmps).lookup t).getD .undef = _
        cases hl : ((List.range vals.length).zip n.tmps).lookup t with
        | none => rfl
        | some u =>
          obtain ⟨i, q1, _⟩ := zip_lookup _ _ _ _ hl
          have hi : i < vals.length := by have := (List.getElem?_eq_some_iff.1 q1).1; simpa using this
          rw [List.getElem?_range hi] at q1
          have : i = t := by simpa using q1
          omega
      rw [this]
      exact .elem (.undef _)
  refine run_sound (w0 := B0) (D0 := D) hT hS (fun i j b hj => Nat.lt_of_lt_of_le (hpin j b hj) (hnp i)) c (dsts_mono (by simp; omega) c hd) ⟨_, _, hent'⟩ hrun ?_
  rintro a' w' ⟨D1, gv1, h⟩
  obtain ⟨x, D2, gv2, h1, h2⟩ := finishH_sound hT h hpin hfin
  have hbody : a'.defers = [] ∧ ∃ v, (results fn a'.tmps).run P w' = .ok v w' ∧ ∃ x D' gv', Ending.returned v = .returned x ∧ Inv T B0 D 1 (n'.toSt [0]) { tmps := #[x], defers := [] } w' D' gv' :=
    ⟨h.defers, x, h1, x, D2, gv2, rfl, h2⟩
  cases e with
  | normal => exact hbody
  | ret => exact hbody
  | exit i => exact absurd rfl (hne i)
end
end V
namespace V
open Go
section
variable {Ty : Nat → Type}

/-! ### a table of types, laid out as a chain of tests -/

def pickDen {α β : Type} (b : Bool) (x : Den Ty α) (y : Den Ty β) : Den Ty (cond b α β) := match b with
  | true => x
  | false => y

theorem pick_all {Q : (α : Type) → Den Ty α → Prop} {α β : Type} {b : Bool} {x : Den Ty α} {y : Den Ty β} (h1 : b = true → Q α x) (h2 : b = false → Q β y) : Q (cond b α β) (pickDen b x y) := by
  cases b with
  | true => exact h1 rfl
  | false => exact h2 rfl

def unitDen : Den Ty Unit := { enc := fun _ => .bool false, dec := fun _ => none, dflt := (), spec := fun _ _ h => by cases h }

/-- an address, of which nothing is told but that there is none -/
def ptrDen : Den Ty Unit := { enc := fun _ => .nilp, dec := fun v => match v with | .nilp => some () | _ => none, dflt := (), spec := fun v _ h => by split at h <;> cases h; rfl }

/-! ### what may be looked up -/

/-- closed values against cells -/
def eat (T : Tab Ty) : Nat → AV Ty → List Value → Option (List Value)
  | 0, _, _ => none
  | f + 1, v, cs => match v, cs with
    | .bool b, .bool b' :: r => cond (b == b') (some r) none
    | .int k n, .int k' n' :: r => cond (decide (k = k') && decide (n = n')) (some r) none
    | .str s, .string s' :: r => cond (decide (s = s')) (some r) none
    | .nilp, .pointer none :: r => some r
    | .opt _ none, .pointer none :: r => some r
    | .nils _, .slice none 0 0 :: r => some r
    | .slice _ [], .slice none 0 0 :: r => some r
    | .err .nil, .nilIface :: r => some r
    | .nil, r => some r
    | .cons h t, cs => match eat T f h cs with
      | some r => eat T f t r
      | none => none
    | .arr t n xs, cs => cond (xs.length == n) (eat T f (encs T t xs) cs) none
    | _, _ => none

theorem eat_rep {T : Tab Ty} {w : World} {D : Nat → Prop} {gv : Nat → Option GObj} : ∀ (f : Nat) (v : AV Ty) (cs r : List Value), eat T f v cs = some r → ∃ c, cs = c ++ r ∧ RepC T w D gv v c := by
  intro f
  induction f with
  | zero => intro v cs r h; cases h
  | succ f ih =>
    intro v cs r h
    unfold eat at h
    split at h
    · rename_i b b' r'
      cases hb : b == b' with
      | false => rw [hb] at h; cases h
      | true => rw [hb] at h; cases h; rw [beq_iff_eq] at hb; subst hb; exact ⟨_, rfl, .bool _⟩
    · rename_i k n k' n' r'
      cases hb : decide (k = k') && decide (n = n') with
      | false => rw [hb] at h; cases h
      | true =>
        rw [hb] at h; cases h
        simp only [Bool.and_eq_true, decide_eq_true_eq] at hb
        obtain ⟨rfl, rfl⟩ := hb
        exact ⟨_, rfl, .int _ _⟩
    · rename_i s s' r'
      cases hb : decide (s = s') with
      | false => rw [hb] at h; cases h
      | true => rw [hb] at h; cases h; have := of_decide_eq_true hb; subst this; exact ⟨_, rfl, .str _⟩
    · cases h; exact ⟨_, rfl, .nilp⟩
    · cases h; exact ⟨_, rfl, .optn _⟩
    · cases h; exact ⟨_, rfl, .nils _⟩
    · cases h; exact ⟨_, rfl, .snil _ _ _ fun _ => rfl⟩
    · cases h; exact ⟨_, rfl, .err .nil⟩
    · cases h; exact ⟨[], rfl, .nil⟩
    · rename_i a b cs'
      split at h
      case h_2 => cases h
      rename_i r1 h1
      obtain ⟨c1, rfl, k1⟩ := ih _ _ _ h1
      obtain ⟨c2, rfl, k2⟩ := ih _ _ _ h
      exact ⟨c1 ++ c2, by rw [List.append_assoc], .cons k1 k2⟩
    · rename_i cs' t n xs
      cases hb : xs.length == n with
      | false => rw [hb] at h; cases h
      | true =>
        rw [hb] at h
        obtain ⟨c1, h1, k1⟩ := ih _ _ _ h
        exact ⟨c1, h1, .arr (by simpa using hb) k1⟩
    · cases h

theorem eat_all {T : Tab Ty} {w : World} {D : Nat → Prop} {gv : Nat → Option GObj} {f : Nat} {v : AV Ty} {cs : List Value} (h : eat T f v cs = some []) : RepC T w D gv v cs := by
  obtain ⟨c, rfl, hr⟩ := eat_rep (w := w) (D := D) (gv := gv) f v cs [] h
  simpa using hr

/-- a type's zero value, checked -/
def zeroB (T : Tab Ty) (t : Nat) (d : AV Ty) (i : TypeInfo) : Bool :=
  match i.zero with
  | none => false
  | some z => (match (T.zero t).isAgg, z with
      | true, .agg cs => match eat T 100000 (T.zero t) cs.toList with
        | some [] => true
        | _ => false
      | false, z => match eat T 100000 (T.zero t) [z] with
        | some [] => true
        | _ => false
      | _, _ => false) && (match eat T 100000 d z.cells.toList with
        | some [] => true
        | _ => false)

def fieldsB (fs : List Field) (l : List (Nat × Nat)) : Bool :=
  match fs, l with
  | [], [] => true
  | f :: fs, p :: l => f.type == p.1 && f.offset == p.2 && fieldsB fs l
  | _, _ => false
theorem fieldsB_spec : ∀ (fs : List Field) (l : List (Nat × Nat)), fieldsB fs l = true → fs.map (fun f => (f.type, f.offset)) = l := by
  intro fs
  induction fs with
  | nil => intro l h; cases l with
    | nil => rfl
    | cons p l => cases h
  | cons f fs ih =>
    intro l h
    cases l with
    | nil => cases h
    | cons p l =>
      simp only [fieldsB, Bool.and_eq_true, beq_iff_eq] at h
      obtain ⟨⟨h1, h2⟩, h3⟩ := h
      simp only [List.map_cons, h1, h2, ih l h3]

def tdB (P : Program) (t : Nat) : TD → Bool
  | .other => true
  | td => match P.underlying t with
    | none => false
    | some d => match td, d with
      | .bool, .bool => true
      | .int k, .int k' => decide (k' = k)
      | .str, .string => true
      | .ptr e, .pointer e' => e' == e
      | .optr e, .pointer e' => e' == e
      | .slice e, .slice e' => e' == e
      | .arr n e, .array n' e' => n' == n && e' == e
      | .spread n e, .array n' e' => n' == n && e' == e
      | .struct fs, .struct l => fieldsB l.toList fs
      | .iface, .interface _ => true
      | .map k, .map k' e => k' == k && (match P.underlying k with
        | some (.int .i64) => true
        | _ => false) && (match P.info? e with
        | some i => i.zero.isSome
        | none => false)
      | _, _ => false

theorem tdB_ok {P : Program} {t : Nat} {td : TD} (h : tdB P t td = true) : TDok P t td := by
  unfold tdB at h
  cases td with
  | other => trivial
  | map k =>
    simp only at h
    cases hu : P.underlying t with
    | none => rw [hu] at h; cases h
    | some d =>
      rw [hu] at h
      cases d with
      | map k' e =>
        simp only [Bool.and_eq_true, beq_iff_eq] at h
        obtain ⟨⟨rfl, h2⟩, h3⟩ := h
        cases hi : P.info? e with
        | none => rw [hi] at h3; cases h3
        | some i =>
          rw [hi] at h3
          obtain ⟨z, hz⟩ := Option.isSome_iff_exists.1 h3
          refine ⟨e, i, z, hu, ?_, hi, hz⟩
          split at h2
          · assumption
          · cases h2
      | _ => cases h
  | _ =>
    simp only at h
    cases hu : P.underlying t with
    | none => rw [hu] at h; cases h
    | some d =>
      rw [hu] at h
      cases d <;> simp only at h <;> first
        | exact hu
        | (have h := of_decide_eq_true h; subst h; exact hu)
        | (rw [beq_iff_eq] at h; subst h; exact hu)
        | (simp only [Bool.and_eq_true, beq_iff_eq] at h; obtain ⟨rfl, rfl⟩ := h; exact hu)
        | exact ⟨_, hu, fieldsB_spec _ _ h⟩
        | exact ⟨_, hu⟩
        | cases h

/-- the known parts of a type -/
def partsB (T : Tab Ty) : TD → Bool
  | .struct fs => fs.all fun p => (T.td p.1).known
  | .slice e => (T.td e).known
  | .arr _ e => (T.td e).known
  | .spread _ e => (T.td e).known
  | _ => true

def infoB (P : Program) (T : Tab Ty) (t : Nat) (d : AV Ty) : Bool :=
  match P.info? t with
  | none => false
  | some i => i.size == T.size t && i.bytes == T.bytes t && Nat.ble (T.bytes t) 32768 && Nat.blt 0 (T.size t) && (T.zero t).isAgg == (T.td t).agg && zeroB T t d i

theorem infoB_ok {P : Program} {T : Tab Ty} {t : Nat} (h : infoB P T t (T.enc t (T.dflt t)) = true) : ∃ i z, P.info? t = some i ∧ i.size = T.size t ∧ i.bytes = T.bytes t ∧ T.bytes t ≤ 32768 ∧ 0 < T.size t ∧ i.zero = some z ∧
    (∀ w D gv, RepE T w D gv (T.zero t) z) ∧ (T.zero t).isAgg = (T.td t).agg ∧ (∀ w D gv, RepC T w D gv (T.enc t (T.dflt t)) z.cells.toList) := by
  unfold infoB at h
  cases hi : P.info? t with
  | none => rw [hi] at h; cases h
  | some i =>
    rw [hi] at h
    simp only [Bool.and_eq_true, beq_iff_eq, Nat.ble_eq, Nat.blt_eq] at h
    obtain ⟨⟨⟨⟨⟨h1, h2⟩, h3⟩, h4⟩, h5⟩, h6⟩ := h
    unfold zeroB at h6
    cases hz : i.zero with
    | none => rw [hz] at h6; cases h6
    | some z =>
      rw [hz] at h6
      simp only [Bool.and_eq_true] at h6
      obtain ⟨k1, k2⟩ := h6
      refine ⟨i, z, rfl, h1, h2, h3, h4, hz, fun w D gv => ?_, h5, fun w D gv => ?_⟩
      · split at k1
        · rename_i cs ha
          split at k1
          · rename_i he; have := eat_all (w := w) (D := D) (gv := gv) he; exact .agg ha (by simpa using this)
          · cases k1
        · rename_i z2 ha
          split at k1
          · rename_i he; exact .one ha (eat_all he)
          · cases k1
        · cases k1
      · split at k2
        · rename_i he; exact eat_all he
        · cases k2

/-- what is asked of one type of the table -/
structure EntOK (T : Tab Ty) (t : Nat) (α : Type) (d : Den Ty α) : Prop where
  size : ∀ x, (d.enc x).size T = T.size t
  agg : ∀ x, (T.td t).known = true → (d.enc x).isAgg = (T.td t).agg
  ids : ∀ x, (d.enc x).ids = []
  plain : ∀ x, (d.enc x).plain = true
  flat : ∀ x, T.flatTy t = true → (d.enc x).flat T = true
  num : ∀ x, T.td t = .int .u8 → ∃ n, d.enc x = .int .u8 n

theorem infoAt_spec : ∀ (l : List (Nat × TI)) (t : Nat), (∃ p ∈ l, p.1 = t ∧ infoAt t l = p.2) ∨ infoAt t l = ⟨.other, 1, 8⟩ := by
  intro l
  induction l with
  | nil => intro t; exact .inr rfl
  | cons p l ih =>
    intro t
    obtain ⟨u, i⟩ := p
    unfold infoAt
    cases hb : u == t with
    | true => exact .inl ⟨(u, i), by simp, by simpa using hb, rfl⟩
    | false =>
      rcases ih t with ⟨p, h1, h2⟩ | h
      · exact .inl ⟨p, List.mem_cons_of_mem _ h1, h2⟩
      · exact .inr h

/-- the table, checked -/
def tabB (P : Program) (T : Tab Ty) : Bool := T.info.all fun p => (match (T.td p.1).known with
  | true => infoB P T p.1 (T.enc p.1 (T.dflt p.1))
  | false => true) && tdB P p.1 (T.td p.1) && partsB T (T.td p.1)

theorem TabOK.of {P : Program} {T : Tab Ty} (hB : tabB P T = true) (hE : ∀ t, EntOK T t (Ty t) (T.den t)) (hf : P.follows .mixedOrders = true) : TabOK P T := by
  have key : ∀ t, (∃ p ∈ T.info, p.1 = t) ∨ T.td t = .other := by
    intro t
    rcases infoAt_spec T.info t with ⟨p, h1, h2, _⟩ | h
    · exact .inl ⟨p, h1, h2⟩
    · right; unfold Tab.td; rw [h]
  have get : ∀ t, (∃ p ∈ T.info, p.1 = t) → ((T.td t).known = true → infoB P T t (T.enc t (T.dflt t)) = true) ∧ tdB P t (T.td t) = true ∧ partsB T (T.td t) = true := by
    rintro t ⟨p, hp, rfl⟩
    have := List.all_eq_true.1 hB p hp
    simp only [Bool.and_eq_true] at this
    obtain ⟨⟨h1, h2⟩, h3⟩ := this
    refine ⟨fun hk => ?_, h2, h3⟩
    rw [hk] at h1; exact h1
  refine { td := fun t => ?_, info := fun t hk => ?_, fields := fun t fs hs p hp => ?_, elem := fun t e he => ?_, encSize := fun t x => (hE t).size x, encAgg := fun t x h => (hE t).agg x h, encIds := fun t x => (hE t).ids x, encPlain := fun t x => plain_ne ((hE t).plain x), follow := hf, flat := fun t x h => (hE t).flat x h, num := fun t x h => (hE t).num x h }
  · rcases key t with h | h
    · exact tdB_ok (get t h).2.1
    · rw [h]; trivial
  · rcases key t with h | h
    · exact infoB_ok ((get t h).1 hk)
    · rw [h] at hk; cases hk
  · rcases key t with h | h
    · have := (get t h).2.2
      rw [hs] at this
      exact List.all_eq_true.1 this p hp
    · rw [h] at hs; cases hs
  · rcases key t with h | h
    · have := (get t h).2.2
      rcases he with he | ⟨n, he⟩ | ⟨n, he⟩ <;> (rw [he] at this; exact this)
    · rcases he with he | ⟨n, he⟩ | ⟨n, he⟩ <;> (rw [h] at he; cases he)

/-! ### a typed function's contract -/

def FSpec.of {A B : Type} (decA : List (AV Ty) → Option A) (F : Nat → A → Option B) (encB : B → AV Ty) (al : Bool) : FSpec Ty :=
  { runK := fun k args _ K => match decA args with
      | some x => (F k x).bind fun y => K (encB y)
      | none => none
    nat := fun k args R K => by
      cases decA args with
      | none => rfl
      | some x => simp only; cases F k x <;> rfl
    alias := al }

theorem FSpec.of_ok {T : Tab Ty} {specs : Nat → Option (FSpec Ty)} {keeps : Nat → Keep} {lsums : Nat → Option (LSum Ty)} {P : Program} (hT : TabOK P T) (hS : SpecsOK P T specs) {f : FuncId} {fn : Func} {c : Code} (hf : P.funcs[f]? = some fn) (hb : fn.body = some c)
    (hd : dsts fn.ntmps c = true) (hn : nodupB ((loopsIn c).map firstRegion) = true) (hL : LSOK specs keeps T fn lsums) {A B : Type} {decA : List (AV Ty) → Option A} {encA : A → List (AV Ty)} (hA : ∀ l x, decA l = some x → encA x = l)
    {F : Nat → A → Option B} {encB : B → AV Ty} {decB : AV Ty → Option B} (hB : ∀ v y, decB v = some y → encB y = v) {al : Bool} (hF : ∀ k x, F k x = XF specs keeps lsums T k fn (encA x) B decB) (ho : ∀ y, (encB y).out al T) : FOK P T f (FSpec.of decA F encB al) := by
  refine fn_sound hT hS hf hb hd hn hL (fun k args r hr => ?_) rfl rfl
  unfold FSpec.of at hr
  simp only at hr
  split at hr
  case h_2 => cases hr
  rename_i x hx
  cases hy : F k x with
  | none => rw [hy] at hr; cases hr
  | some y =>
    rw [hy] at hr
    simp only [Option.bind_some, Option.some.injEq] at hr
    subst hr
    refine ⟨k, B, decB, y, ?_, fun v hv => (hB v y hv).symm, ho y⟩
    rw [← hy, hF, hA _ _ hx]

def noF : Nat → Option (FSpec Ty) := fun _ => none
def addF (i : Nat) (sp : FSpec Ty) (fs : Nat → Option (FSpec Ty)) : Nat → Option (FSpec Ty) := fun j => cond (j == i) (some sp) (fs j)
theorem SpecsOK.none {P : Program} {T : Tab Ty} (hC : CmpOK P T) (hA : AsOK P T) : SpecsOK P T noF := ⟨hC, hA, fun f sp h => by cases h⟩
theorem SpecsOK.add {P : Program} {T : Tab Ty} {fs : Nat → Option (FSpec Ty)} {i : Nat} {sp : FSpec Ty} (h : SpecsOK P T fs) (h1 : FOK P T i sp) (h2 : Callable P i) : SpecsOK P T (addF i sp fs) := by
  refine ⟨h.cmp, h.as, fun f sp' hf => ?_⟩
  unfold addF at hf
  by_cases e : f = i
  · subst e
    simp only [beq_self_eq_true, cond_true, Option.some.injEq] at hf
    subst hf; exact ⟨h1, h2⟩
  · have : (f == i) = false := by simpa using e
    rw [this] at hf
    exact h.fn f sp' hf
end
end V
namespace V
open Go Go.ChangeShapes Go.WideShapes Go.ChangeAt Go.RowKit
section
variable {Ty : Nat → Type} {T : Tab Ty} {P : Program}

/-- what lies in the world ahead of a call -/
def Below0 (w : World) : Nat → Prop := fun b => b < w.heap.size

/-- whoever reads at a type, finds a typed value -/
def Rd (P : Program) (T : Tab Ty) (t : Nat) {α : Type} (e : α → AV Ty) (WF : α → Prop) : Prop :=
  ∀ (H : Type) (enc : TypeId × Value → H) (w : World) (spare : Nat → Bool) (held : Bool) (fuel : Nat) (cs : List Value) (x : DataW H × List MemPlace), DataW.trod enc P w 0 spare held fuel t cs = some x →
    ∃ y, WF y ∧ RepC T w (Below0 w) (fun _ => none) (e y) cs

theorem Rd.int {t : Nat} {k : IntKind} (h : T.td t = .int k) (hT : TabOK P T) : Rd P T t (fun n : Int => .int k n) (fun n => (Lit.int k n).wf = true) := by
  intro H enc w sp hd fuel cs x hx
  have := hT.td t
  rw [h] at this
  obtain ⟨n, rfl, _, hw⟩ := DataW.trod_int this hx
  exact ⟨n, hw, .int _ _⟩
theorem Rd.bool {t : Nat} (h : T.td t = .bool) (hT : TabOK P T) : Rd P T t (fun b : Bool => .bool b) (fun _ => True) := by
  intro H enc w sp hd fuel cs x hx
  have := hT.td t
  rw [h] at this
  obtain ⟨n, rfl, _⟩ := DataW.trod_bool this hx
  exact ⟨n, trivial, .bool _⟩
theorem Rd.str {t : Nat} (h : T.td t = .str) (hT : TabOK P T) : Rd P T t (fun b : ByteArray => .str b) (fun b => b.size ≤ maxLen) := by
  intro H enc w sp hd fuel cs x hx
  have := hT.td t
  rw [h] at this
  obtain ⟨n, rfl, _, hl⟩ := DataW.trod_string this hx
  exact ⟨n, hl, .str _⟩

theorem Rd.imp {t : Nat} {α β : Type} {e : α → AV Ty} {WF : α → Prop} {e' : β → AV Ty} {WF' : β → Prop} (h : Rd P T t e WF) (f : α → β) (hf : ∀ x, e' (f x) = e x) (hw : ∀ x, WF x → WF' (f x)) : Rd P T t e' WF' := by
  intro H enc w sp hd fuel cs x hx
  obtain ⟨y, h1, h2⟩ := h H enc w sp hd fuel cs x hx
  exact ⟨f y, hw y h1, by rw [hf]; exact h2⟩

theorem cellsOf_eq (hT : TabOK P T) {t : Nat} (h : (T.td t).known = true) : P.cellsOf t = T.size t := by
  obtain ⟨i, z, hi, hs, _⟩ := hT.info t h
  unfold Program.cellsOf
  rw [hi]; simpa using hs

theorem cells_at {w : World} {base : Nat} {a : Addr} {n : Nat} {cs : List Value} (h : w.cells? base a n = some cs) (hn : 0 < n) : cs.length = n ∧ a = ⟨a.block, a.off, none⟩ ∧ a.block < w.heap.size ∧ At w a.block a.off cs := by
  have hget : cs.length = n ∧ ∀ j v, cs[j]? = some v → w.cell? (a.add j) = some v := by
    obtain ⟨_, hl, hg⟩ := World.cells?_some h
    refine ⟨hl, fun j v hj => ?_⟩
    have := (List.getElem?_eq_some_iff.1 hj).1
    rw [hg j (by omega)]; exact hj
  obtain ⟨hl, hg⟩ := hget
  have h0 : ∃ v, cs[0]? = some v := ⟨_, List.getElem?_eq_getElem (by omega)⟩
  obtain ⟨v0, h0⟩ := h0
  have hc0 := hg 0 v0 h0
  have hs : a.spot = none := by
    simp only [Addr.add, if_true, World.cell?] at hc0
    split at hc0
    · split at hc0
      · cases hc0
      · rename_i hs; simpa using hs
    · cases hc0
  have hlt : a.block < w.heap.size := by
    simp only [Addr.add, if_true, World.cell?] at hc0
    cases hh : w.heap[a.block]? with
    | none => rw [hh] at hc0; cases hc0
    | some o => exact (Array.getElem?_eq_some_iff.1 hh).1
  have ha : a = ⟨a.block, a.off, none⟩ := by cases a; simp only at hs; subst hs; rfl
  refine ⟨hl, ha, hlt, fun j v hj => ?_⟩
  have := hg j v hj
  rw [ha, Addr.add_lit] at this
  exact this

theorem Rd.slice (hT : TabOK P T) {t e : Nat} (h : T.td t = .slice e) {WF : Ty e → Prop} (he : Rd P T e (T.enc e) WF) : Rd P T t (fun xs : List (Ty e) => .slice e xs) (fun xs => xs.length ≤ maxLen ∧ ∀ x ∈ xs, WF x) := by
  intro H enc w sp hd fuel cs x hx
  have htd := hT.td t
  rw [h] at htd
  have hk := hT.elem t e (.inl h)
  have hsz : 0 < T.size e := by obtain ⟨i, z, _, _, _, _, h0, _⟩ := hT.info e hk; exact h0
  have hce := cellsOf_eq hT hk
  rcases DataW.trod_slice htd hx with ⟨rfl, _⟩ | ⟨a, len, cap, elems, rest, n, _, rfl, _, _, hlc, hcap, hlen, hel, _⟩
  · exact ⟨[], ⟨by simp, by simp⟩, .snil _ _ _ fun _ => rfl⟩
  · -- each element
    have each : ∀ i, i < len → ∃ (ci : List Value) (y : Ty e), w.cells? 0 (a.add (i * T.size e)) (T.size e) = some ci ∧ WF y ∧ RepC T w (Below0 w) (fun _ => none) (T.enc e y) ci := by
      intro i hi
      have h1 := hel i hi
      rw [hce] at h1
      have hs : ∃ z, elems[i]? = some z := ⟨_, List.getElem?_eq_getElem (by omega)⟩
      obtain ⟨z, hz⟩ := hs
      rw [hz] at h1
      obtain ⟨ci, h2, h3⟩ := Option.bind_eq_some_iff.1 h1
      obtain ⟨y, h4, h5⟩ := he H enc w sp hd n ci z h3
      exact ⟨ci, y, h2, h4, h5⟩
    cases hl0 : len with
    | zero => exact ⟨[], ⟨by simp, by simp⟩, .snil _ _ _ fun e => by cases e⟩
    | succ m =>
      obtain ⟨c0, y0, h0, _⟩ := each 0 (by omega)
      obtain ⟨_, ha, hlt, _⟩ := cells_at h0 hsz
      rw [Nat.zero_mul, show a.add 0 = a from rfl] at ha hlt
      have all : ∀ k, k ≤ len → ∃ (xs : List (Ty e)) (flat : List Value), xs.length = k ∧ (∀ x ∈ xs, WF x) ∧ flat.length = k * T.size e ∧ RepC T w (Below0 w) (fun _ => none) (encs T e xs) flat ∧ At w a.block a.off flat := by
        intro k
        induction k with
        | zero => intro _; exact ⟨[], [], rfl, by simp, by simp, .nil, fun j v hj => by simp at hj⟩
        | succ k ih =>
          intro hk'
          obtain ⟨xs, flat, h1, h2, h3, h4, h5⟩ := ih (by omega)
          obtain ⟨ck, yk, k1, k2, k3⟩ := each k (by omega)
          obtain ⟨k4, _, _, k5⟩ := cells_at k1 hsz
          refine ⟨xs ++ [yk], flat ++ ck, by simp [h1], fun x hx => ?_, by rw [List.length_append, h3, k4, Nat.add_mul, Nat.one_mul], ?_, fun j v hj => ?_⟩
          · rcases List.mem_append.1 hx with hx | hx
            · exact h2 x hx
            · rw [List.mem_singleton.1 hx]; exact k2
          · have app : ∀ (xs : List (Ty e)) (flat : List Value), RepC T w (Below0 w) (fun _ => none) (encs T e xs) flat → RepC T w (Below0 w) (fun _ => none) (encs T e (xs ++ [yk])) (flat ++ ck) := by
              intro xs
              induction xs with
              | nil => intro flat hf; cases hf; simpa [encs, listAV] using RepC.cons k3 RepC.nil
              | cons x r ih =>
                intro flat hf
                cases hf with
                | cons a b => rw [List.append_assoc]; exact .cons a (ih _ b)
            exact app xs flat h4
          · rcases Nat.lt_or_ge j flat.length with hj1 | hj1
            · rw [List.getElem?_append_left hj1] at hj; exact h5 j v hj
            · rw [List.getElem?_append_right hj1] at hj
              have := k5 _ v hj
              have e1 : (a.add (k * T.size e)).block = a.block := by unfold Addr.add; split <;> rfl
              have e2 : (a.add (k * T.size e)).off = a.off + k * T.size e := by
                unfold Addr.add
                split
                · rename_i hz; rw [hz]; rfl
                · rfl
              rw [e1, e2] at this
              rw [show a.off + j = a.off + k * T.size e + (j - flat.length) by omega]
              exact this
      obtain ⟨xs, flat, h1, h2, h3, h4, h5⟩ := all len (Nat.le_refl _)
      refine ⟨xs, ⟨by omega, h2⟩, ?_⟩
      rw [ha, ← hl0, ← h1]
      exact .slice hlt (by omega) h5 h4

theorem Rd.arr (hT : TabOK P T) {t e n : Nat} (h : T.td t = .arr n e) {WF : Ty e → Prop} (he : Rd P T e (T.enc e) WF) (hsz : T.size t = n * T.size e) : Rd P T t (fun xs : List (Ty e) => .arr e n xs) (fun xs => xs.length = n ∧ ∀ x ∈ xs, WF x) := by
  intro H enc w sp hd fuel cs x hx
  have htd := hT.td t
  rw [h] at htd
  have hk := hT.elem t e (.inr (.inl ⟨n, h⟩))
  have hce := cellsOf_eq hT hk
  have hct := cellsOf_eq hT (t := t) (by rw [h]; rfl)
  obtain ⟨xs, m, _, _, hl, hxl, hel⟩ := DataW.trod_array htd hx
  rw [hct, hsz] at hl
  have all : ∀ k, k ≤ n → ∃ (ys : List (Ty e)), ys.length = k ∧ (∀ x ∈ ys, WF x) ∧ RepC T w (Below0 w) (fun _ => none) (encs T e ys) (cs.take (k * T.size e)) := by
    intro k
    induction k with
    | zero => intro _; exact ⟨[], rfl, by simp, by rw [Nat.zero_mul]; exact .nil⟩
    | succ k ih =>
      intro hk'
      obtain ⟨ys, h1, h2, h3⟩ := ih (by omega)
      have h4 := hel k (by omega)
      rw [hce, List.getElem?_eq_getElem (by omega)] at h4
      obtain ⟨y, h5, h6⟩ := he H enc w sp hd m _ _ h4
      refine ⟨ys ++ [y], by simp [h1], fun x hx => ?_, ?_⟩
      · rcases List.mem_append.1 hx with hx | hx
        · exact h2 x hx
        · rw [List.mem_singleton.1 hx]; exact h5
      · have app : ∀ (ys : List (Ty e)) (flat : List Value), RepC T w (Below0 w) (fun _ => none) (encs T e ys) flat → RepC T w (Below0 w) (fun _ => none) (encs T e (ys ++ [y])) (flat ++ (cs.drop (k * T.size e)).take (T.size e)) := by
          intro ys
          induction ys with
          | nil => intro flat hf; cases hf; simpa [encs, listAV] using RepC.cons h6 RepC.nil
          | cons x r ih =>
            intro flat hf
            cases hf with
            | cons a b => rw [List.append_assoc]; exact .cons a (ih _ b)
        have := app ys _ h3
        rw [← List.take_add] at this
        rw [Nat.add_mul, Nat.one_mul]; exact this
  obtain ⟨ys, h1, h2, h3⟩ := all n (Nat.le_refl _)
  refine ⟨ys, ⟨h1, h2⟩, .arr h1 ?_⟩
  rwa [List.take_of_length_le (by omega)] at h3

/-- fields one behind the other -/
def RdF (P : Program) (T : Tab Ty) (off : Nat) (fs : List (Nat × Nat)) {α : Type} (e : α → AV Ty) (WF : α → Prop) : Prop :=
  ∀ (H : Type) (enc : TypeId × Value → H) (w : World) (spare : Nat → Bool) (held : Bool) (fuel : Nat) (cs : List Value), (∀ p ∈ fs, ∃ x, DataW.trod enc P w 0 spare held fuel p.1 ((cs.drop p.2).take (T.size p.1)) = some x) →
    ∃ y, WF y ∧ RepC T w (Below0 w) (fun _ => none) (e y) ((cs.drop off).take ((fs.map fun p => T.size p.1).sum))

theorem RdF.nil {off : Nat} : RdF P T off [] (fun _ : Unit => .nil) (fun _ => True) := by
  intro H enc w sp hd fuel cs _
  exact ⟨(), trivial, by simpa using RepC.nil⟩

theorem RdF.cons {off : Nat} {p : Nat × Nat} {fs : List (Nat × Nat)} {α β : Type} {e : α → AV Ty} {WF : α → Prop} {e' : β → AV Ty} {WF' : β → Prop} (h1 : Rd P T p.1 e WF) (ho : p.2 = off) (h2 : RdF P T (off + T.size p.1) fs e' WF') :
    RdF P T off (p :: fs) (fun z : α × β => .cons (e z.1) (e' z.2)) (fun z => WF z.1 ∧ WF' z.2) := by
  intro H enc w sp hd fuel cs h
  obtain ⟨x, hx⟩ := h p (by simp)
  obtain ⟨y, k1, k2⟩ := h1 H enc w sp hd fuel _ x hx
  obtain ⟨z, k3, k4⟩ := h2 H enc w sp hd fuel cs fun q hq => h q (by simp [hq])
  refine ⟨(y, z), ⟨k1, k3⟩, ?_⟩
  have := RepC.cons k2 k4
  rw [ho, ← List.drop_drop, ← List.take_add] at this
  simpa using this

theorem Rd.struct (hT : TabOK P T) {t : Nat} {fs : List (Nat × Nat)} (h : T.td t = .struct fs) {α : Type} {e : α → AV Ty} {WF : α → Prop} (hf : RdF P T 0 fs e WF) (hsz : T.size t = (fs.map fun p => T.size p.1).sum) : Rd P T t e WF := by
  intro H enc w sp hd fuel cs x hx
  have htd := hT.td t
  rw [h] at htd
  obtain ⟨fields, hu, hfs⟩ := htd
  have hct := cellsOf_eq hT (t := t) (by rw [h]; rfl)
  obtain ⟨xs, n, _, _, hl, hxl, hel⟩ := DataW.trod_struct hu hx
  rw [hct, hsz] at hl
  obtain ⟨y, h1, h2⟩ := hf H enc w sp hd n cs fun p hp => by
    have hp' : p ∈ fields.toList.map (fun f => (f.type, f.offset)) := by rw [hfs]; exact hp
    obtain ⟨f, hfm, rfl⟩ := List.mem_map.1 hp'
    obtain ⟨i, hi⟩ := List.getElem?_of_mem hfm
    have hi' : fields[i]? = some f := by simpa using hi
    have hlt : i < fields.size := (Array.getElem?_eq_some_iff.1 hi').1
    have := hel i f hi'
    rw [cellsOf_eq hT (hT.fields t fs h _ hp), List.getElem?_eq_getElem (by omega)] at this
    exact ⟨_, this⟩
  refine ⟨y, h1, ?_⟩
  rw [List.drop_zero, List.take_of_length_le (by omega)] at h2
  exact h2

/-- a value handed in -/
theorem Rd.val (hT : TabOK P T) {t : Nat} {α : Type} {e : α → AV Ty} {WF : α → Prop} (h : Rd P T t e WF) (hk : (T.td t).known = true) (ha : ∀ y, (e y).isAgg = (T.td t).agg) {H : Type} {enc : TypeId × Value → H} {w : World} {r : Reach} {base : Nat} {spare : Nat → Bool} {held : Bool} {v : Value} {d : DataW H} {ps : List MemPlace}
    (hv : Value.okWide P w r base t v) (hd : DataW.Trod enc P w 0 spare held t v d ps) : ∃ y, WF y ∧ RepV T w (Below0 w) (fun _ => none) (e y) v := by
  obtain ⟨fuel, hd⟩ := hd
  obtain ⟨y, h1, h2⟩ := h H enc w spare held fuel _ _ hd
  refine ⟨y, h1, ?_⟩
  have htd := hT.td t
  cases hag : (T.td t).agg with
  | true =>
    have : ∃ cs, v = .agg cs := by
      cases hd' : T.td t with
      | arr n e => rw [hd'] at htd; simp only [TDok] at htd; simp only [Value.okWide, htd] at hv; obtain ⟨cs, h, _⟩ := hv; exact ⟨cs, h⟩
      | spread n e => rw [hd'] at htd; simp only [TDok] at htd; simp only [Value.okWide, htd] at hv; obtain ⟨cs, h, _⟩ := hv; exact ⟨cs, h⟩
      | struct fs => rw [hd'] at htd; obtain ⟨f, hu, _⟩ := htd; simp only [Value.okWide, hu] at hv; obtain ⟨cs, h, _⟩ := hv; exact ⟨cs, h⟩
      | _ => rw [hd'] at hag; cases hag
    obtain ⟨cs, rfl⟩ := this
    have h3 : (e y).isAgg = true := by rw [ha, hag]
    have := RepE.agg h3 (by simpa [Value.cells] using h2 : RepC T w (Below0 w) (fun _ => none) (e y) cs.toList)
    simpa using RepV.elem this
  | false =>
    have hone : v.cells = #[v] := by
      cases v with
      | agg cs =>
        exfalso
        cases hd' : T.td t with
        | other => rw [hd'] at hk; cases hk
        | arr n e => rw [hd'] at hag; cases hag
        | spread n e => rw [hd'] at hag; cases hag
        | struct fs => rw [hd'] at hag; cases hag
        | iface => rw [hd'] at htd; obtain ⟨ms, hu⟩ := htd; simp [Value.okWide, hu, Cell.okWide, Cell.ok] at hv
        | map k => rw [hd'] at hk; cases hk
        | _ => rw [hd'] at htd; simp only [TDok] at htd; simp [Value.okWide, htd, Cell.okWide, Cell.ok] at hv
      | _ => rfl
    rw [hone] at h2
    exact .elem (.one (by rw [ha, hag]) (by simpa using h2))

/-! ### the row's end -/

theorem law_post {H : Type} {enc : TypeId × Value → H} {f : Func} {s : ChangeSpec} {W W' : World} {args : Array Value} {ds gs : List (DataW H)} {before : List MemPlace} {tb : Nat}
    (hl : laidOutB P = true) (hp : (f.params.toList.all fun t => P.readableRec t && decide (t < P.types.size)) = true) (hr : f.resultTypes = #[tb]) (hb : P.underlying tb = some .bool)
    (hv : s.vars = []) (hres : (s.fn H ds).results = [.lit (.bool true)]) (hargs : (s.fn H ds).args = ds) (hvars : (s.fn H ds).vars = [])
    (hW : DataW.Whole enc P f.params.toList s.vars false W args.toList ds gs before) (hg : W.grownBy W' none) : s.post enc P f false true false false W args (.bool true) W' := by
  have hlt := hW.lt
  have hW' := hW
  obtain ⟨p, q, hA, hV, rfl, _, _⟩ := hW
  rw [hv] at hV
  cases gs with
  | cons g r => exact hV.elim
  | nil =>
    cases hV
    rw [List.append_nil] at hlt hW'
    have stays : ∀ (ts : List TypeId) (vs : List Value) (ds : List (DataW H)) (ps : List MemPlace), (∀ t ∈ ts, P.readableRec t = true ∧ t < P.types.size) → (∀ x ∈ ps, x.block < W.heap.size) → DataW.TrodAll enc P W 0 (fun _ => true) true ts vs ds ps →
        DataW.TrodAll enc P W' 0 (fun b => decide (b < W.heap.size)) true ts vs ds ps := by
      intro ts
      induction ts with
      | nil => intro vs ds ps _ _ h; cases vs <;> cases ds <;> first | exact h | exact h.elim
      | cons t ts ih =>
        intro vs ds ps ht hps h
        obtain ⟨v, vs', d, ds', p', q', rfl, rfl, rfl, h1, h2⟩ := ChangeShapes.trodAll_cons h
        refine ⟨p', q', ?_, ih _ _ _ (fun t h => ht t (by simp [h])) (fun x hx => hps x (by simp [hx])) h2, rfl⟩
        exact WideElems.Trod_stays hl (ht t (by simp)).1 (ht t (by simp)).2 h1 (fun x hx => by
          have hxl := hps x (by simp [hx])
          cases x with
          | cell b o => exact World.cell?_of_block (w := W) (hg.block b hxl (by simp))
          | map b => exact hg.block b hxl (by simp)) (fun x hx => by simpa using hps x (by simp [hx]))
    refine ⟨ds, [], p, [], p, [], hW', ?_, ?_, ?_, ⟨hg.os, hg.output, fun i hi => ?_⟩, fun h => by cases h⟩
    · rw [List.append_nil, hres, hr]
      exact trodAll_cons_mk (shut_bool hb true) rfl
    · rw [List.append_nil, hargs]
      refine stays _ _ _ _ (fun t ht => ?_) hlt hA
      have := List.all_eq_true.1 hp t ht
      simpa using this
    · rw [List.append_nil, hv, hvars]; rfl
    · rw [hg.block i hi (by simp)]
      split
      · rename_i h1 h2; rw [h1] at h2; cases h2; exact ⟨rfl, rfl, rfl, fun _ _ => rfl⟩
      · rename_i h1 h2; rw [h1] at h2; cases h2; exact .inr ⟨rfl, rfl⟩
      · rfl
end
end V
namespace V
open Go
section
variable {Ty : Nat → Type} {T : Tab Ty} {P : Program}

/-! ### signatures -/

/-- arguments, one by one -/
structure Args (Ty : Nat → Type) (α : Type) where
  enc : α → List (AV Ty)
  dec : List (AV Ty) → Option α
  spec : ∀ l x, dec l = some x → enc x = l

def noArgs : Args Ty Unit where
  enc := fun _ => []
  dec := fun
    | [] => some ()
    | _ => none
  spec := fun l x h => by cases l with
    | nil => rfl
    | cons a l => cases h

def arg {α β : Type} (d : Den Ty α) (r : Args Ty β) : Args Ty (α × β) where
  enc := fun x => d.enc x.1 :: r.enc x.2
  dec := fun
    | v :: l => match d.dec v with
      | some a => match r.dec l with
        | some b => some (a, b)
        | none => none
      | none => none
    | [] => none
  spec := fun l x h => by
    cases l with
    | nil => cases h
    | cons v l =>
      simp only at h
      split at h
      case h_2 => cases h
      rename_i a ha
      split at h
      case h_2 => cases h
      rename_i b hb
      cases h
      simp only [d.spec v a ha, r.spec l b hb]

/-- results: one, or a row of them -/
structure Res (Ty : Nat → Type) (T : Tab Ty) (α : Type) (al : Bool) where
  enc : α → AV Ty
  dec : AV Ty → Option α
  spec : ∀ v x, dec v = some x → enc x = v
  out : ∀ x, (enc x).out al T

structure Parts (Ty : Nat → Type) (T : Tab Ty) (α : Type) (al : Bool) where
  enc : α → AV Ty
  dec : AV Ty → Option α
  spec : ∀ v x, dec v = some x → enc x = v
  ids : ∀ x, (enc x).ids = []
  noTups : ∀ x, (enc x).noTups = true
  flat : ∀ x, al = false → (enc x).flat T = true

def oneRes {al : Bool} {α : Type} (d : Den Ty α) (ids : ∀ x, (d.enc x).ids = []) (pl : ∀ x, (d.enc x).plain = true) (fl : ∀ x, al = false → (d.enc x).flat T = true) : Res Ty T α al where
  enc := d.enc
  dec := d.dec
  spec := d.spec
  out := fun x => ⟨ids x, fun vs e => (by have := pl x; rw [e] at this; cases this), fl x⟩

def noParts {al : Bool} : Parts Ty T Unit al where
  enc := fun _ => .nil
  dec := fun
    | .nil => some ()
    | _ => none
  spec := fun v x h => by split at h <;> first | rfl | cases h
  ids := fun _ => rfl
  noTups := fun _ => rfl
  flat := fun _ _ => rfl

def part {al : Bool} {α β : Type} (d : Den Ty α) (ids : ∀ x, (d.enc x).ids = []) (pl : ∀ x, (d.enc x).plain = true) (fl : ∀ x, al = false → (d.enc x).flat T = true) (r : Parts Ty T β al) : Parts Ty T (α × β) al where
  enc := fun x => .cons (d.enc x.1) (r.enc x.2)
  dec := fun
    | .cons v l => match d.dec v with
      | some a => match r.dec l with
        | some b => some (a, b)
        | none => none
      | none => none
    | _ => none
  spec := fun v x h => by
    split at h
    case h_2 => cases h
    split at h
    case h_2 => cases h
    rename_i a ha
    split at h
    case h_2 => cases h
    rename_i b hb
    cases h
    simp only [d.spec _ a ha, r.spec _ b hb]
  ids := fun x => by simp only [AV.ids, ids, r.ids, List.append_nil]
  noTups := fun x => by
    have h := pl x.1
    have h2 := r.noTups x.2
    simp only [AV.noTups, Bool.and_eq_true]
    refine ⟨?_, h2⟩
    generalize d.enc x.1 = v at h
    cases v <;> first | rfl | cases h
  flat := fun x h => by simp only [AV.flat, fl x.1 h, r.flat x.2 h, Bool.and_self]

def manyRes {al : Bool} {α : Type} (r : Parts Ty T α al) : Res Ty T α al where
  enc := fun x => .tup (r.enc x)
  dec := fun
    | .tup v => r.dec v
    | _ => none
  spec := fun v x h => by
    split at h
    · rw [r.spec _ _ h]
    · cases h
  out := fun x => ⟨r.ids x, fun vs e => (by cases e; exact r.noTups x), fun h => r.flat x h⟩

def bodyOf (fn : Func) : Code := fn.body.getD .skip

/-- the contract of a typed function -/
def spec {α β : Type} {al : Bool} (A : Args Ty α) (B : Res Ty T β al) (F : Nat → α → Option β) : FSpec Ty := FSpec.of A.dec F B.enc al

theorem spec_ok {specs : Nat → Option (FSpec Ty)} {keeps : Nat → Keep} {lsums : Nat → Option (LSum Ty)} (hT : TabOK P T) (hS : SpecsOK P T specs) {f : FuncId} {fn : Func} (hf : P.funcs[f]? = some fn) (hb : fn.body = some (bodyOf fn))
    (hd : dsts fn.ntmps (bodyOf fn) = true) (hn : nodupB ((loopsIn (bodyOf fn)).map firstRegion) = true) (hL : LSOK specs keeps T fn lsums) {α β : Type} {al : Bool} {A : Args Ty α} {B : Res Ty T β al}
    {F : Nat → α → Option β} (hF : ∀ k x, F k x = XF specs keeps lsums T k fn (A.enc x) β B.dec) : FOK P T f (spec A B F) :=
  FSpec.of_ok hT hS hf hb hd hn hL A.spec B.spec hF B.out

/-- two ways out -/
def sumK {α β γ : Type} (y : α ⊕ β) (f : α → Option γ) (g : β → Option γ) : Option γ :=
  match y with
  | .inl a => f a
  | .inr b => g b
def oe2 {α β : Type} (e1 e2 : Ex) : α ⊕ β → Ex
  | .inl _ => e1
  | .inr _ => e2
def on2 {α β : Type} (n1 : α → NSt Ty) (n2 : β → NSt Ty) : α ⊕ β → NSt Ty
  | .inl a => n1 a
  | .inr b => n2 b
/-! ### functions that take or give objects: one shape, or another -/

def noH : FSpec Ty := { runK := fun _ _ _ _ => none, nat := by intros; rfl, alias := false, heap := true }
/-- rows and views are handed over as they are -/
def noHX (raw ro : Bool) : FSpec Ty := { runK := fun _ _ _ _ => none, nat := by intros; rfl, alias := false, heap := true, raw := raw, ro := ro }
def noHR : FSpec Ty := { runK := fun _ _ _ _ => none, nat := by intros; rfl, alias := false, heap := true, raw := true }
def addH {S O : Type} (np0 : Nat) {ofS : S → NSt Ty} (abs : (n : NSt Ty) → Option {x : S // ofS x = n}) (F : Nat → S → Option O) (outN : O → NSt Ty) (rest : FSpec Ty) : FSpec Ty :=
  { runK := fun _ _ _ _ => none, nat := by intros; rfl, alias := false, heap := true, raw := rest.raw, ro := rest.ro,
    runH := fun k np n R K => cond (np == np0) (match abs n with
      | some x => (F k x.1).bind fun y => K (outN y)
      | none => rest.runH k np n R K) (rest.runH k np n R K)
    natH := by
      intro k np n R K
      cases np == np0 with
      | false => exact rest.natH k np n R K
      | true =>
        simp only [cond_true]
        cases abs n with
        | none => exact rest.natH k np n R K
        | some x => simp only; cases F k x.1 <;> rfl }
/-- two shapes come out -/
def addH2 {S O1 O2 : Type} (np0 : Nat) {ofS : S → NSt Ty} (abs : (n : NSt Ty) → Option {x : S // ofS x = n}) (F : Nat → S → Option (O1 ⊕ O2)) (n1 : O1 → NSt Ty) (n2 : O2 → NSt Ty) (rest : FSpec Ty) : FSpec Ty :=
  { runK := fun _ _ _ _ => none, nat := by intros; rfl, alias := false, heap := true, raw := rest.raw, ro := rest.ro,
    runH := fun k np n R K => cond (np == np0) (match abs n with
      | some x => (F k x.1).bind fun y => sumK y (fun a => K (n1 a)) (fun b => K (n2 b))
      | none => rest.runH k np n R K) (rest.runH k np n R K)
    natH := by
      intro k np n R K
      cases np == np0 with
      | false => exact rest.natH k np n R K
      | true =>
        simp only [cond_true]
        cases abs n with
        | none => exact rest.natH k np n R K
        | some x =>
          simp only
          cases F k x.1 with
          | none => rfl
          | some y => cases y <;> rfl }
theorem addH2_eq {S O1 O2 : Type} (np0 : Nat) {ofS : S → NSt Ty} (abs : (n : NSt Ty) → Option {x : S // ofS x = n}) (F : Nat → S → Option (O1 ⊕ O2)) (n1 : O1 → NSt Ty) (n2 : O2 → NSt Ty) (rest : FSpec Ty) :
    addH2 np0 abs F n1 n2 rest = addH np0 abs F (on2 n1 n2) rest := by
  unfold addH2 addH
  congr 1
  funext k np n R K
  cases np == np0 with
  | false => rfl
  | true =>
    simp only [cond_true]
    cases abs n with
    | none => rfl
    | some x =>
      simp only
      congr 1
      funext y
      cases y <;> rfl
def decOf {O : Type} {outN : O → NSt Ty} (oa : (n : NSt Ty) → Option {y : O // outN y = n}) (n : NSt Ty) : Option O :=
  match oa n with
  | some y => some y.1
  | none => none

theorem FOK.none {f : FuncId} : FOK P T f (noH : FSpec Ty) := ⟨fun _ _ _ h => (by cases h), fun _ _ _ _ _ h => (by cases h), POK.none rfl⟩
theorem FOK.noneX {f : FuncId} {raw ro : Bool} : FOK P T f (noHX raw ro : FSpec Ty) := ⟨fun _ _ _ h => (by cases h), fun _ _ _ _ _ h => (by cases h), POK.none rfl⟩
theorem FOK.noneR {f : FuncId} : FOK P T f (noHR : FSpec Ty) := ⟨fun _ _ _ h => (by cases h), fun _ _ _ _ _ h => (by cases h), POK.none rfl⟩

theorem addH_ok {specs : Nat → Option (FSpec Ty)} {keeps : Nat → Keep} {lsums : Nat → Option (LSum Ty)} (hT : TabOK P T) (hS : SpecsOK P T specs) {f : FuncId} {fn : Func} (hf : P.funcs[f]? = some fn) (hb : fn.body = some (bodyOf fn))
    (hd : dsts fn.ntmps (bodyOf fn) = true) (hn : nodupB ((loopsIn (bodyOf fn)).map firstRegion) = true) (hL : LSOK specs keeps T fn lsums) {S O : Type} {np0 : Nat} {ofS : S → NSt Ty} {abs : (n : NSt Ty) → Option {x : S // ofS x = n}} {outN : O → NSt Ty}
    (oa : (n : NSt Ty) → Option {y : O // outN y = n}) {F : Nat → S → Option O} (hF : ∀ k x, F k x = XH specs keeps lsums T k np0 fn (ofS x) O (decOf oa)) (hnp : ∀ i, np0 ≤ (keeps i).pins) {rest : FSpec Ty} (hr : FOK P T f rest) (hh : rest.heap = true) : FOK P T f (addH np0 abs F outN rest) := by
  refine ⟨fun _ _ _ h => (by cases h), fun _ k np n n' hrun B D gv vals hpin hent hlen => ?_, POK.none rfl⟩
  have old : rest.runH k np n (NSt Ty) some = some n' → Calls P f vals.toArray B.world fun e w' => ∃ x D' gv', e = .returned x ∧ Inv T B D 1 (n'.toSt [0]) { tmps := #[x], defers := [] } w' D' gv' :=
    fun h => hr.2.1 hh k np n n' h B D gv vals hpin hent hlen
  unfold addH at hrun
  simp only at hrun
  cases hnp0 : np == np0 with
  | false => rw [hnp0] at hrun; exact old hrun
  | true =>
    have e : np = np0 := by simpa using hnp0
    subst e
    rw [hnp0, cond_true] at hrun
    cases ha : abs n with
    | none => rw [ha] at hrun; exact old hrun
    | some x =>
      rw [ha] at hrun
      simp only at hrun
      cases hy : F k x.1 with
      | none => rw [hy] at hrun; cases hrun
      | some y =>
        rw [hy] at hrun
        simp only [Option.bind_some, Option.some.injEq] at hrun
        subst hrun
        rw [hF, x.2] at hy
        refine hn_sound hT hS hf hb hd hn hL hnp hy (fun v hv => ?_) B D gv vals hpin hent hlen
        unfold decOf at hv
        cases hov : oa v with
        | none => rw [hov] at hv; cases hv
        | some z =>
          rw [hov] at hv
          simp only [Option.some.injEq] at hv
          rw [← hv]
          exact z.2.symm

theorem addH2_ok {specs : Nat → Option (FSpec Ty)} {keeps : Nat → Keep} {lsums : Nat → Option (LSum Ty)} (hT : TabOK P T) (hS : SpecsOK P T specs) {f : FuncId} {fn : Func} (hf : P.funcs[f]? = some fn) (hb : fn.body = some (bodyOf fn))
    (hd : dsts fn.ntmps (bodyOf fn) = true) (hn : nodupB ((loopsIn (bodyOf fn)).map firstRegion) = true) (hL : LSOK specs keeps T fn lsums) {S O1 O2 : Type} {np0 : Nat} {ofS : S → NSt Ty} {abs : (n : NSt Ty) → Option {x : S // ofS x = n}} {n1 : O1 → NSt Ty} {n2 : O2 → NSt Ty}
    (oa : (n : NSt Ty) → Option {y : O1 ⊕ O2 // on2 n1 n2 y = n}) {F : Nat → S → Option (O1 ⊕ O2)} (hF : ∀ k x, F k x = XH specs keeps lsums T k np0 fn (ofS x) (O1 ⊕ O2) (decOf oa)) (hnp : ∀ i, np0 ≤ (keeps i).pins) {rest : FSpec Ty} (hr : FOK P T f rest) (hh : rest.heap = true) : FOK P T f (addH2 np0 abs F n1 n2 rest) := by
  rw [addH2_eq]
  exact addH_ok hT hS hf hb hd hn hL oa hF hnp hr hh

/-- what a function does to objects: from what it finds to what it leaves -/
def HRun (P : Program) (T : Tab Ty) (f : Nat) (np : Nat) (n n' : NSt Ty) : Prop := ∀ (B : Base) (D : Nat → Prop) (gv : Nat → Option GObj) (vals : List Value), (∀ j b, B.pin j = some b → j < np) →
    Inv T B D vals.length (n.toSt (List.range vals.length)) { tmps := vals.toArray, defers := [] } B.world D gv → n.tmps.length = vals.length →
    Calls P f vals.toArray B.world fun e w' => ∃ x D' gv', e = .returned x ∧ Inv T B D 1 (n'.toSt [0]) { tmps := #[x], defers := [] } w' D' gv'
theorem addH_run {f : FuncId} {S O : Type} {np0 : Nat} {ofS : S → NSt Ty} {abs : (n : NSt Ty) → Option {x : S // ofS x = n}} {F : Nat → S → Option O} {outN : O → NSt Ty} {rest : FSpec Ty} (h : FOK P T f (addH np0 abs F outN rest)) {k : Nat} {x : S} {y : O}
    (ha : abs (ofS x) = some ⟨x, rfl⟩) (hy : F k x = some y) : HRun P T f np0 (ofS x) (outN y) := by
  intro B D gv vals hpin hent hlen
  refine h.2.1 rfl k np0 (ofS x) (outN y) ?_ B D gv vals hpin hent hlen
  unfold addH
  simp only [beq_self_eq_true, cond_true, ha, hy, Option.bind_some]
/-- a function that is told by its parts -/
theorem addH_of {f : FuncId} {S O : Type} {np0 : Nat} {ofS : S → NSt Ty} {abs : (n : NSt Ty) → Option {x : S // ofS x = n}} {outN : O → NSt Ty} {F : Nat → S → Option O} (hF : ∀ k x y, F k x = some y → HRun P T f np0 (ofS x) (outN y)) {rest : FSpec Ty} (hr : FOK P T f rest) (hh : rest.heap = true) : FOK P T f (addH np0 abs F outN rest) := by
  refine ⟨fun _ _ _ h => (by cases h), fun _ k np n n' hrun B D gv vals hpin hent hlen => ?_, POK.none rfl⟩
  have old : rest.runH k np n (NSt Ty) some = some n' → Calls P f vals.toArray B.world fun e w' => ∃ x D' gv', e = .returned x ∧ Inv T B D 1 (n'.toSt [0]) { tmps := #[x], defers := [] } w' D' gv' :=
    fun h => hr.2.1 hh k np n n' h B D gv vals hpin hent hlen
  unfold addH at hrun
  simp only at hrun
  cases hnp0 : np == np0 with
  | false => rw [hnp0] at hrun; exact old hrun
  | true =>
    have e : np = np0 := by simpa using hnp0
    subst e
    rw [hnp0, cond_true] at hrun
    cases ha : abs n with
    | none => rw [ha] at hrun; exact old hrun
    | some x =>
      rw [ha] at hrun
      simp only at hrun
      cases hy : F k x.1 with
      | none => rw [hy] at hrun; cases hrun
      | some y =>
        rw [hy] at hrun
        simp only [Option.bind_some, Option.some.injEq] at hrun
        subst hrun
        have := hF k x.1 y hy
        rw [x.2] at this
        exact this B D gv vals hpin hent hlen
theorem addH2_of {f : FuncId} {S O1 O2 : Type} {np0 : Nat} {ofS : S → NSt Ty} {abs : (n : NSt Ty) → Option {x : S // ofS x = n}} {n1 : O1 → NSt Ty} {n2 : O2 → NSt Ty} {F : Nat → S → Option (O1 ⊕ O2)} (hF : ∀ k x y, F k x = some y → HRun P T f np0 (ofS x) (on2 n1 n2 y)) {rest : FSpec Ty} (hr : FOK P T f rest) (hh : rest.heap = true) : FOK P T f (addH2 np0 abs F n1 n2 rest) := by
  rw [addH2_eq]
  exact addH_of hF hr hh
theorem addH2_run {f : FuncId} {S O1 O2 : Type} {np0 : Nat} {ofS : S → NSt Ty} {abs : (n : NSt Ty) → Option {x : S // ofS x = n}} {F : Nat → S → Option (O1 ⊕ O2)} {n1 : O1 → NSt Ty} {n2 : O2 → NSt Ty} {rest : FSpec Ty} (h : FOK P T f (addH2 np0 abs F n1 n2 rest)) {k : Nat} {x : S} {y : O1 ⊕ O2}
    (ha : abs (ofS x) = some ⟨x, rfl⟩) (hy : F k x = some y) : HRun P T f np0 (ofS x) (on2 n1 n2 y) := by
  rw [addH2_eq] at h
  exact addH_run h ha hy
/-- the same of a value, told apart -/
theorem forkK {O : Type} {s i : Int} {A B : Option O} {y : O} (h : (cond (s == i) A B) = some y) : (s = i ∧ A = some y) ∨ B = some y := by
  cases hb : s == i with
  | true => rw [hb] at h; exact .inl ⟨by simpa using hb, h⟩
  | false => rw [hb] at h; exact .inr h

/-- the first so many objects stay -/
def pinned (np : Nat) (kp : Nat → Keep) : Nat → Keep := fun i => { kp i with pins := np }
theorem pinned_le {np m : Nat} (h : m ≤ np) (kp : Nat → Keep) : ∀ i, m ≤ (pinned np kp i).pins := fun _ => h

/-! ### loops: one head, or another -/

/-- another shape at a loop's head -/
def LSum.or {S : Type} {ofS : S → NSt Ty} (abs : (n : NSt Ty) → Option {x : S // ofS x = n}) (a b : LSum Ty) : LSum Ty :=
  { runK := fun k n R K => match abs n with
      | some _ => a.runK k n R K
      | none => b.runK k n R K }
theorem LSOK.or2 {specs : Nat → Option (FSpec Ty)} {keeps : Nat → Keep} {lsums : Nat → Option (LSum Ty)} {fn : Func} {i : Nat} {S : Type} {ofS : S → NSt Ty} (abs : (n : NSt Ty) → Option {x : S // ofS x = n}) {a b : LSum Ty}
    (h1 : LOK specs keeps T (bodyAt fn i) a) (h2 : LSOK specs keeps T fn (addL i b lsums)) : LSOK specs keeps T fn (addL i (LSum.or abs a b) lsums) := by
  intro j L hj
  unfold addL at hj
  cases hji : j == i with
  | false =>
    rw [hji, cond_false] at hj
    exact h2 j L (by unfold addL; rw [hji, cond_false]; exact hj)
  | true =>
    rw [hji, cond_true, Option.some.injEq] at hj
    subst hj
    have hb := h2 j b (by unfold addL; rw [hji]; rfl)
    have e : j = i := by simpa using hji
    subst e
    intro k n R K r hr
    unfold LSum.or at hr
    simp only at hr
    cases hx : abs n with
    | none => rw [hx] at hr; exact hb k n R K r hr
    | some x => rw [hx] at hr; exact h1 k n R K r hr
/-! ### loops -/

def iterR {S O : Type} (R : (S → Option O) → S → Option O) : Nat → S → Option O
  | 0, _ => none
  | n + 1, x => R (iterR R n) x

def lsum2 {S O1 O2 : Type} (ofS : S → NSt Ty) (abs : (n : NSt Ty) → Option {x : S // ofS x = n}) (L : Nat → Nat → S → Option (O1 ⊕ O2)) (e1 : Ex) (n1 : O1 → NSt Ty) (e2 : Ex) (n2 : O2 → NSt Ty) : LSum Ty :=
  { runK := fun k n _ K => match abs n with
      | some x => (L k k x.1).bind fun y => sumK y (fun a => K e1 (n1 a)) (fun b => K e2 (n2 b))
      | none => none }
theorem lsum2_eq {S O1 O2 : Type} (ofS : S → NSt Ty) (abs : (n : NSt Ty) → Option {x : S // ofS x = n}) (L : Nat → Nat → S → Option (O1 ⊕ O2)) (e1 : Ex) (n1 : O1 → NSt Ty) (e2 : Ex) (n2 : O2 → NSt Ty) :
    lsum2 ofS abs L e1 n1 e2 n2 = LSum.of ofS abs L (oe2 e1 e2) (on2 n1 n2) := by
  unfold lsum2 LSum.of
  congr 1
  funext k n R K
  cases abs n with
  | none => rfl
  | some x =>
    simp only
    congr 1
    funext y
    cases y <;> rfl

def oe3 {O1 O2 O3 : Type} (e1 e2 e3 : Ex) : (O1 ⊕ O2) ⊕ O3 → Ex
  | .inl (.inl _) => e1
  | .inl (.inr _) => e2
  | .inr _ => e3
def on3 {O1 O2 O3 : Type} (n1 : O1 → NSt Ty) (n2 : O2 → NSt Ty) (n3 : O3 → NSt Ty) : (O1 ⊕ O2) ⊕ O3 → NSt Ty
  | .inl (.inl a) => n1 a
  | .inl (.inr a) => n2 a
  | .inr a => n3 a
def oe4 {O1 O2 O3 O4 : Type} (e1 e2 e3 e4 : Ex) : (O1 ⊕ O2) ⊕ (O3 ⊕ O4) → Ex
  | .inl (.inl _) => e1
  | .inl (.inr _) => e2
  | .inr (.inl _) => e3
  | .inr (.inr _) => e4
def on4 {O1 O2 O3 O4 : Type} (n1 : O1 → NSt Ty) (n2 : O2 → NSt Ty) (n3 : O3 → NSt Ty) (n4 : O4 → NSt Ty) : (O1 ⊕ O2) ⊕ (O3 ⊕ O4) → NSt Ty
  | .inl (.inl a) => n1 a
  | .inl (.inr a) => n2 a
  | .inr (.inl a) => n3 a
  | .inr (.inr a) => n4 a
def lsum3 {S O1 O2 O3 : Type} (ofS : S → NSt Ty) (abs : (n : NSt Ty) → Option {x : S // ofS x = n}) (L : Nat → Nat → S → Option ((O1 ⊕ O2) ⊕ O3)) (e1 : Ex) (n1 : O1 → NSt Ty) (e2 : Ex) (n2 : O2 → NSt Ty) (e3 : Ex) (n3 : O3 → NSt Ty) : LSum Ty :=
  { runK := fun k n _ K => match abs n with
      | some x => (L k k x.1).bind fun y => sumK y (fun z => sumK z (fun a => K e1 (n1 a)) (fun b => K e2 (n2 b))) (fun b => K e3 (n3 b))
      | none => none }
def lsum4 {S O1 O2 O3 O4 : Type} (ofS : S → NSt Ty) (abs : (n : NSt Ty) → Option {x : S // ofS x = n}) (L : Nat → Nat → S → Option ((O1 ⊕ O2) ⊕ (O3 ⊕ O4))) (e1 : Ex) (n1 : O1 → NSt Ty) (e2 : Ex) (n2 : O2 → NSt Ty) (e3 : Ex) (n3 : O3 → NSt Ty) (e4 : Ex) (n4 : O4 → NSt Ty) : LSum Ty :=
  { runK := fun k n _ K => match abs n with
      | some x => (L k k x.1).bind fun y => sumK y (fun z => sumK z (fun a => K e1 (n1 a)) (fun b => K e2 (n2 b))) (fun z => sumK z (fun a => K e3 (n3 a)) (fun b => K e4 (n4 b)))
      | none => none }
theorem lsum3_eq {S O1 O2 O3 : Type} (ofS : S → NSt Ty) (abs : (n : NSt Ty) → Option {x : S // ofS x = n}) (L : Nat → Nat → S → Option ((O1 ⊕ O2) ⊕ O3)) (e1 : Ex) (n1 : O1 → NSt Ty) (e2 : Ex) (n2 : O2 → NSt Ty) (e3 : Ex) (n3 : O3 → NSt Ty) :
    lsum3 ofS abs L e1 n1 e2 n2 e3 n3 = LSum.of ofS abs L (oe3 e1 e2 e3) (on3 n1 n2 n3) := by
  unfold lsum3 LSum.of
  congr 1
  funext k n R K
  cases abs n with
  | none => rfl
  | some x =>
    simp only
    congr 1
    funext y
    rcases y with (y | y) | y <;> rfl
theorem lsum4_eq {S O1 O2 O3 O4 : Type} (ofS : S → NSt Ty) (abs : (n : NSt Ty) → Option {x : S // ofS x = n}) (L : Nat → Nat → S → Option ((O1 ⊕ O2) ⊕ (O3 ⊕ O4))) (e1 : Ex) (n1 : O1 → NSt Ty) (e2 : Ex) (n2 : O2 → NSt Ty) (e3 : Ex) (n3 : O3 → NSt Ty) (e4 : Ex) (n4 : O4 → NSt Ty) :
    lsum4 ofS abs L e1 n1 e2 n2 e3 n3 e4 n4 = LSum.of ofS abs L (oe4 e1 e2 e3 e4) (on4 n1 n2 n3 n4) := by
  unfold lsum4 LSum.of
  congr 1
  funext k n R K
  cases abs n with
  | none => rfl
  | some x =>
    simp only
    congr 1
    funext y
    rcases y with (y | y) | (y | y) <;> rfl

theorem lsum_ok {specs : Nat → Option (FSpec Ty)} {keeps : Nat → Keep} {lsums : Nat → Option (LSum Ty)} {fn : Func} (hb : fn.body = some (bodyOf fn)) (hn : nodupB ((loopsIn (bodyOf fn)).map firstRegion) = true) (hL : LSOK specs keeps T fn lsums) {S O : Type} {i : Nat}
    {ofS : S → NSt Ty} {abs : (n : NSt Ty) → Option {x : S // ofS x = n}} {outE : O → Ex} {outN : O → NSt Ty} (outA : (e : Ex) → (n : NSt Ty) → Option {y : O // outE y = e ∧ outN y = n}) {R : Nat → (S → Option O) → S → Option O}
    (hR : ∀ k again x, R k again x = roundK specs keeps lsums T (bodyAt fn i) ofS abs outE outN outA k again x) : LSOK specs keeps T fn (addL i (LSum.of ofS abs (fun k n => iterR (R k) n) outE outN) lsums) := by
  refine LSOK.add hL (LOK.of hL (loopsAt_body hb hn i) ofS abs outE outN outA _ (fun _ _ => rfl) fun k n x => ?_)
  exact hR k _ x

theorem lunroll_ok {specs : Nat → Option (FSpec Ty)} {keeps : Nat → Keep} {lsums : Nat → Option (LSum Ty)} {fn : Func} (hb : fn.body = some (bodyOf fn)) (hn : nodupB ((loopsIn (bodyOf fn)).map firstRegion) = true) (hL : LSOK specs keeps T fn lsums) {i m : Nat} :
    LSOK specs keeps T fn (addL i (LSum.unroll specs keeps lsums T (bodyAt fn i) m) lsums) :=
  LSOK.add hL (LOK.unroll hL (loopsAt_body hb hn i))

theorem lsum2_ok {specs : Nat → Option (FSpec Ty)} {keeps : Nat → Keep} {lsums : Nat → Option (LSum Ty)} {fn : Func} (hb : fn.body = some (bodyOf fn)) (hn : nodupB ((loopsIn (bodyOf fn)).map firstRegion) = true) (hL : LSOK specs keeps T fn lsums) {S O1 O2 : Type} {i : Nat}
    {ofS : S → NSt Ty} {abs : (n : NSt Ty) → Option {x : S // ofS x = n}} {e1 e2 : Ex} {n1 : O1 → NSt Ty} {n2 : O2 → NSt Ty} (outA : (e : Ex) → (n : NSt Ty) → Option {y : O1 ⊕ O2 // oe2 e1 e2 y = e ∧ on2 n1 n2 y = n}) {R : Nat → (S → Option (O1 ⊕ O2)) → S → Option (O1 ⊕ O2)}
    (hR : ∀ k again x, R k again x = roundK specs keeps lsums T (bodyAt fn i) ofS abs (oe2 e1 e2) (on2 n1 n2) outA k again x) : LSOK specs keeps T fn (addL i (lsum2 ofS abs (fun k n => iterR (R k) n) e1 n1 e2 n2) lsums) := by
  rw [lsum2_eq]
  exact lsum_ok hb hn hL outA hR

theorem lsum3_ok {specs : Nat → Option (FSpec Ty)} {keeps : Nat → Keep} {lsums : Nat → Option (LSum Ty)} {fn : Func} (hb : fn.body = some (bodyOf fn)) (hn : nodupB ((loopsIn (bodyOf fn)).map firstRegion) = true) (hL : LSOK specs keeps T fn lsums) {S O1 O2 O3 : Type} {i : Nat}
    {ofS : S → NSt Ty} {abs : (n : NSt Ty) → Option {x : S // ofS x = n}} {e1 e2 e3 : Ex} {n1 : O1 → NSt Ty} {n2 : O2 → NSt Ty} {n3 : O3 → NSt Ty} (outA : (e : Ex) → (n : NSt Ty) → Option {y : (O1 ⊕ O2) ⊕ O3 // oe3 e1 e2 e3 y = e ∧ on3 n1 n2 n3 y = n}) {R : Nat → (S → Option ((O1 ⊕ O2) ⊕ O3)) → S → Option ((O1 ⊕ O2) ⊕ O3)}
    (hR : ∀ k again x, R k again x = roundK specs keeps lsums T (bodyAt fn i) ofS abs (oe3 e1 e2 e3) (on3 n1 n2 n3) outA k again x) : LSOK specs keeps T fn (addL i (lsum3 ofS abs (fun k n => iterR (R k) n) e1 n1 e2 n2 e3 n3) lsums) := by
  rw [lsum3_eq]
  exact lsum_ok hb hn hL outA hR
theorem lsum4_ok {specs : Nat → Option (FSpec Ty)} {keeps : Nat → Keep} {lsums : Nat → Option (LSum Ty)} {fn : Func} (hb : fn.body = some (bodyOf fn)) (hn : nodupB ((loopsIn (bodyOf fn)).map firstRegion) = true) (hL : LSOK specs keeps T fn lsums) {S O1 O2 O3 O4 : Type} {i : Nat}
    {ofS : S → NSt Ty} {abs : (n : NSt Ty) → Option {x : S // ofS x = n}} {e1 e2 e3 e4 : Ex} {n1 : O1 → NSt Ty} {n2 : O2 → NSt Ty} {n3 : O3 → NSt Ty} {n4 : O4 → NSt Ty} (outA : (e : Ex) → (n : NSt Ty) → Option {y : (O1 ⊕ O2) ⊕ (O3 ⊕ O4) // oe4 e1 e2 e3 e4 y = e ∧ on4 n1 n2 n3 n4 y = n}) {R : Nat → (S → Option ((O1 ⊕ O2) ⊕ (O3 ⊕ O4))) → S → Option ((O1 ⊕ O2) ⊕ (O3 ⊕ O4))}
    (hR : ∀ k again x, R k again x = roundK specs keeps lsums T (bodyAt fn i) ofS abs (oe4 e1 e2 e3 e4) (on4 n1 n2 n3 n4) outA k again x) : LSOK specs keeps T fn (addL i (lsum4 ofS abs (fun k n => iterR (R k) n) e1 n1 e2 n2 e3 n3 e4 n4) lsums) := by
  rw [lsum4_eq]
  exact lsum_ok hb hn hL outA hR

/-! ### comparison -/

theorem eqInts : ∀ (xs ys : List Int), xs.length = ys.length → decide (xs = ys) = (xs.zip ys).all fun p => p.1 == p.2 := by
  intro xs
  induction xs with
  | nil => intro ys h; cases ys with
    | nil => rfl
    | cons y ys => cases h
  | cons x xs ih =>
    intro ys h
    cases ys with
    | nil => cases h
    | cons y ys =>
      have := ih ys (by simpa using h)
      simp only [List.zip_cons_cons, List.all_cons, ← this]
      by_cases e : x = y
      · subst e; simp
      · simp [e]

theorem eqLists : ∀ (xs ys : List (List Int)), xs.length = ys.length → decide (xs = ys) = (xs.zip ys).all fun p => decide (p.1 = p.2) := by
  intro xs
  induction xs with
  | nil => intro ys h; cases ys with
    | nil => rfl
    | cons y ys => cases h
  | cons x xs ih =>
    intro ys h
    cases ys with
    | nil => cases h
    | cons y ys =>
      have := ih ys (by simpa using h)
      simp only [List.zip_cons_cons, List.all_cons, ← this]
      by_cases e : x = y
      · subst e; simp
      · simp [e]

theorem EqAt.more {n m t : Nat} (hn : n ≤ m) (h : EqAt P T n t) : EqAt P T m t := by
  intro w D gv x y X Y b f hx hy tx ty he d
  have := h w D gv x y X Y b f hx hy tx ty he (d + (m - n))
  rwa [show d + (m - n) + n = d + m by omega] at this
end
end V
namespace V
open Go

/-! ### wraps -/
theorem wI_in {x : Int} (h : -9223372036854775808 ≤ x ∧ x ≤ 9223372036854775807) : IntKind.i64.wrap x = x := by
  show (let m := x % (18446744073709551616 : Int); if (true && decide (m ≥ (9223372036854775808 : Int))) = true then m - 18446744073709551616 else m) = x
  simp only [Bool.true_and, decide_eq_true_eq]
  split <;> omega
theorem w8_eq (x : Int) : IntKind.u8.wrap x = x % 256 := by
  simp [IntKind.wrap, IntKind.signed, IntKind.bits]
theorem w32_eq (x : Int) : IntKind.u32.wrap x = x % 4294967296 := by
  simp [IntKind.wrap, IntKind.signed, IntKind.bits]
theorem w64_eq (x : Int) : IntKind.u64.wrap x = x % 18446744073709551616 := by
  simp [IntKind.wrap, IntKind.signed, IntKind.bits]
theorem w64_in {x : Int} (h : 0 ≤ x ∧ x < 18446744073709551616) : IntKind.u64.wrap x = x := by rw [w64_eq]; omega

theorem inRange_true {i : Int} {n : Nat} (h : 0 ≤ i ∧ i < n) : inRange i n = true := by simp [inRange, h]

/-! ### loops -/
section
variable {S O : Type} {R : (S → Option O) → S → Option O}

/-- a loop comes to an end, and to what is said of it -/
theorem iter_post (P : S → Prop) (μ : S → Nat) (Q : S → O → Prop)
    (step : ∀ x, P x → (∃ o, (∀ again, R again x = some o) ∧ Q x o) ∨ (∃ y, (∀ again, R again x = again y) ∧ P y ∧ μ y < μ x ∧ ∀ o, Q y o → Q x o)) :
    ∀ n x, P x → μ x < n → ∃ o, iterR R n x = some o ∧ Q x o := by
  intro n
  induction n with
  | zero => intro x _ h; omega
  | succ n ih =>
    intro x hP hn
    rcases step x hP with ⟨o, h1, h2⟩ | ⟨y, h1, h2, h3, h4⟩
    · exact ⟨o, h1 _, h2⟩
    · obtain ⟨o, k1, k2⟩ := ih y h2 (by omega)
      exact ⟨o, by simp only [iterR]; rw [h1]; exact k1, h4 o k2⟩
/-- a loop comes to what is said -/
theorem iter_out (P : S → Prop) (μ : S → Nat) (out : S → O)
    (step : ∀ x, P x → (∀ again, R again x = some (out x)) ∨ (∃ y, (∀ again, R again x = again y) ∧ P y ∧ μ y < μ x ∧ out y = out x)) {n : Nat} {x : S} (hP : P x) (hn : μ x < n) : iterR R n x = some (out x) := by
  obtain ⟨o, h1, h2⟩ := iter_post (R := R) P μ (fun x o => o = out x) (fun x hx => by
    rcases step x hx with h | ⟨y, h1, h2, h3, h4⟩
    · exact .inl ⟨_, h, rfl⟩
    · exact .inr ⟨y, h1, h2, h3, fun o h => h.trans h4⟩) n x hP hn
  rw [h1, h2]
end

theorem drop_cons {α : Type} {l : List α} {i : Nat} (d : α) (h : i < l.length) : l.drop i = l.getD i d :: l.drop (i + 1) := by
  rw [List.getD_eq_getElem?_getD, List.getElem?_eq_getElem h]
  exact List.drop_eq_getElem_cons h
end V
namespace V
open Go
section
variable {Ty : Nat → Type} {T : Tab Ty} {P : Program}

def noK : Nat → Keep := fun _ => ⟨[], [], 0⟩

/-- slices.Clone -/
def cloneF {α : Type} (_ : Nat) (x : List α × Unit) : Option (List α) :=
  match x with
  | (l, ()) => bif decide (l.length ≤ roomMost) then some l else none

theorem clone_ok (hT : TabOK P T) (hS : SpecsOK P T (noF : Nat → Option (FSpec Ty))) {f : FuncId} {fn : Func} (hf : P.funcs[f]? = some fn) (hb : fn.body = some (bodyOf fn)) (hd : dsts fn.ntmps (bodyOf fn) = true) (hn : nodupB ((loopsIn (bodyOf fn)).map firstRegion) = true)
    {e : Nat} {A : Args Ty (List (Ty e) × Unit)} {B : Res Ty T (List (Ty e)) true} (hA : ∀ l, A.enc (l, ()) = [.slice e l]) (hB : ∀ l, B.enc l = .slice e l)
    (h0 : XF (noF : Nat → Option (FSpec Ty)) noK noL T 0 fn [.nils e] (AV Ty) some = some (.slice e []))
    (h1 : ∀ xs : List (Ty e), XF (noF : Nat → Option (FSpec Ty)) noK noL T 0 fn [.slicen e xs] (AV Ty) some = cond (decide ((List.replicate 0 (T.dflt e)).length + xs.length ≤ roomMost)) (some (.slice e (List.replicate 0 (T.dflt e) ++ xs))) none) :
    FOK P T f (spec A B cloneF) := by
  refine ⟨?_, HOK.none rfl, POK.none rfl⟩
  intro k args r hr w D vals hG hD hrep
  unfold spec FSpec.of at hr
  simp only at hr
  split at hr
  case h_2 => cases hr
  rename_i x hx
  obtain ⟨l, u⟩ := x
  cases u
  have hargs := A.spec _ _ hx
  rw [hA] at hargs
  subst hargs
  unfold cloneF at hr
  simp only at hr
  cases hl : decide (l.length ≤ roomMost) with
  | false => rw [hl] at hr; cases hr
  | true =>
    rw [hl] at hr
    simp only [cond_true, Option.bind_some, Option.some.injEq] at hr
    subst hr
    have hout : (B.enc l).out true T := B.out l
    cases hrep with
    | cons h1' hrest =>
      cases hrest
      have hc := h1'.one_inv rfl (by simp) (by simp) (by simp)
      rename_i x
      have hcase : (x = .slice none 0 0 ∧ l = []) ∨ RepV T w D (fun _ => none) (.slicen e l) x := by
        cases hc with
        | snil _ a cap ha =>
          cases a with
          | none => rw [ha rfl]; exact .inl ⟨rfl, rfl⟩
          | some a => exact .inr (.elem (.one rfl (.slicen0 _ _ _)))
        | slice d l a h => exact .inr (.elem (.one rfl (.slicen d l a h)))
      rcases hcase with ⟨rfl, rfl⟩ | hv
      · rw [hB] at hout ⊢
        exact xf_calls hT hS hf hb hd hn LSOK.none h0 (fun v hv => Option.some.inj hv) hout hG hD (.cons (.elem (.one rfl (.nils e))) .nil)
      · rw [hB] at hout ⊢
        have := h1 l
        rw [show (List.replicate 0 (T.dflt e)).length + l.length = l.length by simp, hl, cond_true] at this
        have h2 : List.replicate 0 (T.dflt e) ++ l = l := rfl
        rw [h2] at this
        exact xf_calls hT hS hf hb hd hn LSOK.none this (fun v hv => Option.some.inj hv) hout hG hD (.cons hv .nil)
/-- a contract that is proved by hand -/
theorem hand_ok {f : FuncId} {α β : Type} {al : Bool} {A : Args Ty α} {B : Res Ty T β al} {F : Nat → α → Option β}
    (h : ∀ k x y, F k x = some y → ∀ (w : World) (D : Nat → Prop) (vals : List Value), GlobOK T w → (∀ b, D b → b < w.heap.size) → RepL T w D (A.enc x) vals →
      Calls P f vals.toArray w fun e w' => ∃ v, e = .returned v ∧ RepV T w' (fun b => (al = true ∧ D b) ∨ (w.heap.size ≤ b ∧ b < w'.heap.size)) (fun _ => none) (B.enc y) v ∧ w.grownBy w' none) : FOK P T f (spec A B F) := by
  refine ⟨?_, HOK.none rfl, POK.none rfl⟩
  intro k args r hr w D vals hG hD hrep
  unfold spec FSpec.of at hr
  simp only at hr
  cases hd : A.dec args with
  | none => rw [hd] at hr; cases hr
  | some x =>
    rw [hd] at hr
    simp only at hr
    cases hF : F k x with
    | none => rw [hF] at hr; cases hr
    | some y =>
      rw [hF] at hr
      simp only [Option.bind_some, Option.some.injEq] at hr
      subst hr
      rw [← A.spec _ _ hd] at hrep
      exact h k x y hF w D vals hG hD hrep

/-- errors.Is(err, a number) -/
def errIsF (_ : Nat) (x : GErr × GErr × Unit) : Option Bool :=
  match x with
  | (e, .num n, ()) => some (e.has n)
  | _ => none
theorem errIs_ok {f : FuncId} {A : Args Ty (GErr × GErr × Unit)} {B : Res Ty T Bool false} (hA : ∀ e t, A.enc (e, t, ()) = [.err e, .err t]) (hB : ∀ b, B.enc b = .bool b)
    (calls : ∀ (W : World) (D : Nat → Prop) (n : Int) (e : GErr) (x : Value), ErrRep T W D e x → Calls P f #[x, .iface T.errnoTy (.int .i64 n)] W fun r w' => r = .returned (.bool (e.has n)) ∧ w' = W) : FOK P T f (spec A B errIsF) := by
  refine hand_ok fun k x y hF w D vals hG hD hrep => ?_
  obtain ⟨e, t, u⟩ := x
  cases t with
  | nil => cases hF
  | flt _ _ _ => cases hF
  | num n =>
    simp only [errIsF, Option.some.injEq] at hF
    subst hF
    rw [hA] at hrep
    cases hrep with
    | cons h1 h2 =>
      cases h2 with
      | cons h3 h4 =>
        cases h4
        have r1 := h1.err_inv
        have r2 := h3.err_inv
        cases r2
        refine (calls w D n e _ r1).mono ?_
        rintro r w' ⟨rfl, rfl⟩
        refine ⟨_, rfl, ?_, ⟨rfl, rfl, rfl, Nat.le_refl _, fun _ _ _ => rfl⟩⟩
        rw [hB]
        exact .elem (.one rfl (.bool _))
end
end V
namespace V
open Go
section
variable {Ty : Nat → Type} {T : Tab Ty} {P : Program}

def primSpec (p : Prim Ty) : FSpec Ty := { runK := fun _ _ _ _ => none, nat := by intros; rfl, alias := false, prim := some p }

theorem primSpec_ok {f : Nat} {p : Prim Ty} (h : ∀ {w0 : Base} {D0 : Nat → Prop} {N : Nat} {s : St Ty} {a : Act} {w : World} {D : Nat → Prop} {gv : Nat → Option GObj} (d : Nat) (vs : List (AV Ty)) (vals : List Value) (v : AV Ty) (ups : List (Nat × Obj Ty)),
    Inv T w0 D0 N s a w D gv → vs.length = vals.length → (∀ i u, vs[i]? = some u → RepV T w D gv u (vals.getD i Go.undef)) → p.eff d vs s.obj = some (true, v, ups) →
      Calls P f vals.toArray w fun e w' => ∃ x D' gv', e = .returned x ∧ RepV T w' D' gv' v x ∧ Inv T w0 D0 N { s with obj := Obj.upd s.obj ups } a w' D' gv') : FOK P T f (primSpec p) :=
  ⟨fun _ _ _ h => (by cases h), HOK.none rfl, fun q hq => by cases hq; exact h⟩

/-- slices.Clone of what has no slices in it: a row of the caller's own -/
def clonePrim (T : Tab Ty) (e : Nat) : Prim Ty where
  eff d vs ob := match vs with
    | [x] => match (settle T ob x).elems e with
      | some xs => match ob d with
        | .none => some (decide (xs.length ≤ roomMost), .row d, [(d, .row e xs)])
        | _ => none
      | none => none
    | _ => none
  reads d vs := d :: vs.flatMap AV.shares
  congr d vs ob ob' h := by
    match vs with
    | [x] =>
      simp only
      rw [settle_congr fun i hi => h i (by simp [hi]), h d (by simp)]
    | [] => rfl
    | x :: y :: r => rfl

theorem encs_flat (hT : TabOK P T) {t : Nat} (ht : T.flatTy t = true) (xs : List (Ty t)) : (encs T t xs).flat T = true := by
  induction xs with
  | nil => rfl
  | cons x r ih => simp only [encs, List.map_cons, listAV, AV.flat, Bool.and_eq_true] at ih ⊢; exact ⟨hT.flat t x ht, ih⟩

theorem clonePrim_ok (hT : TabOK P T) (hS : SpecsOK P T (noF : Nat → Option (FSpec Ty))) {f : FuncId} {fn : Func} (hf : P.funcs[f]? = some fn) (hb : fn.body = some (bodyOf fn)) (hd : dsts fn.ntmps (bodyOf fn) = true) (hn : nodupB ((loopsIn (bodyOf fn)).map firstRegion) = true)
    {e : Nat} (hfl : T.flatTy e = true)
    (h0 : XH (noF : Nat → Option (FSpec Ty)) noK noL T 0 0 fn ⟨[.nils e], []⟩ (NSt Ty) some = some ⟨[.row cbase], [.row e []]⟩)
    (h1 : ∀ xs : List (Ty e), XH (noF : Nat → Option (FSpec Ty)) noK noL T 0 0 fn ⟨[.slicen e xs], []⟩ (NSt Ty) some = cond (decide ((List.replicate 0 (T.dflt e)).length + xs.length ≤ roomMost)) (some ⟨[.row cbase], [.row e (List.replicate 0 (T.dflt e) ++ xs)]⟩) none) :
    FOK P T f (primSpec (clonePrim T e)) := by
  refine primSpec_ok fun {w0 D0 N s a w D gv} d vs vals v ups h hlen hrep heff => ?_
  unfold clonePrim at heff
  simp only at heff
  split at heff
  case h_2 => cases heff
  rename_i x
  split at heff
  case h_2 => cases heff
  rename_i xs hxs
  split at heff
  case h_2 => cases heff
  rename_i hdn
  simp only [Option.some.injEq, Prod.mk.injEq, decide_eq_true_eq] at heff
  obtain ⟨hl, rfl, rfl⟩ := heff
  obtain ⟨X, rfl⟩ : ∃ X, vals = [X] := by
    match vals, hlen with
    | [X], _ => exact ⟨X, rfl⟩
  have hx := hrep 0 x rfl
  simp only [List.getD_cons_zero] at hx
  have hpl := elems_plain hxs
  have hxc := hx.one_inv hpl.1 hpl.2.1 hpl.2.2.1 hpl.2.2.2
  obtain ⟨D1, hD, hsh, _, hinv⟩ := h.freeze hT x.shares
  have hset := settle_rep hT h.obj hD hxc hsh
  have hslice : settle T s.obj x = .slice e xs := by
    cases hq : settle T s.obj x <;> rw [hq] at hxs <;> simp only [AV.elems] at hxs <;> first | (cases hxs; done) | skip
    split at hxs
    case isFalse => cases hxs
    rename_i hte
    subst hte
    cases hxs
    rfl
  rw [hslice] at hset
  have hset0 : RepC T w D1 (fun _ => none) (.slice e xs) [X] := hset.regv hT rfl
  -- the call
  let B : Base := { world := w, fp := fun _ => False }
  have ent : ∀ u : AV Ty, RepV T w D1 (fun _ => none) u X → Inv T B D1 [X].length ((⟨[u], []⟩ : NSt Ty).toSt (List.range [X].length)) { tmps := [X].toArray, defers := [] } B.world D1 (fun _ => none) := by
    intro u hu
    refine { defers := rfl, size := rfl, env := fun t => ?_, obj := fun o => ?_, apart := fun _ _ _ _ _ _ _ _ h => (by cases h), grown := ⟨rfl, rfl, rfl, Nat.le_refl _, fun _ _ _ => rfl⟩, dold := fun _ h => h, dlt := hinv.dlt, dnew := fun b h => .inl h, glob := ⟨h.globOK, fun p _ h => h⟩, pins := fun j b hj => (by cases hj) }
    · cases t with
      | zero => exact hu
      | succ t => exact .elem (.undef _)
    · show ObjOK T w B.Own D1 (fun _ => none) o (cond (Nat.blt o cbase) .none (([] : List (Obj Ty)).getD (o - cbase) .dead))
      cases Nat.blt o cbase with
      | true => exact .none rfl
      | false => exact .dead
  have fin : ∀ u : AV Ty, RepV T w D1 (fun _ => none) u X → XH (noF : Nat → Option (FSpec Ty)) noK noL T 0 0 fn ⟨[u], []⟩ (NSt Ty) some = some ⟨[.row cbase], [.row e xs]⟩ →
      Calls P f [X].toArray w fun e' w' => ∃ x D' gv', e' = .returned x ∧ RepV T w' D' gv' (.row d) x ∧ Inv T w0 D0 N { s with obj := Obj.upd s.obj [(d, .row e xs)] } a w' D' gv' := by
    intro u hu hX
    refine (hn_sound hT hS hf hb hd hn LSOK.none (np := 0) (fun i => Nat.zero_le _) hX (fun v hv => Option.some.inj hv) B D1 (fun _ => none) [X] (fun j b hj => by cases hj) (ent u hu) rfl).mono ?_
    rintro e' w' ⟨y, D2, gv2, rfl, hfin⟩
    have hy := hfin.env 0
    have hy' : RepV T w' D2 gv2 (.row cbase) y := hy
    obtain ⟨g, n, cap, sz, hg, rfl⟩ := hy'.row_inv
    have hob := hfin.obj cbase
    have hob' : ObjOK T w' B.Own D2 gv2 cbase (.row e xs) := hob
    cases hob' with
    | row k1 k2 k3 k4 =>
      rw [hg] at k1
      cases k1
      have hgr : w.grownBy w' none := hfin.grown.grownBy fun _ h => h
      have hw := h.world hgr
      have hnew : ∀ b, g = some b → w.heap.size ≤ b := fun b hb => (k4 b hb).1.elim (fun h => h.elim) id
      refine ⟨_, D, gset gv d (.row g xs.length cap (T.size e)), rfl, .elem (.one rfl (.row (gset_same _ _ _))), ?_⟩
      refine Inv.new hw hdn (.row (gset_same _ _ _) (k2.flat hT (encs_flat hT hfl xs)) k3 fun b hb => ⟨.inr (Nat.le_trans h.grown.size (hnew b hb)), fun hD' => ?_⟩) fun o g' b ho hl hg' hb hgb => ?_
      · have := h.dlt b hD'
        have := hnew b hb
        omega
      · have h2 := (live_blk (h.obj o) hl hg' hb).1
        have := hnew b (by simpa [GObj.blk] using hgb)
        omega
  have hcase : (X = .slice none 0 0 ∧ xs = []) ∨ RepV T w D1 (fun _ => none) (.slicen e xs) X := by
    cases hset0 with
    | snil _ a cap ha =>
      cases a with
      | none => rw [ha rfl]; exact .inl ⟨rfl, rfl⟩
      | some a => exact .inr (.elem (.one rfl (.slicen0 _ _ _)))
    | slice d l a h => exact .inr (.elem (.one rfl (.slicen d l a h)))
  rcases hcase with ⟨rfl, rfl⟩ | hv
  · exact fin (.nils e) (.elem (.one rfl (.nils e))) h0
  · have := h1 xs
    rw [show (List.replicate 0 (T.dflt e)).length + xs.length = xs.length by simp, decide_eq_true hl, cond_true] at this
    exact fin (.slicen e xs) hv this
end
end V
