/-
  Each operation does what its abstract fellow does. No conditions.
-/
import Derived.Laws.OwnMore
import Derived.Lib.AppendZeros
import Derived.Lib.AppendZerosOnto
import Derived.Test.YtofodkmokjhcoaaVK1
namespace V
open Go
section
variable {Ty : Nat → Type} {T : Tab Ty} {P : Program}
variable {w0 : Base} {D0 : Nat → Prop} {N : Nat} {s : St Ty} {a : Act} {w : World} {D : Nat → Prop} {gv : Nat → Option GObj}

/-- the operation does what its abstract fellow does -/
def Does (P : Program) (T : Tab Ty) (w0 : Base) (D0 : Nat → Prop) (N : Nat) (s : St Ty) (a : Act) (w : World) (D : Nat → Prop) (o : Oper) (v : AV Ty) (ups : List (Nat × Obj Ty)) : Prop :=
  ∃ x w' D' gv', ((execOp a.eval o).run P w = .ok (.value x) w' ∨ ((execOp a.eval o).run P w = .ok .skip w' ∧ x = Go.undef)) ∧
    RepV T w' D' gv' v x ∧ Inv T w0 D0 N { s with obj := Obj.upd s.obj ups } a w' D' gv' ∧ (∀ b, D b → D' b)

theorem Does.pure {o : Oper} {v : AV Ty} (h : Inv T w0 D0 N s a w D gv) {x : Value} (hr : (execOp a.eval o).run P w = .ok (.value x) w) (hv : RepV T w D gv v x) :
    Does P T w0 D0 N s a w D o v [] := ⟨x, w, D, gv, .inl hr, hv, h, fun _ h => h⟩

variable {o : Oper} {d : Nat} {c : Bool} {v : AV Ty} {ups : List (Nat × Obj Ty)}

theorem ans_inj {v' : AV Ty} (h : ans v' = Eff.ok c v ups) : c = true ∧ v = v' ∧ ups = [] := by
  unfold ans at h; cases h; exact ⟨rfl, rfl, rfl⟩
theorem ansIf_inj {c' : Bool} {v' : AV Ty} (h : ansIf c' v' = Eff.ok c v ups) : c = c' ∧ v = v' ∧ ups = [] := by
  unfold ansIf at h; cases h; exact ⟨rfl, rfl, rfl⟩
theorem does_inj {v' : AV Ty} {u' : List (Nat × Obj Ty)} (h : does v' u' = Eff.ok c v ups) : c = true ∧ v = v' ∧ ups = u' := by
  unfold does at h; cases h; exact ⟨rfl, rfl, rfl⟩
theorem cond_fail {b : Bool} {e : Eff Ty} (h : cond b e .fail = Eff.ok c v ups) : b = true ∧ e = Eff.ok c v ups := by
  cases b with
  | false => cases h
  | true => exact ⟨rfl, h⟩

theorem snd_move (h : Inv T w0 D0 N s a w D gv) {x : Operand} (ho : o.op = .move x ∨ o.op = .assign x) (he : effOp T o d s.eval s.obj = .ok c v ups) : Does P T w0 D0 N s a w D o v ups := by
  have hr : (execOp a.eval o).run P w = .ok (.value (a.eval x)) w := by
    rcases ho with ho | ho <;> simp [execOp, ho]
  have key : moveE T o.type s.eval x = Eff.ok c v ups := by
    rcases ho with ho | ho <;> (unfold effOp at he; rw [ho] at he; exact he)
  unfold moveE at key
  split at key
  · split at key
    · obtain ⟨_, rfl, rfl⟩ := ans_inj key
      exact .pure h hr (.elem (.one rfl (.nils _)))
    · cases key
  · obtain ⟨_, rfl, rfl⟩ := ans_inj key
    exact .pure h hr (h.eval _)

theorem snd_pick (h : Inv T w0 D0 N s a w D gv) {x y z : Operand} (ho : o.op = .pick x y z) (he : effOp T o d s.eval s.obj = .ok c v ups) : Does P T w0 D0 N s a w D o v ups := by
  unfold effOp at he; rw [ho] at he
  simp only at he
  split at he
  · rename_i t ht
    obtain ⟨_, rfl, rfl⟩ := ans_inj he
    have hb := h.eval x
    rw [ht] at hb
    have hx := hb.bool_inv
    refine .pure h (x := if t then a.eval y else a.eval z) (by simp [execOp, ho, hx, asBool]) ?_
    cases t
    · exact h.eval z
    · exact h.eval y
  · cases he

theorem snd_extract (h : Inv T w0 D0 N s a w D gv) {x : Operand} {i : Nat} (ho : o.op = .extract x i) (he : effOp T o d s.eval s.obj = .ok c v ups) : Does P T w0 D0 N s a w D o v ups := by
  unfold effOp at he; rw [ho] at he
  simp only at he
  split at he
  · rename_i vs ht
    split at he
    · rename_i u hu
      obtain ⟨_, rfl, rfl⟩ := ans_inj he
      have hb := h.eval x
      rw [ht] at hb
      generalize hax : a.eval x = ax at hb
      cases hb with
      | elem hb => cases hb with
        | agg h1 _ => cases h1
        | one _ h2 => cases h2
      | @tup _ xs hb =>
        have key : ∀ (vs : AV Ty) (xs : List Value) (i : Nat) (u : AV Ty), RepT T w D gv vs xs → vs.nth i = some u → ∃ y, xs[i]? = some y ∧ RepE T w D gv u y := by
          intro vs xs i u hrep
          induction hrep generalizing i with
          | nil => intro hn; simp [AV.nth] at hn
          | cons h1 _ ih =>
            intro hn
            cases i with
            | zero => simp only [AV.nth, Option.some.injEq] at hn; subst hn; exact ⟨_, rfl, h1⟩
            | succ i => simpa using ih i hn
        obtain ⟨y, hy, hr⟩ := key _ _ _ _ hb hu
        refine .pure h (x := y) (by simp [execOp, ho, hax, Instr.extract, hy]) (.elem hr)
    · cases he
  · cases he

theorem snd_makeInterface (hT : TabOK P T) (h : Inv T w0 D0 N s a w D gv) {t : TypeId} {x : Operand} (ho : o.op = .makeInterface t x) (he : effOp T o d s.eval s.obj = .ok c v ups) : Does P T w0 D0 N s a w D o v ups := by
  unfold effOp at he; rw [ho] at he
  simp only at he
  obtain ⟨hk, he⟩ := cond_fail he
  simp only [Bool.and_eq_true] at hk
  obtain ⟨⟨hp, hk⟩, hni⟩ := hk
  have hv := h.eval x
  have hplain : s.eval x ≠ .undef ∧ s.eval x ≠ .skp ∧ ∀ vs, s.eval x ≠ .tup vs := by
    refine ⟨?_, ?_, ?_⟩ <;> intros <;> intro e <;> rw [e] at hp <;> cases hp
  have hrun : (Instr.makeInterface t (a.eval x)).run P w = .ok (.iface t (a.eval x)) w := by
    have htd := hT.td t
    unfold Instr.makeInterface
    rw [Sem.run_bind]
    cases hd : T.td t with
    | other => rw [hd] at hk; cases hk
    | iface => rw [hd] at hni; cases hni
    | map k => rw [hd] at hk; cases hk
    | struct fs =>
      rw [hd] at htd
      obtain ⟨f, hf, _⟩ := htd
      rw [run_underlying hf]; rfl
    | _ => rw [hd] at htd; simp only [TDok] at htd; rw [run_underlying htd]; rfl
  split at he
  · rename_i n hn
    obtain ⟨_, rfl, rfl⟩ := ans_inj he
    unfold numOf at hn
    cases ht : t == T.errnoTy with
    | false => rw [ht] at hn; cases hn
    | true =>
      rw [ht, cond_true] at hn
      have ht' : t = T.errnoTy := by simpa using ht
      split at hn
      case h_2 => cases hn
      rename_i m hx
      cases hn
      rw [hx] at hv
      have hax := hv.int_inv
      refine .pure h (x := .iface t (a.eval x)) (by simp [execOp, ho, hrun]) ?_
      rw [hax, ht']
      exact .elem (.one rfl (.err (.num n)))
  obtain ⟨_, rfl, rfl⟩ := ans_inj he
  refine .pure h (x := .iface t (a.eval x)) (by simp [execOp, ho, hrun]) ?_
  cases ha : (s.eval x).isAgg with
  | true =>
    obtain ⟨cs, e, hr⟩ := hv.agg_inv ha
    rw [e]
    exact .elem (.one rfl (.ifaceA ha hr))
  | false => exact .elem (.one rfl (.ifaceS ha (hv.one_inv ha hplain.1 hplain.2.1 hplain.2.2)))

theorem snd_nilCheck (h : Inv T w0 D0 N s a w D gv) {x : Operand} (ho : o.op = .nilCheck x) (he : effOp T o d s.eval s.obj = .ok c v ups) (hc : c = true) : Does P T w0 D0 N s a w D o v ups := by
  unfold effOp at he; rw [ho] at he
  simp only at he
  have hv := h.eval x
  split at he
  case h_5 => cases he
  all_goals
    rename_i hx
    rw [hx] at hv
  · obtain ⟨_, rfl, rfl⟩ := ans_inj he
    obtain ⟨b, _, _, e⟩ := hv.ptr_inv
    exact .pure h (x := a.eval x) (by simp [execOp, ho, e]) hv
  · obtain ⟨_, rfl, rfl⟩ := ans_inj he
    obtain ⟨b, _, _, _, _, _, _, e⟩ := hv.rptr_inv
    exact .pure h (x := a.eval x) (by simp [execOp, ho, e]) hv
  · obtain ⟨_, rfl, rfl⟩ := ans_inj he
    obtain ⟨b, off, _, _, _, _, e⟩ := hv.cptr_inv
    exact .pure h (x := a.eval x) (by simp [execOp, ho, e]) hv
  · obtain ⟨h1, rfl, rfl⟩ := ansIf_inj he
    rw [hc] at h1
    rcases hv.opt_inv with ⟨rfl, _⟩ | ⟨z, b, off, cs, rfl, hD, hA, hr, e⟩
    · cases h1
    · exact .pure h (x := a.eval x) (by simp [execOp, ho, e]) (by rw [e]; exact .elem (.one rfl (.cptr hD hA hr)))

theorem encs_bytes (hT : TabOK P T) {e : Nat} (he : T.td e = .int .u8) : ∀ (ys : List (Ty e)) (cs : List Value), RepC T w D gv (encs T e ys) cs → cs = (ys.map (T.num e)).map (Value.int .u8) := by
  intro ys
  induction ys with
  | nil => intro cs h; cases h; rfl
  | cons y ys ih =>
    intro cs h
    simp only [encs, List.map_cons, listAV] at h
    cases h with
    | cons h1 h2 =>
      have := ih _ h2
      obtain ⟨n, hn⟩ := hT.num e y he
      rw [hn] at h1
      cases h1
      rw [this]
      simp [Tab.num, hn]

theorem snd_convert (hT : TabOK P T) (h : Inv T w0 D0 N s a w D gv) {src dst : TypeId} {x : Operand} (ho : o.op = .convert src dst x) (he : effOp T o d s.eval s.obj = .ok c v ups) : Does P T w0 D0 N s a w D o v ups := by
  unfold effOp at he; rw [ho] at he
  simp only at he
  have t1 := hT.td src
  have t2 := hT.td dst
  have hv := h.eval x
  split at he
  · rename_i k1 k2 k3 n h1 h2 h3
    obtain ⟨_, rfl, rfl⟩ := ans_inj he
    rw [h3] at hv
    have e := hv.int_inv
    rw [h1] at t1; rw [h2] at t2
    simp only [TDok] at t1 t2
    refine .pure h (x := .int k2 (k2.wrap n)) (by simp [execOp, ho, e, convert, run_underlying t1, run_underlying t2, Conv.intToInt]) (.elem (.one rfl (.int _ _)))
  · rename_i e h1 h2
    split at he
    case h_2 => cases he
    rename_i h3
    split at he
    case h_2 => cases he
    rename_i xs hxs
    obtain ⟨_, rfl, rfl⟩ := ans_inj he
    have t3 := hT.td e
    rw [h1] at t1; rw [h2] at t2; rw [h3] at t3
    simp only [TDok] at t1 t2 t3
    have hna : (s.eval x).isAgg = false ∧ s.eval x ≠ .undef ∧ s.eval x ≠ .skp ∧ ∀ vs, s.eval x ≠ .tup vs := by
      refine ⟨?_, ?_, ?_, ?_⟩
      · rw [← settle_isAgg (T := T) s.obj]
        cases hq : settle T s.obj (s.eval x) <;> rw [hq] at hxs <;> first | rfl | simp [AV.elems] at hxs
      all_goals intros
      all_goals intro hq
      all_goals rw [hq] at hxs
      all_goals simp [settle, AV.elems] at hxs
    have hcell := hv.one_inv hna.1 hna.2.1 hna.2.2.1 hna.2.2.2
    refine .pure h (x := .string (bytesStr (xs.map (T.num e)))) ?_ (.elem (.one rfl (.str _)))
    rcases elems_rep hT h.obj hcell hxs with ⟨e1, rfl⟩ | ⟨ad, cap, cs, e1, hc, hr⟩
    · simp only [execOp, ho, e1, Sem.run_bind]
      rw [run_convert_bytes_string w src dst e none 0 0 t1 t3 t2]
      rfl
    · have hcs := encs_bytes hT h3 xs cs hr
      have hlen : cs.length = xs.length := by rw [hcs]; simp
      have hload := run_loadCells_list (P := P) (w := w) ad cs hc
      rw [hlen, hcs] at hload
      simp only [execOp, ho, e1, Sem.run_bind]
      rw [run_convert_bytes_string w src dst e (some ad) xs.length cap t1 t3 t2, run_bytesToString w ad xs.length cap _ hload]
      rfl
  · cases he

theorem snd_unOp (h : Inv T w0 D0 N s a w D gv) {op : UnOp} {t : TypeId} {x : Operand} (ho : o.op = .unOp op t x) (he : effOp T o d s.eval s.obj = .ok c v ups) : Does P T w0 D0 N s a w D o v ups := by
  unfold effOp at he; rw [ho] at he
  simp only [unAV] at he
  have hv := h.eval x
  split at he
  · rename_i b hx
    obtain ⟨_, rfl, rfl⟩ := ans_inj he
    rw [hx] at hv
    exact .pure h (x := .bool !b) (by simp [execOp, ho, hv.bool_inv, Op.unary]) (.elem (.one rfl (.bool _)))
  · rename_i k n hx
    obtain ⟨_, rfl, rfl⟩ := ans_inj he
    rw [hx] at hv
    exact .pure h (x := .int k (k.wrap (0 - n))) (by simp [execOp, ho, hv.int_inv, Op.unary, Op.intArith]) (.elem (.one rfl (.int _ _)))
  · rename_i k n hx
    obtain ⟨_, rfl, rfl⟩ := ans_inj he
    rw [hx] at hv
    exact .pure h (x := .int k (k.wrap (BitVec.ofInt k.bits (if k.signed then -1 else k.max) ^^^ BitVec.ofInt k.bits n).toNat))
      (by simp [execOp, ho, hv.int_inv, Op.unary, Op.intBits]) (.elem (.one rfl (.int _ _)))
  · cases he

theorem eqGuard_int (P : Program) (w : World) (op : BinOp) (t : TypeId) (x y : Operand) (k k' : IntKind) (m n : Int) : (eqGuard op t x y (.int k m) (.int k' n)).run P w = .ok () w := by
  unfold eqGuard
  cases op <;> rfl

theorem snd_binOp_int (h : Inv T w0 D0 N s a w D gv) {op : BinOp} {t t2 : TypeId} {x y : Operand} (ho : o.op = .binOp op t x y t2) {k k' : IntKind} {m n : Int} (hx : s.eval x = .int k m) (hy : s.eval y = .int k' n) (hns : isNilS y = false) (hni' : isNilI y = false) (hnP : isNilP y = false)
    (he : effOp T o d s.eval s.obj = .ok c v ups) (hc : c = true) : Does P T w0 D0 N s a w D o v ups := by
  unfold effOp at he; rw [ho] at he
  simp only [hx, hy, hns, hni', hnP, cond_false] at he
  have ex : a.eval x = .int k m := by have := h.eval x; rw [hx] at this; exact this.int_inv
  have ey : a.eval y = .int k' n := by have := h.eval y; rw [hy] at this; exact this.int_inv
  have hrun : ∀ u, (binOp op t (.int k m) (.int k' n)).run P w = .ok u w → (execOp a.eval o).run P w = .ok (.value u) w := by
    intro u hu
    simp [execOp, ho, ex, ey, Sem.run_bind, eqGuard_int, hu]
  have hi : ∀ k n, RepV T w D gv (.int k n : AV Ty) (.int k n) := fun k n => .elem (.one rfl (.int k n))
  have hb : ∀ b, RepV T w D gv (.bool b : AV Ty) (.bool b) := fun b => .elem (.one rfl (.bool b))
  by_cases hsh : op = .shl ∨ op = .shr
  · rcases hsh with rfl | rfl
    all_goals
      simp only [binAV, shiftOp] at he
      obtain ⟨rfl, rfl, rfl⟩ := ansIf_inj he
      have h0 : 0 ≤ n := by simpa using hc
      have hlt : ¬ n < 0 := by omega
      exact .pure h (hrun _ (by simp [binOp, Op.shift, hlt])) (hi _ _)
  · have he' : cond (decide (k = k')) (intOp op k m n) (.fail : Eff Ty) = .ok c v ups := by
      cases op <;> first | exact he | exact absurd (.inl rfl) hsh | exact absurd (.inr rfl) hsh
    obtain ⟨hk, he'⟩ := cond_fail he'
    obtain rfl : k = k' := by simpa using hk
    cases op <;> simp only [intOp] at he'
    all_goals first | (cases he'; done) | skip
    case add => obtain ⟨_, rfl, rfl⟩ := ans_inj he'; exact .pure h (hrun _ (by simp [binOp, Op.intArith])) (hi _ _)
    case sub => obtain ⟨_, rfl, rfl⟩ := ans_inj he'; exact .pure h (hrun _ (by simp [binOp, Op.intArith])) (hi _ _)
    case mul => obtain ⟨_, rfl, rfl⟩ := ans_inj he'; exact .pure h (hrun _ (by simp [binOp, Op.intArith])) (hi _ _)
    case quo =>
      obtain ⟨rfl, rfl, rfl⟩ := ansIf_inj he'
      have h0 : n ≠ 0 := by simpa using hc
      exact .pure h (hrun _ (by simp [binOp, Op.intDiv, h0])) (hi _ _)
    case rem =>
      obtain ⟨rfl, rfl, rfl⟩ := ansIf_inj he'
      have h0 : n ≠ 0 := by simpa using hc
      exact .pure h (hrun _ (by simp [binOp, Op.intDiv, h0])) (hi _ _)
    case and => obtain ⟨_, rfl, rfl⟩ := ans_inj he'; exact .pure h (hrun _ (by simp [binOp, Op.intBits])) (hi _ _)
    case or => obtain ⟨_, rfl, rfl⟩ := ans_inj he'; exact .pure h (hrun _ (by simp [binOp, Op.intBits])) (hi _ _)
    case xor => obtain ⟨_, rfl, rfl⟩ := ans_inj he'; exact .pure h (hrun _ (by simp [binOp, Op.intBits])) (hi _ _)
    case andNot => obtain ⟨_, rfl, rfl⟩ := ans_inj he'; exact .pure h (hrun _ (by simp [binOp, Op.intBits])) (hi _ _)
    case eql => obtain ⟨_, rfl, rfl⟩ := ans_inj he'; exact .pure h (hrun _ (by simp [binOp, Op.intCmp])) (hb _)
    case neq => obtain ⟨_, rfl, rfl⟩ := ans_inj he'; exact .pure h (hrun _ (by simp [binOp, Op.intCmp])) (hb _)
    case lss => obtain ⟨_, rfl, rfl⟩ := ans_inj he'; exact .pure h (hrun _ (by simp [binOp, Op.intCmp])) (hb _)
    case leq => obtain ⟨_, rfl, rfl⟩ := ans_inj he'; exact .pure h (hrun _ (by simp [binOp, Op.intCmp])) (hb _)
    case gtr => obtain ⟨_, rfl, rfl⟩ := ans_inj he'; exact .pure h (hrun _ (by simp [binOp, Op.intCmp])) (hb _)
    case geq => obtain ⟨_, rfl, rfl⟩ := ans_inj he'; exact .pure h (hrun _ (by simp [binOp, Op.intCmp])) (hb _)
end
end V
namespace V
open Go
section
variable {Ty : Nat → Type} {T : Tab Ty} {P : Program}
variable {w0 : Base} {D0 : Nat → Prop} {N : Nat} {s : St Ty} {a : Act} {w : World} {D : Nat → Prop} {gv : Nat → Option GObj}
variable {o : Oper} {d : Nat} {c : Bool} {v : AV Ty} {ups : List (Nat × Obj Ty)}

theorem struct_field (hT : TabOK P T) {t : Nat} {fs : List (Nat × Nat)} (ht : T.td t = .struct fs) {f : Nat} {p : Nat × Nat} (hf : fs[f]? = some p) :
    ∃ fields fl, P.underlying t = some (.struct fields) ∧ fields[f]? = some fl ∧ fl.type = p.1 ∧ fl.offset = p.2 ∧ (T.td p.1).known = true := by
  have h := hT.td t
  rw [ht] at h
  obtain ⟨fields, h1, h2⟩ := h
  have hm : p ∈ fs := List.mem_of_getElem? hf
  rw [← h2] at hf
  simp only [List.getElem?_map, Option.map_eq_some_iff] at hf
  obtain ⟨fl, hfl, rfl⟩ := hf
  exact ⟨fields, fl, h1, by simpa using hfl, rfl, rfl, hT.fields t fs ht _ hm⟩

theorem fieldAt_run (hT : TabOK P T) {t : Nat} {fs : List (Nat × Nat)} (ht : T.td t = .struct fs) {f : Nat} {p : Nat × Nat} (hf : fs[f]? = some p) (b off : Nat) :
    (Instr.fieldAt t (.pointer (some ⟨b, off, none⟩)) f).run P w = .ok (.pointer (some ⟨b, off + p.2, none⟩)) w := by
  obtain ⟨fields, fl, h1, h2, h3, h4, h5⟩ := struct_field hT ht hf
  obtain ⟨i, z, hi, hs, _, _, hpos, _⟩ := hT.info p.1 h5
  have hz : i.size ≠ 0 := by rw [hs]; omega
  have hi' : P.info? fl.type = some i := by rw [h3]; exact hi
  simp [Instr.fieldAt, Sem.run_bind, run_underlying h1, h2, Instr.sureAddr, fieldPlace, run_sizeOf hi', hz, Addr.add_lit, h4]

theorem snd_fieldAddr (hT : TabOK P T) (h : Inv T w0 D0 N s a w D gv) {t : TypeId} {x : Operand} {f : Nat} (ho : o.op = .fieldAddr t x f) (he : effOp T o d s.eval s.obj = .ok c v ups) : Does P T w0 D0 N s a w D o v ups := by
  unfold effOp at he; rw [ho] at he
  simp only at he
  split at he
  case h_2 => cases he
  rename_i fs ht
  split at he
  case h_2 => cases he
  rename_i ft off hf
  have hv := h.eval x
  have hrun : ∀ b k, a.eval x = .pointer (some ⟨b, k, none⟩) → (execOp a.eval o).run P w = .ok (.value (.pointer (some ⟨b, k + off, none⟩))) w := by
    intro b k e
    simp [execOp, ho, e, fieldAt_run hT ht hf]
  split at he
  · rename_i o' p hx
    obtain ⟨_, rfl, rfl⟩ := ans_inj he
    rw [hx] at hv
    obtain ⟨b, hg, hp, e⟩ := hv.ptr_inv
    refine .pure h (hrun _ _ e) ?_
    have := RepC.ptr (T := T) (w := w) (D := D) hg ((pathOK_append p [.fld f off]).2 ⟨hp, trivial⟩)
    rw [poff_append] at this
    exact .elem (.one rfl (by simpa [poff] using this))
  · rename_i o' i p hx
    obtain ⟨_, rfl, rfl⟩ := ans_inj he
    rw [hx] at hv
    obtain ⟨b, n, cap, sz, hg, hi, hp, e⟩ := hv.rptr_inv
    refine .pure h (hrun _ _ e) ?_
    have := RepC.rptr (T := T) (w := w) (D := D) hg hi ((pathOK_append p [.fld f off]).2 ⟨hp, trivial⟩)
    rw [poff_append] at this
    exact .elem (.one rfl (by simpa [poff, Nat.add_assoc] using this))
  · rename_i cv hx
    rw [hx] at hv
    split at he
    case h_2 => cases he
    rename_i u hu
    obtain ⟨hoff, he2⟩ := cond_fail he
    obtain ⟨_, rfl, rfl⟩ := ans_inj he2
    obtain ⟨b, k, cs, hD, hA, hr, e⟩ := hv.cptr_inv
    refine .pure h (hrun _ _ e) ?_
    obtain ⟨pre, sub, post, e1, e2, e3⟩ := nth_rep hT hr hu
    rw [e1] at hA
    have := hA.mid
    rw [e2, beq_iff_eq.1 hoff] at this
    exact .elem (.one rfl (.cptr hD this e3))
  · cases he

theorem asNat_inv {v : AV Ty} {i : Int} (h : asNat v = some i) : ∃ k, v = .int k i := by
  cases v <;> simp [asNat] at h
  subst h; exact ⟨_, rfl⟩
theorem inRange_iff {i : Int} {n : Nat} : inRange i n = true ↔ 0 ≤ i ∧ i < (n : Int) := by simp [inRange]

theorem indexAt_array (hT : TabOK P T) {t n e : Nat} (h : P.underlying t = some (.array n e)) (hk : (T.td e).known = true) (b off : Nat) {k : IntKind} {i : Int} (hi : inRange i n = true) :
    (Instr.indexAt t (.pointer (some ⟨b, off, none⟩)) (.int k i)).run P w = .ok (.pointer (some ⟨b, off + i.toNat * T.size e, none⟩)) w := by
  have := inRange_iff.1 hi
  simp [Instr.indexAt, Sem.run_bind, run_underlying h, Instr.sureAddr, size_run hT hk, asIntOf, this, Addr.add_lit]
theorem indexAt_arr (hT : TabOK P T) {t n e : Nat} (ht : T.td t = .arr n e) (b off : Nat) {k : IntKind} {i : Int} (hi : inRange i n = true) :
    (Instr.indexAt t (.pointer (some ⟨b, off, none⟩)) (.int k i)).run P w = .ok (.pointer (some ⟨b, off + i.toNat * T.size e, none⟩)) w := by
  have h := hT.td t
  rw [ht] at h
  simp only [TDok] at h
  have hk := hT.elem t e (.inr (.inl ⟨n, ht⟩))
  have := inRange_iff.1 hi
  simp [Instr.indexAt, Sem.run_bind, run_underlying h, Instr.sureAddr, size_run hT hk, asIntOf, this, Addr.add_lit]
theorem indexAt_slice (hT : TabOK P T) {t e : Nat} (ht : T.td t = .slice e) (b off n cap : Nat) {k : IntKind} {i : Int} (hi : inRange i n = true) :
    (Instr.indexAt t (.slice (some ⟨b, off, none⟩) n cap) (.int k i)).run P w = .ok (.pointer (some ⟨b, off + i.toNat * T.size e, none⟩)) w := by
  have h := hT.td t
  rw [ht] at h
  simp only [TDok] at h
  have hk := hT.elem t e (.inl ht)
  have := inRange_iff.1 hi
  simp [Instr.indexAt, Sem.run_bind, run_underlying h, size_run hT hk, asIntOf, this, Addr.add_lit]

theorem encs_at (hT : TabOK P T) {t : Nat} {xs : List (Ty t)} {cs : List Value} (h : RepC T w D gv (encs T t xs) cs) {b off : Nat} (hA : At w b off cs) {i : Nat} (hi : i < xs.length) :
    ∃ sub, At w b (off + i * T.size t) sub ∧ RepC T w D gv (T.enc t (xs.getD i (T.dflt t))) sub := by
  obtain ⟨pre, sub, post, e1, e2, e3, _⟩ := encs_rep hT h hi
  rw [e1] at hA
  have := hA.mid
  rw [e2] at this
  exact ⟨sub, this, by rw [getD_eq hi]; exact e3⟩

theorem snd_indexAddr (hT : TabOK P T) (h : Inv T w0 D0 N s a w D gv) {t : TypeId} {x ix : Operand} (ho : o.op = .indexAddr t x ix) (he : effOp T o d s.eval s.obj = .ok c v ups) (hc : c = true) : Does P T w0 D0 N s a w D o v ups := by
  unfold effOp at he; rw [ho] at he
  simp only at he
  split at he
  case h_1 => cases he
  rename_i i hi
  obtain ⟨k, hi⟩ := asNat_inv hi
  have hix := h.eval ix
  rw [hi] at hix
  have eix := hix.int_inv
  have hv := h.eval x
  split at he
  · rename_i n e ht
    have hrun : ∀ b off, a.eval x = .pointer (some ⟨b, off, none⟩) → inRange i n = true → (execOp a.eval o).run P w = .ok (.value (.pointer (some ⟨b, off + i.toNat * T.size e, none⟩))) w := by
      intro b off e1 hr
      simp [execOp, ho, e1, eix, indexAt_arr hT ht b off hr]
    split at he
    · rename_i o' p hx
      obtain ⟨rfl, rfl, rfl⟩ := ansIf_inj he
      rw [hx] at hv
      obtain ⟨b, hg, hp, e1⟩ := hv.ptr_inv
      refine .pure h (hrun _ _ e1 hc) ?_
      have hin := inRange_iff.1 hc
      have := RepC.ptr (T := T) (w := w) (D := D) hg ((pathOK_append p [.idx i.toNat n (T.size e)]).2 ⟨hp, by omega, trivial⟩)
      rw [poff_append] at this
      exact .elem (.one rfl (by simpa [poff] using this))
    · rename_i o' j p hx
      obtain ⟨rfl, rfl, rfl⟩ := ansIf_inj he
      rw [hx] at hv
      obtain ⟨b, n', cap, sz, hg, hj, hp, e1⟩ := hv.rptr_inv
      refine .pure h (hrun _ _ e1 hc) ?_
      have hin := inRange_iff.1 hc
      have := RepC.rptr (T := T) (w := w) (D := D) hg hj ((pathOK_append p [.idx i.toNat n (T.size e)]).2 ⟨hp, by omega, trivial⟩)
      rw [poff_append] at this
      exact .elem (.one rfl (by simpa [poff, Nat.add_assoc] using this))
    · rename_i e' n' xs hx
      obtain ⟨hk, he2⟩ := cond_fail he
      simp only [Bool.and_eq_true, beq_iff_eq] at hk
      obtain ⟨rfl, rfl⟩ := hk
      obtain ⟨rfl, rfl, rfl⟩ := ansIf_inj he2
      rw [hx] at hv
      obtain ⟨b, off, cs, hD, hA, hr, e1⟩ := hv.cptr_inv
      refine .pure h (hrun _ _ e1 hc) ?_
      have hin := inRange_iff.1 hc
      cases hr with
      | arr hl hr =>
        obtain ⟨sub, h1, h2⟩ := encs_at hT hr hA (i := i.toNat) (by omega)
        exact .elem (.one rfl (.cptr hD h1 h2))
    · cases he
  · rename_i n e ht
    have htd := hT.td t
    rw [ht] at htd
    have hkn := hT.elem t e (.inr (.inr ⟨n, ht⟩))
    split at he
    · rename_i o' p hx
      obtain ⟨rfl, rfl, rfl⟩ := ansIf_inj he
      rw [hx] at hv
      obtain ⟨b, hg, hp, e1⟩ := hv.ptr_inv
      refine .pure h (x := .pointer (some ⟨b, poff p + i.toNat * T.size e, none⟩)) (by simp [execOp, ho, e1, eix, indexAt_array hT htd hkn b (poff p) hc]) ?_
      have := RepC.ptr (T := T) (w := w) (D := D) hg ((pathOK_append p [.fld i.toNat (i.toNat * T.size e)]).2 ⟨hp, trivial⟩)
      rw [poff_append] at this
      exact .elem (.one rfl (by simpa [poff] using this))
    · cases he
  · rename_i e ht
    have hrun : ∀ b off n cap, a.eval x = .slice (some ⟨b, off, none⟩) n cap → inRange i n = true → (execOp a.eval o).run P w = .ok (.value (.pointer (some ⟨b, off + i.toNat * T.size e, none⟩))) w := by
      intro b off n cap e1 hr
      simp [execOp, ho, e1, eix, indexAt_slice hT ht b off n cap hr]
    split at he
    · rename_i e' xs hx
      obtain ⟨hk, he2⟩ := cond_fail he
      obtain rfl := beq_iff_eq.1 hk
      obtain ⟨rfl, rfl, rfl⟩ := ansIf_inj he2
      rw [hx] at hv
      have hin := inRange_iff.1 hc
      have hv := hv.one_inv rfl (by simp) (by simp) (by simp)
      generalize hax : a.eval x = ax at hv
      cases hv with
      | snil => simp at hin; omega
      | slice hD hl hA hr =>
        refine .pure h (hrun _ _ _ _ hax hc) ?_
        obtain ⟨sub, h1, h2⟩ := encs_at hT hr hA (i := i.toNat) (by omega)
        exact .elem (.one rfl (.cptr hD h1 h2))
    · rename_i o' hx
      have key : ∀ (e' : Nat) (xs : List (Ty e')), (s.obj o' = .row e' xs ∨ s.obj o' = .frow e' xs) →
          (cond (e' == e) (ansIf (inRange i xs.length) (.rptr o' i.toNat [])) .fail : Eff Ty) = .ok c v ups → Does P T w0 D0 N s a w D o v ups := by
        intro e' xs hobj he
        obtain ⟨hk, he2⟩ := cond_fail he
        obtain rfl := beq_iff_eq.1 hk
        obtain ⟨rfl, rfl, rfl⟩ := ansIf_inj he2
        rw [hx] at hv
        have hin := inRange_iff.1 hc
        obtain ⟨g, n, cap, sz, hg, e1⟩ := hv.row_inv
        have hob := h.obj o'
        have fin : ∀ b, g = some b → n = xs.length → sz = T.size e' → Does P T w0 D0 N s a w D o (.rptr o' i.toNat [] : AV Ty) [] := by
          rintro b rfl rfl rfl
          refine .pure h (hrun _ _ _ _ e1 hc) (.elem (.one rfl ?_))
          have := RepC.rptr (T := T) (w := w) (D := D) (p := []) hg (i := i.toNat) (by omega) trivial
          simpa [poff] using this
        rcases hobj with hobj | hobj
        · rw [hobj] at hob
          cases hob with
          | row h1 h2 h3 h4 =>
            rw [hg] at h1
            cases h1
            rcases h3.2 with ⟨_, hn⟩ | ⟨b, cap'', cur, hvv, _⟩
            · omega
            · cases g with
              | none => simp [rowVal] at hvv
              | some b => exact fin b rfl rfl rfl
        · rw [hobj] at hob
          cases hob with
          | frow h1 h2 =>
            rw [hg] at h1
            cases h1
            cases g with
            | none =>
              simp only [rowVal, Option.map_none] at h2
              cases h2
              simp at hin; omega
            | some b => exact fin b rfl rfl rfl
      split at he
      · rename_i hobj; exact key _ _ (.inl hobj) he
      · rename_i hobj; exact key _ _ (.inr hobj) he
      · cases he
    · rename_i o' lo len hx
      split at he
      case h_2 => cases he
      rename_i e' xs hobj
      obtain ⟨hk, he2⟩ := cond_fail he
      obtain rfl := beq_iff_eq.1 hk
      obtain ⟨rfl, rfl, rfl⟩ := ansIf_inj he2
      rw [hx] at hv
      have hin := inRange_iff.1 hc
      have hv := hv.one_inv rfl (by simp) (by simp) (by simp)
      have hob := h.obj o'
      rw [hobj] at hob
      generalize hax : a.eval x = ax at hv
      cases hv with
      | subz => simp at hin; omega
      | sub0 => simp at hin; omega
      | @sub _ _ _ b nn cap sz hg hl hcap =>
        cases hob with
        | row h1 _ _ _ =>
          rw [hg] at h1
          cases h1
          refine .pure h (hrun _ _ _ _ hax hc) (.elem (.one rfl ?_))
          have := RepC.rptr (T := T) (w := w) (D := D) (p := []) hg (i := lo + i.toNat) (by omega) trivial
          simpa [poff, Nat.add_mul] using this
    · rename_i o' p e' n lo len hx
      obtain ⟨hk, he2⟩ := cond_fail he
      obtain rfl := beq_iff_eq.1 hk
      have hob := h.obj o'
      rw [hx] at hv
      have hv := hv.one_inv rfl (by simp) (by simp) (by simp)
      generalize hax : a.eval x = ax at hv
      have keyI : (ansIf (inRange i len) (.ptr o' (p ++ [.idx (lo + i.toNat) n (T.size e')])) : Eff Ty) = .ok c v ups → (∀ b n2 c2 z2, gv o' ≠ some (.row b n2 c2 z2)) → Does P T w0 D0 N s a w D o v ups := by
        intro he2 hnr
        obtain ⟨rfl, rfl, rfl⟩ := ansIf_inj he2
        have hin := inRange_iff.1 hc
        cases hv with
        | vnil => simp at hin; omega
        | rview hg => exact absurd hg (hnr _ _ _ _)
        | rvnil hg => exact absurd hg (hnr _ _ _ _)
        | view hg hp hl hcap =>
          refine .pure h (hrun _ _ _ _ hax hc) (.elem (.one rfl ?_))
          have := RepC.ptr (T := T) (w := w) (D := D) hg ((pathOK_append p [.idx (lo + i.toNat) n (T.size e')]).2 ⟨hp, by omega, trivial⟩)
          rw [poff_append] at this
          simpa [poff, Nat.add_mul, Nat.add_assoc] using this
      have keyF : (ansIf (inRange i len) (.ptr o' (p ++ [.fld (lo + i.toNat) ((lo + i.toNat) * T.size e')])) : Eff Ty) = .ok c v ups → (∀ b n2 c2 z2, gv o' ≠ some (.row b n2 c2 z2)) → Does P T w0 D0 N s a w D o v ups := by
        intro he2 hnr
        obtain ⟨rfl, rfl, rfl⟩ := ansIf_inj he2
        have hin := inRange_iff.1 hc
        cases hv with
        | vnil => simp at hin; omega
        | rview hg => exact absurd hg (hnr _ _ _ _)
        | rvnil hg => exact absurd hg (hnr _ _ _ _)
        | view hg hp hl hcap =>
          refine .pure h (hrun _ _ _ _ hax hc) (.elem (.one rfl ?_))
          have := RepC.ptr (T := T) (w := w) (D := D) hg ((pathOK_append p [.fld (lo + i.toNat) ((lo + i.toNat) * T.size e')]).2 ⟨hp, trivial⟩)
          rw [poff_append] at this
          simpa [poff, Nat.add_mul, Nat.add_assoc] using this
      split at he2
      · cases he2
      · rename_i c0 hobj
        have hnr : ∀ b n2 c2 z2, gv o' ≠ some (.row b n2 c2 z2) := fun b n2 c2 z2 hg => by
          rw [hobj] at hob
          cases hob with | var h1 => rw [hg] at h1; cases h1
        split at he2
        · exact keyF he2 hnr
        · exact keyI he2 hnr
      · rename_i c0 hobj
        have hnr : ∀ b n2 c2 z2, gv o' ≠ some (.row b n2 c2 z2) := fun b n2 c2 z2 hg => by
          rw [hobj] at hob
          cases hob with | fvar h1 => rw [hg] at h1; cases h1
        split at he2
        · exact keyF he2 hnr
        · exact keyI he2 hnr
      · cases he2
    · cases he
  · cases he

theorem snd_load (hT : TabOK P T) (h : Inv T w0 D0 N s a w D gv) {t : TypeId} {x : Operand} (ho : o.op = .load t x) (he : effOp T o d s.eval s.obj = .ok c v ups) (hc : c = true) : Does P T w0 D0 N s a w D o v ups := by
  unfold effOp at he; rw [ho] at he
  simp only at he
  have hv := h.eval x
  have hrun : ∀ b off y, a.eval x = .pointer (some ⟨b, off, none⟩) → (loadVar t ⟨b, off, none⟩).run P w = .ok y w → (execOp a.eval o).run P w = .ok (.value y) w := by
    intro b off y e hl
    simp [execOp, ho, e, Instr.loadAt, Instr.sureAddr, hl]
  split at he
  · rename_i o' p hx
    rw [hx] at hv
    obtain ⟨b, hg, hp, e⟩ := hv.ptr_inv
    have key : ∀ (cc : AV Ty) (cur : Array Value) (e : TypeId), w.heap[b]? = some (.cells cur e (0, 0)) → RepC T w D gv cc cur.toList →
        (match cc.get T p with
          | some v => cond (fits T t v) (ans v) .fail
          | none => .fail : Eff Ty) = .ok c v ups → Does P T w0 D0 N s a w D o v ups := by
      intro cc cur et hb hr he
      split at he
      case h_2 => cases he
      rename_i u hu
      obtain ⟨hf, he2⟩ := cond_fail he
      obtain ⟨_, rfl, rfl⟩ := ans_inj he2
      obtain ⟨pre, sub, post, e1, e2, e3⟩ := get_rep hT p hr hu hp
      have hA := At.block hb
      rw [e1] at hA
      have hA := hA.mid
      rw [e2, Nat.zero_add] at hA
      obtain ⟨y, hy1, hy2⟩ := load_run hT hf hA e3
      exact .pure h (hrun _ _ _ e hy1) hy2
    have hob := h.obj o'
    split at he
    · rename_i cc hobj
      rw [hobj] at hob
      cases hob with | var h1 _ _ h4 h5 => rw [hg] at h1; cases h1; exact key _ _ _ h4 h5 he
    · rename_i cc hobj
      rw [hobj] at hob
      cases hob with | fvar h1 _ h4 h5 => rw [hg] at h1; cases h1; exact key _ _ _ h4 h5 he
    · cases he
  · rename_i o' i p hx
    rw [hx] at hv
    obtain ⟨b, n, cap, sz, hg, hi, hp, e⟩ := hv.rptr_inv
    have key : ∀ (et : Nat) (xs : List (Ty et)) (cs : List Value), i < xs.length → sz = T.size et → At w b 0 cs → RepC T w D gv (encs T et xs) cs →
        (match (T.enc et (xs.getD i (T.dflt et))).get T p with
          | some v => cond (fits T t v) (ans v) .fail
          | none => .fail : Eff Ty) = .ok c v ups → Does P T w0 D0 N s a w D o v ups := by
      intro et xs cs hi hsz hA hr he
      split at he
      case h_2 => cases he
      rename_i u hu
      obtain ⟨hf, he2⟩ := cond_fail he
      obtain ⟨_, rfl, rfl⟩ := ans_inj he2
      obtain ⟨sub, h1, h2⟩ := encs_at hT hr hA hi
      obtain ⟨pre, sub2, post, e1, e2, e3⟩ := get_rep hT p h2 hu hp
      rw [e1] at h1
      have h1 := h1.mid
      rw [e2, Nat.zero_add] at h1
      obtain ⟨y, hy1, hy2⟩ := load_run hT hf h1 e3
      rw [← hsz] at hy1
      exact .pure h (hrun _ _ _ e hy1) hy2
    have hob := h.obj o'
    split at he
    · rename_i et xs hobj
      rw [hobj] at hob
      cases hob with
      | row h1 h2 h3 h4 =>
        rw [hg] at h1
        cases h1
        rcases h3.2 with ⟨hvv, _⟩ | ⟨b', cap'', cur, hvv, _, hb, _, _, _, htake⟩
        · simp [rowVal] at hvv
        · simp [rowVal] at hvv
          obtain ⟨rfl, _⟩ := hvv
          have hA := At.block hb
          have e0 := (List.take_append_drop (xs.length * T.size et) cur.toList).symm
          rw [htake] at e0
          rw [e0] at hA
          exact key et xs _ hi rfl hA.append_left h2 he
    · rename_i et xs hobj
      rw [hobj] at hob
      cases hob with
      | frow h1 h2 =>
        rw [hg] at h1
        cases h1
        simp only [rowVal, Option.map_some] at h2
        cases h2 with
        | snil => simp at hi
        | slice hD hl hA hr => exact key et xs _ hi rfl hA hr he
    · cases he
  · rename_i cv hx
    rw [hx] at hv
    obtain ⟨hf, he2⟩ := cond_fail he
    obtain ⟨_, rfl, rfl⟩ := ans_inj he2
    obtain ⟨b, off, cs, _, hA, hr, e⟩ := hv.cptr_inv
    obtain ⟨y, hy1, hy2⟩ := load_run hT hf hA hr
    exact .pure h (hrun _ _ _ e hy1) hy2
  · rename_i et ox hx
    rw [hx] at hv
    obtain ⟨hf, he2⟩ := cond_fail he
    obtain ⟨h1, rfl, rfl⟩ := ansIf_inj he2
    rw [hc] at h1
    rcases hv.opt_inv with ⟨rfl, _⟩ | ⟨z, b, off, cs, rfl, _, hA, hr, e⟩
    · cases h1
    · obtain ⟨y, hy1, hy2⟩ := load_run hT hf hA hr
      exact .pure h (hrun _ _ _ e hy1) hy2
  · cases he
end
end V
namespace V
open Go
section
variable {Ty : Nat → Type} {T : Tab Ty} {P : Program}
variable {w0 : Base} {D0 : Nat → Prop} {N : Nat} {s : St Ty} {a : Act} {w : World} {D : Nat → Prop} {gv : Nat → Option GObj}
variable {o : Oper} {d : Nat} {c : Bool} {v : AV Ty} {ups : List (Nat × Obj Ty)}

theorem plain_ne {v : AV Ty} (h : v.plain = true) : v ≠ .undef ∧ v ≠ .skp ∧ ∀ vs, v ≠ .tup vs := by
  refine ⟨?_, ?_, ?_⟩ <;> intros <;> intro e <;> rw [e] at h <;> cases h
theorem RepV.plain_cells {v : AV Ty} {x : Value} (h : RepV T w D gv v x) (hp : v.plain = true) : RepC T w D gv v x.cells.toList :=
  h.cells (plain_ne hp).1 (plain_ne hp).2.1 (plain_ne hp).2.2

theorem isAgg_cells {v : AV Ty} {x : Value} (h : RepV T w D gv v x) (ha : v.isAgg = true) : x = .agg x.cells := by
  obtain ⟨cs, rfl, _⟩ := h.agg_inv ha; rfl

theorem list_extract {pre sub post : List Value} : ((pre ++ sub ++ post).toArray.extract pre.length (pre.length + sub.length)) = sub.toArray := by
  simp [List.extract_toArray]

theorem part_run (hT : TabOK P T) {t : Nat} {v : AV Ty} (hf : fits T t v = true) {cs : Array Value} {pre sub post : List Value} (hc : cs.toList = pre ++ sub ++ post) (hr : RepC T w D gv v sub) :
    ∃ x, (part t cs pre.length).run P w = .ok x w ∧ RepV T w D gv v x := by
  obtain ⟨hk, hs, hg⟩ := fits_known hf
  have hl : sub.length = T.size t := by rw [hr.len hT, hs]
  have hcs : cs = (pre ++ sub ++ post).toArray := by rw [← hc]
  unfold part
  rw [Sem.run_bind, isAgg_run hT hk]
  simp only [Result.andThen_ok]
  cases hag : (T.td t).agg with
  | true =>
    refine ⟨.agg sub.toArray, ?_, .elem (.agg (by rw [hg, hag]) hr)⟩
    simp only [if_true, Sem.run_bind, size_run hT hk, Result.andThen_ok, ← hl, hcs, list_extract]
    rfl
  | false =>
    have hna : v.isAgg = false := by rw [hg, hag]
    have : ∃ x, sub = [x] := by cases hr <;> first | exact ⟨_, rfl⟩ | cases hna
    obtain ⟨x, rfl⟩ := this
    exact ⟨x, by simp [hcs], .elem (.one hna hr)⟩

theorem snd_field (hT : TabOK P T) (h : Inv T w0 D0 N s a w D gv) {t : TypeId} {x : Operand} {f : Nat} (ho : o.op = .field t x f) (he : effOp T o d s.eval s.obj = .ok c v ups) : Does P T w0 D0 N s a w D o v ups := by
  unfold effOp at he; rw [ho] at he
  simp only at he
  split at he
  case h_2 => cases he
  rename_i fs ht
  split at he
  case h_2 => cases he
  rename_i ft off hf
  split at he
  case h_2 => cases he
  rename_i u hu
  obtain ⟨hk, he2⟩ := cond_fail he
  obtain ⟨_, rfl, rfl⟩ := ans_inj he2
  simp only [Bool.and_eq_true, beq_iff_eq] at hk
  have hv := h.eval x
  have hag : (s.eval x).isAgg = true := by
    cases hx : s.eval x <;> rw [hx] at hu <;> first | rfl | simp [AV.nth] at hu
  obtain ⟨cs, e, hr⟩ := hv.agg_inv hag
  obtain ⟨fields, fl, h1, h2, h3, h4, h5⟩ := struct_field hT ht hf
  obtain ⟨pre, sub, post, e1, e2, e3⟩ := nth_rep hT hr hu
  obtain ⟨y, hy1, hy2⟩ := part_run hT hk.2 (cs := cs.toArray) (by simpa using e1) e3
  rw [e2, hk.1] at hy1
  refine .pure h (x := y) ?_ hy2
  simp only at h3 h4
  simp [execOp, ho, e, Instr.field, run_underlying h1, h2, asAgg, h3, h4, hy1]

theorem snd_index (hT : TabOK P T) (h : Inv T w0 D0 N s a w D gv) {t : TypeId} {x ix : Operand} (ho : o.op = .index t x ix) (he : effOp T o d s.eval s.obj = .ok c v ups) (hc : c = true) : Does P T w0 D0 N s a w D o v ups := by
  unfold effOp at he; rw [ho] at he
  simp only at he
  split at he
  case h_1 => cases he
  rename_i i hi
  obtain ⟨k, hi⟩ := asNat_inv hi
  have hix := h.eval ix
  rw [hi] at hix
  have eix := hix.int_inv
  split at he
  case h_3 => cases he
  case h_2 =>
    rename_i n e ht
    split at he
    case h_2 => cases he
    rename_i v0 hnth
    obtain ⟨hk, he2⟩ := cond_fail he
    simp only [Bool.and_eq_true, beq_iff_eq] at hk
    obtain ⟨hoff, hf⟩ := hk
    obtain ⟨rfl, rfl, rfl⟩ := ansIf_inj he2
    have hv := h.eval x
    have hag : (s.eval x).isAgg = true := by cases hq : s.eval x <;> rw [hq] at hnth <;> first | rfl | simp [AV.nth] at hnth
    obtain ⟨cs, ex, hr⟩ := hv.agg_inv hag
    have hin := inRange_iff.1 hc
    have htd := hT.td t
    rw [ht] at htd
    simp only [TDok] at htd
    have hkn := hT.elem t e (.inr (.inr ⟨n, ht⟩))
    obtain ⟨pre, sub, post, e1, e2, e3⟩ := nth_rep hT hr hnth
    obtain ⟨y, hy1, hy2⟩ := part_run hT hf (cs := cs.toArray) (by simpa using e1) e3
    rw [e2, hoff] at hy1
    refine .pure h (x := y) ?_ hy2
    simp [execOp, ho, ex, eix, Instr.index, asIntOf, run_underlying htd, hin, size_run hT hkn, hy1]
  rename_i n e e' n' xs ht hx
  obtain ⟨hk, he2⟩ := cond_fail he
  simp only [Bool.and_eq_true, beq_iff_eq] at hk
  obtain ⟨rfl, rfl⟩ := hk
  obtain ⟨rfl, rfl, rfl⟩ := ansIf_inj he2
  have hv := h.eval x
  rw [hx] at hv
  obtain ⟨cs, ex, hr⟩ := hv.agg_inv rfl
  have hin := inRange_iff.1 hc
  have htd := hT.td t
  rw [ht] at htd
  simp only [TDok] at htd
  have hkn := hT.elem t e' (.inr (.inl ⟨n', ht⟩))
  cases hr with
  | arr hl hr =>
    obtain ⟨pre, sub, post, e1, e2, e3, _⟩ := encs_rep hT hr (i := i.toNat) (by omega)
    have hf : fits T e' (T.enc e' xs[i.toNat]) = true := by
      simp [fits, hkn, hT.encSize, hT.encAgg _ _ hkn]
    obtain ⟨y, hy1, hy2⟩ := part_run hT hf (cs := cs.toArray) (by simpa using e1) e3
    rw [e2] at hy1
    refine .pure h (x := y) ?_ (by rw [getD_eq (by omega)]; exact hy2)
    simp [execOp, ho, ex, eix, Instr.index, asIntOf, run_underlying htd, hin, size_run hT hkn, hy1]

theorem snd_alloc (hT : TabOK P T) (h : Inv T w0 D0 N s a w D gv) {t : TypeId} (ho : o.op = .alloc t) (he : effOp T o d s.eval s.obj = .ok c v ups) : Does P T w0 D0 N s a w D o v ups := by
  unfold effOp at he; rw [ho] at he
  simp only at he
  split at he
  case h_2 => cases he
  rename_i hd
  obtain ⟨hk, he2⟩ := cond_fail he
  simp only [Bool.and_eq_true] at hk
  obtain ⟨_, rfl, rfl⟩ := does_inj he2
  obtain ⟨hkn, _, _⟩ := fits_known hk.2
  obtain ⟨i, z, hi, _, _, _, _, hz, hrep, _, _⟩ := hT.info t hkn
  have hr := (RepV.elem (hrep w D gv)).plain_cells hk.1
  refine ⟨.pointer (some ⟨w.heap.size, 0, none⟩), w.alloc (.cells z.cells t), D, _, .inl ?_, ?_, Inv.newVar h hd (c := T.zero t) (cs := z.cells) t hr, fun _ h => h⟩
  · simp [execOp, ho, Instr.alloc, zeroValue, typeInfo, hi, hz, newVar, newRow]
  · have := RepC.ptr (T := T) (w := w.alloc (.cells z.cells t)) (D := D) (p := []) (gset_same gv d (.var w.heap.size)) trivial
    exact .elem (.one rfl this)

theorem snd_box (h : Inv T w0 D0 N s a w D gv) {t : TypeId} {x : Operand} (ho : o.op = .box t x) (he : effOp T o d s.eval s.obj = .ok c v ups) : Does P T w0 D0 N s a w D o v ups := by
  unfold effOp at he; rw [ho] at he
  simp only at he
  split at he
  case h_2 => cases he
  rename_i hd
  obtain ⟨hk, he2⟩ := cond_fail he
  simp only [Bool.and_eq_true] at hk
  obtain ⟨_, rfl, rfl⟩ := does_inj he2
  have hr := (h.eval x).plain_cells hk.1
  refine ⟨.pointer (some ⟨w.heap.size, 0, none⟩), w.alloc (.cells (a.eval x).cells t), D, _, .inl ?_, ?_, Inv.newVar h hd (c := s.eval x) (cs := (a.eval x).cells) t hr, fun _ h => h⟩
  · simp [execOp, ho, Instr.box, newVar, newRow]
  · have := RepC.ptr (T := T) (w := w.alloc (.cells (a.eval x).cells t)) (D := D) (p := []) (gset_same gv d (.var w.heap.size)) trivial
    exact .elem (.one rfl this)

theorem lenOf_run (h : Inv T w0 D0 N s a w D gv) {ob : Operand} {n : Nat} (hn : lenOf s.obj (s.eval ob) = some n) : ∃ ad cap, a.eval ob = .slice ad n cap := by
  have hv := h.eval ob
  cases hx : s.eval ob <;> rw [hx] at hn hv <;> simp only [lenOf] at hn
  all_goals first | (cases hn; done) | skip
  case slice t xs =>
    simp only [Option.some.injEq] at hn
    subst hn
    have hv := hv.one_inv rfl (by simp) (by simp) (by simp)
    generalize a.eval ob = ax at hv
    cases hv with
    | snil t ad cap => exact ⟨_, _, rfl⟩
    | slice => exact ⟨_, _, rfl⟩
  case nils t =>
    simp only [Option.some.injEq] at hn
    subst hn
    have hv := hv.one_inv rfl (by simp) (by simp) (by simp)
    generalize a.eval ob = ax at hv
    cases hv
    exact ⟨_, _, rfl⟩
  case view o' p t n' lo len =>
    simp only [Option.some.injEq] at hn
    subst hn
    have hv := hv.one_inv rfl (by simp) (by simp) (by simp)
    generalize a.eval ob = ax at hv
    cases hv <;> exact ⟨_, _, rfl⟩
  case sub o' lo len =>
    simp only [Option.some.injEq] at hn
    subst hn
    have hv := hv.one_inv rfl (by simp) (by simp) (by simp)
    generalize a.eval ob = ax at hv
    cases hv <;> exact ⟨_, _, rfl⟩
  case row o' =>
    obtain ⟨g, n', cap, sz, hg, e⟩ := hv.row_inv
    have hob := h.obj o'
    have : n' = n := by
      split at hn
      · rename_i t xs hobj
        rw [hobj] at hob
        simp only [Option.some.injEq] at hn
        cases hob with | row h1 _ _ _ => rw [hg] at h1; cases h1; exact hn
      · rename_i t xs hobj
        rw [hobj] at hob
        simp only [Option.some.injEq] at hn
        cases hob with | frow h1 _ => rw [hg] at h1; cases h1; exact hn
      · cases hn
    subst this
    exact ⟨_, _, e⟩

theorem fold_int (h : Inv T w0 D0 N s a w D gv) (f : Int → Int → Int) (m2 : Value → Value → Sem Value)
    (hm : ∀ k k' x y, (m2 (.int k x) (.int k' y)).run P w = .ok (.int k (f x y)) w) (l : List Operand) : ∀ (k : IntKind) (n : Int) (k' : IntKind) (n' : Int),
    (l.map s.eval).foldl (fun a x => match a, x with
      | some (k, m), .int _ y => some (k, f m y)
      | _, _ => none) (some (k, n)) = some (k', n') → ((l.map a.eval).foldlM m2 (.int k n)).run P w = .ok (.int k' n') w := by
  have hnone : ∀ (l : List (AV Ty)), l.foldl (fun (a : Option (IntKind × Int)) x => match a, x with
      | some (k, m), .int _ y => some (k, f m y)
      | _, _ => none) none = none := by
    intro l
    induction l with
    | nil => rfl
    | cons _ _ ih => simpa using ih
  induction l with
  | nil => intro k n k' n' h; simp at h; simp [h]
  | cons x l ih =>
    intro k n k' n' hh
    simp only [List.map_cons, List.foldl_cons] at hh
    have hv := h.eval x
    cases hx : s.eval x with
    | int kk y =>
      rw [hx] at hh hv
      simp only at hh
      simp only [List.map_cons, List.foldlM_cons, Sem.run_bind, hv.int_inv, hm, Result.andThen_ok]
      exact ih _ _ _ _ hh
    | _ => rw [hx] at hh; simp only [hnone] at hh; cases hh

theorem call_builtin {b : Builtin} {args : Array Operand} {tys : Array TypeId} (ho : o.op = .call { callee := .builtin b, args := args, argTypes := tys }) {x : Value} {w' : World}
    (h : (builtin b tys o.type (args.map fun | .const _ => true | _ => false) (args.map a.eval)).run P w = .ok (.value x) w') : (execOp a.eval o).run P w = .ok (.value x) w' := by
  simp only [execOp, ho, resolve, Sem.run_bind, Sem.run_pure, Result.andThen_ok, invoke]
  exact h

theorem snd_len (hT : TabOK P T) (h : Inv T w0 D0 N s a w D gv) {args : Array Operand} {tys : Array TypeId} (ho : o.op = .call { callee := .builtin .len, args := args, argTypes := tys })
    (he : effOp T o d s.eval s.obj = .ok c v ups) : Does P T w0 D0 N s a w D o v ups := by
  unfold effOp at he; rw [ho] at he
  simp only at he
  obtain ⟨al⟩ := args
  obtain ⟨tl⟩ := tys
  match al with
  | [] => simp [builtinAV] at he
  | x :: y :: r => simp [builtinAV] at he
  | [x] =>
    simp only [List.map_cons, List.map_nil, builtinAV] at he
    have hty : ∀ n : Nat, (Builtin.len_ tl.toArray o.type #[a.eval x]).run P w = .ok (goInt n) w → (execOp a.eval o).run P w = .ok (.value (.int .i64 n)) w := by
      intro n hn
      refine call_builtin ho ?_
      simp only [builtin, Sem.run_bind, List.map_toArray, List.map_cons, List.map_nil]
      simp [hn, goInt]
    match tl with
    | [] => cases he
    | t :: tl' =>
      simp only at he
      have htd := hT.td t
      split at he
      · rename_i n e ht
        obtain ⟨_, rfl, rfl⟩ := ans_inj he
        rw [ht] at htd
        simp only [TDok] at htd
        exact .pure h (hty n (by simp [Builtin.len_, run_underlying htd])) (.elem (.one rfl (.int _ _)))
      · rename_i e ht
        rw [ht] at htd
        simp only [TDok] at htd
        split at he
        case h_2 => cases he
        rename_i n hn
        obtain ⟨_, rfl, rfl⟩ := ans_inj he
        obtain ⟨ad, cap, e1⟩ := lenOf_run h hn
        exact .pure h (hty n (by simp [Builtin.len_, run_underlying htd, e1])) (.elem (.one rfl (.int _ _)))
      · rename_i ht
        rw [ht] at htd
        simp only [TDok] at htd
        split at he
        case h_2 => cases he
        rename_i b hx
        obtain ⟨_, rfl, rfl⟩ := ans_inj he
        have hv := h.eval x
        rw [hx] at hv
        exact .pure h (hty b.size (by simp [Builtin.len_, run_underlying htd, hv.str_inv])) (.elem (.one rfl (.int _ _)))
      · cases he

theorem min2_int (P : Program) (w : World) (k k' : IntKind) (x y : Int) : (Builtin.min2 (.int k x) (.int k' y)).run P w = .ok (.int k (if y < x then y else x)) w := rfl
theorem max2_int (P : Program) (w : World) (k k' : IntKind) (x y : Int) : (Builtin.max2 (.int k x) (.int k' y)).run P w = .ok (.int k (if y > x then y else x)) w := rfl

theorem snd_min (h : Inv T w0 D0 N s a w D gv) {args : Array Operand} {tys : Array TypeId} (ho : o.op = .call { callee := .builtin .min, args := args, argTypes := tys })
    (he : effOp T o d s.eval s.obj = .ok c v ups) : Does P T w0 D0 N s a w D o v ups := by
  unfold effOp at he; rw [ho] at he
  simp only at he
  obtain ⟨al⟩ := args
  simp only [builtinAV] at he
  split at he
  case h_2 => cases he
  rename_i k n hm
  obtain ⟨_, rfl, rfl⟩ := ans_inj he
  match al with
  | [] => simp [minInt] at hm
  | x :: l =>
    have hv := h.eval x
    simp only [List.map_cons] at hm
    cases hx : s.eval x with
    | int k0 n0 =>
      rw [hx] at hm hv
      simp only [minInt] at hm
      have := fold_int (P := P) h (fun m y => if y < m then y else m) Builtin.min2 (min2_int P w) l k0 n0 k n hm
      refine .pure h (x := .int k n) (call_builtin ho ?_) (.elem (.one rfl (.int _ _)))
      simp [builtin, Builtin.min_, hv.int_inv, this]
    | _ => rw [hx] at hm; simp [minInt] at hm

theorem snd_max (h : Inv T w0 D0 N s a w D gv) {args : Array Operand} {tys : Array TypeId} (ho : o.op = .call { callee := .builtin .max, args := args, argTypes := tys })
    (he : effOp T o d s.eval s.obj = .ok c v ups) : Does P T w0 D0 N s a w D o v ups := by
  unfold effOp at he; rw [ho] at he
  simp only at he
  obtain ⟨al⟩ := args
  simp only [builtinAV] at he
  split at he
  case h_2 => cases he
  rename_i k n hm
  obtain ⟨_, rfl, rfl⟩ := ans_inj he
  match al with
  | [] => simp [maxInt] at hm
  | x :: l =>
    have hv := h.eval x
    simp only [List.map_cons] at hm
    cases hx : s.eval x with
    | int k0 n0 =>
      rw [hx] at hm hv
      simp only [maxInt] at hm
      have := fold_int (P := P) h (fun m y => if y > m then y else m) Builtin.max2 (max2_int P w) l k0 n0 k n hm
      refine .pure h (x := .int k n) (call_builtin ho ?_) (.elem (.one rfl (.int _ _)))
      simp [builtin, Builtin.max_, hv.int_inv, this]
    | _ => rw [hx] at hm; simp [maxInt] at hm
end
end V
namespace V
open Go
section
variable {Ty : Nat → Type} {T : Tab Ty} {P : Program}
variable {w0 : Base} {D0 : Nat → Prop} {N : Nat} {s : St Ty} {a : Act} {w : World} {D : Nat → Prop} {gv : Nat → Option GObj}
variable {o : Oper} {d : Nat} {c : Bool} {v : AV Ty} {ups : List (Nat × Obj Ty)}

/-! ### build -/

theorem foldl_lay (vs : List Value) : ∀ (k : Nat) (off : Nat) (cs : Array Value) (pre sub post : List Value), cs.toList = pre ++ sub ++ post → pre.length = off + k → sub.length = vs.length →
    ((vs.zipIdx k).foldl (fun cs (c, j) => cs.setIfInBounds (off + j) c) cs).toList = pre ++ vs ++ post := by
  induction vs with
  | nil =>
    intro k off cs pre sub post h1 h2 h3
    have : sub = [] := List.eq_nil_of_length_eq_zero (by simpa using h3)
    subst this
    simpa using h1
  | cons x r ih =>
    intro k off cs pre sub post h1 h2 h3
    match sub, h3 with
    | y :: sub', h3 =>
      simp only [List.zipIdx_cons, List.foldl_cons]
      have := ih (k + 1) off (cs.setIfInBounds (off + k) x) (pre ++ [x]) sub' post (by
        rw [Array.toList_setIfInBounds, h1, ← h2]
        simp) (by simp; omega) (by simpa using h3)
      rw [this]
      simp

theorem setNth_isAgg {c c1 u : AV Ty} {i : Nat} (h : c.setNth i u = some c1) : c1.isAgg = c.isAgg := by
  cases c with
  | cons x y =>
    cases i with
    | zero => simp only [AV.setNth, Option.some.injEq] at h; subst h; rfl
    | succ i =>
      simp only [AV.setNth, Option.map_eq_some_iff] at h
      obtain ⟨_, _, rfl⟩ := h
      rfl
  | _ => simp [AV.setNth] at h

theorem fill_rep (hT : TabOK P T) (place : Nat → Option (Nat × Nat)) : ∀ (parts : List (Nat × AV Ty)) (vals : List (Nat × Value)) (c c' : AV Ty) (cs : Array Value),
    RepC T w D gv c cs.toList → setParts T place c parts = some c' → parts.map (·.1) = vals.map (·.1) →
    (∀ i (h1 : i < parts.length) (h2 : i < vals.length), RepV T w D gv parts[i].2 vals[i].2) →
    ∃ cs', Instr.fill place cs vals = some cs' ∧ RepC T w D gv c' cs'.toList ∧ c'.isAgg = c.isAgg := by
  intro parts
  induction parts with
  | nil =>
    intro vals c c' cs hr hs hl _
    have : vals = [] := by cases vals <;> simp_all
    subst this
    simp only [setParts, Option.some.injEq] at hs
    subst hs
    exact ⟨cs, rfl, hr, rfl⟩
  | cons p parts ih =>
    intro vals c c' cs hr hs hl hv
    obtain ⟨i, u⟩ := p
    match vals, hl with
    | (i', x) :: vals, hl =>
      simp only [List.map_cons, List.cons.injEq] at hl
      obtain ⟨rfl, hl⟩ := hl
      have hu := hv 0 (by simp) (by simp)
      simp only [List.getElem_cons_zero] at hu
      have hv' : ∀ j (h1 : j < parts.length) (h2 : j < vals.length), RepV T w D gv parts[j].2 vals[j].2 := fun j h1 h2 => by
        have := hv (j + 1) (by simpa using h1) (by simpa using h2)
        simpa using this
      simp only [setParts] at hs
      split at hs
      case h_1 => cases hs
      rename_i off sz hpl
      have go : ∀ (c1 : AV Ty) (pre sub post sub' : List Value), cs.toList = pre ++ sub ++ post → pre.length = off → sub.length = sz → sub'.length = sz → x.cells.toList = sub' →
          RepC T w D gv c1 (pre ++ sub' ++ post) → setParts T place c1 parts = some c' → c1.isAgg = c.isAgg →
          ∃ cs', Instr.fill place cs ((i, x) :: vals) = some cs' ∧ RepC T w D gv c' cs'.toList ∧ c'.isAgg = c.isAgg := by
        intro c1 pre sub post sub' h1 h2 h3 h4 h5 h6 h7 h8
        have hxs : x.cells.size = sz := by rw [← Array.length_toList, h5, h4]
        have hfit : ¬ (off + x.cells.size > cs.size) := by
          rw [hxs, ← Array.length_toList, h1]; simp; omega
        have hlay := foldl_lay sub' 0 off cs pre sub post h1 (by omega) (by omega)
        obtain ⟨cs', q1, q2, q3⟩ := ih vals c1 c' _ (by rw [hlay]; exact h6) h7 hl hv'
        refine ⟨cs', ?_, q2, by rw [q3, h8]⟩
        simp only [Instr.fill, hpl, hxs, ne_eq, not_true_eq_false, decide_false, Bool.false_or]
        rw [hxs] at hfit
        simp only [hfit, decide_false, Bool.false_eq_true, if_false]
        rw [← q1]
        congr 1
        rw [← Array.foldl_toList, Array.toList_zipIdx, h5]
      split at hs
      · rename_i t n xs
        split at hs
        case h_2 => cases hs
        rename_i z hz
        cases hb : (decide (i < n) && T.size t == sz && i * sz == off) with
        | false => rw [hb] at hs; cases hs
        | true =>
          rw [hb] at hs
          simp only [Bool.and_eq_true, decide_eq_true_eq, beq_iff_eq] at hb
          obtain ⟨⟨hi, rfl⟩, rfl⟩ := hb
          cases hr with
          | arr hlen hr =>
            obtain ⟨pre, sub, post, e1, e2, e3, k⟩ := encs_rep hT hr (i := i) (by omega)
            have henc := (T.den t).spec u z hz
            have hrep : RepC T w D gv (T.enc t z) x.cells.toList := by
              have hp : (T.enc t z).plain = true ∨ (T.enc t z) = .undef ∨ (T.enc t z) = .skp ∨ ∃ vs, (T.enc t z) = .tup vs := by
                cases T.enc t z <;> simp [AV.plain]
              have hu' : RepV T w D gv (T.enc t z) x := by rw [show T.enc t z = u from henc]; exact hu
              rcases hp with hp | hp | hp | ⟨vs, hp⟩
              · exact hu'.plain_cells hp
              · exact absurd hp (hT.encPlain t z).1
              · exact absurd hp (hT.encPlain t z).2.1
              · exact absurd hp ((hT.encPlain t z).2.2 vs)
            exact go _ pre sub post _ e1 e2 (by rw [e3.len hT, hT.encSize]) (by rw [hrep.len hT, hT.encSize]) rfl (.arr (by simp [hlen]) (k z _ hrep)) hs rfl
      · split at hs
        case h_2 => cases hs
        rename_i old hold
        cases hb : (u.plain && old.size T == sz && u.size T == sz && c.offs T i == off) with
        | false => rw [hb] at hs; cases hs
        | true =>
          rw [hb] at hs
          simp only [Bool.and_eq_true, beq_iff_eq] at hb
          simp only [cond_true] at hs
          split at hs
          case h_2 => cases hs
          rename_i c1 hc1
          obtain ⟨pre, sub, post, e1, e2, ⟨x', hx', hr'⟩, k⟩ := setNth_rep hT hr hc1
          rw [hold] at hx'
          cases hx'
          have hrep := hu.plain_cells hb.1.1.1
          refine go c1 pre sub post _ e1 (by rw [e2, hb.2]) (by rw [hr'.len hT, hb.1.1.2]) (by rw [hrep.len hT, hb.1.2]) rfl (k _ hrep) hs ?_
          exact setNth_isAgg hc1

theorem snd_build (hT : TabOK P T) (h : Inv T w0 D0 N s a w D gv) {t : TypeId} {parts : Array (Nat × Operand)} (ho : o.op = .build t parts) (he : effOp T o d s.eval s.obj = .ok c v ups) : Does P T w0 D0 N s a w D o v ups := by
  unfold effOp at he; rw [ho] at he
  simp only at he
  split at he
  case h_2 => cases he
  rename_i u hu
  obtain ⟨hk, he2⟩ := cond_fail he
  obtain ⟨_, rfl, rfl⟩ := ans_inj he2
  simp only [Bool.and_eq_true] at hk
  obtain ⟨i, z, hi, _, _, _, _, hz, hrep, hag, _⟩ := hT.info t hk.1
  have hzag : (T.zero t).isAgg = true := by rw [hag, hk.2]
  obtain ⟨zc, rfl, hzr⟩ := (RepV.elem (hrep w D gv)).agg_inv hzag
  have htd := hT.td t
  obtain ⟨cs', q1, q2, q3⟩ := fill_rep hT (placeOf T t) _ (parts.toList.map fun p => (p.1, a.eval p.2)) (T.zero t) v zc.toArray (by simpa using hzr) hu (by simp) (fun i h1 h2 => by
    simp only [List.getElem_map]; exact h.eval _)
  have hvag : v.isAgg = true := by rw [q3, hzag]
  have hz' : (zeroValue t).run P w = .ok (.agg zc.toArray) w := by simp [zeroValue, typeInfo, hi, hz]
  have hpl : (parts.map fun (i, x) => (i, a.eval x)).toList = parts.toList.map fun p => (p.1, a.eval p.2) := by simp
  refine .pure h (x := .agg cs'.toList.toArray) ?_ (.elem (.agg hvag q2))
  have fin : (Instr.build t (parts.map fun (i, x) => (i, a.eval x))).run P w = .ok (.agg cs') w := by
    unfold Instr.build
    rw [Sem.run_bind, hz']
    simp only [Result.andThen_ok, Value.cells]
    rw [Sem.run_bind]
    cases htt : T.td t with
    | struct fs =>
      rw [htt] at htd
      obtain ⟨fields, h1, h2⟩ := htd
      rw [run_underlying h1]
      simp only [Result.andThen_ok]
      have hpl2 : ∀ (l : List Field), (∀ f ∈ l, (T.td f.type).known = true) → ((l.toArray.mapM fun f => do pure (f.offset, ← Go.sizeOf f.type) : Sem (Array (Nat × Nat)))).run P w = .ok (l.map fun f => (f.offset, T.size f.type)).toArray w := by
        intro l hl
        have key : ∀ (l : List Field) (acc : Array (Nat × Nat)), (∀ f ∈ l, (T.td f.type).known = true) → ((l.foldlM (fun acc f => do let x ← (do pure (f.offset, ← Go.sizeOf f.type) : Sem (Nat × Nat)); pure (acc.push x)) acc : Sem (Array (Nat × Nat)))).run P w = .ok (acc ++ (l.map fun f => (f.offset, T.size f.type)).toArray) w := by
          intro l
          induction l with
          | nil => intro acc _; simp
          | cons f l ih =>
            intro acc hl
            simp only [List.foldlM_cons, Sem.run_bind, size_run hT (hl f (by simp)), Result.andThen_ok, Sem.run_pure]
            rw [ih _ (fun f hf => hl f (by simp [hf]))]
            simp
        rw [Array.mapM_eq_foldlM]
        have := key l #[] hl
        simpa using this
      have hkn : ∀ f ∈ fields.toList, (T.td f.type).known = true := fun f hf => hT.fields t fs htt (f.type, f.offset) (by rw [← h2]; exact List.mem_map.2 ⟨f, hf, rfl⟩)
      rw [Sem.run_bind, show fields = fields.toList.toArray by simp, hpl2 _ hkn]
      simp only [Result.andThen_ok]
      have hplace : (fun x => (List.map (fun f => (f.offset, T.size f.type)) fields.toList).toArray[x]?) = placeOf T t := by
        funext j
        simp only [placeOf, htt, ← h2]
        simp [List.getElem?_map]
        cases fields[j]? <;> simp
      rw [hplace, hpl, q1]
      rfl
    | arr n e =>
      rw [htt] at htd
      simp only [TDok] at htd
      rw [run_underlying htd]
      simp only [Result.andThen_ok]
      rw [Sem.run_bind, size_run hT (hT.elem t e (.inr (.inl ⟨n, htt⟩)))]
      simp only [Result.andThen_ok]
      have hplace : (fun i => some (i * T.size e, T.size e)) = placeOf T t := by
        funext j; simp only [placeOf, htt]
      rw [hplace, hpl, q1]
      rfl
    | spread n e =>
      rw [htt] at htd
      simp only [TDok] at htd
      rw [run_underlying htd]
      simp only [Result.andThen_ok]
      rw [Sem.run_bind, size_run hT (hT.elem t e (.inr (.inr ⟨n, htt⟩)))]
      simp only [Result.andThen_ok]
      have hplace : (fun i => some (i * T.size e, T.size e)) = placeOf T t := by
        funext j; simp only [placeOf, htt]
      rw [hplace, hpl, q1]
      rfl
    | _ => rw [htt] at hk; simp [TD.agg] at hk
  simp [execOp, ho, fin]
end
end V
namespace V
open Go
section
variable {Ty : Nat → Type} {T : Tab Ty} {P : Program}
variable {w0 : Base} {D0 : Nat → Prop} {N : Nat} {s : St Ty} {a : Act} {w : World} {D : Nat → Prop} {gv : Nat → Option GObj}
variable {o : Oper} {d : Nat} {c : Bool} {v : AV Ty} {ups : List (Nat × Obj Ty)}

/-! ### slicing -/

theorem sliceBounds_run (isSlice : Bool) (len cap : Nat) (lo hi : Option Value) (l h : Int) (hlo : (lo = none ∧ l = 0) ∨ ∃ k, lo = some (.int k l)) (hhi : (hi = none ∧ h = len) ∨ ∃ k, hi = some (.int k h))
    (h1 : 0 ≤ l) (h2 : l ≤ h) (h3 : h ≤ (cap : Int)) : (Instr.sliceBounds isSlice len cap lo hi none).run P w = .ok (l.toNat, h.toNat, cap) w := by
  have hb : ∀ (k : IntKind) (i : Int) (y : Nat) (code : BoundsCode), 0 ≤ i → i ≤ (y : Int) → (Instr.sliceBound (.int k i) y code).run P w = .ok i.toNat w := by
    intro k i y code q1 q2
    simp [Instr.sliceBound, asIntOf, q1, q2]
  unfold Instr.sliceBounds
  rcases hhi with ⟨rfl, rfl⟩ | ⟨k, rfl⟩ <;> rcases hlo with ⟨rfl, rfl⟩ | ⟨k', rfl⟩
  · simp
  · simp [hb k' l len _ h1 h2]
  · simp [hb k h cap _ (by omega) h3]
  · have hh : l ≤ (h.toNat : Int) := by omega
    simp [hb k h cap _ (by omega) h3, hb k' l h.toNat _ h1 hh]

theorem bound_some (hI : Inv T w0 D0 N s a w D gv) {x : Option Operand} {d0 i : Int} (hx : (match x.map s.eval with
    | none => some d0
    | some v => asNat v : Option Int) = some i) : (x.map a.eval = none ∧ i = d0) ∨ ∃ k, x.map a.eval = some (.int k i) := by
  cases x with
  | none => simp at hx; exact .inl ⟨rfl, hx.symm⟩
  | some x =>
    simp only [Option.map_some] at hx
    obtain ⟨k, hk⟩ := asNat_inv hx
    have := hI.eval x
    rw [hk] at this
    exact .inr ⟨k, by simp [this.int_inv]⟩

/-- the bounds with a capacity told -/
theorem sliceBounds3_run (len cap : Nat) (lo hi : Option Value) (mx : Value) (l h m : Int) (hm : ∃ k, mx = .int k m) (hl : (lo = none ∧ l = 0) ∨ ∃ k, lo = some (.int k l)) (hh : ∃ k, hi = some (.int k h)) (h1 : 0 ≤ l) (h2 : l ≤ h) (h3 : h ≤ m) (h4 : m ≤ (cap : Int)) :
    (Instr.sliceBounds true len cap lo hi (some mx)).run P w = .ok (l.toNat, h.toNat, m.toNat) w := by
  obtain ⟨k, rfl⟩ := hm
  obtain ⟨k2, rfl⟩ := hh
  have e1 : ((m.toNat : Nat) : Int) = m := by omega
  have e2 : ((h.toNat : Nat) : Int) = h := by omega
  rcases hl with ⟨rfl, rfl⟩ | ⟨k3, rfl⟩
  · simp [Instr.sliceBounds, Instr.sliceBound, asIntOf, show 0 ≤ m ∧ m ≤ (cap : Int) by omega, e1, show 0 ≤ h ∧ h ≤ m by omega]
  · simp [Instr.sliceBounds, Instr.sliceBound, asIntOf, show 0 ≤ m ∧ m ≤ (cap : Int) by omega, e1, e2, show 0 ≤ h ∧ h ≤ m by omega, show 0 ≤ l ∧ l ≤ h by omega]

/-- a part of a row of the call's own -/
theorem snd_sub (hT : TabOK P T) (h : Inv T w0 D0 N s a w D gv) {t : TypeId} {x : Operand} {lo hi mx : Option Operand} (ho : o.op = .slice t x lo hi mx) (he : subAV T t s.obj (s.eval x) (lo.map s.eval) (hi.map s.eval) (mx.map s.eval) = .ok c v ups) (hc : c = true) : Does P T w0 D0 N s a w D o v ups := by
  have htd := hT.td t
  have hv := h.eval x
  unfold subAV at he
  simp only at he
  have main : ∀ (o' len0 : Nat), (match T.td t, s.obj o' with
    | .slice e, .row e' xs => cond (e' == e) (match (match lo.map s.eval with
      | none => some 0
      | some v => asNat v), (match hi.map s.eval with
      | none => some (len0 : Int)
      | some v => asNat v) with
      | some l, some h => match mx.map s.eval with
        | none => ansIf (decide (0 ≤ l) && decide (l ≤ h) && decide (h ≤ (xs.length : Int))) (.sub o' l.toNat (h - l).toNat)
        | some m => match hi.map s.eval, asNat m with
          | some _, some m => ansIf (decide (0 ≤ l) && decide (l ≤ h) && decide (h ≤ m) && decide (m ≤ (xs.length : Int))) .undef
          | _, _ => .fail
      | _, _ => .fail) .fail
    | _, _ => (.fail : Eff Ty)) = .ok c v ups →
      (∀ (nn cap sz : Nat) (g : Option Nat), gv o' = some (.row g nn cap sz) → (g = none → nn = 0 ∧ cap = 0) → len0 ≤ nn ∧ a.eval x = rowVal g len0 cap) → Does P T w0 D0 N s a w D o v ups := by
    clear he
    intro o' len0 he hx
    split at he
    case h_2 => cases he
    rename_i e e' xs ht hobj
    obtain ⟨hk0, he3⟩ := cond_fail he
    clear he
    have he := he3; clear he3
    obtain rfl := beq_iff_eq.1 hk0
    rw [ht] at htd
    simp only [TDok] at htd
    have hk := hT.elem t e' (.inl ht)
    split at he
    case h_2 => cases he
    rename_i l hh hl hhh
    have hob := h.obj o'
    rw [hobj] at hob
    cases hob with
    | @row _ _ g cap flat k1 k2 k3 k4 =>
      have hcap : xs.length ≤ cap ∧ (g = none → xs.length = 0 ∧ cap = 0) := by
        rcases k3.2 with ⟨hv, hn⟩ | ⟨b, cap'', cur, hvv, _, _, hnc, _⟩
        · simp only [rowVal, Value.slice.injEq] at hv
          exact ⟨by omega, fun _ => ⟨hn, hv.2.2⟩⟩
        · simp only [rowVal, Value.slice.injEq, true_and] at hvv
          obtain ⟨hg, rfl⟩ := hvv
          exact ⟨hnc, fun e => by rw [e] at hg; cases hg⟩
      obtain ⟨hl0, hax⟩ := hx _ _ _ _ k1 hcap.2
      split at he
      · rename_i hmx
        have hmx' : mx = none := by cases mx <;> simp_all
        subst hmx'
        obtain ⟨rfl, rfl, rfl⟩ := ansIf_inj he
        simp only [Bool.and_eq_true, decide_eq_true_eq] at hc
        obtain ⟨⟨h1, h2⟩, h3⟩ := hc
        have hr := sliceBounds_run (P := P) (w := w) true len0 cap (lo.map a.eval) (hi.map a.eval) l hh (bound_some h hl) (bound_some h hhh) h1 h2 (by omega)
        have e0 : (hh - l).toNat = hh.toNat - l.toNat := by omega
        cases g with
        | none =>
          obtain ⟨hz, hz2⟩ := hcap.2 rfl
          have : l = 0 := by omega
          subst this
          have : hh = 0 := by omega
          subst this
          subst hz2
          have hrun : (execOp a.eval o).run P w = .ok (.value (.slice none 0 0)) w := by
            simp only [execOp, ho, Option.map_none]
            simp [Instr.sliceAt, Instr.slice, run_underlying htd, hax, rowVal, hr, size_run hT hk]
          refine .pure h hrun (.elem (.one rfl ?_))
          have hk1 := k1
          rw [hz] at hk1
          simpa using RepC.sub0 (T := T) (w := w) (D := D) hk1
        | some b =>
          have hrun : (execOp a.eval o).run P w = .ok (.value (.slice (if cap = l.toNat then some ⟨b, 0, none⟩ else some ⟨b, l.toNat * T.size e', none⟩) (hh.toNat - l.toNat) (cap - l.toNat))) w := by
            simp only [execOp, ho, Option.map_none]
            simp [Instr.sliceAt, Instr.slice, run_underlying htd, hax, rowVal, hr, size_run hT hk, Addr.add_lit]
          refine .pure h hrun (.elem (.one rfl ?_))
          rw [← e0]
          by_cases hn : cap = l.toNat
          · rw [if_pos hn]
            have e1 : (hh - l).toNat = 0 := by omega
            have e2 : cap - l.toNat = 0 := by omega
            rw [e1, e2]
            by_cases hz : l.toNat = 0
            · rw [hz]
              have := RepC.sub (T := T) (w := w) (D := D) (lo := 0) (len := 0) k1 (by omega) hcap.1
              rw [show cap - 0 = 0 by omega, Nat.zero_mul] at this
              exact this
            · exact .subz k1 (by omega) (by omega) (fun e => by cases e)
          · rw [if_neg hn]
            exact RepC.sub (T := T) (w := w) (D := D) (lo := l.toNat) (len := (hh - l).toNat) k1 (by omega) hcap.1
      · rename_i m0 hmx
        split at he
        case h_2 => cases he
        rename_i hv0 m hhi hm
        obtain ⟨rfl, rfl, rfl⟩ := ansIf_inj he
        cases mx with
        | none => cases hmx
        | some mo =>
          simp only [Option.map_some, Option.some.injEq] at hmx
          subst hmx
          obtain ⟨km, hkm⟩ := asNat_inv hm
          have hmv := h.eval mo
          rw [hkm] at hmv
          have hmv := hmv.int_inv
          simp only [Bool.and_eq_true, decide_eq_true_eq] at hc
          obtain ⟨⟨⟨h1, h2⟩, h3⟩, h4⟩ := hc
          have hhb : ∃ k, hi.map a.eval = some (.int k hh) := by
            rcases bound_some h hhh with ⟨q, _⟩ | q
            · cases hi with
              | none => cases hhi
              | some y => cases q
            · exact q
          have hr := sliceBounds3_run (P := P) (w := w) len0 cap (lo.map a.eval) (hi.map a.eval) (a.eval mo) l hh m ⟨_, hmv⟩ (bound_some h hl) hhb h1 h2 h3 (by omega)
          have hrun : ∃ y, (execOp a.eval o).run P w = .ok (.value y) w := by
            refine ⟨.slice (if m.toNat = l.toNat then g.map fun b => ⟨b, 0, none⟩ else (g.map fun b => ⟨b, 0, none⟩ : Option Addr).map (·.add (l.toNat * T.size e'))) (hh.toNat - l.toNat) (m.toNat - l.toNat), ?_⟩
            simp only [execOp, ho, Option.map_some]
            simp [Instr.sliceAt, Instr.slice, run_underlying htd, hax, rowVal, hr, size_run hT hk]
          obtain ⟨y, hrun⟩ := hrun
          exact .pure h hrun (.elem (.undef y))
  split at he
  · rename_i o' hxo
    split at he
    case h_2 => cases he
    rename_i e0 xs0 hobj0
    refine main o' xs0.length he fun nn cap sz g hg hn => ?_
    rw [hxo] at hv
    obtain ⟨g', n', cap', sz', hg', hax⟩ := hv.row_inv
    rw [hg] at hg'
    cases hg'
    have hob := h.obj o'
    rw [hobj0] at hob
    cases hob with
    | row k1 _ _ _ =>
      rw [hg] at k1
      cases k1
      exact ⟨Nat.le_refl _, hax⟩
  · rename_i o' len0 hxo
    refine main o' len0 he fun nn cap sz g hg hn => ?_
    rw [hxo] at hv
    have hv := hv.one_inv rfl (by simp) (by simp) (by simp)
    generalize hax : a.eval x = ax at hv
    cases hv with
    | subz _ q => omega
    | sub0 hg' =>
      rw [hg] at hg'
      cases hg'
      obtain ⟨_, rfl⟩ := hn rfl
      exact ⟨Nat.le_refl _, rfl⟩
    | sub hg' hl _ =>
      rw [hg] at hg'
      cases hg'
      exact ⟨by omega, by simp [rowVal]⟩
  · cases he
theorem snd_slice (hT : TabOK P T) (h : Inv T w0 D0 N s a w D gv) {t : TypeId} {x : Operand} {lo hi mx : Option Operand} (ho : o.op = .slice t x lo hi mx) (he : effOp T o d s.eval s.obj = .ok c v ups) (hc : c = true) : Does P T w0 D0 N s a w D o v ups := by
  unfold effOp at he; rw [ho] at he
  simp only at he
  cases hsb : T.subs.contains (d, t) with
  | true => rw [hsb, cond_true] at he; exact snd_sub hT h ho he hc
  | false =>
  rw [hsb, cond_false] at he
  simp only [sliceAV] at he
  have htd := hT.td t
  have hv := h.eval x
  split at he
  case h_1 => cases he
  rename_i hmx
  have hmx' : mx = none := by cases mx <;> simp_all
  subst hmx'
  split at he
  · rename_i n e ht
    rw [ht] at htd
    simp only [TDok] at htd
    have hk := hT.elem t e (.inr (.inl ⟨n, ht⟩))
    split at he
    case h_3 => cases he
    case h_2 =>
      rename_i o' j hx
      rw [hx] at hv
      split at he
      case h_2 => cases he
      rename_i l hh hl hhh
      split at he
      case h_2 => cases he
      rename_i r xs hobj
      obtain ⟨hsz, he⟩ := cond_fail he
      have hsz := beq_iff_eq.1 hsz
      obtain ⟨rfl, rfl, rfl⟩ := ansIf_inj he
      simp only [Bool.and_eq_true, decide_eq_true_eq] at hc
      obtain ⟨⟨h1, h2⟩, h3⟩ := hc
      obtain ⟨b, nn, cap, sz, hg, hj, hp, e1⟩ := hv.rptr_inv
      have hob := h.obj o'
      rw [hobj] at hob
      have hnn : nn = xs.length ∧ sz = T.size r := by
        cases hob with
        | row k1 _ _ _ => rw [hg] at k1; cases k1; exact ⟨rfl, rfl⟩
      obtain ⟨rfl, rfl⟩ := hnn
      have hr := sliceBounds_run (P := P) (w := w) false n n (lo.map a.eval) (hi.map a.eval) l hh (bound_some h hl) (bound_some h hhh) h1 h2 h3
      have hrun : (execOp a.eval o).run P w = .ok (.value (.slice (some (if n = l.toNat then ⟨b, j * T.size r + poff [], none⟩ else (⟨b, j * T.size r + poff [], none⟩ : Addr).add (l.toNat * T.size e))) (hh.toNat - l.toNat) (n - l.toNat))) w := by
        simp only [execOp, ho, Option.map_none]
        simp [Instr.sliceAt, run_underlying htd, e1, Instr.sureAddr, hr, size_run hT hk]
      refine .pure h hrun (.elem (.one rfl ?_))
      by_cases hn : n = l.toNat
      · rw [if_pos hn]
        have e0 : hh.toNat - l.toNat = 0 := by omega
        have e0' : (hh - l).toNat = 0 := by omega
        rw [e0, e0']
        exact .rvnil hg hj (by omega)
      · rw [if_neg hn, Addr.add_lit]
        have e0 : (hh - l).toNat = hh.toNat - l.toNat := by omega
        rw [← e0]
        have := RepC.rview (T := T) (w := w) (D := D) (t := e) (n := n) (lo := l.toNat) (len := (hh - l).toNat) (cap := n - l.toNat) hg hj hsz (by omega) (by omega)
        simpa [poff] using this
    rename_i o' p hx
    rw [hx] at hv
    split at he
    case h_2 => cases he
    rename_i l hh hl hhh
    obtain ⟨rfl, rfl, rfl⟩ := ansIf_inj he
    simp only [Bool.and_eq_true, decide_eq_true_eq] at hc
    obtain ⟨⟨h1, h2⟩, h3⟩ := hc
    obtain ⟨b, hg, hp, e1⟩ := hv.ptr_inv
    have hr := sliceBounds_run (P := P) (w := w) false n n (lo.map a.eval) (hi.map a.eval) l hh (bound_some h hl) (bound_some h hhh) h1 h2 h3
    have hrun : (execOp a.eval o).run P w = .ok (.value (.slice (some (if n = l.toNat then ⟨b, poff p, none⟩ else (⟨b, poff p, none⟩ : Addr).add (l.toNat * T.size e))) (hh.toNat - l.toNat) (n - l.toNat))) w := by
      simp only [execOp, ho, Option.map_none]
      simp [Instr.sliceAt, run_underlying htd, e1, Instr.sureAddr, hr, size_run hT hk]
    refine .pure h hrun (.elem (.one rfl ?_))
    by_cases hn : n = l.toNat
    · rw [if_pos hn]
      have e0 : hh.toNat - l.toNat = 0 := by omega
      have e0' : (hh - l).toNat = 0 := by omega
      rw [e0, e0']
      exact .vnil hg hp (by omega)
    · rw [if_neg hn, Addr.add_lit]
      have e0 : (hh - l).toNat = hh.toNat - l.toNat := by omega
      rw [← e0]
      exact .view hg hp (by omega) (by omega)
  · rename_i n e ht
    rw [ht] at htd
    simp only [TDok] at htd
    have hk := hT.elem t e (.inr (.inr ⟨n, ht⟩))
    split at he
    case h_2 => cases he
    rename_i o' p hx
    rw [hx] at hv
    split at he
    case h_2 => cases he
    rename_i l hh hl hhh
    obtain ⟨rfl, rfl, rfl⟩ := ansIf_inj he
    simp only [Bool.and_eq_true, decide_eq_true_eq] at hc
    obtain ⟨⟨h1, h2⟩, h3⟩ := hc
    obtain ⟨b, hg, hp, e1⟩ := hv.ptr_inv
    have hr := sliceBounds_run (P := P) (w := w) false n n (lo.map a.eval) (hi.map a.eval) l hh (bound_some h hl) (bound_some h hhh) h1 h2 h3
    have hrun : (execOp a.eval o).run P w = .ok (.value (.slice (some (if n = l.toNat then ⟨b, poff p, none⟩ else (⟨b, poff p, none⟩ : Addr).add (l.toNat * T.size e))) (hh.toNat - l.toNat) (n - l.toNat))) w := by
      simp only [execOp, ho, Option.map_none]
      simp [Instr.sliceAt, run_underlying htd, e1, Instr.sureAddr, hr, size_run hT hk]
    refine .pure h hrun (.elem (.one rfl ?_))
    by_cases hn : n = l.toNat
    · rw [if_pos hn]
      have e0 : hh.toNat - l.toNat = 0 := by omega
      have e0' : (hh - l).toNat = 0 := by omega
      rw [e0, e0']
      exact .vnil hg hp (by omega)
    · rw [if_neg hn, Addr.add_lit]
      have e0 : (hh - l).toNat = hh.toNat - l.toNat := by omega
      rw [← e0]
      exact .view hg hp (by omega) (by omega)
  · rename_i e ht
    rw [ht] at htd
    simp only [TDok] at htd
    have hk := hT.elem t e (.inl ht)
    split at he
    case h_2 => cases he
    rename_i xs hxs
    split at he
    case h_2 => cases he
    rename_i l hh hl hhh
    cases he
    simp only [Bool.and_eq_true, decide_eq_true_eq] at hc
    obtain ⟨⟨h1, h2⟩, h3⟩ := hc
    have hna : (s.eval x).isAgg = false ∧ s.eval x ≠ .undef ∧ s.eval x ≠ .skp ∧ ∀ vs, s.eval x ≠ .tup vs := by
      refine ⟨?_, ?_, ?_, ?_⟩
      · rw [← settle_isAgg (T := T) s.obj]
        cases hq : settle T s.obj (s.eval x) <;> rw [hq] at hxs <;> first | rfl | simp [AV.elems] at hxs
      all_goals intros
      all_goals intro hq
      all_goals rw [hq] at hxs
      all_goals simp [settle, AV.elems] at hxs
    have hcell := hv.one_inv hna.1 hna.2.1 hna.2.2.1 hna.2.2.2
    obtain ⟨D', hD, hsh, _, hinv⟩ := h.freeze hT (s.eval x).shares
    have hset := settle_rep hT h.obj hD hcell hsh
    have hslice : ∃ (t' : Nat) (ys : List (Ty t')), settle T s.obj (s.eval x) = .slice t' ys := by
      cases hq : settle T s.obj (s.eval x) <;> rw [hq] at hxs <;> first | exact ⟨_, _, rfl⟩ | simp [AV.elems] at hxs
    obtain ⟨t', ys, hys⟩ := hslice
    rw [hys] at hxs hset
    simp only [AV.elems] at hxs
    split at hxs
    case isFalse => cases hxs
    rename_i hte
    subst hte
    simp only [Option.some.injEq] at hxs
    subst hxs
    have fin : ∀ (ad : Option Addr) (n cap : Nat), a.eval x = .slice ad n cap → n = ys.length → n ≤ cap →
        (execOp a.eval o).run P w = .ok (.value (.slice (if cap = l.toNat then ad else ad.map (·.add (l.toNat * T.size t'))) (hh.toNat - l.toNat) (cap - l.toNat))) w := by
      intro ad n cap e1 hn hcap
      have hr := sliceBounds_run (P := P) (w := w) true n cap (lo.map a.eval) (hi.map a.eval) l hh (bound_some h hl) (by
        have := bound_some h hhh
        rw [hn]; exact this) h1 h2 (by omega)
      simp only [execOp, ho, Option.map_none]
      simp [Instr.sliceAt, Instr.slice, run_underlying htd, e1, hr, size_run hT hk]
    rcases slice_inv hset with ⟨ad, cap, e1, rfl, hcz⟩ | ⟨b, off, cap, cs, e1, hDb, hlc, hA, hrc⟩
    · simp only [List.length_nil, Int.ofNat_zero] at h3
      have hl0 : l.toNat = 0 := by omega
      have hh0 : hh.toNat = 0 := by omega
      refine ⟨_, w, D', gv, .inl (fin ad 0 cap e1 rfl (Nat.zero_le _)), ?_, hinv, hD⟩
      refine .elem (.one rfl ?_)
      simp only [List.take_nil, List.drop_nil, hl0, hh0, Nat.sub_zero, Nat.zero_mul]
      refine .snil _ _ _ fun hn => ?_
      split at hn
      · exact hcz hn
      · cases ad with
        | none => exact hcz rfl
        | some _ => simp at hn
    · refine ⟨_, w, D', gv, .inl (fin _ _ cap e1 rfl hlc), ?_, hinv, hD⟩
      refine .elem (.one rfl ?_)
      have hlen : ((ys.take hh.toNat).drop l.toNat).length = hh.toNat - l.toNat := by simp; omega
      by_cases hcl : cap = l.toNat
      · have : hh.toNat - l.toNat = 0 := by omega
        rw [if_pos hcl, this]
        have e0 : (ys.take hh.toNat).drop l.toNat = [] := List.eq_nil_of_length_eq_zero (by rw [hlen, this])
        rw [e0]
        exact .snil _ _ _ (fun e => by cases e)
      · rw [if_neg hcl]
        simp only [Option.map_some, Addr.add_lit]
        obtain ⟨c1, c2, q1, q2, q3, _⟩ := encs_split hT ys cs hrc hh.toNat (by omega)
        obtain ⟨d1, d2, r1, r2, _, r4⟩ := encs_split hT (ys.take hh.toNat) c1 q3 l.toNat (by simp; omega)
        rw [q1, r1] at hA
        have hA2 := hA.mid
        rw [r2] at hA2
        have := RepC.slice (xs := (ys.take hh.toNat).drop l.toNat) (cap := cap - l.toNat) hDb (by omega) hA2 r4
        rw [hlen] at this
        exact this
  · cases he

/-- a slice as an array's address -/
theorem snd_s2ap (hT : TabOK P T) (h : Inv T w0 D0 N s a w D gv) {t : TypeId} {x : Operand} (ho : o.op = .sliceToArrayPointer t x) (he : effOp T o d s.eval s.obj = .ok c v ups) (hc : c = true) : Does P T w0 D0 N s a w D o v ups := by
  unfold effOp at he; rw [ho] at he
  simp only at he
  have hv := h.eval x
  split at he
  case h_2 => cases he
  rename_i n e ht
  have htd := hT.td t
  rw [ht] at htd
  simp only [TDok] at htd
  split at he
  case h_2 => cases he
  rename_i xs hxs
  cases he
  simp only [Bool.and_eq_true, Nat.blt_eq, Nat.ble_eq] at hc
  have hna : (s.eval x).isAgg = false ∧ s.eval x ≠ .undef ∧ s.eval x ≠ .skp ∧ ∀ vs, s.eval x ≠ .tup vs := by
    refine ⟨?_, ?_, ?_, ?_⟩
    · rw [← settle_isAgg (T := T) s.obj]
      cases hq : settle T s.obj (s.eval x) <;> rw [hq] at hxs <;> first | rfl | simp [AV.elems] at hxs
    all_goals intros
    all_goals intro hq
    all_goals rw [hq] at hxs
    all_goals simp [settle, AV.elems] at hxs
  have hcell := hv.one_inv hna.1 hna.2.1 hna.2.2.1 hna.2.2.2
  obtain ⟨D', hD, hsh, _, hinv⟩ := h.freeze hT (s.eval x).shares
  have hset := settle_rep hT h.obj hD hcell hsh
  have hslice : ∃ (t' : Nat) (ys : List (Ty t')), settle T s.obj (s.eval x) = .slice t' ys := by
    cases hq : settle T s.obj (s.eval x) <;> rw [hq] at hxs <;> first | exact ⟨_, _, rfl⟩ | simp [AV.elems] at hxs
  obtain ⟨t', ys, hys⟩ := hslice
  rw [hys] at hxs hset
  simp only [AV.elems] at hxs
  split at hxs
  case isFalse => cases hxs
  rename_i hte
  subst hte
  simp only [Option.some.injEq] at hxs
  subst hxs
  rcases slice_inv hset with ⟨ad, cap, e1, rfl, hcz⟩ | ⟨b, off, cap, cs, e1, hDb, hlc, hA, hrc⟩
  · simp at hc; omega
  · obtain ⟨c1, c2, q1, q2, q3, _⟩ := encs_split hT ys cs hrc n (by omega)
    rw [q1] at hA
    refine ⟨.pointer (some ⟨b, off, none⟩), w, D', gv, .inl ?_, .elem (.one rfl (.cptr hDb hA.append_left (.arr (by simp; omega) q3))), hinv, hD⟩
    simp [execOp, ho, Instr.arrayAt, run_underlying htd, e1, Sem.run_bind, show ¬ ys.length < n by omega]
end
end V
namespace V
open Go
section
variable {Ty : Nat → Type} {T : Tab Ty} {P : Program}
variable {w0 : Base} {D0 : Nat → Prop} {N : Nat} {s : St Ty} {a : Act} {w : World} {D : Nat → Prop} {gv : Nat → Option GObj}
variable {o : Oper} {d : Nat} {c : Bool} {v : AV Ty} {ups : List (Nat × Obj Ty)}

/-- the block of a live object is written: that object anew, all others as they were -/
theorem Inv.write (h : Inv T w0 D0 N s a w D gv) {w' : World} {o1 b : Nat} {g : GObj} {x : Obj Ty} (hl : (s.obj o1).live = true) (hg : gv o1 = some g) (hb : g.blk = some b)
    (hw : w.grownBy w' (some b)) (hx : ObjOK T w' w0.Own D gv o1 x) : Inv T w0 D0 N { s with obj := Obj.upd s.obj [(o1, x)] } a w' D gv := by
  have hbl := live_blk (h.obj o1) hl hg hb
  have hnD := live_notD (h.obj o1) hl hg hb
  have hsame : ∀ k, k < w.heap.size → k ≠ b → w'.heap[k]? = w.heap[k]? := fun k hk hne => hw.block k hk (fun e => hne (Option.some.inj e))
  have hD : ∀ k, D k → w'.heap[k]? = w.heap[k]? := fun k hk => hsame k (h.dlt k hk) (fun e => hnD (e ▸ hk))
  refine { defers := h.defers, size := h.size, env := fun t => (h.env t).mono (fun _ h => h) hD (fun _ _ h => h), obj := fun o => ?_, apart := ?_,
           grown := h.grown.next hw (fun k hk => by cases hk; exact hbl.2),
           dold := h.dold, dlt := fun k hk => Nat.lt_of_lt_of_le (h.dlt k hk) hw.size, dnew := h.dnew, glob := h.glob, pins := h.pins }
  · show ObjOK T w' _ D gv o (Obj.upd s.obj [(o1, x)] o)
    rw [upd1]
    by_cases ho : o = o1
    · subst ho; rw [if_pos rfl]; exact hx
    · rw [if_neg ho]
      refine (h.obj o).mono (fun _ h => h) hD (fun _ _ h => h) (fun h => h) fun hl' g' b' hg' hb' => ?_
      have hlt := (live_blk (h.obj o) hl' hg' hb').1
      refine ⟨hsame b' hlt (fun e => ?_), live_notD (h.obj o) hl' hg' hb'⟩
      subst e
      exact h.apart o o1 g' g b' ho hl' hl hg' hg hb' hb
  · intro o o' g1 g2 b1 hne hl1 hl2 hg1 hg2 hb1 hb2
    simp only [upd1] at hl1 hl2
    have f1 : (s.obj o).live = true := by
      by_cases e : o = o1
      · rw [e]; exact hl
      · rw [if_neg e] at hl1; exact hl1
    have f2 : (s.obj o').live = true := by
      by_cases e : o' = o1
      · rw [e]; exact hl
      · rw [if_neg e] at hl2; exact hl2
    exact h.apart o o' g1 g2 b1 hne f1 f2 hg1 hg2 hb1 hb2

theorem grownBy_setRow (w : World) (b : Nat) (cs : Array Value) : w.grownBy (w.setRow b cs) (some b) :=
  ⟨rfl, rfl, rfl, by simp, fun k _ hne => setRow_other w b k cs (fun e => hne (by rw [e]))⟩

theorem upd_append (ob : Nat → Obj Ty) (l1 l2 : List (Nat × Obj Ty)) : Obj.upd ob (l1 ++ l2) = Obj.upd (Obj.upd ob l1) l2 := by
  induction l1 generalizing ob with
  | nil => rfl
  | cons x r ih => exact ih _

theorem Inv.evalS (h : Inv T w0 D0 N s a w D gv) (t : Nat) (x : Operand) : RepV T w D gv (evS T t s.eval x) (a.eval x) := by
  unfold evS
  split
  · split
    · exact .elem (.one rfl (.nils _))
    · exact h.eval _
  · split
    · exact .elem (.one rfl (.optn _))
    · exact .elem (.one rfl .nilp)
  · exact h.eval _

theorem snd_store (hT : TabOK P T) (h : Inv T w0 D0 N s a w D gv) {t : TypeId} {ad x : Operand} (ho : o.op = .store t ad x) (he : effOp T o d s.eval s.obj = .ok c v ups) : Does P T w0 D0 N s a w D o v ups := by
  unfold effOp at he; rw [ho] at he
  simp only at he
  obtain ⟨hk, he⟩ := cond_fail he
  simp only [Bool.and_eq_true] at hk
  obtain ⟨hkn, hsz, _⟩ := fits_known hk.2
  have hx := h.evalS t x
  have hxc := hx.plain_cells hk.1
  have hxl : (a.eval x).cells.toList.length = T.size t := by rw [hxc.len hT, hsz]
  have hv := h.eval ad
  have hrun : ∀ b off w', a.eval ad = .pointer (some ⟨b, off, none⟩) → (storeVar t ⟨b, off, none⟩ (a.eval x)).run P w = .ok () w' → (execOp a.eval o).run P w = .ok .skip w' := by
    intro b off w' e hs
    simp [execOp, ho, e, Instr.storeAt, Instr.sureAddr, hs]
  split at he
  · rename_i o' p hp
    rw [hp] at hv
    obtain ⟨b, hg, hpo, e⟩ := hv.ptr_inv
    split at he
    case h_2 => cases he
    rename_i cc hobj
    split at he
    case h_2 => cases he
    rename_i old hold
    obtain ⟨hos, he2⟩ := cond_fail he
    split at he2
    case h_2 => cases he2
    rename_i c' hc'
    obtain ⟨_, rfl, rfl⟩ := does_inj he2
    have hob := h.obj o'
    rw [hobj] at hob
    cases hob with
    | @var _ b' cs et h1 h2 h3 h4 h5 =>
      rw [hg] at h1
      cases h1
      obtain ⟨pre, sub, post, old', e1, e2, e3, e4, e5⟩ := put_rep hT p h5 hc' hpo
      rw [hold] at e3
      cases e3
      have hsub : sub.length = (a.eval x).cells.toList.length := by rw [e4.len hT, hxl]; exact beq_iff_eq.1 hos
      have hst := store_run hT hkn h4 rfl hxl e1 hsub hxc.one
      rw [e2] at hst
      refine ⟨Go.undef, _, D, gv, .inr ⟨hrun _ _ _ e hst, rfl⟩, .elem (.undef _), ?_, fun _ h => h⟩
      refine h.write (by rw [hobj]; rfl) hg rfl (grownBy_setRow w b _) (.var hg h2 h3 (setRow_heap w b _ _ et _ h4) ?_)
      refine (e5 _ hxc).mono (fun _ h => h) (fun k hD => setRow_other w b k _ (fun e => h3 (e ▸ hD))) (fun _ _ h => h)
  · rename_i o' i p hp
    rw [hp] at hv
    obtain ⟨b, n, cap, sz, hg, hi, hpo, e⟩ := hv.rptr_inv
    split at he
    case h_2 => cases he
    rename_i et xs hobj
    split at he
    case h_2 => cases he
    rename_i old hold
    obtain ⟨hos, he2⟩ := cond_fail he
    simp only [Bool.and_eq_true, beq_iff_eq, Bool.not_eq_true', List.contains_eq_mem, decide_eq_false_iff_not] at hos
    split at he2
    case h_2 => cases he2
    rename_i y hy
    split at he2
    case h_2 => cases he2
    rename_i z hz
    obtain ⟨_, rfl, rfl⟩ := does_inj he2
    have henc : T.enc et z = y := (T.den et).spec y z hz
    obtain ⟨D', hD, hsh, hback, hinv⟩ := h.freeze hT (evS T t s.eval x).shares
    have hobj' : (Obj.upd s.obj ((evS T t s.eval x).shares.map (freeze s.obj))) o' = .row et xs := by rw [upd_freeze, if_neg hos.2, hobj]
    have hob := hinv.obj o'
    simp only at hob
    rw [hobj'] at hob
    have hset : RepC T w D' gv (settle T s.obj (evS T t s.eval x)) (a.eval x).cells.toList := settle_rep hT h.obj hD hxc hsh
    cases hob with
    | @row _ _ g' cap' flat h1 h2 h3 h4 =>
      rw [hg] at h1
      cases h1
      rcases h3.2 with ⟨hvv, _⟩ | ⟨b', cap'', cur, hvv, hbb, hcur, hnc, hcm, hcs, htake⟩
      · simp [rowVal] at hvv
      · simp only [rowVal, Option.map_some, Value.slice.injEq, Option.some.injEq, Addr.mk.injEq, and_true, true_and] at hvv
        obtain ⟨rfl, rfl⟩ := hvv
        obtain ⟨pre1, sub1, post1, q1, q2, q3, q4⟩ := encs_rep hT h2 hi
        rw [getD_eq hi] at hold hy
        obtain ⟨pre2, sub, post2, old', e1, e2, e3, e4, e5⟩ := put_rep hT p q3 hy hpo
        rw [hold] at e3
        cases e3
        have hsub : sub.length = (a.eval x).cells.toList.length := by rw [e4.len hT, hxl]; exact hos.1
        have e0 := (List.take_append_drop (xs.length * T.size et) cur.toList).symm
        rw [htake, q1, e1] at e0
        generalize hrest : cur.toList.drop (xs.length * T.size et) = rest at e0
        have e0' : cur.toList = (pre1 ++ pre2) ++ sub ++ (post2 ++ post1 ++ rest) := by rw [e0]; simp [List.append_assoc]
        have hst := store_run hT hkn hcur rfl hxl e0' hsub hxc.one
        rw [List.length_append, q2, e2] at hst
        have hnew := q4 z _ (by rw [henc]; exact e5 _ hset)
        refine ⟨Go.undef, _, D', gv, .inr ⟨hrun _ _ _ e hst, rfl⟩, .elem (.undef _), ?_, hD⟩
        have := hinv.write (o1 := o') (w' := w.setRow b ((pre1 ++ pre2) ++ (a.eval x).cells.toList ++ (post2 ++ post1 ++ rest)).toArray) (x := .row et (xs.set i z)) (by simp only; rw [hobj']; rfl) hg rfl (grownBy_setRow w b _) (by
          have hD2 : ∀ k, D' k → (w.setRow b ((pre1 ++ pre2) ++ (a.eval x).cells.toList ++ (post2 ++ post1 ++ rest)).toArray).heap[k]? = w.heap[k]? := fun k hD => setRow_other w b k _ (fun e => (h4 b rfl).2 (e ▸ hD))
          refine .row (g := some b) (cap := cap) (flat := pre1 ++ (pre2 ++ (a.eval x).cells.toList ++ post2) ++ post1) ?_ ?_ ?_ h4
          · rw [List.length_set]; exact hg
          · exact hnew.mono (fun _ h => h) hD2 (fun _ _ h => h)
          · rw [List.length_set]
            have hl2 : (pre1 ++ (pre2 ++ (a.eval x).cells.toList ++ post2) ++ post1).length = xs.length * T.size et := by
              have := h3.1
              rw [q1, e1] at this
              simp only [List.length_append] at this hsub ⊢
              omega
            refine ⟨hl2, .inr ⟨b, cap, _, rfl, hbb, setRow_heap w b _ _ et _ hcur, hnc, hcm, ?_, ?_⟩⟩
            · have hc2 := hcs
              rw [← Array.length_toList, e0'] at hc2
              simp only [List.size_toArray, List.length_append] at hc2 hsub ⊢
              omega
            · have : (pre1 ++ pre2 ++ (a.eval x).cells.toList ++ (post2 ++ post1 ++ rest)) = (pre1 ++ (pre2 ++ (a.eval x).cells.toList ++ post2) ++ post1) ++ rest := by simp [List.append_assoc]
              rw [this, ← hl2]
              exact List.take_left)
        simp only [upd_append]
        exact this
  · cases he
end
end V
namespace V
open Go
section
variable {Ty : Nat → Type} {T : Tab Ty} {P : Program}
variable {w0 : Base} {D0 : Nat → Prop} {N : Nat} {s : St Ty} {a : Act} {w : World} {D : Nat → Prop} {gv : Nat → Option GObj}
variable {o : Oper} {d : Nat} {c : Bool} {v : AV Ty} {ups : List (Nat × Obj Ty)}

theorem made_rep (hT : TabOK P T) {e : Nat} (hk : (T.td e).known = true) {z : Array Value} (hz : ∀ w D gv, RepC T w D gv (T.enc e (T.dflt e)) z.toList) (n : Nat) :
    RepC T w D gv (encs T e (List.replicate n (T.dflt e))) (madeCells z (n * T.size e)).toList := by
  have hzl : z.size = T.size e := by
    have := (hz w D gv).len hT
    rw [hT.encSize, Array.length_toList] at this
    exact this
  obtain ⟨i, z', _, _, _, _, hpos, _⟩ := hT.info e hk
  have key : ∀ n, (madeCells z (n * T.size e)).toList = (List.replicate n z.toList).flatten := by
    intro n
    induction n with
    | zero => simp [madeCells]
    | succ n ih =>
      rw [List.replicate_succ', List.flatten_append, ← ih]
      apply List.ext_getElem?
      intro j
      simp only [madeCells, List.flatten_cons, List.flatten_nil, List.append_nil, Array.toList_map, Array.toList_range, List.getElem?_map]
      by_cases hj : j < n * T.size e
      · rw [List.getElem?_append_left (by simpa using hj)]
        simp only [List.getElem?_map]
        rw [List.getElem?_range (by rw [Nat.add_mul]; omega), List.getElem?_range hj]
      · rw [List.getElem?_append_right (by simp; omega)]
        simp only [List.length_map, List.length_range]
        by_cases hj2 : j < (n + 1) * T.size e
        · rw [List.getElem?_range hj2]
          have hlt : j - n * T.size e < z.size := by rw [hzl]; rw [Nat.add_mul] at hj2; omega
          have hmod : j % z.size = j - n * T.size e := by
            have : j = (j - n * T.size e) + n * z.size := by rw [hzl]; omega
            rw [this, Nat.add_mul_mod_self_right, Nat.mod_eq_of_lt hlt, ← this]
          simp only [Option.map_some, hmod]
          rw [Array.getElem?_toList, Array.getElem?_eq_getElem hlt, getElem!_pos z _ hlt]
        · rw [List.getElem?_eq_none (by simpa using hj2), List.getElem?_eq_none (by rw [Array.length_toList, hzl]; rw [Nat.add_mul] at hj2; omega)]
          rfl
  rw [key n]
  clear key
  induction n with
  | zero => simpa [encs, listAV] using RepC.nil
  | succ n ih =>
    simp only [List.replicate_succ, List.flatten_cons]
    simpa [encs, listAV] using RepC.cons (hz w D gv) ih

/-- a new row -/
theorem Inv.newRow (h : Inv T w0 D0 N s a w D gv) {w' : World} (hg : w.grownBy w' none) (hd : s.obj d = .none) {e : Nat} {xs : List (Ty e)} {g cap : Nat} {flat : List Value} (hge : w.heap.size ≤ g)
    (hr : RepC T w D gv (encs T e xs) flat) (hown : w'.ownsRow 0 e (T.size e) (rowVal (some g) xs.length cap) xs.length flat) :
    Inv T w0 D0 N { s with obj := Obj.upd s.obj [(d, .row e xs)] } a w' D (gset gv d (.row (some g) xs.length cap (T.size e))) := by
  have hw := h.world hg
  have hn := gv_none h hd
  refine hw.new hd ?_ ?_
  · refine .row (gset_same _ _ _) (hr.mono (fun _ h => h) (fun b hD => hg.block b (h.dlt b hD) (by simp)) (gset_mono hn)) hown (fun b e => ?_)
    cases e
    refine ⟨.inr (Nat.le_trans h.grown.size hge), fun hD => ?_⟩
    have := h.dlt _ hD
    omega
  · intro o g' b _ hl hg' hb e
    simp only [GObj.blk, Option.some.injEq] at e
    have := (live_blk (h.obj o) hl hg' hb).1
    omega

theorem cellsAV_rep {v : AV Ty} {u : Value} (h : RepC T w D gv v [u]) : ∀ n : Nat, RepC T w D gv (cellsAV (List.replicate n v)) (List.replicate n u) := by
  intro n
  induction n with
  | zero => exact .nil
  | succ n ih => simp only [List.replicate_succ, cellsAV]; exact .cons (ch := [u]) h ih
theorem size_lone {v : AV Ty} (h : v.isAgg = false) : v.size T = 1 := by
  cases v <;> first | rfl | cases h

theorem snd_makeSlice (hT : TabOK P T) (h : Inv T w0 D0 N s a w D gv) {t : TypeId} {l m : Operand} (ho : o.op = .makeSlice t l m) (he : effOp T o d s.eval s.obj = .ok c v ups) (hc : c = true) : Does P T w0 D0 N s a w D o v ups := by
  unfold effOp at he; rw [ho] at he
  simp only at he
  split at he
  case h_2 => cases he
  rename_i e n n' ht hn hn' hd
  split at he
  · rename_i q _
    obtain ⟨hk2, he⟩ := cond_fail he
    cases he
    simp only [Bool.and_eq_true, decide_eq_true_eq, Bool.not_eq_true', Nat.beq_eq, Nat.ble_eq, roomMost] at hc hk2
    obtain ⟨rfl, rfl⟩ := hc
    obtain ⟨⟨⟨hpl, hag⟩, hs1⟩, hq⟩ := hk2
    have htd := hT.td t
    rw [ht] at htd
    simp only [TDok] at htd
    have hk := hT.elem t e (.inl ht)
    obtain ⟨i, z, hi, hs, hby, hb32, hpos, hz, hzr, _, hdf⟩ := hT.info e hk
    obtain ⟨k1, hl⟩ := asNat_inv hn
    obtain ⟨k2, hm'⟩ := asNat_inv hn'
    have el : a.eval l = .int k1 (q : Int) := by have := h.eval l; rw [hl] at this; exact this.int_inv
    have em : a.eval m = .int k2 (q : Int) := by have := h.eval m; rw [hm'] at this; exact this.int_inv
    have hbytes : i.bytes * q ≤ 281474976710656 := by
      rw [hby]
      have := Nat.mul_le_mul hb32 hq
      omega
    obtain ⟨w', hr, hown, hg⟩ := run_make_full (P := P) w 0 t e i z (T.size e) htd hi hz hs k1 k2 q hbytes (by simp only [maxLen]; omega) (Nat.zero_le _)
    rw [hs1, Nat.mul_one] at hown
    rcases hown.2 with ⟨h1, _⟩ | ⟨g, cap, cur, h1, _, hb, _, _, hcs, htake⟩
    · simp at h1
    · simp only [Value.slice.injEq, Option.some.injEq, Addr.mk.injEq, and_true, true_and] at h1
      obtain ⟨rfl, rfl⟩ := h1
      have hz1 : RepC T w' D gv (T.zero e) z.cells.toList := (RepV.elem (hzr w' D gv)).plain_cells hpl
      have hz2 := hz1.len hT
      rw [size_lone hag] at hz2
      obtain ⟨u, hu⟩ : ∃ u, z.cells.toList = [u] := List.length_eq_one_iff.1 hz2
      rw [hu] at hz1
      have hcur : cur.toList = List.replicate q u := by
        rw [Nat.mul_one] at htake hcs
        rw [List.take_of_length_le (by simp [hcs])] at htake
        rw [htake]
        have hzs : z.cells = #[u] := by apply Array.ext'; simpa using hu
        rw [hzs]
        apply List.ext_getElem
        · simp [madeCells]
        · intro j h1 h2
          simp [madeCells, Nat.mod_one]
      have hw := h.world hg
      have hn0 := gv_none h hd
      refine ⟨.slice (some ⟨w.heap.size, 0, none⟩) q q, w', D, gset gv d (.var w.heap.size), .inl ?_, ?_, ?_, fun _ h => h⟩
      · simp only [execOp, ho, el, em]
        simp [hr]
      · refine .elem (.one rfl ?_)
        have := RepC.view (T := T) (w := w') (D := D) (t := e) (p := []) (lo := 0) (len := q) (n := q) (cap := q) (gset_same gv d (.var w.heap.size)) trivial (by omega) (Nat.le_refl _)
        simpa [poff] using this
      · refine hw.new hd (.var (gset_same _ _ _) (.inr h.grown.size) (fun hD => Nat.lt_irrefl _ (h.dlt _ hD)) hb ?_) fun o g' b _ hl hg' hb e => ?_
        · rw [hcur]
          exact (cellsAV_rep hz1 q).mono (fun _ h => h) (fun _ _ => rfl) (gset_mono hn0)
        · simp only [GObj.blk, Option.some.injEq] at e
          have := (live_blk (h.obj o) hl hg' hb).1
          omega
  cases he
  simp only [Bool.and_eq_true, decide_eq_true_eq] at hc
  obtain ⟨⟨rfl, h0⟩, hm⟩ := hc
  have htd := hT.td t
  rw [ht] at htd
  simp only [TDok] at htd
  have hk := hT.elem t e (.inl ht)
  obtain ⟨i, z, hi, hs, hby, hb32, hpos, hz, _, _, hdf⟩ := hT.info e hk
  obtain ⟨k1, hl⟩ := asNat_inv hn
  obtain ⟨k2, hm'⟩ := asNat_inv hn'
  have el : a.eval l = .int k1 n := by have := h.eval l; rw [hl] at this; exact this.int_inv
  have em : a.eval m = .int k2 n := by have := h.eval m; rw [hm'] at this; exact this.int_inv
  obtain ⟨q, rfl⟩ := Int.eq_ofNat_of_zero_le h0
  simp only [roomMost] at hm
  have hq : q ≤ 4294967296 := by omega
  have hbytes : i.bytes * q ≤ 281474976710656 := by
    rw [hby]
    have := Nat.mul_le_mul hb32 hq
    omega
  obtain ⟨w', hr, hown, hg⟩ := run_make_full (P := P) w 0 t e i z (T.size e) htd hi hz hs k1 k2 q hbytes (by simp only [maxLen]; omega) (Nat.zero_le _)
  refine ⟨rowVal (some w.heap.size) q q, w', D, _, .inl ?_, ?_, Inv.newRow h hg hd (xs := List.replicate q (T.dflt e)) (cap := q) (Nat.le_refl _) (made_rep hT hk (fun w D gv => hdf w D gv) q) ?_, fun _ h => h⟩
  · simp only [execOp, ho, el, em]
    simp [hr, rowVal]
  · have := RepC.row (T := T) (w := w') (D := D) (gset_same gv d (.row (some w.heap.size) (List.replicate q (T.dflt e)).length q (T.size e)))
    rw [List.length_replicate] at this
    exact .elem (.one rfl (by rw [List.length_replicate]; exact this))
  · simp only [List.length_replicate]
    exact hown

theorem setParts_arr (place : Nat → Option (Nat × Nat)) {t n : Nat} : ∀ (parts : List (Nat × AV Ty)) (xs : List (Ty t)) {c' : AV Ty}, setParts T place (.arr t n xs) parts = some c' → ∃ ys, c' = .arr t n ys := by
  intro parts
  induction parts with
  | nil => intro xs c' h; simp only [setParts, Option.some.injEq] at h; exact ⟨xs, h.symm⟩
  | cons p r ih =>
    intro xs c' h
    obtain ⟨i, u⟩ := p
    simp only [setParts] at h
    split at h
    case h_1 => cases h
    split at h
    case h_2 => cases h
    rename_i off sz _ _ z _
    cases hb : (decide (i < n) && T.size t == sz && i * sz == off) with
    | false => rw [hb] at h; cases h
    | true => rw [hb] at h; exact ih _ h

theorem snd_buildSlice (hT : TabOK P T) (h : Inv T w0 D0 N s a w D gv) {t n : Nat} {parts : Array (Nat × Operand)} (ho : o.op = .buildSlice t n parts) (he : effOp T o d s.eval s.obj = .ok c v ups) : Does P T w0 D0 N s a w D o v ups := by
  unfold effOp at he; rw [ho] at he
  simp only at he
  split at he
  case h_2 => cases he
  rename_i e ht
  split at he
  case h_2 => cases he
  rename_i hd
  obtain ⟨hn, he⟩ := cond_fail he
  have hn := Nat.le_of_ble_eq_true hn
  split at he
  case h_2 => cases he
  rename_i e2 n2 xs hset
  obtain ⟨_, rfl, rfl⟩ := does_inj he
  obtain ⟨ys, hys⟩ := setParts_arr _ _ _ hset
  cases hys
  have htd := hT.td t
  rw [ht] at htd
  simp only [TDok] at htd
  have hk := hT.elem t e (.inl ht)
  obtain ⟨i, z, hi, hs, hby, hb32, hpos, hz, _, _, hdf⟩ := hT.info e hk
  obtain ⟨D', hD, hsh, hback, hinv⟩ := h.freeze hT (parts.toList.flatMap fun p => (s.eval p.2).shares)
  have hrow : RepC T w D' gv (.arr e n (List.replicate n (T.dflt e))) (madeCells z.cells (n * T.size e)).toList := .arr (by simp) (made_rep hT hk (fun w D gv => hdf w D gv) n)
  obtain ⟨cs', q1, q2, q3⟩ := fill_rep hT (fun i => some (i * T.size e, T.size e)) _ (parts.toList.map fun p => (p.1, a.eval p.2)) _ _ (madeCells z.cells (n * T.size e)) hrow hset (by simp) (fun j h1 h2 => by
    simp only [List.getElem_map]
    have hj : j < parts.toList.length := by simpa using h1
    have hv := h.eval (parts.toList[j]).2
    have hsub : ∀ b, blocksOf s.obj gv (s.eval (parts.toList[j]).2).shares b → D' b := fun b ⟨o1, ho1, r⟩ => hsh b ⟨o1, List.mem_flatMap.2 ⟨parts.toList[j], List.getElem_mem hj, ho1⟩, r⟩
    generalize a.eval (parts.toList[j]).2 = y at hv
    generalize s.eval (parts.toList[j]).2 = av at hv hsub
    cases hv with
    | elem hv =>
      cases hv with
      | undef => exact .elem (.undef _)
      | skp => exact .elem .skp
      | agg ha hr => exact .elem (.agg (by rw [settle_isAgg]; exact ha) (settle_rep hT h.obj hD hr hsub))
      | one ha hr => exact .elem (.one (by rw [settle_isAgg]; exact ha) (settle_rep hT h.obj hD hr hsub))
    | @tup vs ys ht =>
      refine .tup ?_
      clear hset
      have : ∀ (vs : AV Ty) (ys : List Value), RepT T w D gv vs ys → (∀ b, blocksOf s.obj gv vs.shares b → D' b) → RepT T w D' gv (settle T s.obj vs) ys := by
        intro vs ys hr
        induction hr with
        | nil => intro _; exact .nil
        | @cons h1 t1 x1 xs1 hh _ ih =>
          intro hs
          refine .cons ?_ (ih fun b ⟨o1, ho1, r⟩ => hs b ⟨o1, by simp [AV.shares, ho1], r⟩)
          have hs1 : ∀ b, blocksOf s.obj gv h1.shares b → D' b := fun b ⟨o1, ho1, r⟩ => hs b ⟨o1, by simp [AV.shares, ho1], r⟩
          cases hh with
          | undef => exact .undef _
          | skp => exact .skp
          | agg ha hr => exact .agg (by rw [settle_isAgg]; exact ha) (settle_rep hT h.obj hD hr hs1)
          | one ha hr => exact .one (by rw [settle_isAgg]; exact ha) (settle_rep hT h.obj hD hr hs1)
      exact this vs ys ht hsub)
  have hpl : (parts.map fun (i, x) => (i, a.eval x)).toList = parts.toList.map fun p => (p.1, a.eval p.2) := by simp
  have hrun : (Instr.buildSlice t n (parts.map fun (i, x) => (i, a.eval x))).run P w = .ok (.slice (some ⟨w.heap.size, 0, none⟩) n n) (w.alloc (.cells cs' e)) := by
    have hn' : ¬ (n * i.size > 2 ^ 24) := by rw [hs]; omega
    unfold Instr.buildSlice
    rw [Sem.run_bind, run_underlying htd]
    simp only [Result.andThen_ok]
    rw [Sem.run_bind, size_run hT hk]
    simp only [Result.andThen_ok]
    rw [← hs]
    simp only [hn', if_false]
    have hpl2 : (fun i_1 => some (i_1 * i.size, i.size)) = (fun i => some (i * T.size e, T.size e)) := by rw [hs]
    by_cases h0 : n * i.size = 0
    · have hmk : (Array.range (n * i.size)).map (fun x => (#[] : Array Value)[x % (#[] : Array Value).size]!) = madeCells z.cells (n * T.size e) := by
        rw [← hs]
        simp [h0, madeCells]
      rw [if_pos h0, Sem.run_bind, Sem.run_pure]
      simp only [Result.andThen_ok]
      rw [hmk, hpl, hpl2, q1]
      simp [newRow]
    · have hmk : (Array.range (n * i.size)).map (fun x => z.cells[x % z.cells.size]!) = madeCells z.cells (n * T.size e) := by
        rw [← hs]
        simp [madeCells]
      have hzv : (zeroValue e).run P w = .ok z w := by simp [zeroValue, typeInfo, hi, hz]
      rw [if_neg h0, Sem.run_bind, hzv]
      simp only [Result.andThen_ok, Sem.run_bind, Sem.run_pure]
      rw [hmk, hpl, hpl2, q1]
      simp [newRow]
  cases q2 with
  | @arr _ _ _ _ hlen hr =>
    have hd' : (Obj.upd s.obj ((parts.toList.flatMap fun p => (s.eval p.2).shares).map (freeze s.obj))) d = .none := by
      rw [upd_freeze, hd]
      split <;> rfl
    have hg := World.grownBy_alloc w (.cells cs' e) none
    have hsz : cs'.size = ys.length * T.size e := by
      have := hr.len hT
      rw [Array.length_toList, listAV_size hT] at this
      exact this
    have hown := World.ownsRow_lit (base := 0) (e := e) (size := T.size e) w cs' ys.length (Nat.zero_le _) (by
      have : ys.length ≤ ys.length * T.size e := Nat.le_mul_of_pos_right _ (by rw [← hs]; omega)
      rw [hlen] at this ⊢
      simp only [maxLen]; omega) hsz
    refine ⟨rowVal (some w.heap.size) ys.length ys.length, w.alloc (.cells cs' e), D', gset gv d (.row (some w.heap.size) ys.length ys.length (T.size e)), .inl ?_, ?_, ?_, hD⟩
    · simp only [execOp, ho]
      rw [hlen]
      simp [hrun, rowVal]
    · exact .elem (.one rfl (RepC.row (T := T) (w := w.alloc (.cells cs' e)) (D := D') (gset_same gv d (.row (some w.heap.size) ys.length ys.length (T.size e)))))
    · rw [upd_append]
      exact Inv.newRow hinv hg hd' (Nat.le_refl _) hr hown
end
end V
namespace V
open Go
section
variable {Ty : Nat → Type} {T : Tab Ty} {P : Program}
variable {w0 : Base} {D0 : Nat → Prop} {N : Nat} {s : St Ty} {a : Act} {w : World} {D : Nat → Prop} {gv : Nat → Option GObj}
variable {o : Oper} {d : Nat} {c : Bool} {v : AV Ty} {ups : List (Nat × Obj Ty)}

theorem elems_plain {v : AV Ty} {ob : Nat → Obj Ty} {e : Nat} {ys : List (Ty e)} (hxs : (settle T ob v).elems e = some ys) :
    v.isAgg = false ∧ v ≠ .undef ∧ v ≠ .skp ∧ ∀ vs, v ≠ .tup vs := by
  refine ⟨?_, ?_, ?_, ?_⟩
  · rw [← settle_isAgg (T := T) ob]
    cases hq : settle T ob v <;> rw [hq] at hxs <;> first | rfl | simp [AV.elems] at hxs
  all_goals intros
  all_goals intro hq
  all_goals rw [hq] at hxs
  all_goals simp [settle, AV.elems] at hxs

/-- an object that is not used any more -/
theorem Inv.kill (h : Inv T w0 D0 N s a w D gv) (o1 : Nat) : Inv T w0 D0 N { s with obj := Obj.upd s.obj [(o1, .dead)] } a w D gv := by
  have hlive : ∀ o, (Obj.upd s.obj [(o1, .dead)] o).live = true → (s.obj o).live = true := by
    intro o hl
    rw [upd1] at hl
    by_cases e : o = o1
    · rw [if_pos e] at hl; cases hl
    · rw [if_neg e] at hl; exact hl
  refine { defers := h.defers, size := h.size, env := h.env, obj := fun o => ?_, apart := fun o o' g g' b hne hl hl' => h.apart o o' g g' b hne (hlive o hl) (hlive o' hl'), grown := h.grown, dold := h.dold, dlt := h.dlt, dnew := h.dnew, glob := h.glob, pins := h.pins }
  show ObjOK T w _ D gv o (Obj.upd s.obj [(o1, .dead)] o)
  rw [upd1]
  by_cases e : o = o1
  · rw [if_pos e]; exact .dead
  · rw [if_neg e]; exact h.obj o

/-- only the block 'b', which is no live object's, is written, or is new -/
theorem Inv.worldBut (h : Inv T w0 D0 N s a w D gv) {w' : World} {b : Option Nat} (hg : w.grownBy w' b) (hb : ∀ k, b = some k → w0.Own k ∧ ¬ D k ∧ ∀ o g, (s.obj o).live = true → gv o = some g → g.blk ≠ some k) : Inv T w0 D0 N s a w' D gv := by
  have hD : ∀ k, D k → w'.heap[k]? = w.heap[k]? := fun k hk => hg.block k (h.dlt k hk) (fun e => (hb k e.symm).2.1 hk)
  refine { defers := h.defers, size := h.size, env := fun t => (h.env t).mono (fun _ h => h) hD (fun _ _ h => h), obj := fun o => ?_, apart := h.apart,
           grown := h.grown.next hg (fun k hk => (hb k hk).1),
           dold := h.dold, dlt := fun b hD => Nat.lt_of_lt_of_le (h.dlt b hD) hg.size, dnew := h.dnew, glob := h.glob, pins := h.pins }
  refine (h.obj o).mono (fun _ h => h) hD (fun _ _ h => h) (fun h => h) fun hl g b' hgo hbl => ⟨hg.block b' (live_blk (h.obj o) hl hgo hbl).1 (fun e => (hb b' e.symm).2.2 o g hl hgo hbl), live_notD (h.obj o) hl hgo hbl⟩

theorem rowVal_own (g : Option Nat) (n cap : Nat) : (rowVal g n cap).ownBlock = g := by cases g <;> rfl

/-- a row that has grown -/
theorem append_fin (h : Inv T w0 D0 N s a w D gv) {e : Nat} {tys : Array TypeId} {ty : TypeId} {xs ys : List (Ty e)} {g : Option Nat} {cap : Nat} {yv : Value} {flat : List Value}
    (hown : w.ownsRow 0 e (T.size e) (rowVal g xs.length cap) xs.length flat)
    (hd : s.obj d = .none) (hnD : ∀ k, g = some k → w0.Own k ∧ ¬ D k)
    (hap : ∀ k, g = some k → ∀ o g', (s.obj o).live = true → gv o = some g' → g'.blk ≠ some k)
    (main : ∃ g' cap' flat' w', (Builtin.append_ tys ty #[rowVal g xs.length cap, yv]).run P w = .ok (rowVal g' (xs ++ ys).length cap') w' ∧ w'.ownsRow 0 e (T.size e) (rowVal g' (xs ++ ys).length cap') (xs ++ ys).length flat' ∧
      w.grownBy w' g ∧ RepC T w D gv (encs T e (xs ++ ys)) flat' ∧ (∀ k, g' = some k → g = some k ∨ w.heap.size ≤ k) ∧ (∃ more, flat' = flat ++ more) ∧ (∀ k, g = some k → g' = some k ∨ w'.heap[k]? = w.heap[k]?)) :
    ∃ x w' gv', (Builtin.append_ tys ty #[rowVal g xs.length cap, yv]).run P w = .ok x w' ∧ RepV T w' D gv' (.row d) x ∧ Inv T w0 D0 N { s with obj := Obj.upd s.obj [(d, .row e (xs ++ ys))] } a w' D gv' ∧
      (∀ o, o ≠ d → gv' o = gv o) ∧ (∀ b, D b → w'.heap[b]? = w.heap[b]?) ∧ w.heap.size ≤ w'.heap.size ∧ (∀ k, g = some k → At w' k 0 flat) := by
  obtain ⟨g', cap', flat', w', hrun, hown', hg, hrep, hgk, ⟨more, hmore⟩, hkp⟩ := main
  have hw := h.worldBut hg (fun k hk => by
    exact ⟨(hnD k hk).1, (hnD k hk).2, hap k hk⟩)
  have hn := gv_none h hd
  have hD' : ∀ k, g' = some k → w0.Own k ∧ ¬ D k := fun k hk => by
    rcases hgk k hk with h1 | h1
    · exact hnD k h1
    · exact ⟨.inr (Nat.le_trans h.grown.size h1), fun hDk => by have := h.dlt k hDk; omega⟩
  refine ⟨_, w', gset gv d (.row g' (xs ++ ys).length cap' (T.size e)), hrun, .elem (.one rfl (.row (gset_same _ _ _))), hw.new hd ?_ ?_, fun o ho => by simp [gset, ho], fun b hD => hg.block b (h.dlt b hD) (fun e => (hnD b e.symm).2 hD), hg.size, fun k hk => ?_⟩
  · refine .row (gset_same _ _ _) (hrep.mono (fun _ h => h) (fun b hD => hg.block b (h.dlt b hD) (fun e => (hnD b e.symm).2 hD)) (gset_mono hn)) hown' hD'
  · intro o1 g1 b1 _ hl hg1 hb1 e1
    simp only [GObj.blk] at e1
    rcases hgk b1 e1 with h1 | h1
    · exact hap b1 h1 o1 g1 hl hg1 hb1
    · have := (live_blk (h.obj o1) hl hg1 hb1).1
      omega
  · have row : ∀ {w1 : World} {n1 c1 : Nat} {f1 : List Value}, w1.ownsRow 0 e (T.size e) (rowVal (some k) n1 c1) n1 f1 → At w1 k 0 f1 := by
      intro w1 n1 c1 f1 ho j u hj
      have := ho.cells (g := k) rfl j u hj
      simpa [Addr.add_lit] using this
    rcases hkp k hk with h1 | h1
    · rw [h1, hmore] at hown'
      exact (row hown').append_left
    · rw [hk] at hown
      exact (row hown).mono h1

theorem append_core (hT : TabOK P T) (h : Inv T w0 D0 N s a w D gv) {e : Nat} {t ty : TypeId} (ht : T.td t = .slice e) {xs ys : List (Ty e)} {flat : List Value} {g : Option Nat} {cap : Nat} {yv : Value}
    (hd : s.obj d = .none) (hr : RepC T w D gv (encs T e xs) flat) (hown : w.ownsRow 0 e (T.size e) (rowVal g xs.length cap) xs.length flat) (hnD : ∀ k, g = some k → w0.Own k ∧ ¬ D k)
    (hap : ∀ k, g = some k → ∀ o g', (s.obj o).live = true → gv o = some g' → g'.blk ≠ some k)
    (hy : (yv = .slice none 0 0 ∧ ys = []) ∨ ∃ ad cap cs, yv = .slice (some ad) ys.length cap ∧ (∀ j u, cs[j]? = some u → w.cell? (ad.add j) = some u) ∧ RepC T w D gv (encs T e ys) cs)
    (hroom : xs.length + ys.length ≤ roomMost) :
    ∃ x w' gv', (Builtin.append_ #[t, t] ty #[rowVal g xs.length cap, yv]).run P w = .ok x w' ∧ RepV T w' D gv' (.row d) x ∧ Inv T w0 D0 N { s with obj := Obj.upd s.obj [(d, .row e (xs ++ ys))] } a w' D gv' ∧
      (∀ o, o ≠ d → gv' o = gv o) ∧ (∀ b, D b → w'.heap[b]? = w.heap[b]?) ∧ w.heap.size ≤ w'.heap.size ∧ (∀ k, g = some k → At w' k 0 flat) := by
  have htd := hT.td t
  rw [ht] at htd
  simp only [TDok] at htd
  have hk := hT.elem t e (.inl ht)
  obtain ⟨i, z, hi, hs, hby, hb32, hpos, hz, hzr, _, hdf⟩ := hT.info e hk
  have hzs : z.cells.size = T.size e := by
    have := (hdf w D gv).len hT
    rw [hT.encSize, Array.length_toList] at this
    exact this
  simp only [roomMost] at hroom
  have main : ∃ g' cap' flat' w', (Builtin.append_ #[t, t] ty #[rowVal g xs.length cap, yv]).run P w = .ok (rowVal g' (xs ++ ys).length cap') w' ∧ w'.ownsRow 0 e (T.size e) (rowVal g' (xs ++ ys).length cap') (xs ++ ys).length flat' ∧
      w.grownBy w' g ∧ RepC T w D gv (encs T e (xs ++ ys)) flat' ∧ (∀ k, g' = some k → g = some k ∨ w.heap.size ≤ k) ∧ (∃ more, flat' = flat ++ more) ∧ (∀ k, g = some k → g' = some k ∨ w'.heap[k]? = w.heap[k]?) := by
    rcases hy with ⟨rfl, rfl⟩ | ⟨ad, cap2, cs, rfl, hcell, hcs⟩
    · have hrun := run_append_owned_none (P := P) w 0 t ty e i (T.size e) htd hi _ _ _ hown
      refine ⟨g, cap, flat, w, ?_, ?_, ⟨rfl, rfl, rfl, Nat.le_refl _, fun _ _ _ => rfl⟩, by simpa using hr, fun k hk => .inl hk, ⟨[], by simp⟩, fun k hk => .inl hk⟩
      · simpa using hrun
      · simpa using hown
    · have hlen : cs.length = ys.length * T.size e := by rw [hcs.len hT, listAV_size hT]
      have hbb : (xs.length + ys.length) * T.bytes e ≤ 140737488355328 := by
        have := Nat.mul_le_mul hroom hb32
        omega
      obtain ⟨v', w', hrun, hown', hg, _⟩ := run_append_own (P := P) w 0 t ty e i z (T.size e) (T.bytes e) htd hi hz hs hby hzs hpos _ _ _ hown ad ys.length cap2 cs hlen hcell hcs.one (by simp only [maxLen]; omega) hbb (Nat.zero_le _)
      have hlen' : (xs ++ ys).length = xs.length + ys.length := by simp
      rw [rowVal_own] at hg
      have kp : ∀ k, g = some k → (v'.ownBlock = some k ∨ w'.heap[k]? = w.heap[k]?) := by
        intro gb hgb
        subst hgb
        have hrun2 := hrun
        rcases hown.2 with ⟨h0, _⟩ | ⟨gb', cap0, cur0, h0, _, hg0, hnc, hcm, hcs0, htake0⟩
        · simp [rowVal] at h0
        · simp only [rowVal, Option.map_some, Value.slice.injEq, Option.some.injEq, Addr.mk.injEq, and_true, true_and] at h0
          obtain ⟨rfl, rfl⟩ := h0
          by_cases hroom2 : xs.length + ys.length ≤ cap
          · have hfit : xs.length * i.size + cs.length ≤ cur0.size := by rw [hlen, hcs0, hs, ← Nat.add_mul]; exact Nat.mul_le_mul_right _ hroom2
            have hr2 := run_append_room (P := P) w t ty e i htd hi gb xs.length cap cur0 hg0 ad ys.length cap2 cs (by rw [hs]; exact hlen) hcell hcs.one hroom2 hfit
            simp only [rowVal, Option.map_some] at hrun2
            rw [hr2] at hrun2
            simp only [Result.ok.injEq] at hrun2
            left
            rw [← hrun2.1]; rfl
          · have holds : ∀ j u, flat[j]? = some u → w.cell? ((⟨gb, 0, none⟩ : Addr).add j) = some u := hown.cells (g := gb) rfl
            have hr2 := run_append_grow (P := P) w t ty e i z htd hi hz ⟨gb, 0, none⟩ xs.length cap flat (by rw [hs]; exact hown.1) holds ad ys.length cap2 cs (by rw [hs]; exact hlen) hcell (by omega) (by omega) (growslice_fits (by omega) (by rw [hby]; exact hbb))
            simp only [rowVal, Option.map_some] at hrun2
            rw [hr2] at hrun2
            simp only [Result.ok.injEq] at hrun2
            right
            rw [← hrun2.2]
            exact heap_alloc_old w.drew _ gb (Array.getElem?_eq_some_iff.1 hg0).1
      rcases hown'.2 with ⟨rfl, h0⟩ | ⟨g', cap', cur, rfl, hb', hgg, hrest⟩
      · refine ⟨none, 0, flat ++ cs, w', ?_, ?_, hg, encs_append hr hcs, (fun k hk => by cases hk), ⟨cs, rfl⟩, fun k hk => (kp k hk).imp (fun h => by cases h) id⟩
        · rw [hrun, hlen', h0]; rfl
        · rw [hlen', h0]; rw [h0] at hown'; exact hown'
      · refine ⟨some g', cap', flat ++ cs, w', by rw [hrun, hlen']; rfl, by rw [hlen']; exact hown', hg, encs_append hr hcs, fun k hk => ?_, ⟨cs, rfl⟩, fun k hk => kp k hk⟩
        cases hk
        by_cases hlt : g' < w.heap.size
        · -- an old block: it is the row's own
          left
          cases g with
          | none =>
            exfalso
            have hold : (rowVal none xs.length cap) = .slice none 0 0 ∧ xs.length = 0 := by
              rcases hown.2 with h0 | ⟨_, _, _, h0, _⟩
              · exact h0
              · simp [rowVal] at h0
            by_cases hy0 : ys.length = 0
            · have : cs = [] := List.eq_nil_of_length_eq_zero (by rw [hlen, hy0]; simp)
              subst this
              rw [hold.1, hy0] at hrun
              simp [Builtin.append_, run_underlying htd, Go.sizeOf, typeInfo, hi, Builtin.lenOf, Builtin.firstCells, loadCells, loadCellsFrom] at hrun
            · rw [hold.1] at hrun
              have hr2 := run_append_nil (P := P) w t ty e i z htd hi hz ad ys.length cap2 cs (by rw [hs]; exact hlen) hcell (by omega) (by omega) (by rw [hby]; have := Nat.mul_le_mul (show ys.length ≤ 4294967296 by omega) hb32; omega)
              rw [hr2] at hrun
              simp only [Result.ok.injEq, Value.slice.injEq, Option.some.injEq, Addr.mk.injEq] at hrun
              omega
          | some gb =>
            by_cases e0 : gb = g'
            · rw [e0]
            · exfalso
              -- either in place, or new
              rcases hown.2 with ⟨h0, _⟩ | ⟨gb', cap0, cur0, h0, _, hg0, hnc, hcm, hcs0, htake0⟩
              · simp [rowVal] at h0
              · simp only [rowVal, Option.map_some, Value.slice.injEq, Option.some.injEq, Addr.mk.injEq, and_true, true_and] at h0
                obtain ⟨rfl, rfl⟩ := h0
                by_cases hroom2 : xs.length + ys.length ≤ cap
                · have hfit : xs.length * i.size + cs.length ≤ cur0.size := by rw [hlen, hcs0, hs, ← Nat.add_mul]; exact Nat.mul_le_mul_right _ hroom2
                  have hr2 := run_append_room (P := P) w t ty e i htd hi gb xs.length cap cur0 hg0 ad ys.length cap2 cs (by rw [hs]; exact hlen) hcell hcs.one hroom2 hfit
                  simp only [rowVal, Option.map_some] at hrun
                  rw [hr2] at hrun
                  simp only [Result.ok.injEq, Value.slice.injEq, Option.some.injEq, Addr.mk.injEq] at hrun
                  exact e0 hrun.1.1.1
                · have holds : ∀ j u, flat[j]? = some u → w.cell? ((⟨gb, 0, none⟩ : Addr).add j) = some u := hown.cells (g := gb) rfl
                  have hr2 := run_append_grow (P := P) w t ty e i z htd hi hz ⟨gb, 0, none⟩ xs.length cap flat (by rw [hs]; exact hown.1) holds ad ys.length cap2 cs (by rw [hs]; exact hlen) hcell (by omega) (by omega) (growslice_fits (by omega) (by rw [hby]; exact hbb))
                  simp only [rowVal, Option.map_some] at hrun
                  rw [hr2] at hrun
                  simp only [Result.ok.injEq, Value.slice.injEq, Option.some.injEq, Addr.mk.injEq] at hrun
                  omega
        · exact .inr (by omega)
  exact append_fin h hown hd hnD hap main

/-- append(s, make([]T, m)..): the builtin is given the number -/
theorem run_append_zeros (w : World) (t tn ty e : TypeId) (i : TypeInfo) (z : Value) (k kn : IntKind) (size bytes : Nat) (ht : P.underlying t = some (.slice e)) (htn : P.underlying tn = some (.int kn)) (hi : P.info? e = some i) (hz : i.zero = some z)
    (hsize : i.size = size) (hby : i.bytes = bytes) (hzs : z.cells.size = size) (hsz : 0 < size) (v : Value) (n : Nat) (xs : List Value) (hown : w.ownsRow 0 e size v n xs) (m : Nat) (h1 : ∀ u ∈ (Builtin.zeroCells z.cells m).toList, u.oneCell' = true)
    (h63 : n + m ≤ maxLen) (hbytes : (n + m) * bytes ≤ 140737488355328) :
    ∃ v' w', (Builtin.append_ #[t, tn] ty #[v, .int k m]).run P w = .ok v' w' ∧ w'.ownsRow 0 e size v' (n + m) (xs ++ (Builtin.zeroCells z.cells m).toList) ∧ w.grownBy w' v.ownBlock ∧
      (∀ b, v'.ownBlock = some b → v.ownBlock = some b ∨ w.heap.size ≤ b) ∧ (∀ k, v.ownBlock = some k → v'.ownBlock = some k ∨ w'.heap[k]? = w.heap[k]?) := by
  subst hsize
  subst hby
  have hsmall : n + m ≤ 9223372036854775807 := by simp only [maxLen] at h63; omega
  have hzl : (Builtin.zeroCells z.cells m).toList.length = m * i.size := by rw [Array.length_toList, size_zeroCells, hzs]
  have hlen : (xs ++ (Builtin.zeroCells z.cells m).toList).length = (n + m) * i.size := by rw [List.length_append, hown.1, hzl, Nat.add_mul]
  have hmb : m * i.bytes ≤ 281474976710656 := by have := Nat.mul_le_mul_right i.bytes (show m ≤ n + m by omega); omega
  have hw : IntKind.i64.wrap (m : Int) = m := by rw [IntKind.wrap_i64]; omega
  have hneg : ¬ ((m : Int) < 0) := by omega
  have h48i : ¬ (281474976710656 < (m : Int) * (i.bytes : Int)) := by rw [← Int.natCast_mul]; omega
  have grown : ∀ (old : Nat), old < n + m → ∀ (row : Option Nat),
      (w.drew.alloc (.cells (xs.toArray ++ Builtin.zeroCells z.cells m ++ Builtin.zeroCells z.cells (grownCap w (n + m) old e - (n + m))) e)).ownsRow 0 e i.size
        (.slice (some ⟨w.heap.size, 0, none⟩) (n + m) (grownCap w (n + m) old e)) (n + m) (xs ++ (Builtin.zeroCells z.cells m).toList) ∧
      w.grownBy (w.drew.alloc (.cells (xs.toArray ++ Builtin.zeroCells z.cells m ++ Builtin.zeroCells z.cells (grownCap w (n + m) old e - (n + m))) e)) row := by
    intro old ho row
    have hge := grownCap_ge w (n + m) old e
    have hcm : grownCap w (n + m) old e ≤ maxLen := grownCap_le_maxLen w (n + m) old e h63
    refine ⟨⟨hlen, .inr ⟨w.heap.size, _, _, rfl, Nat.zero_le _, heap_alloc_new w.drew _, hge, hcm, ?_, ?_⟩⟩, ⟨rfl, rfl, rfl, by simp, fun k hk _ => heap_alloc_old w.drew _ k hk⟩⟩
    · simp only [Array.size_append, List.size_toArray, size_zeroCells, hzs, hown.1, ← Nat.add_mul]
      congr 1
      omega
    · simp only [Array.toList_append, List.append_assoc]
      rw [← List.append_assoc, ← hlen]
      exact List.take_left
  rcases hown.2 with ⟨rfl, rfl⟩ | ⟨g, cap, cur, rfl, hbg, hg, hnc, hcm, hcs, htake⟩
  · have hx : xs = [] := List.eq_nil_of_length_eq_zero (by simpa using hown.1)
    subst hx
    by_cases hm : m = 0
    · subst hm
      have h0 : Builtin.zeroCells z.cells 0 = #[] := by simp [Builtin.zeroCells]
      refine ⟨.slice none 0 0, w, ?_, ?_, ⟨rfl, rfl, rfl, Nat.le_refl _, fun _ _ _ => rfl⟩, fun b hb => .inl hb, fun b hb => .inl hb⟩
      · simp [Builtin.append_, run_underlying ht, run_underlying htn, Go.sizeOf, typeInfo, hi, asInt, asIntOf, show IntKind.i64.wrap 0 = 0 from rfl]
      · rw [h0]; exact World.ownsRow_nil w 0 e i.size
    · have hr := Go.Lib.run_append_nil_zeros (P := P) w t tn ty e i z k kn ht htn hi hz m (by omega) hsz (by omega) hmb
      have hgr := grown 0 (by omega) (Value.ownBlock (.slice none 0 0))
      simp only [Nat.zero_add, List.nil_append, Array.empty_append] at hgr ⊢
      exact ⟨_, _, hr, hgr.1, hgr.2, (fun b hb => by simp only [Value.ownBlock, Option.some.injEq] at hb; right; omega), fun k hk => by cases hk⟩
  · by_cases hroom : n + m ≤ cap
    · have hfit : n * i.size + (Builtin.zeroCells z.cells m).toList.length ≤ cur.size := by rw [hzl, hcs, ← Nat.add_mul]; exact Nat.mul_le_mul_right _ hroom
      have hst := run_storeCells_at P g (n * i.size) e (Builtin.zeroCells z.cells m).toList 0 cur w hg (by simpa using hfit) h1
      simp only [Nat.add_zero] at hst
      have hr : (Builtin.append_ #[t, tn] ty #[.slice (some ⟨g, 0, none⟩) n cap, .int k m]).run P w = .ok (.slice (some ⟨g, 0, none⟩) (n + m) cap) (w.setRow g (cur.toList.take (n * i.size) ++ (Builtin.zeroCells z.cells m).toList ++ cur.toList.drop (n * i.size + (Builtin.zeroCells z.cells m).toList.length)).toArray) := by
        by_cases hm : m = 0
        · subst hm
          have h0 : Builtin.zeroCells z.cells 0 = #[] := by simp [Builtin.zeroCells]
          rw [h0] at hst ⊢
          simp [Builtin.append_, run_underlying ht, run_underlying htn, Go.sizeOf, typeInfo, hi, asInt, asIntOf, hnc, Addr.add_lit, hst, show IntKind.i64.wrap 0 = 0 from rfl]
        · have hns : ¬ (m * i.size = 0) := Nat.mul_ne_zero hm (by omega)
          simp [Builtin.append_, run_underlying ht, run_underlying htn, Go.sizeOf, typeInfo, zeroValue, hi, hz, asInt, asIntOf, hw, hneg, hns, h48i, hroom, Addr.add_lit, hst]
      refine ⟨_, _, hr, ⟨hlen, .inr ⟨g, cap, _, rfl, hbg, setRow_heap w g cur _ e _ hg, hroom, hcm, ?_, ?_⟩⟩, ⟨rfl, rfl, rfl, by simp, fun k _ hk => setRow_other w g k _ (fun e => hk (by simp [Value.ownBlock, e]))⟩, fun b hb => .inl hb, fun b hb => .inl hb⟩
      · simp only [List.size_toArray, List.length_append, List.length_take, List.length_drop, Array.length_toList]
        simp only [Array.length_toList] at hfit
        omega
      · rw [htake, ← hlen]
        exact List.take_left
    · have holds : ∀ j u, xs[j]? = some u → w.drew.cell? ((⟨g, 0, none⟩ : Addr).add j) = some u := fun j u hj => by
        have := hown.cells (g := g) rfl j u hj
        simpa using this
      have hold := run_firstCells_some (P := P) w.drew i.size n ⟨g, 0, none⟩ n cap xs hown.1 holds
      have hm : 0 < m := by omega
      have hr := Go.Lib.run_append_grow_zeros (P := P) w t tn ty e i z k kn ht htn hi hz (some ⟨g, 0, none⟩) n cap xs hold m hm hsz (by omega) (by omega) hmb (growslice_fits (by omega) hbytes)
      have hgr := grown cap (by omega) (Value.ownBlock (.slice (some ⟨g, 0, none⟩) n cap))
      exact ⟨_, _, hr, hgr.1, hgr.2, (fun b hb => by simp only [Value.ownBlock, Option.some.injEq] at hb; right; omega), fun k hk => by
        simp only [Value.ownBlock, Option.some.injEq] at hk
        subst hk
        right
        exact heap_alloc_old w.drew _ g (Array.getElem?_eq_some_iff.1 hg).1⟩

/-- more is known not to change -/
theorem Inv.more (h : Inv T w0 D0 N s a w D gv) {D' : Nat → Prop} (hD : ∀ b, D b → D' b) (hlt : ∀ b, D' b → b < w.heap.size) (hnew : ∀ b, D' b → D b ∨ w0.Own b)
    (hl : ∀ o g b, (s.obj o).live = true → gv o = some g → g.blk = some b → ¬ D' b) : Inv T w0 D0 N s a w D' gv :=
  { defers := h.defers, size := h.size, env := fun t => (h.env t).mono hD (fun _ _ => rfl) (fun _ _ h => h),
    obj := fun o => (h.obj o).mono hD (fun _ _ => rfl) (fun _ _ h => h) (fun h => h) (fun hlv g b hg hb => ⟨rfl, hl o g b hlv hg hb⟩),
    apart := h.apart, grown := h.grown, dold := fun b hb => hD b (h.dold b hb), dlt := hlt,
    dnew := fun b hb => (hnew b hb).elim (h.dnew b) .inr, glob := h.glob, pins := h.pins }

theorem splice_rep0 {e : Nat} {xs ys : List (Ty e)} {lo m : Nat} {s1 c1 s3 : List Value} (h1 : RepC T w D gv (encs T e (xs.take lo)) s1) (h2 : RepC T w D gv (encs T e (ys.take m)) c1) (h3 : RepC T w D gv (encs T e (xs.drop (lo + m))) s3) :
    RepC T w D gv (encs T e (splice xs ys lo m)) (s1 ++ c1 ++ s3) := encs_append (encs_append h1 h2) h3

/-- behind an append that nobody writes behind: the old row and the new one are read alone -/
theorem appFrz (hT : TabOK P T) (h : Inv T w0 D0 N s a w D gv) {e : Nat} {xs ys : List (Ty e)} {o' : Nat} {g : Option Nat} {cap : Nat} {flat : List Value} {x' : Value} {w' : World} {gv' : Nat → Option GObj}
    (hobj : s.obj o' = .row e xs) (hdo : d ≠ o') (hd : s.obj d = .none) (hg : gv o' = some (.row g xs.length cap (T.size e))) (h2 : RepC T w D gv (encs T e xs) flat) (h3 : w.ownsRow 0 e (T.size e) (rowVal g xs.length cap) xs.length flat)
    (h4 : ∀ k, g = some k → w0.Own k ∧ ¬ D k) (hap : ∀ k, g = some k → ∀ o g', (Obj.upd s.obj [(o', .dead)] o).live = true → gv o = some g' → g'.blk ≠ some k)
    (q1 : (execOp a.eval o).run P w = .ok (.value x') w') (q2 : RepV T w' D gv' (.row d) x') (q3 : Inv T w0 D0 N { s with obj := Obj.upd (Obj.upd s.obj [(o', .dead)]) [(d, .row e (xs ++ ys))] } a w' D gv')
    (q4 : ∀ o, o ≠ d → gv' o = gv o) (q5 : ∀ b, D b → w'.heap[b]? = w.heap[b]?) (q6 : w.heap.size ≤ w'.heap.size) (q7 : ∀ k, g = some k → At w' k 0 flat) :
    Does P T w0 D0 N s a w D o (.slice e (xs ++ ys)) (cond true [(d, .frow e (xs ++ ys)), (o', .frow e xs)] [(d, .row e (xs ++ ys)), (o', .dead)]) := by
  obtain ⟨D1, hD1, _, hback, hinv⟩ := q3.freeze hT [d]
  have hold : ∀ k, g = some k → k < w.heap.size := fun k hk => by
    have := h3.lt k (by rw [hk]; simp [rowVal, Value.ownBlock])
    exact this.2
  have hob2 : ∀ k, Obj.upd (Obj.upd (Obj.upd s.obj [(o', .dead)]) [(d, .row e (xs ++ ys))]) ([d].map (V.freeze (Obj.upd (Obj.upd s.obj [(o', .dead)]) [(d, .row e (xs ++ ys))]))) k = if k = d then .frow e (xs ++ ys) else if k = o' then .dead else s.obj k := by
    intro k
    rw [upd_freeze, upd1, upd1]
    by_cases k1 : k = d
    · simp [k1, frozen]
    · simp [k1]
  have hm := hinv.more (D' := fun b => D1 b ∨ g = some b) (fun b hb => .inl hb) (fun b hb => hb.elim (hinv.dlt b) fun hb => Nat.lt_of_lt_of_le (hold b hb) q6) (fun b hb => hb.imp id fun hb => (h4 b hb).1) (fun o1 g1 b hl hg1 hb1 hb2 => by
    simp only at hl
    rw [hob2] at hl
    rcases hb2 with hb2 | hb2
    · refine live_notD (hinv.obj o1) ?_ hg1 hb1 hb2
      simp only
      rw [hob2]
      exact hl
    · by_cases k1 : o1 = d
      · rw [if_pos k1] at hl; cases hl
      · rw [if_neg k1] at hl
        by_cases k2 : o1 = o'
        · rw [if_pos k2] at hl; cases hl
        · rw [if_neg k2] at hl
          rw [q4 o1 k1] at hg1
          refine hap b hb2 o1 g1 ?_ hg1 hb1
          rw [upd1, if_neg k2]
          exact hl)
  have hn := gv_none h hd
  have hrep : RepC T w' (fun b => D1 b ∨ g = some b) gv' (.slice e xs) [rowVal g xs.length cap] := by
    have hgv : ∀ o1 g1, gv o1 = some g1 → gv' o1 = some g1 := fun o1 g1 hg1 => by
      rw [q4 o1 fun e1 => by rw [e1, hn] at hg1; cases hg1]
      exact hg1
    have hr := h2.mono (w' := w') (D' := fun b => D1 b ∨ g = some b) (fun b hb => .inl (hD1 b hb)) q5 hgv
    rcases h3.2 with ⟨h0, hl0⟩ | ⟨gb, cap0, cur0, h0, _, _, hnc, _⟩
    · have : xs = [] := List.eq_nil_of_length_eq_zero hl0
      subst this
      rw [h0]
      exact .snil e none 0 (fun _ => rfl)
    · cases g with
      | none => simp [rowVal] at h0
      | some k =>
        simp only [rowVal, Option.map_some, Value.slice.injEq, true_and] at h0
        exact .slice (.inr rfl) (by omega) (q7 k rfl) hr
  have hob3 : ∀ k, Obj.upd s.obj [(d, .frow e (xs ++ ys)), (o', .frow e xs)] k = if k = o' then .frow e xs else if k = d then .frow e (xs ++ ys) else s.obj k := by
    intro k
    have : Obj.upd s.obj [(d, .frow e (xs ++ ys)), (o', .frow e xs)] k = Obj.upd (Obj.upd s.obj [(d, .frow e (xs ++ ys))]) [(o', .frow e xs)] k := rfl
    rw [this, upd1, upd1]
  have hval : RepV T w' (fun b => D1 b ∨ g = some b) gv' (.slice e (xs ++ ys)) x' := by
    have hd1 := hm.obj d
    simp only at hd1
    rw [hob2, if_pos rfl] at hd1
    obtain ⟨g2, n2, cap2, sz2, hg2, rfl⟩ := q2.row_inv
    cases hd1 with
    | frow k1 k2 =>
      rw [hg2] at k1
      cases k1
      exact .elem (.one rfl k2)
  refine ⟨x', w', fun b => D1 b ∨ g = some b, gv', .inl q1, hval, ?_, fun b hb => .inl (hD1 b hb)⟩
  rw [cond_true]
  refine { defers := hm.defers, size := hm.size, env := hm.env, obj := fun k => ?_, apart := fun k k' g1 g2 b hne hl hl' => ?_, grown := hm.grown, dold := hm.dold, dlt := hm.dlt, dnew := hm.dnew, glob := hm.glob, pins := hm.pins }
  · simp only
    rw [hob3]
    by_cases k1 : k = o'
    · subst k1
      rw [if_pos rfl]
      exact .frow (by rw [q4 k (Ne.symm hdo)]; exact hg) hrep
    · rw [if_neg k1]
      have := hm.obj k
      simp only at this
      rw [hob2] at this
      by_cases k2 : k = d
      · rw [if_pos k2] at this ⊢; exact this
      · rw [if_neg k2, if_neg k1] at this; rw [if_neg k2]; exact this
  · have live : ∀ k, (Obj.upd s.obj [(d, .frow e (xs ++ ys)), (o', .frow e xs)] k).live = true → (Obj.upd (Obj.upd (Obj.upd s.obj [(o', .dead)]) [(d, .row e (xs ++ ys))]) ([d].map (V.freeze (Obj.upd (Obj.upd s.obj [(o', .dead)]) [(d, .row e (xs ++ ys))]))) k).live = true := by
      intro k hl
      rw [hob3] at hl
      rw [hob2]
      by_cases k1 : k = o'
      · rw [if_pos k1] at hl; cases hl
      · rw [if_neg k1] at hl
        by_cases k2 : k = d
        · rw [if_pos k2] at hl; cases hl
        · rw [if_neg k2] at hl
          rw [if_neg k2, if_neg k1]
          exact hl
    exact hm.apart k k' g1 g2 b hne (live k hl) (live k' hl')

theorem appTo_sound (h : Inv T w0 D0 N s a w D gv) {e : Nat} {ty : TypeId} {tys : Array TypeId} {x : Operand} {ys : List (Ty e)} {cnd : Nat → Bool} {yv : Value}
    {fz : Bool} (hT : TabOK P T) (he : appTo fz d s.obj (s.eval x) ys cnd = .ok c v ups) (hc : c = true)
    (core : ∀ (s' : St Ty) (xs : List (Ty e)) (flat : List Value) (g : Option Nat) (cap : Nat), Inv T w0 D0 N s' a w D gv → s'.obj d = .none → RepC T w D gv (encs T e xs) flat →
      w.ownsRow 0 e (T.size e) (rowVal g xs.length cap) xs.length flat → (∀ k, g = some k → w0.Own k ∧ ¬ D k) → (∀ k, g = some k → ∀ o g', (s'.obj o).live = true → gv o = some g' → g'.blk ≠ some k) → cnd xs.length = true →
      ∃ x' w' gv', (Builtin.append_ tys ty #[rowVal g xs.length cap, yv]).run P w = .ok x' w' ∧ RepV T w' D gv' (.row d) x' ∧ Inv T w0 D0 N { s' with obj := Obj.upd s'.obj [(d, .row e (xs ++ ys))] } a w' D gv' ∧
      (∀ o, o ≠ d → gv' o = gv o) ∧ (∀ b, D b → w'.heap[b]? = w.heap[b]?) ∧ w.heap.size ≤ w'.heap.size ∧ (∀ k, g = some k → At w' k 0 flat))
    (hfin : ∀ {x' : Value} {w' : World}, (Builtin.append_ tys ty #[a.eval x, yv]).run P w = .ok x' w' → (execOp a.eval o).run P w = .ok (.value x') w') : Does P T w0 D0 N s a w D o v ups := by
  have hx := h.eval x
  unfold appTo at he
  simp only at he
  split at he
  · rename_i e' hxe
    split at he
    case h_2 => cases he
    rename_i hd
    cases he
    rw [hxe] at hx
    have hx := hx.one_inv rfl (by simp) (by simp) (by simp)
    generalize hax : a.eval x = ax at hx hfin
    cases hx
    obtain ⟨x', w', gv', q1, q2, q3, _⟩ := core s [] [] none 0 h hd (by simpa [encs, listAV] using RepC.nil) (World.ownsRow_nil w _ _ _) (fun k hk => by cases hk) (fun k hk => by cases hk) hc
    exact ⟨x', w', D, gv', .inl (hfin q1), q2, q3, fun _ h => h⟩
  · rename_i o' hxo
    split at he
    case h_2 => cases he
    rename_i e' xs hobj
    split at he
    case isFalse => cases he
    rename_i hee
    subst hee
    have hd : s.obj d = .none := by
      cases fz with
      | true =>
        simp only [cond_true] at he
        split at he
        · assumption
        · cases he
      | false =>
        simp only [cond_false] at he
        split at he
        · assumption
        · cases he
    have he2 : c = cnd xs.length ∧ v = cond fz (.slice e' (xs ++ ys)) (.row d) ∧ ups = cond fz [(d, .frow e' (xs ++ ys)), (o', .frow e' xs)] [(d, .row e' (xs ++ ys)), (o', .dead)] := by
      rw [hd] at he
      cases fz <;> (simp only [cond_true, cond_false] at he; cases he; exact ⟨rfl, rfl, rfl⟩)
    clear he
    obtain ⟨rfl, rfl, rfl⟩ := he2
    rw [hxo] at hx
    obtain ⟨g, n, cap, sz, hg, hax⟩ := hx.row_inv
    have hob := h.obj o'
    rw [hobj] at hob
    cases hob with
    | row h1 h2 h3 h4 =>
      rw [hg] at h1
      cases h1
      have hdo : d ≠ o' := fun e0 => by rw [e0, hobj] at hd; cases hd
      have hkill := h.kill o'
      have hd' : (Obj.upd s.obj [(o', .dead)]) d = .none := by rw [upd1, if_neg hdo, hd]
      obtain ⟨x', w', gv', q1, q2, q3, q4, q5, q6, q7⟩ := core _ xs _ _ _ hkill hd' h2 h3 h4 (fun k hk o1 g1 hl hg1 hb1 => by
        simp only [upd1] at hl
        by_cases e0 : o1 = o'
        · rw [if_pos e0] at hl; cases hl
        · rw [if_neg e0] at hl
          exact h.apart o1 o' g1 _ k e0 hl (by rw [hobj]; rfl) hg1 hg hb1 hk) hc
      rw [← hax] at q1
      cases fz with
      | true =>
        exact appFrz hT h hobj hdo hd (g := g) (cap := cap) hg h2 h3 h4 (fun k hk o1 g1 hl hg1 hb1 => by
          simp only [upd1] at hl
          by_cases e0 : o1 = o'
          · rw [if_pos e0] at hl; cases hl
          · rw [if_neg e0] at hl
            exact h.apart o1 o' g1 _ k e0 hl (by rw [hobj]; rfl) hg1 hg hb1 hk) (hfin q1) q2 q3 q4 q5 q6 q7
      | false =>
      simp only [cond_false]
      refine ⟨x', w', D, gv', .inl (hfin q1), q2, ?_, fun _ h => h⟩
      have hcomm : Obj.upd s.obj [(d, .row e' (xs ++ ys)), (o', .dead)] = Obj.upd (Obj.upd s.obj [(o', .dead)]) [(d, .row e' (xs ++ ys))] := by
        funext k
        have : Obj.upd s.obj [(d, .row e' (xs ++ ys)), (o', .dead)] k = Obj.upd (Obj.upd s.obj [(d, .row e' (xs ++ ys))]) [(o', .dead)] k := rfl
        rw [this, upd1, upd1, upd1, upd1]
        by_cases k1 : k = o'
        · subst k1; simp [Ne.symm hdo]
        · simp [k1]
      rw [hcomm]
      exact q3
  · cases he

/-- elements behind the beginning of a row, into the row -/
theorem subApp_sound (hT : TabOK P T) (h : Inv T w0 D0 N s a w D gv) {e : Nat} {t ty : TypeId} (ht : T.td t = .slice e) {x : Operand} {o' lo i : Nat} (hx : s.eval x = .sub o' lo i) {ys : List (Ty e)} {yv : Value} (he : subApp s.obj o' lo i ys = .ok c v ups) (hc : c = true)
    (hy : (yv = .slice none 0 0 ∧ ys = []) ∨ ∃ ad cap cs, yv = .slice (some ad) ys.length cap ∧ (∀ j u, cs[j]? = some u → w.cell? (ad.add j) = some u) ∧ RepC T w D gv (encs T e ys) cs)
    (hfin : ∀ {x' : Value} {w' : World}, (Builtin.append_ #[t, t] ty #[a.eval x, yv]).run P w = .ok x' w' → (execOp a.eval o).run P w = .ok (.value x') w') : Does P T w0 D0 N s a w D o v ups := by
  unfold subApp at he
  split at he
  case h_2 => cases he
  rename_i e' xs hobj
  split at he
  case isFalse => cases he
  rename_i hee
  subst hee
  obtain ⟨hlo, he2⟩ := cond_fail he
  have hlo : lo = 0 := Nat.eq_of_beq_eq_true hlo
  subst hlo
  cases he2
  have hroom := of_decide_eq_true hc
  have hv := h.eval x
  rw [hx] at hv
  have hv := hv.one_inv rfl (by simp) (by simp) (by simp)
  have htd := hT.td t
  rw [ht] at htd
  simp only [TDok] at htd
  have hk := hT.elem t e' (.inl ht)
  obtain ⟨ti, z, hi, hs, _⟩ := hT.info e' hk
  have hob := h.obj o'
  rw [hobj] at hob
  cases hob with
  | @row _ _ g cap flat h1 h2 h3 h4 =>
    generalize hax : a.eval x = ax at hv hfin
    have same : ∀ x' : Value, (Builtin.append_ #[t, t] ty #[ax, yv]).run P w = .ok x' w → ys = [] → RepC T w D gv (.sub o' 0 i) [x'] → Does P T w0 D0 N s a w D o (.sub o' 0 (i + ys.length)) [(o', .row e' (splice xs ys i ys.length))] := by
      intro x' hr hy0 hrep
      subst hy0
      have hsp : splice xs ([] : List (Ty e')) i ([] : List (Ty e')).length = xs := by simp [splice]
      refine ⟨_, w, D, gv, .inl (hfin hr), .elem (.one rfl (by simpa using hrep)), ?_, fun _ h => h⟩
      have hsame : Obj.upd s.obj [(o', .row e' (splice xs ([] : List (Ty e')) i ([] : List (Ty e')).length))] = s.obj := by
        funext k
        rw [upd1, hsp]
        by_cases hk : k = o'
        · subst hk; rw [if_pos rfl, hobj]
        · rw [if_neg hk]
      rw [hsame]
      exact h
    cases hv with
    | subz _ q => omega
    | @sub0 _ cap0 sz0 hg =>
      have hx0 : xs.length = 0 := by
        have := hg.symm.trans h1
        simp only [Option.some.injEq, GObj.row.injEq] at this
        exact this.2.1.symm
      have hy0 : ys = [] := List.eq_nil_of_length_eq_zero (by omega)
      refine same (.slice none 0 0) ?_ hy0 (.sub0 hg)
      rcases hy with ⟨rfl, _⟩ | ⟨ad, cap', cs, rfl, _, _⟩
      · simp [Builtin.append_, run_underlying htd, Go.sizeOf, typeInfo, hi, Builtin.lenOf, Builtin.firstCells]
      · simp [Builtin.append_, run_underlying htd, Go.sizeOf, typeInfo, hi, Builtin.lenOf, Builtin.firstCells, loadCells, loadCellsFrom, hy0]
    | @sub _ _ _ b nn cap1 sz1 hg hl hcap =>
      rw [hg] at h1
      cases h1
      rcases h3.2 with ⟨hvv, _⟩ | ⟨b', cap'', cur, hvv, hbb, hcur, hnc, hcm, hcs, htake⟩
      · simp [rowVal] at hvv
      · simp only [rowVal, Option.map_some, Value.slice.injEq, Option.some.injEq, Addr.mk.injEq, and_true, true_and] at hvv
        obtain ⟨rfl, rfl⟩ := hvv
        have hax0 : (Value.slice (some ⟨b, 0 * T.size e', none⟩) i (cap - 0)) = .slice (some ⟨b, 0, none⟩) i cap := by simp
        have hrun : ∃ cs, RepC T w D gv (encs T e' ys) cs ∧ (Builtin.append_ #[t, t] ty #[.slice (some ⟨b, 0, none⟩) i cap, yv]).run P w = .ok (.slice (some ⟨b, 0, none⟩) (i + ys.length) cap) (w.setRow b (cur.toList.take (i * T.size e') ++ cs ++ cur.toList.drop (i * T.size e' + cs.length)).toArray) := by
          rcases hy with ⟨rfl, rfl⟩ | ⟨ad, cap', cs, rfl, hcell, hcsr⟩
          · refine ⟨[], by simpa [encs, listAV] using RepC.nil, ?_⟩
            have hst := run_storeCells_at P b (i * T.size e') e' [] 0 cur w hcur (by
              have : i * T.size e' ≤ cap * T.size e' := Nat.mul_le_mul_right _ (by omega)
              simp; omega) (fun u hu => by cases hu)
            simp only [Nat.add_zero] at hst
            have hsz : ti.size = T.size e' := hs
            simp [Builtin.append_, run_underlying htd, Go.sizeOf, typeInfo, hi, Builtin.lenOf, Builtin.firstCells, hsz, Addr.add_lit, show i ≤ cap by omega] at hst ⊢
            rw [hst]
            rfl
          · have hlen : cs.length = ys.length * T.size e' := by rw [hcsr.len hT, listAV_size hT]
            have := run_append_room (P := P) w t ty e' ti htd hi b i cap cur hcur ad ys.length cap' cs (by rw [hs]; exact hlen) hcell hcsr.one (by omega) (by
              rw [hs, hlen, ← Nat.add_mul]
              have : (i + ys.length) * T.size e' ≤ cap * T.size e' := Nat.mul_le_mul_right _ (by omega)
              omega)
            rw [hs] at this
            exact ⟨cs, hcsr, this⟩
        obtain ⟨cs, hcsr, hrun⟩ := hrun
        rw [hax0] at hfin
        have hlen : cs.length = ys.length * T.size e' := by rw [hcsr.len hT, listAV_size hT]
        obtain ⟨s1, s23, q1, q2, q3, q4⟩ := encs_split hT xs flat h2 i (by omega)
        obtain ⟨s2, s3, r1, r2, _, r4⟩ := encs_split hT (xs.drop i) s23 q4 ys.length (by simp; omega)
        have ecur := (List.take_append_drop (xs.length * T.size e') cur.toList).symm
        rw [htake, q1, r1] at ecur
        generalize hrest : cur.toList.drop (xs.length * T.size e') = rest at ecur
        have etake : cur.toList.take (i * T.size e') = s1 := by
          rw [ecur, show s1 ++ (s2 ++ s3) ++ rest = s1 ++ (s2 ++ s3 ++ rest) by simp [List.append_assoc], ← q2]
          exact List.take_left
        have edrop : cur.toList.drop (i * T.size e' + cs.length) = s3 ++ rest := by
          rw [ecur, show s1 ++ (s2 ++ s3) ++ rest = (s1 ++ s2) ++ (s3 ++ rest) by simp [List.append_assoc], hlen, ← q2, ← r2, ← List.length_append]
          exact List.drop_left
        rw [etake, edrop] at hrun
        have hcs2 : RepC T w D gv (encs T e' (ys.take ys.length)) cs := by rw [List.take_length]; exact hcsr
        have hnew := splice_rep0 q3 hcs2 (s3 := s3) (by rw [List.drop_drop] at r4; exact r4)
        have hsl : (splice xs ys i ys.length).length = xs.length := by simp [splice]; omega
        have hD2 : ∀ k, D k → (w.setRow b (s1 ++ cs ++ (s3 ++ rest)).toArray).heap[k]? = w.heap[k]? := fun k hD => setRow_other w b k _ (fun e => (h4 b rfl).2 (e ▸ hD))
        have hl2 : (s1 ++ cs ++ s3).length = xs.length * T.size e' := by
          have := h3.1
          rw [q1, r1] at this
          simp only [List.length_append] at this ⊢
          omega
        refine ⟨_, _, D, gv, .inl (hfin hrun), ?_, ?_, fun _ h => h⟩
        · have := RepC.sub (T := T) (w := w.setRow b (s1 ++ cs ++ (s3 ++ rest)).toArray) (D := D) (lo := 0) (len := i + ys.length) hg (by omega) hcap
          rw [Nat.zero_mul, Nat.sub_zero] at this
          exact .elem (.one rfl this)
        · refine h.write (by rw [hobj]; rfl) hg rfl (grownBy_setRow w b _) (.row (g := some b) (flat := s1 ++ cs ++ s3) (by rw [hsl]; exact hg) (hnew.mono (fun _ h => h) hD2 (fun _ _ h => h)) ?_ h4)
          rw [hsl]
          refine ⟨hl2, .inr ⟨b, _, _, rfl, hbb, setRow_heap w b _ _ e' _ hcur, hnc, hcm, ?_, ?_⟩⟩
          · have hc2 := hcs
            rw [← Array.length_toList, ecur] at hc2
            simp only [List.size_toArray, List.length_append] at hc2 ⊢
            omega
          · rw [show s1 ++ cs ++ (s3 ++ rest) = (s1 ++ cs ++ s3) ++ rest by simp [List.append_assoc], ← hl2]
            exact List.take_left

theorem zeroCells_made (z : Array Value) (n : Nat) : Builtin.zeroCells z n = madeCells z (n * z.size) := rfl

theorem snd_append (hT : TabOK P T) (h : Inv T w0 D0 N s a w D gv) {args : Array Operand} {tys : Array TypeId} (ho : o.op = .call { callee := .builtin .append, args := args, argTypes := tys })
    (he : effOp T o d s.eval s.obj = .ok c v ups) (hc : c = true) : Does P T w0 D0 N s a w D o v ups := by
  unfold effOp at he; rw [ho] at he
  simp only at he
  obtain ⟨al⟩ := args
  obtain ⟨tl⟩ := tys
  match al with
  | [] => simp [builtinAV] at he
  | [x] => simp [builtinAV] at he
  | x :: y :: z :: r => simp [builtinAV] at he
  | [x, y] =>
    simp only [List.map_cons, List.map_nil, builtinAV] at he
    match tl with
    | [] => cases he
    | t :: tl' =>
      simp only at he
      split at he
      case h_2 => cases he
      rename_i e ht
      have hfin : ∀ {x' : Value} {w' : World}, (Builtin.append_ (t :: tl').toArray o.type #[a.eval x, a.eval y]).run P w = .ok x' w' → (execOp a.eval o).run P w = .ok (.value x') w' := by
        intro x' w' hr
        refine call_builtin ho ?_
        simp only [builtin, Sem.run_bind, List.map_toArray, List.map_cons, List.map_nil]
        simp [hr]
      cases htl : tl' == [t] with
      | true =>
        rw [htl] at he
        simp only [cond_true] at he
        have htl' : tl' = [t] := by simpa using htl
        subst htl'
        split at he
        case h_1 => cases he
        rename_i ys hys
        have hpl := elems_plain hys
        have hyc := (h.eval y).one_inv hpl.1 hpl.2.1 hpl.2.2.1 hpl.2.2.2
        have hyrep := elems_rep hT h.obj hyc hys
        split at he
        · rename_i o' lo i hxs
          exact subApp_sound hT h ht hxs he hc hyrep hfin
        exact appTo_sound h hT he hc (fun s' xs flat g cap hi hd hr hown hnD hap hr2 => append_core hT hi ht hd hr hown hnD hap hyrep (by simpa using hr2)) hfin
      | false =>
        rw [htl] at he
        simp only [cond_false] at he
        split at he
        case h_2 => cases he
        rename_i tn
        split at he
        case h_2 => cases he
        rename_i k kk m htn hy
        have hyv := h.eval y
        rw [hy] at hyv
        have hyv := hyv.int_inv
        refine appTo_sound h hT he hc (fun s' xs flat g cap hi hd hr hown hnD hap hr2 => ?_) hfin
        simp only [Bool.and_eq_true, decide_eq_true_eq] at hr2
        obtain ⟨h0, hroom⟩ := hr2
        obtain ⟨q, rfl⟩ := Int.eq_ofNat_of_zero_le h0
        simp only [Int.toNat_natCast] at hroom ⊢
        have htd := hT.td t
        rw [ht] at htd
        simp only [TDok] at htd
        have htnd := hT.td tn
        rw [htn] at htnd
        simp only [TDok] at htnd
        have hk := hT.elem t e (.inl ht)
        obtain ⟨i, z, hi', hs, hby, hb32, hpos, hz, hzr, _, hdf⟩ := hT.info e hk
        have hzs : z.cells.size = T.size e := by
          have := (hdf w D gv).len hT
          rw [hT.encSize, Array.length_toList] at this
          exact this
        simp only [roomMost] at hroom
        have hrep := made_rep (w := w) (D := D) (gv := gv) hT hk (fun w D gv => hdf w D gv) q
        have hzc : madeCells z.cells (q * T.size e) = Builtin.zeroCells z.cells q := by rw [zeroCells_made, hzs]
        rw [hzc] at hrep
        have hbb : (xs.length + q) * T.bytes e ≤ 140737488355328 := by
          have := Nat.mul_le_mul hroom hb32
          omega
        obtain ⟨v', w', hrun, hown', hg, hb, hkp⟩ := run_append_zeros (P := P) w t tn o.type e i z kk k (T.size e) (T.bytes e) htd htnd hi' hz hs hby hzs hpos _ _ _ hown q hrep.one (by simp only [maxLen]; omega) hbb
        rw [rowVal_own] at hg hb
        rw [hyv]
        refine append_fin hi hown hd hnD hap ?_
        have hl : (xs ++ List.replicate q (T.dflt e)).length = xs.length + q := by simp
        have hrr : RepC T w D gv (encs T e (xs ++ List.replicate q (T.dflt e))) (flat ++ (Builtin.zeroCells z.cells q).toList) := encs_append hr hrep
        rcases hown'.2 with ⟨rfl, h0⟩ | ⟨g', cap', cur, rfl, _, hgg, hrest⟩
        · refine ⟨none, 0, _, w', ?_, ?_, hg, hrr, (fun k hk => by cases hk), ⟨_, rfl⟩, fun k hk => (hkp k (by rw [rowVal_own]; exact hk)).imp (fun h => by cases h) id⟩
          · rw [hrun, hl, h0]; rfl
          · rw [hl, h0]; rw [h0] at hown'; exact hown'
        · refine ⟨some g', cap', _, w', by rw [hrun, hl]; rfl, by rw [hl]; exact hown', hg, hrr, fun k hk => ?_, ⟨_, rfl⟩, fun k hk => hkp k (by rw [rowVal_own]; exact hk)⟩
          cases hk
          exact hb g' rfl
end
end V
namespace V
open Go
section
variable {Ty : Nat → Type} {T : Tab Ty} {P : Program}
variable {w0 : Base} {D0 : Nat → Prop} {N : Nat} {s : St Ty} {a : Act} {w : World} {D : Nat → Prop} {gv : Nat → Option GObj}
variable {o : Oper} {d : Nat} {c : Bool} {v : AV Ty} {ups : List (Nat × Obj Ty)}

/-- the first cells of the source of a copy -/
theorem first_run (hT : TabOK P T) {e : Nat} {ys : List (Ty e)} {yv : Value} (m : Nat) (hm : m ≤ ys.length)
    (hy : (yv = .slice none 0 0 ∧ ys = []) ∨ ∃ ad cap cs, yv = .slice (some ad) ys.length cap ∧ (∀ j u, cs[j]? = some u → w.cell? (ad.add j) = some u) ∧ RepC T w D gv (encs T e ys) cs) :
    ∃ c1, (Builtin.firstCells (T.size e) m yv).run P w = .ok c1.toArray w ∧ RepC T w D gv (encs T e (ys.take m)) c1 ∧ (Builtin.lenOf yv).run P w = .ok ys.length w := by
  rcases hy with ⟨rfl, rfl⟩ | ⟨ad, cap, cs, rfl, hcell, hcs⟩
  · refine ⟨[], by simp [Builtin.firstCells], ?_, rfl⟩
    simp only [List.take_nil]
    simpa [encs, listAV] using RepC.nil
  · obtain ⟨c1, c2, q1, q2, q3, _⟩ := encs_split hT ys cs hcs m hm
    refine ⟨c1, run_firstCells_some w (T.size e) m ad _ _ c1 q2 (fun j u hj => hcell j u ?_), q3, rfl⟩
    rw [q1, List.getElem?_append_left (List.getElem?_eq_some_iff.1 hj).1]
    exact hj

theorem copy_run (hT : TabOK P T) {e t0 : Nat} {tl : List TypeId} {ty : TypeId} (ht : T.td t0 = .slice e) {ys : List (Ty e)} {yv : Value} {base : Option Addr} {len cap : Nat} {c1 : List Value} {w' : World}
    (h1 : (Builtin.firstCells (T.size e) (min ys.length len) yv).run P w = .ok c1.toArray w) (h2 : (Builtin.lenOf yv).run P w = .ok ys.length w)
    (h3 : match base with
      | some ad => (storeCells ad c1).run P w = .ok () w'
      | none => w' = w) :
    (Builtin.copy_ (t0 :: tl).toArray ty #[.slice base len cap, yv]).run P w = .ok (.int .i64 (min ys.length len : Nat)) w' := by
  have htd := hT.td t0
  rw [ht] at htd
  simp only [TDok] at htd
  have hk := hT.elem t0 e (.inl ht)
  have hmin : Nat.min ys.length len = min ys.length len := rfl
  cases base with
  | none =>
    simp only at h3
    subst h3
    simp [Builtin.copy_, run_underlying htd, h2, size_run hT hk, hmin, h1, goInt]
  | some ad =>
    simp only at h3
    simp [Builtin.copy_, run_underlying htd, h2, size_run hT hk, hmin, h1, h3, goInt]

theorem splice_rep {e : Nat} {xs ys : List (Ty e)} {lo m : Nat} {s1 c1 s3 : List Value} (h1 : RepC T w D gv (encs T e (xs.take lo)) s1) (h2 : RepC T w D gv (encs T e (ys.take m)) c1) (h3 : RepC T w D gv (encs T e (xs.drop (lo + m))) s3) :
    RepC T w D gv (encs T e (splice xs ys lo m)) (s1 ++ c1 ++ s3) := encs_append (encs_append h1 h2) h3

theorem splice_len {α : Type} {xs ys : List α} {lo m : Nat} (h : lo + m ≤ xs.length) (hm : m ≤ ys.length) : (splice xs ys lo m).length = xs.length := by
  simp [splice]; omega

theorem snd_copy (hT : TabOK P T) (h : Inv T w0 D0 N s a w D gv) {args : Array Operand} {tys : Array TypeId} (ho : o.op = .call { callee := .builtin .copy, args := args, argTypes := tys })
    (he : effOp T o d s.eval s.obj = .ok c v ups) : Does P T w0 D0 N s a w D o v ups := by
  unfold effOp at he; rw [ho] at he
  simp only at he
  obtain ⟨al⟩ := args
  obtain ⟨tl⟩ := tys
  match al with
  | [] => simp [builtinAV] at he
  | [x] => simp [builtinAV] at he
  | x :: y :: z :: r => simp [builtinAV] at he
  | [x, y] =>
    simp only [List.map_cons, List.map_nil, builtinAV] at he
    match tl with
    | [] => cases he
    | t :: tl' =>
      simp only at he
      split at he
      case h_2 => cases he
      rename_i e ht
      split at he
      case h_1 => cases he
      rename_i ys hys
      have hpl := elems_plain hys
      have hyc := (h.eval y).one_inv hpl.1 hpl.2.1 hpl.2.2.1 hpl.2.2.2
      have hyrep := elems_rep hT h.obj hyc hys
      have hx := h.eval x
      have hfin : ∀ {x' : Value} {w' : World}, (Builtin.copy_ (t :: tl').toArray o.type #[a.eval x, a.eval y]).run P w = .ok x' w' → (execOp a.eval o).run P w = .ok (.value x') w' := by
        intro x' w' hr
        refine call_builtin ho ?_
        simp only [builtin, Sem.run_bind, List.map_toArray, List.map_cons, List.map_nil]
        simp [hr]
      split at he
      · rename_i o' p t2 n lo len hxe
        split at he
        case h_3 => cases he
        case h_2 =>
          rename_i r zs hobj
          split at he
          case h_2 => cases he
          rename_i i nn sz
          obtain ⟨hnn, he1⟩ := cond_fail he
          clear he
          have hnn := beq_iff_eq.1 hnn
          subst hnn
          split at he1
          case h_2 => cases he1
          rename_i t' n' xs henc
          split at he1
          case isFalse => cases he1
          rename_i hte
          subst hte
          obtain ⟨hee, he2⟩ := cond_fail he1
          clear he1
          simp only [Bool.and_eq_true, beq_iff_eq] at hee
          obtain ⟨rfl, rfl⟩ := hee
          split at he2
          case h_2 => cases he2
          rename_i z hdec0
          obtain ⟨_, rfl, rfl⟩ := does_inj he2
          have hdec : T.dec r (.arr t2 n' (splice xs ys lo (min ys.length len))) = some z := hdec0
          clear hdec0
          have hzenc : T.enc r z = .arr t2 n' (splice xs ys lo (min ys.length len)) := (T.den r).spec _ _ hdec
          rw [hxe] at hx
          have hx := hx.one_inv rfl (by simp) (by simp) (by simp)
          have hob := h.obj o'
          rw [hobj] at hob
          cases hob with
          | @row _ _ g capR flat h1 h2 h3 h4 =>
            generalize hax : a.eval x = ax at hx hfin
            have arr_len : i < zs.length → xs.length = n' := fun hi => by
              obtain ⟨pre, sub, post, e1, e2, e3, _⟩ := encs_rep hT h2 hi
              rw [← getD_eq hi (T.dflt r), henc] at e3
              cases e3 with | arr hl _ => exact hl
            have hiT : i < zs.length := by
              cases hx with
              | view hg => rw [hg] at h1; cases h1
              | vnil hg => rw [hg] at h1; cases h1
              | rview hg hj => rw [hg] at h1; cases h1; exact hj
              | rvnil hg hj => rw [hg] at h1; cases h1; exact hj
            have hxl := arr_len hiT
            obtain ⟨pre, sub, post, e1, e2, e3, e5⟩ := encs_rep hT h2 hiT
            rw [← getD_eq hiT (T.dflt r), henc] at e3
            cases e3 with
            | arr _ hsub =>
            cases hx with
            | view hg => rw [hg] at h1; cases h1
            | vnil hg => rw [hg] at h1; cases h1
            | @rvnil _ _ _ _ _ ad cap b _ _ _ hg hj hlo =>
              rw [hg] at h1
              cases h1
              obtain ⟨c1, f1, f2, f3⟩ := first_run (P := P) hT (min ys.length 0) (by omega) hyrep
              have hc1 : c1 = [] := List.eq_nil_of_length_eq_zero (by rw [f2.len hT, listAV_size hT]; simp)
              subst hc1
              have hr := copy_run hT ht (tl := tl') (ty := o.type) (base := some ad) (len := 0) (cap := cap) (w' := w) f1 f3 (by simp [storeCells])
              have hsp : splice xs ys lo (min ys.length 0) = xs := by simp [splice]
              rw [hsp] at hzenc
              have hnew := e5 z sub (by rw [hzenc]; exact .arr hxl hsub)
              refine ⟨_, w, D, gv, .inl (hfin hr), .elem (.one rfl (.int _ _)), ?_, fun _ h => h⟩
              refine h.write (by rw [hobj]; rfl) hg rfl ⟨rfl, rfl, rfl, Nat.le_refl _, fun _ _ _ => rfl⟩ (.row (flat := flat) (by simpa using hg) ?_ (by simpa using h3) h4)
              rw [e1]
              exact hnew
            | @rview _ _ _ _ _ _ cap b _ _ _ hg hj hsz hl hcap =>
              rw [hg] at h1
              cases h1
              rcases h3.2 with ⟨hvv, h0⟩ | ⟨b', cap'', cur, hvv, hbb, hcur, hnc, hcm, hcs, htake⟩
              · simp [rowVal] at hvv
              · simp only [rowVal, Option.map_some, Value.slice.injEq, Option.some.injEq, Addr.mk.injEq, and_true, true_and] at hvv
                obtain ⟨rfl, rfl⟩ := hvv
                obtain ⟨c1, f1, f2, f3⟩ := first_run (P := P) hT (min ys.length len) (by omega) hyrep
                obtain ⟨s1, s23, q1, q2, q3, q4⟩ := encs_split hT xs sub hsub lo (by omega)
                obtain ⟨s2, s3, r1, r2, _, r4⟩ := encs_split hT (xs.drop lo) s23 q4 (min ys.length len) (by simp; omega)
                have hc1 : c1.length = min ys.length len * T.size t2 := by rw [f2.len hT, listAV_size hT]; simp
                have hsub2 := splice_rep q3 f2 (s3 := s3) (by rw [List.drop_drop] at r4; exact r4)
                have hnew := e5 z (s1 ++ c1 ++ s3) (by rw [hzenc]; exact .arr (by rw [splice_len (by omega) (by omega)]; exact hxl) hsub2)
                have ecur := (List.take_append_drop (zs.length * T.size r) cur.toList).symm
                rw [htake, e1, q1, r1] at ecur
                generalize hrest : cur.toList.drop (zs.length * T.size r) = rest at ecur
                have e0 : cur.toList = (pre ++ s1) ++ s2 ++ (s3 ++ post ++ rest) := by rw [ecur]; simp [List.append_assoc]
                have hst := run_storeCells_at P b (pre ++ s1).length r c1 0 cur w hcur (by rw [← Array.length_toList, e0]; simp; omega) f2.one
                simp only [Nat.add_zero] at hst
                rw [e0, listTake_mid, show (pre ++ s1).length + c1.length = (pre ++ s1).length + s2.length by omega, listDrop_mid] at hst
                have hlen : (pre ++ s1).length = i * T.size r + lo * T.size t2 := by rw [List.length_append, e2, q2]
                rw [hlen] at hst
                have hr := copy_run hT ht (tl := tl') (ty := o.type) (base := some ⟨b, i * T.size r + lo * T.size t2, none⟩) (len := len) (cap := cap) f1 f3 hst
                have eall : (pre ++ s1 ++ c1 ++ (s3 ++ post ++ rest)) = (pre ++ (s1 ++ c1 ++ s3) ++ post) ++ rest := by simp [List.append_assoc]
                have hD2 : ∀ k, D k → (w.setRow b (pre ++ s1 ++ c1 ++ (s3 ++ post ++ rest)).toArray).heap[k]? = w.heap[k]? := fun k hD => setRow_other w b k _ (fun e => (h4 b rfl).2 (e ▸ hD))
                refine ⟨_, _, D, gv, .inl (hfin hr), .elem (.one rfl (.int _ _)), ?_, fun _ h => h⟩
                refine h.write (by rw [hobj]; rfl) hg rfl (grownBy_setRow w b _) (.row (g := some b) (flat := pre ++ (s1 ++ c1 ++ s3) ++ post) (by simpa using hg) (hnew.mono (fun _ h => h) hD2 (fun _ _ h => h)) ?_ h4)
                have hl2 : (pre ++ (s1 ++ c1 ++ s3) ++ post).length = zs.length * T.size r := by
                  have := h3.1
                  rw [e1, q1, r1] at this
                  simp only [List.length_append] at this ⊢
                  omega
                rw [List.length_set]
                refine ⟨hl2, .inr ⟨b, _, _, rfl, hbb, setRow_heap w b _ _ r _ hcur, hnc, hcm, ?_, ?_⟩⟩
                · have hc2 := hcs
                  rw [← Array.length_toList, e0] at hc2
                  simp only [List.size_toArray, List.length_append] at hc2 ⊢
                  omega
                · rw [eall, ← hl2]
                  exact List.take_left
        rename_i cc hobj
        split at he
        case h_2 => cases he
        rename_i t' n' xs hget
        split at he
        case isFalse => cases he
        rename_i hte
        subst hte
        obtain ⟨hee, he2⟩ := cond_fail he
        simp only [Bool.and_eq_true, beq_iff_eq] at hee
        obtain ⟨rfl, rfl⟩ := hee
        split at he2
        case h_2 => cases he2
        rename_i c' hc0
        obtain ⟨_, rfl, rfl⟩ := does_inj he2
        have hc' : cc.put T p (.arr t2 n' (splice xs ys lo (min ys.length len))) = some c' := hc0
        clear hc0
        rw [hxe] at hx
        have hx := hx.one_inv rfl (by simp) (by simp) (by simp)
        have hob := h.obj o'
        rw [hobj] at hob
        cases hob with
        | @var _ b cs et h1 h2 h3 h4 h5 =>
          generalize hax : a.eval x = ax at hx hfin
          cases hx with
          | @view _ _ _ _ _ _ cap b hg hp hl hcap =>
            rw [hg] at h1
            cases h1
            obtain ⟨pre, sub, post, old, e1, e2, e3, e4, e5⟩ := put_rep hT p h5 hc' hp
            rw [hget] at e3
            cases e3
            cases e4 with
            | arr hxl hsub =>
              obtain ⟨c1, f1, f2, f3⟩ := first_run (P := P) hT (min ys.length len) (by omega) hyrep
              obtain ⟨s1, s23, q1, q2, q3, q4⟩ := encs_split hT xs sub hsub lo (by omega)
              obtain ⟨s2, s3, r1, r2, _, r4⟩ := encs_split hT (xs.drop lo) s23 q4 (min ys.length len) (by simp; omega)
              have hc1 : c1.length = min ys.length len * T.size t2 := by rw [f2.len hT, listAV_size hT]; simp
              have hsub := splice_rep q3 f2 (s3 := s3) (by rw [List.drop_drop] at r4; exact r4)
              have hnew := e5 (s1 ++ c1 ++ s3) (.arr (by rw [splice_len (by omega) (by omega)]; exact hxl) hsub)
              have e0 : cs.toList = (pre ++ s1) ++ s2 ++ (s3 ++ post) := by rw [e1, q1, r1]; simp [List.append_assoc]
              have hst := run_storeCells_at P b (pre ++ s1).length et c1 0 cs w h4 (by rw [← Array.length_toList, e0]; simp; omega) f2.one
              simp only [Nat.add_zero] at hst
              rw [e0, listTake_mid, show (pre ++ s1).length + c1.length = (pre ++ s1).length + s2.length by omega, listDrop_mid] at hst
              have hlen : (pre ++ s1).length = poff p + lo * T.size t2 := by rw [List.length_append, e2, q2]
              rw [hlen] at hst
              have hr := copy_run hT ht (tl := tl') (ty := o.type) (base := some ⟨b, poff p + lo * T.size t2, none⟩) (len := len) (cap := cap) f1 f3 hst
              refine ⟨_, _, D, gv, .inl (hfin hr), .elem (.one rfl (.int _ _)), ?_, fun _ h => h⟩
              refine h.write (by rw [hobj]; rfl) hg rfl (grownBy_setRow w b _) (.var hg h2 h3 (setRow_heap w b _ _ et _ h4) ?_)
              have : (pre ++ s1 ++ c1 ++ (s3 ++ post)) = pre ++ (s1 ++ c1 ++ s3) ++ post := by simp [List.append_assoc]
              rw [this]
              exact hnew.mono (fun _ h => h) (fun k hD => setRow_other w b k _ (fun e => h3 (e ▸ hD))) (fun _ _ h => h)
          | rview hg => rw [hg] at h1; cases h1
          | rvnil hg => rw [hg] at h1; cases h1
          | @vnil _ _ _ _ _ ad cap b' hg hp hlo =>
            rw [hg] at h1
            cases h1
            obtain ⟨pre, sub, post, old, e1, e2, e3, e4, e5⟩ := put_rep hT p h5 hc' hp
            rw [hget] at e3
            cases e3
            obtain ⟨c1, f1, f2, f3⟩ := first_run (P := P) hT (min ys.length 0) (by omega) hyrep
            have hc1 : c1 = [] := List.eq_nil_of_length_eq_zero (by rw [f2.len hT, listAV_size hT]; simp)
            subst hc1
            have hr := copy_run hT ht (tl := tl') (ty := o.type) (base := some ad) (len := 0) (cap := cap) (w' := w) f1 f3 (by simp [storeCells])
            have hsp : splice xs ys lo (min ys.length 0) = xs := by simp [splice]
            rw [hsp] at e5
            refine ⟨_, w, D, gv, .inl (hfin hr), .elem (.one rfl (.int _ _)), ?_, fun _ h => h⟩
            refine h.write (by rw [hobj]; rfl) hg rfl ⟨rfl, rfl, rfl, Nat.le_refl _, fun _ _ _ => rfl⟩ (.var hg h2 h3 h4 ?_)
            rw [e1]
            exact e5 _ e4
      · rename_i o' hxo
        split at he
        case h_2 => cases he
        rename_i e' xs hobj
        split at he
        case isFalse => cases he
        rename_i hee
        subst hee
        obtain ⟨_, rfl, rfl⟩ := does_inj he
        rw [hxo] at hx
        obtain ⟨g, n, cap, sz, hg, hax⟩ := hx.row_inv
        have hob := h.obj o'
        rw [hobj] at hob
        cases hob with
        | row h1 h2 h3 h4 =>
          rw [hg] at h1
          cases h1
          obtain ⟨c1, f1, f2, f3⟩ := first_run (P := P) hT (min ys.length xs.length) (by omega) hyrep
          rcases h3.2 with ⟨hvv, h0⟩ | ⟨b', cap'', cur, hvv, hbb, hcur, hnc, hcm, hcs, htake⟩
          · have hx0 : xs = [] := List.eq_nil_of_length_eq_zero h0
            subst hx0
            have hr := copy_run hT ht (tl := tl') (ty := o.type) (base := none) (len := 0) (cap := 0) (w' := w) f1 f3 rfl
            rw [hvv] at hax
            rw [← hax] at hr
            refine ⟨_, w, D, gv, .inl (hfin hr), .elem (.one rfl (.int _ _)), ?_, fun _ h => h⟩
            have hsame : Obj.upd s.obj [(o', .row e' (splice [] ys 0 (min ys.length ([] : List (Ty e')).length)))] = s.obj := by
              funext k
              rw [upd1]
              by_cases hk : k = o'
              · subst hk; rw [if_pos rfl, hobj]; simp [splice]
              · rw [if_neg hk]
            rw [hsame]
            exact h
          · have hvv' := hvv
            simp only [rowVal, Value.slice.injEq, true_and] at hvv'
            obtain ⟨hgb, rfl⟩ := hvv'
            have hgb' : g = some b' := by
              cases g with
              | none => simp at hgb
              | some q => simp at hgb; rw [hgb]
            subst hgb'
            obtain ⟨s2, s3, r1, r2, _, r4⟩ := encs_split hT xs _ h2 (min ys.length xs.length) (by omega)
            have hc1 : c1.length = min ys.length xs.length * T.size e' := by rw [f2.len hT, listAV_size hT]; simp
            have hnew : RepC T w D gv (encs T e' (splice xs ys 0 (min ys.length xs.length))) (c1 ++ s3) := by
              have := splice_rep (xs := xs) (ys := ys) (lo := 0) (s1 := []) (by simpa [encs, listAV] using RepC.nil) f2 (s3 := s3) (by simpa using r4)
              simpa using this
            have e0 := (List.take_append_drop (xs.length * T.size e') cur.toList).symm
            rw [htake, r1] at e0
            generalize hrest : cur.toList.drop (xs.length * T.size e') = rest at e0
            have e0' : cur.toList = [] ++ s2 ++ (s3 ++ rest) := by rw [e0]; simp [List.append_assoc]
            have hst := run_storeCells_at P b' 0 e' c1 0 cur w hcur (by rw [← Array.length_toList, e0']; simp; omega) f2.one
            simp only [Nat.add_zero, List.take_zero, List.nil_append, Nat.zero_add] at hst
            rw [e0', show c1.length = ([] : List Value).length + s2.length by simp; omega, listDrop_mid] at hst
            have hr := copy_run hT ht (tl := tl') (ty := o.type) (base := some ⟨b', 0, none⟩) (len := xs.length) (cap := cap) f1 f3 hst
            rw [hvv] at hax
            rw [← hax] at hr
            have hsl : (splice xs ys 0 (min ys.length xs.length)).length = xs.length := splice_len (by omega) (by omega)
            refine ⟨_, _, D, gv, .inl (hfin hr), .elem (.one rfl (.int _ _)), ?_, fun _ h => h⟩
            have hD2 : ∀ k, D k → (w.setRow b' (c1 ++ (s3 ++ rest)).toArray).heap[k]? = w.heap[k]? := fun k hD => setRow_other w b' k _ (fun e => (h4 b' rfl).2 (e ▸ hD))
            refine h.write (by rw [hobj]; rfl) hg rfl (grownBy_setRow w b' _) (.row (g := some b') (cap := cap) (flat := c1 ++ s3) (by rw [hsl]; exact hg) (hnew.mono (fun _ h => h) hD2 (fun _ _ h => h)) ?_ h4)
            rw [hsl]
            have hl2 : (c1 ++ s3).length = xs.length * T.size e' := by
              have := h3.1
              rw [r1] at this
              simp only [List.length_append] at this ⊢
              omega
            refine ⟨hl2, .inr ⟨b', cap, _, rfl, hbb, setRow_heap w b' _ _ e' _ hcur, hnc, hcm, ?_, ?_⟩⟩
            · have hc2 := hcs
              rw [← Array.length_toList, e0'] at hc2
              simp only [List.size_toArray, List.length_append, List.nil_append] at hc2 ⊢
              omega
            · rw [show c1 ++ (s3 ++ rest) = (c1 ++ s3) ++ rest by simp [List.append_assoc], ← hl2]
              exact List.take_left
      · cases he

theorem snd_clear (hT : TabOK P T) (h : Inv T w0 D0 N s a w D gv) {args : Array Operand} {tys : Array TypeId} (ho : o.op = .call { callee := .builtin .clear, args := args, argTypes := tys })
    (he : effOp T o d s.eval s.obj = .ok c v ups) : Does P T w0 D0 N s a w D o v ups := by
  unfold effOp at he; rw [ho] at he
  simp only at he
  obtain ⟨al⟩ := args
  obtain ⟨tl⟩ := tys
  match al with
  | [] => simp [builtinAV] at he
  | x :: y :: r => simp [builtinAV] at he
  | [x] =>
    simp only [List.map_cons, List.map_nil, builtinAV] at he
    match tl with
    | [] => cases he
    | t :: t2 :: r => cases he
    | [t] =>
      split at he
      case h_2 => cases he
      rename_i t0 o' lo len htt hxe
      cases htt
      split at he
      case h_2 => cases he
      rename_i e e1 xs ht hobj
      obtain ⟨hee, he2⟩ := cond_fail he
      clear he
      have hee := beq_iff_eq.1 hee
      subst hee
      obtain ⟨_, rfl, rfl⟩ := does_inj he2
      have hx := h.eval x
      rw [hxe] at hx
      have hx := hx.one_inv rfl (by simp) (by simp) (by simp)
      have htd := hT.td t
      rw [ht] at htd
      simp only [TDok] at htd
      have hk := hT.elem t e (.inl ht)
      obtain ⟨ti, z, hi, hs, _, _, _, hz, _, _, hdf⟩ := hT.info e hk
      have hzv : (zeroValue e).run P w = .ok z w := by simp [zeroValue, typeInfo, hi, hz]
      have hob := h.obj o'
      rw [hobj] at hob
      have hfin : ∀ {x' : Value} {w' : World}, (Builtin.clear_ #[t] o.type #[a.eval x]).run P w = .ok x' w' → (execOp a.eval o).run P w = .ok (.value x') w' := by
        intro x' w' hr
        refine call_builtin ho ?_
        simp only [builtin, Sem.run_bind, List.map_toArray, List.map_cons, List.map_nil]
        simp [hr]
      cases hob with
      | @row _ _ g cap flat h1 h2 h3 h4 =>
        generalize hax : a.eval x = ax at hx hfin
        have zero : ∀ {ad : Option Addr} {c0 : Nat}, ax = .slice ad 0 c0 → len = 0 → Does P T w0 D0 N s a w D o .undef [(o', .row e (splice xs (List.replicate len (T.dflt e)) lo len))] := by
          rintro ad c0 rfl rfl
          have hr : (Builtin.clear_ #[t] o.type #[.slice ad 0 c0]).run P w = .ok (.tuple #[]) w := by
            cases ad <;> simp [Builtin.clear_, run_underlying htd]
          have hsp : splice xs (List.replicate 0 (T.dflt e)) lo 0 = xs := by simp [splice]
          refine ⟨_, w, D, gv, .inl (hfin hr), .elem (.undef _), ?_, fun _ h => h⟩
          have hsame : Obj.upd s.obj [(o', .row e (splice xs (List.replicate 0 (T.dflt e)) lo 0))] = s.obj := by
            funext k
            rw [upd1, hsp]
            by_cases hk : k = o'
            · subst hk; rw [if_pos rfl, hobj]
            · rw [if_neg hk]
          rw [hsame]
          exact h
        cases hx with
        | subz _ _ _ _ => exact zero rfl rfl
        | sub0 _ => exact zero rfl rfl
        | @sub _ _ _ b nn cap1 sz1 hg hl hcap =>
          rw [hg] at h1
          cases h1
          by_cases hlen0 : len = 0
          · subst hlen0
            exact zero rfl rfl
          rcases h3.2 with ⟨hvv, _⟩ | ⟨b', cap'', cur, hvv, hbb, hcur, hnc, hcm, hcs, htake⟩
          · simp [rowVal] at hvv
          · simp only [rowVal, Option.map_some, Value.slice.injEq, Option.some.injEq, Addr.mk.injEq, and_true, true_and] at hvv
            obtain ⟨rfl, rfl⟩ := hvv
            have hrep := made_rep (w := w) (D := D) (gv := gv) hT hk (fun w D gv => hdf w D gv) len
            have hzs : z.cells.size = T.size e := by
              have := (hdf w D gv).len hT
              rw [hT.encSize, Array.length_toList] at this
              exact this
            have hzc : madeCells z.cells (len * T.size e) = Builtin.zeroCells z.cells len := by show _ = madeCells z.cells (len * z.cells.size); rw [hzs]
            rw [hzc] at hrep
            generalize hcd : (Builtin.zeroCells z.cells len).toList = cs at hrep
            have hlen : cs.length = len * T.size e := by rw [hrep.len hT, listAV_size hT]; simp
            obtain ⟨s1, s23, q1, q2, q3, q4⟩ := encs_split hT xs flat h2 lo (by omega)
            obtain ⟨s2, s3, r1, r2, _, r4⟩ := encs_split hT (xs.drop lo) s23 q4 len (by simp; omega)
            have ecur := (List.take_append_drop (xs.length * T.size e) cur.toList).symm
            rw [htake, q1, r1] at ecur
            generalize hrest : cur.toList.drop (xs.length * T.size e) = rest at ecur
            have e0 : cur.toList = s1 ++ s2 ++ (s3 ++ rest) := by rw [ecur]; simp [List.append_assoc]
            have hst := run_storeCells_at P b s1.length e cs 0 cur w hcur (by rw [← Array.length_toList, e0]; simp; omega) hrep.one
            simp only [Nat.add_zero] at hst
            rw [e0, listTake_mid, show s1.length + cs.length = s1.length + s2.length by omega, listDrop_mid, q2] at hst
            have hr : (Builtin.clear_ #[t] o.type #[.slice (some ⟨b, lo * T.size e, none⟩) len (cap - lo)]).run P w = .ok (.tuple #[]) (w.setRow b (s1 ++ cs ++ (s3 ++ rest)).toArray) := by
              obtain ⟨len', rfl⟩ : ∃ l', len = l' + 1 := ⟨len - 1, by omega⟩
              simp [Builtin.clear_, run_underlying htd, hzv, hcd, hst]
            have hcs2 : RepC T w D gv (encs T e ((List.replicate len (T.dflt e)).take len)) cs := by rw [List.take_of_length_le (by simp)]; exact hrep
            have hnew := splice_rep0 q3 hcs2 (s3 := s3) (by rw [List.drop_drop] at r4; exact r4)
            have hsl : (splice xs (List.replicate len (T.dflt e)) lo len).length = xs.length := by simp [splice]; omega
            have hD2 : ∀ k, D k → (w.setRow b (s1 ++ cs ++ (s3 ++ rest)).toArray).heap[k]? = w.heap[k]? := fun k hD => setRow_other w b k _ (fun e => (h4 b rfl).2 (e ▸ hD))
            have hl2 : (s1 ++ cs ++ s3).length = xs.length * T.size e := by
              have := h3.1
              rw [q1, r1] at this
              simp only [List.length_append] at this ⊢
              omega
            refine ⟨_, _, D, gv, .inl (hfin hr), .elem (.undef _), ?_, fun _ h => h⟩
            refine h.write (by rw [hobj]; rfl) hg rfl (grownBy_setRow w b _) (.row (g := some b) (flat := s1 ++ cs ++ s3) (by rw [hsl]; exact hg) (hnew.mono (fun _ h => h) hD2 (fun _ _ h => h)) ?_ h4)
            rw [hsl]
            refine ⟨hl2, .inr ⟨b, _, _, rfl, hbb, setRow_heap w b _ _ e _ hcur, hnc, hcm, ?_, ?_⟩⟩
            · have hc2 := hcs
              rw [← Array.length_toList, ecur] at hc2
              simp only [List.size_toArray, List.length_append] at hc2 ⊢
              omega
            · rw [show s1 ++ cs ++ (s3 ++ rest) = (s1 ++ cs ++ s3) ++ rest by simp [List.append_assoc], ← hl2]
              exact List.take_left
end
end V
