/-
  Calls, comparisons, drawn orders, loops, functions, readings, rows: what the abstract run of a function computes is what the function returns. No conditions.
-/
import Derived.LoopN
import Derived.WalkKit
import Derived.ProofKit
import Derived.OpenShut
import Derived.WideKeyArgs
import Derived.Test.YtpnnmpdjgnbkhaaDoorVK2
namespace V
open Go
section
variable {Ty : Nat → Type} {T : Tab Ty} {P : Program}
variable {w0 : Base} {D0 : Nat → Prop} {N : Nat} {s : St Ty} {a : Act} {w : World} {D : Nat → Prop} {gv : Nat → Option GObj}
variable {o : Oper} {d : Nat} {c : Bool} {v : AV Ty} {ups : List (Nat × Obj Ty)}

theorem partsTy_agg {g : Nat → AV Ty → Bool} {v : AV Ty} {fs : List (Nat × Nat)} {k : Nat} (hp : partsTy T g fs v k = true) : v.isAgg = true := by
  cases fs <;> cases v <;> simp [partsTy] at hp <;> rfl

theorem hasTy_cases {f t : Nat} {v : AV Ty} (h : hasTy T f t v = true) : v.isAgg = true ∨ (∃ b, v = .bool b) ∨ (∃ s, v = .str s) ∨ ∃ k n, v = .int k n := by
  cases f with
  | zero => cases h
  | succ f =>
    simp only [hasTy] at h
    split at h
    · exact .inr (.inl ⟨_, rfl⟩)
    · exact .inr (.inr (.inr ⟨_, _, rfl⟩))
    · exact .inr (.inr (.inl ⟨_, rfl⟩))
    · exact .inl rfl
    · exact .inl (partsTy_agg h)
    · cases h

theorem hasTy_plain {f t : Nat} {v : AV Ty} (h : hasTy T f t v = true) : v ≠ .undef ∧ v ≠ .skp ∧ ∀ vs, v ≠ .tup vs := by
  rcases hasTy_cases h with h1 | ⟨b, rfl⟩ | ⟨b, rfl⟩ | ⟨k, n, rfl⟩
  · refine ⟨?_, ?_, ?_⟩ <;> intros <;> intro e <;> rw [e] at h1 <;> cases h1
  all_goals exact ⟨by simp, by simp, by simp⟩

theorem eqAt_int {t : Nat} {k : IntKind} (h : P.underlying t = some (.int k)) (ht : T.td t = .int k) : EqAt P T 1 t := by
  intro w D gv x y X Y b f hx hy tx ty he d
  cases f with
  | zero => cases tx
  | succ f =>
    simp only [hasTy, ht] at tx ty
    cases x <;> simp only at tx <;> first | (cases tx; done) | skip
    cases y <;> simp only at ty <;> first | (cases ty; done) | skip
    rename_i k1 n1 k2 n2
    simp only [decide_eq_true_eq] at tx ty
    subst tx; subst ty
    have ex := (RepV.elem hx).int_inv
    have ey := (RepV.elem hy).int_inv
    subst ex; subst ey
    simp only [AV.eqv, decide_true, cond_true, Option.some.injEq] at he
    subst he
    exact run_equalIn_int w d t k k n1 n2 h

theorem eqAt_bool {t : Nat} (h : P.underlying t = some .bool) (ht : T.td t = .bool) : EqAt P T 1 t := by
  intro w D gv x y X Y b f hx hy tx ty he d
  cases f with
  | zero => cases tx
  | succ f =>
    simp only [hasTy, ht] at tx ty
    cases x <;> simp only at tx <;> first | (cases tx; done) | skip
    cases y <;> simp only at ty <;> first | (cases ty; done) | skip
    have ex := (RepV.elem hx).bool_inv
    have ey := (RepV.elem hy).bool_inv
    subst ex; subst ey
    simp only [AV.eqv, Option.some.injEq] at he
    subst he
    exact run_equalIn_bool' w d t _ _ h

theorem eqAt_str {t : Nat} (h : P.underlying t = some .string) (ht : T.td t = .str) : EqAt P T 1 t := by
  intro w D gv x y X Y b f hx hy tx ty he d
  cases f with
  | zero => cases tx
  | succ f =>
    simp only [hasTy, ht] at tx ty
    cases x <;> simp only at tx <;> first | (cases tx; done) | skip
    cases y <;> simp only at ty <;> first | (cases ty; done) | skip
    have ex := (RepV.elem hx).str_inv
    have ey := (RepV.elem hy).str_inv
    subst ex; subst ey
    simp only [AV.eqv, Option.some.injEq] at he
    subst he
    exact run_equalIn_string w d t _ _ h

theorem RepE.of_c {v : AV Ty} {cs : List Value} (h : RepC T w D gv v cs) : ∃ x, RepE T w D gv v x ∧ ((v.isAgg = true ∧ x = .agg cs.toArray) ∨ (v.isAgg = false ∧ cs = [x])) := by
  cases ha : v.isAgg with
  | true => exact ⟨_, .agg ha h, .inl ⟨rfl, rfl⟩⟩
  | false =>
    have : ∃ x, cs = [x] := by cases h <;> first | exact ⟨_, rfl⟩ | cases ha
    obtain ⟨x, rfl⟩ := this
    exact ⟨x, .one ha h, .inr ⟨rfl, rfl⟩⟩

theorem part_run' (hT : TabOK P T) {t : Nat} {v : AV Ty} (hf : fits T t v = true) {cs : Array Value} {pre sub post : List Value} (hc : cs.toList = pre ++ sub ++ post) (hr : RepC T w D gv v sub) (hp : v ≠ .undef) (hp2 : v ≠ .skp) (hp3 : ∀ vs, v ≠ .tup vs) :
    ∃ x, (part t cs pre.length).run P w = .ok x w ∧ RepE T w D gv v x := by
  obtain ⟨x, h1, h2⟩ := part_run hT hf hc hr
  refine ⟨x, h1, ?_⟩
  cases h2 with
  | elem h => exact h
  | tup => exact absurd rfl (hp3 _)

theorem eqAt_arr (hT : TabOK P T) {t n e m f0 : Nat} (h : P.underlying t = some (.array n e)) (ht : T.td t = .arr n e) (he : EqAt P T m e) (hty : ∀ x, hasTy T f0 e (T.enc e x) = true)
    {f : Ty e → Ty e → Bool} (hf : ∀ x y, (T.enc e x).eqv T (T.enc e y) = some (f x y)) (hL : ∀ xs ys : List (Ty e), xs.length = ys.length → T.eqL e xs ys = (xs.zip ys).all fun p => f p.1 p.2) : EqAt P T (m + 1) t := by
  intro w D gv x y X Y b fu hx hy tx ty heq d
  cases fu with
  | zero => cases tx
  | succ fu =>
    simp only [hasTy, ht] at tx ty
    cases x <;> simp only at tx <;> first | (cases tx; done) | skip
    cases y <;> simp only at ty <;> first | (cases ty; done) | skip
    rename_i e1 n1 xs e2 n2 ys
    simp only [Bool.and_eq_true, beq_iff_eq] at tx ty
    obtain ⟨rfl, rfl⟩ := tx
    obtain ⟨rfl, rfl⟩ := ty
    obtain ⟨cx, rfl, rx⟩ := (RepV.elem hx).agg_inv rfl
    obtain ⟨cy, rfl, ry⟩ := (RepV.elem hy).agg_inv rfl
    cases rx with
    | arr lx rx =>
      cases ry with
      | arr ly ry =>
        have hkn := hT.elem t e2 (.inr ⟨n2, ht⟩)
        obtain ⟨i, z, hi, hs, _⟩ := hT.info e2 hkn
        have hcell : P.cellsOf e2 = T.size e2 := by simp [Program.cellsOf, hi, hs]
        simp only [AV.eqv, dite_true] at heq
        have hb : T.eqL e2 xs ys = b := by
          cases hq : (T.eqOk e2 && n2 == n2) with
          | false => rw [hq] at heq; cases heq
          | true => rw [hq] at heq; simpa using heq
        rw [show d + (m + 1) = (d + m) + 1 by omega, run_equalIn_array w (d + m) _ _ h hi, hcell, ← hb, hL xs ys (by omega)]
        have key : ∀ (k : Nat) (xs' ys' : List (Ty e2)) (j : Nat), xs'.length = k → ys'.length = k → xs' = xs.drop j → ys' = ys.drop j →
            (Op.eqItems (d + m) e2 (T.size e2) cx.toArray cy.toArray (List.range' j k)).run P w = .ok ((xs'.zip ys').all fun p => f p.1 p.2) w := by
          intro k
          induction k with
          | zero =>
            intro xs' ys' j h1 h2 _ _
            have : xs' = [] := List.eq_nil_of_length_eq_zero h1
            subst this
            simp [Op.eqItems]
          | succ k ih =>
            intro xs' ys' j h1 h2 h3 h4
            match xs', ys', h1, h2 with
            | x1 :: xs', y1 :: ys', h1, h2 =>
              have hjx : j < xs.length := by
                have := congrArg List.length h3
                simp at this; omega
              have hjy : j < ys.length := by
                have := congrArg List.length h4
                simp at this; omega
              rw [List.drop_eq_getElem_cons hjx] at h3
              rw [List.drop_eq_getElem_cons hjy] at h4
              injection h3 with h3a h3b
              injection h4 with h4a h4b
              obtain ⟨px, sx, qx, a1, a2, a3, _⟩ := encs_rep hT rx hjx
              obtain ⟨py, sy, qy, b1, b2, b3, _⟩ := encs_rep hT ry hjy
              have hfit : ∀ z, fits T e2 (T.enc e2 z) = true := fun z => by simp [fits, hkn, hT.encSize, hT.encAgg _ _ hkn]
              obtain ⟨vx, c1, c2⟩ := part_run' hT (hfit _) (cs := cx.toArray) (by simpa using a1) a3 (hT.encPlain _ _).1 (hT.encPlain _ _).2.1 (hT.encPlain _ _).2.2
              obtain ⟨vy, d1, d2⟩ := part_run' hT (hfit _) (cs := cy.toArray) (by simpa using b1) b3 (hT.encPlain _ _).1 (hT.encPlain _ _).2.1 (hT.encPlain _ _).2.2
              rw [a2] at c1
              rw [b2] at d1
              have hq := he w D gv _ _ vx vy _ f0 c2 d2 (hty _) (hty _) (hf _ _) d
              simp only [List.range'_succ, Op.eqItems, Sem.run_bind, c1, d1, hq, Result.andThen_ok, List.zip_cons_cons, List.all_cons]
              rw [← h3a, ← h4a]
              cases hfb : f x1 y1 with
              | false => simp
              | true =>
                simp only [Bool.not_true, Bool.false_eq_true, if_false, Bool.true_and]
                exact ih xs' ys' (j + 1) (by simpa using h1) (by simpa using h2) h3b h4b
        have := key n2 xs ys 0 lx ly rfl rfl
        rw [List.range_eq_range']
        exact this

theorem eqAt_struct (hT : TabOK P T) {t m : Nat} {fields : Array Field} {fs : List (Nat × Nat)} (h : P.underlying t = some (.struct fields)) (ht : T.td t = .struct fs) (hfs : fields.toList.map (fun f => (f.type, f.offset)) = fs)
    (hs : P.stoodInHeld t = false) (hn : ∀ f ∈ fields.toList, f.name ≠ "_") (he : ∀ p ∈ fs, EqAt P T m p.1) : EqAt P T (m + 1) t := by
  intro w D gv x y X Y b fu hx hy tx ty heq d
  cases fu with
  | zero => cases tx
  | succ fu =>
    simp only [hasTy, ht] at tx ty
    have hof : P.fieldsOf t = fields := by simp [Program.fieldsOf, h]
    obtain ⟨cx, rfl, rx⟩ := (RepV.elem hx).agg_inv (partsTy_agg tx)
    obtain ⟨cy, rfl, ry⟩ := (RepV.elem hy).agg_inv (partsTy_agg ty)
    rw [show d + (m + 1) = (d + m) + 1 by omega, run_equalIn_struct w (d + m) t _ _ (by rw [hof]; exact h) hs, hof]
    have key : ∀ (fl : List Field) (x y : AV Ty) (px py sx sy : List Value) (b : Bool), (∀ f ∈ fl, f.name ≠ "_") → (∀ f ∈ fl, EqAt P T m f.type ∧ (T.td f.type).known = true) →
        partsTy T (hasTy T fu) (fl.map fun f => (f.type, f.offset)) x px.length = true → partsTy T (hasTy T fu) (fl.map fun f => (f.type, f.offset)) y py.length = true →
        cx = px ++ sx → cy = py ++ sy → RepC T w D gv x sx → RepC T w D gv y sy → x.eqv T y = some b →
        (Op.eqFields (d + m) cx.toArray cy.toArray fl).run P w = .ok b w := by
      intro fl
      induction fl with
      | nil =>
        intro x y px py sx sy b _ _ h1 h2 _ _ _ _ h5
        cases x <;> simp [partsTy] at h1
        cases y <;> simp [partsTy] at h2
        simp [AV.eqv] at h5
        subst h5
        simp [Op.eqFields]
      | cons f fl ih =>
        intro x y px py sx sy b hnm hall h1 h2 ecx ecy h3 h4 h5
        cases x <;> simp only [List.map_cons, partsTy] at h1 <;> first | (cases h1; done) | skip
        cases y <;> simp only [List.map_cons, partsTy] at h2 <;> first | (cases h2; done) | skip
        rename_i x1 x2 y1 y2
        simp only [Bool.and_eq_true, beq_iff_eq] at h1 h2
        obtain ⟨⟨⟨⟨p1, p2⟩, p3⟩, p4⟩, p5⟩ := h1
        obtain ⟨⟨⟨⟨r1, r2⟩, r3⟩, r4⟩, r5⟩ := h2
        obtain ⟨heqf, hkn⟩ := hall f (by simp)
        simp only [AV.eqv] at h5
        split at h5
        case h_2 => cases h5
        rename_i q1 q2 e1 e2
        simp only [Option.some.injEq] at h5
        subst h5
        cases h3 with
        | @cons _ _ s1 s2 h3a h3b =>
          cases h4 with
          | @cons _ _ u1 u2 h4a h4b =>
            obtain ⟨vx, c1, c2⟩ := part_run' hT (t := f.type) (by simp [fits, hkn, p3, p4]) (cs := cx.toArray) (pre := px) (sub := s1) (post := s2) (by rw [ecx]; simp) h3a (hasTy_plain p1).1 (hasTy_plain p1).2.1 (hasTy_plain p1).2.2
            obtain ⟨vy, d1, d2⟩ := part_run' hT (t := f.type) (by simp [fits, hkn, r3, r4]) (cs := cy.toArray) (pre := py) (sub := u1) (post := u2) (by rw [ecy]; simp) h4a (hasTy_plain r1).1 (hasTy_plain r1).2.1 (hasTy_plain r1).2.2
            have hq := heqf w D gv x1 y1 vx vy q1 fu c2 d2 p1 r1 e1 d
            rw [← p2] at c1
            rw [← r2] at d1
            simp only [Op.eqFields, hnm f (by simp), ne_eq, not_false_eq_true, if_true, Sem.run_bind, c1, d1, hq, Result.andThen_ok]
            have l1 : s1.length = x1.size T := h3a.len hT
            have l2 : u1.length = y1.size T := h4a.len hT
            have hih := ih x2 y2 (px ++ s1) (py ++ u1) s2 u2 q2 (fun f hf => hnm f (by simp [hf])) (fun f hf => hall f (by simp [hf])) (by rw [List.length_append, l1]; exact p5) (by rw [List.length_append, l2]; exact r5)
              (by rw [ecx]; simp) (by rw [ecy]; simp) h3b h4b e2
            cases q1 with
            | false => simp
            | true => simpa using hih
    refine key fields.toList x y [] [] cx cy b hn (fun f hf => ?_) (by rw [hfs]; exact tx) (by rw [hfs]; exact ty) rfl rfl rx ry heq
    have hm : (f.type, f.offset) ∈ fs := by rw [← hfs]; exact List.mem_map.2 ⟨f, hf, rfl⟩
    exact ⟨he _ hm, hT.fields t fs ht _ hm⟩

theorem snd_binOp_eq (hC : CmpOK P T) (h : Inv T w0 D0 N s a w D gv) {op : BinOp} {t t2 : TypeId} {x y : Operand} (ho : o.op = .binOp op t x y t2) (hni : ¬ ∃ k k' m n, s.eval x = .int k m ∧ s.eval y = .int k' n) (hns : isNilS y = false) (hnI : isNilI y = false)
    (he : effOp T o d s.eval s.obj = .ok c v ups) (hc : c = true) : Does P T w0 D0 N s a w D o v ups := by
  unfold effOp at he; rw [ho] at he
  simp only [hns, hnI, cond_false] at he
  have main : ∀ b, (s.eval x).eqv T (s.eval y) = some b → T.cmp t = true → hasTy T 8 t (s.eval x) = true → hasTy T 8 t (s.eval y) = true →
      ∃ B : Bool → Bool, (op = .eql → B = id) ∧ (op = .neq → B = not) ∧ ((op = .eql ∨ op = .neq) → (execOp a.eval o).run P w = .ok (.value (.bool (B b))) w) := by
    intro b hb hc tx ty
    obtain ⟨hg, n, hn, heq⟩ := hC t hc
    have repE : ∀ {v : AV Ty} {X : Value}, RepV T w D gv v X → hasTy T 8 t v = true → RepE T w D gv v X := by
      intro v X hv hh
      cases hv with
      | elem h => exact h
      | tup => exact absurd rfl ((hasTy_plain hh).2.2 _)
    have rx := repE (h.eval x) tx
    have ry := repE (h.eval y) ty
    have hrun := heq w D gv _ _ _ _ b 8 rx ry tx ty hb (10000 - n)
    rw [show 10000 - n + n = 10000 by omega] at hrun
    have hequal : (Op.equal t (a.eval x) (a.eval y)).run P w = .ok b w := hrun
    have hagx : (s.eval x).isAgg = true → ∃ cs, a.eval x = .agg cs := fun ha => by obtain ⟨cs, e, _⟩ := (h.eval x).agg_inv ha; exact ⟨_, e⟩
    have hagy : (s.eval y).isAgg = true → ∃ cs, a.eval y = .agg cs := fun ha => by obtain ⟨cs, e, _⟩ := (h.eval y).agg_inv ha; exact ⟨_, e⟩
    refine ⟨if op = .eql then id else not, fun e => by simp [e], fun e => by simp [e], fun hop => ?_⟩
    have guard : ∀ X Y, X ≠ Value.nilIface → (eqGuard op t x y X Y).run P w = .ok () w := by
      intro X Y hX
      cases X <;> cases Y <;> first | exact absurd rfl hX | (rcases hop with rfl | rfl <;> first | exact run_eqGuard_agg w _ t x y _ _ hg | rfl)
    have hX : a.eval x ≠ .nilIface := by
      rcases hasTy_cases tx with h1 | ⟨b, h1⟩ | ⟨b, h1⟩ | ⟨k, n, h1⟩
      · obtain ⟨cs, e⟩ := hagx h1; rw [e]; simp
      · have := h.eval x; rw [h1] at this; rw [this.bool_inv]; simp
      · have := h.eval x; rw [h1] at this; rw [this.str_inv]; simp
      · have := h.eval x; rw [h1] at this; rw [this.int_inv]; simp
    have hbin : (binOp op t (a.eval x) (a.eval y)).run P w = .ok (.bool ((if op = .eql then id else not) b)) w := by
      rcases hasTy_cases tx with h1 | ⟨b1, h1⟩ | ⟨b1, h1⟩ | ⟨k, n, h1⟩
      · obtain ⟨cs, e⟩ := hagx h1
        rw [e] at hequal ⊢
        rcases hop with rfl | rfl
        · cases hY : a.eval y <;> rw [hY] at hequal <;> simp [binOp, hequal]
        · cases hY : a.eval y <;> rw [hY] at hequal <;> simp [binOp, hequal]
      · have ex := h.eval x; rw [h1] at ex
        rw [ex.bool_inv] at hequal ⊢
        rcases hop with rfl | rfl
        · cases hY : a.eval y <;> rw [hY] at hequal <;> simp [binOp, hequal]
        · cases hY : a.eval y <;> rw [hY] at hequal <;> simp [binOp, hequal]
      · have ex := h.eval x; rw [h1] at ex
        have hsy : ∃ b2, s.eval y = .str b2 := by
          rw [h1] at hb
          cases hy : s.eval y <;> rw [hy] at hb <;> simp [AV.eqv] at hb
          exact ⟨_, rfl⟩
        obtain ⟨b2, h2⟩ := hsy
        have ey := h.eval y; rw [h2] at ey
        rw [h1, h2] at hb
        simp only [AV.eqv, Option.some.injEq] at hb
        rw [ex.str_inv, ey.str_inv]
        rcases hop with rfl | rfl
        · simp [binOp, Op.stringOp, hb]
        · simp [binOp, Op.stringOp, hb]
      · rw [h1] at hb
        exfalso
        cases hy : s.eval y <;> rw [hy] at hb <;> simp [AV.eqv] at hb
        exact hni ⟨_, _, _, _, h1, hy⟩
    simp only [execOp, ho, Sem.run_bind, guard _ _ hX, Result.andThen_ok, hbin]
    rfl
  have fin : ∀ (b : Bool) (e : Eff Ty), cond (T.cmp t && hasTy T 8 t (s.eval x) && hasTy T 8 t (s.eval y)) e .fail = .ok c v ups → (s.eval x).eqv T (s.eval y) = some b → (op = .eql → e = ans (.bool b)) → (op = .neq → e = ans (.bool !b)) → (op = .eql ∨ op = .neq) → Does P T w0 D0 N s a w D o v ups := by
    intro b e he2 hb h1 h2 hop
    obtain ⟨hk, he3⟩ := cond_fail he2
    simp only [Bool.and_eq_true] at hk
    obtain ⟨B, B1, B2, hr⟩ := main b hb hk.1.1 hk.1.2 hk.2
    have hr2 := hr hop
    clear hr he main
    rcases hop with rfl | rfl
    · rw [h1 rfl] at he3
      obtain ⟨_, rfl, rfl⟩ := ans_inj he3
      rw [B1 rfl] at hr2
      exact .pure h hr2 (.elem (.one rfl (.bool _)))
    · rw [h2 rfl] at he3
      obtain ⟨_, rfl, rfl⟩ := ans_inj he3
      rw [B2 rfl] at hr2
      exact .pure h hr2 (.elem (.one rfl (.bool _)))
  unfold binAV at he
  split at he
  · exact absurd ⟨_, _, _, _, ‹_›, ‹_›⟩ hni
  · exact absurd ⟨_, _, _, _, ‹_›, ‹_›⟩ hni
  · rename_i p q hp hq
    unfold ansIf at he
    cases he
    rw [Nat.ble_eq] at hc
    have ex := h.eval x; rw [hp] at ex
    have ey := h.eval y; rw [hq] at ey
    refine .pure h (x := .string (p ++ q)) ?_ (.elem (.one rfl (.str _)))
    have hlt : ¬ (((p.size + q.size : Nat) : Int) > IntKind.i64.max) := by
      show ¬ (((p.size + q.size : Nat) : Int) > 9223372036854775807)
      omega
    have hg : (eqGuard .add t x y (.string p) (.string q)).run P w = .ok () w := rfl
    simp only [execOp, ho, ex.str_inv, ey.str_inv, Sem.run_bind, hg, Result.andThen_ok, binOp, Op.stringOp, hlt, if_false]
    rfl
  · exact absurd ⟨_, _, _, _, ‹_›, ‹_›⟩ hni
  · split at he
    · rename_i b hb
      exact fin b _ he hb (fun _ => rfl) (fun e => by cases e) (.inl rfl)
    · cases he
  · split at he
    · rename_i b hb
      exact fin b _ he hb (fun e => by cases e) (fun _ => rfl) (.inr rfl)
    · cases he
  · cases he

/-- a slice compared with nil -/
theorem snd_nilEq (hT : TabOK P T) (h : Inv T w0 D0 N s a w D gv) {op : BinOp} {t t2 : TypeId} {x y : Operand} (ho : o.op = .binOp op t x y t2) (hns : isNilS y = true)
    (he : effOp T o d s.eval s.obj = .ok c v ups) : Does P T w0 D0 N s a w D o v ups := by
  unfold effOp at he; rw [ho] at he
  simp only [hns, cond_true] at he
  have hy : y = .const (.slice none 0 0) := by
    unfold isNilS at hns
    split at hns
    · rfl
    · cases hns
  subst hy
  have ey : a.eval (.const (.slice none 0 0)) = .slice none 0 0 := rfl
  have htd := hT.td t
  have hv := h.eval x
  unfold nilEq at he
  have fin : ∀ (e : Nat) (b : Bool) (X : Value), T.td t = .slice e → (op = .eql ∨ op = .neq) → a.eval x = X → ((X = .slice none 0 0 ∧ b = (op == .eql)) ∨ (∃ ad l cp, X = .slice (some ad) l cp ∧ b = !(op == .eql))) → Eff.ok c v ups = ans (.bool b) → Does P T w0 D0 N s a w D o v ups := by
    intro e b X ht hop hX hor heq
    obtain ⟨_, rfl, rfl⟩ := ans_inj heq.symm
    rw [ht] at htd
    simp only [TDok] at htd
    refine .pure h (x := .bool b) ?_ (.elem (.one rfl (.bool b)))
    have key : ∀ (r : Bool), (∀ d, (Op.equalIn (d + 1) t X (.slice none 0 0)).run P w = .ok r w) → (eqGuard op t x (.const (.slice none 0 0)) X (.slice none 0 0)).run P w = .ok () w → b = (if op = .eql then r else !r) → (execOp a.eval o).run P w = .ok (.value (.bool b)) w := by
      intro r hr hg hb
      have hequal : (Op.equal t X (.slice none 0 0)).run P w = .ok r w := hr 9999
      have hbin : (binOp op t X (.slice none 0 0)).run P w = .ok (.bool b) w := by
        rcases hop with rfl | rfl
        · cases X <;> simp [binOp, hequal, hb]
        · cases X <;> simp [binOp, hequal, hb]
      simp only [execOp, ho, hX, ey, Sem.run_bind, hg, Result.andThen_ok, hbin]
      rfl
    rcases hor with ⟨rfl, rfl⟩ | ⟨ad, l, cp, rfl, rfl⟩
    · refine key true (fun d => by simp [Op.equalIn, Sem.run_bind, run_underlying htd]) (by rcases hop with rfl | rfl <;> rfl) ?_
      rcases hop with rfl | rfl <;> rfl
    · refine key false (fun d => by simp [Op.equalIn, Sem.run_bind, run_underlying htd]) (by rcases hop with rfl | rfl <;> rfl) ?_
      rcases hop with rfl | rfl <;> rfl
  have nil : ∀ {t' : Nat}, s.eval x = .nils t' → a.eval x = .slice none 0 0 := by
    intro t' e
    rw [e] at hv
    have := hv.one_inv rfl (by simp) (by simp) (by simp)
    generalize a.eval x = X at this
    cases this; rfl
  have non : ∀ {t' : Nat} {xs : List (Ty t')}, s.eval x = .slicen t' xs → ∃ ad l cp, a.eval x = .slice (some ad) l cp := by
    intro t' xs e
    rw [e] at hv
    have := hv.one_inv rfl (by simp) (by simp) (by simp)
    generalize a.eval x = X at this
    cases this with
    | slicen0 _ ad cp => exact ⟨_, _, _, rfl⟩
    | slicen d l a r => exact ⟨_, _, _, rfl⟩
  split at he
  · rename_i e1 e2 e3; exact fin _ true _ e2 (.inl rfl) (nil e3) (.inl ⟨rfl, rfl⟩) he.symm
  · rename_i e1 e2 e3; obtain ⟨ad, l, cp, e4⟩ := non e3; exact fin _ false _ e2 (.inl rfl) e4 (.inr ⟨_, _, _, rfl, rfl⟩) he.symm
  · rename_i e1 e2 e3; exact fin _ false _ e2 (.inr rfl) (nil e3) (.inl ⟨rfl, rfl⟩) he.symm
  · rename_i e1 e2 e3; obtain ⟨ad, l, cp, e4⟩ := non e3; exact fin _ true _ e2 (.inr rfl) e4 (.inr ⟨_, _, _, rfl, rfl⟩) he.symm
  · cases he

/-- an error compared with none -/
theorem snd_nilErr (hT : TabOK P T) (h : Inv T w0 D0 N s a w D gv) {op : BinOp} {t t2 : TypeId} {x y : Operand} (ho : o.op = .binOp op t x y t2) (hns : isNilS y = false) (hnI : isNilI y = true)
    (he : effOp T o d s.eval s.obj = .ok c v ups) : Does P T w0 D0 N s a w D o v ups := by
  unfold effOp at he; rw [ho] at he
  simp only [hns, hnI, cond_true, cond_false] at he
  have hy : y = .const .nilIface := by
    unfold isNilI at hnI
    split at hnI
    · rfl
    · cases hnI
  subst hy
  have ey : a.eval (.const .nilIface) = .nilIface := rfl
  have htd := hT.td t
  have hv := h.eval x
  unfold nilErr at he
  have fin : ∀ (e : GErr) (b : Bool), T.td t = .iface → (op = .eql ∨ op = .neq) → s.eval x = .err e → b = (if op = .eql then e.isNil else !e.isNil) → Eff.ok c v ups = ans (.bool b) → Does P T w0 D0 N s a w D o v ups := by
    intro e b ht hop hx hb heq
    obtain ⟨_, rfl, rfl⟩ := ans_inj heq.symm
    rw [ht] at htd
    obtain ⟨ms, htd⟩ := htd
    rw [hx] at hv
    have hr := hv.err_inv
    generalize hX : a.eval x = X at hr
    refine .pure h (x := .bool b) ?_ (.elem (.one rfl (.bool b)))
    have hequal : ∀ dd, (Op.equalIn (dd + 1) t X .nilIface).run P w = .ok e.isNil w := by
      intro dd
      cases hr <;> simp [Op.equalIn, Sem.run_bind, run_underlying htd, GErr.isNil]
    have hequal' : (Op.equal t X .nilIface).run P w = .ok e.isNil w := hequal 9999
    have hg : (eqGuard op t x (.const .nilIface) X .nilIface).run P w = .ok () w := by
      rcases hop with rfl | rfl
      · cases hr <;> simp [eqGuard]
      · cases hr <;> simp [eqGuard]
    have hbin : (binOp op t X .nilIface).run P w = .ok (.bool b) w := by
      subst hb
      rcases hop with rfl | rfl
      · cases hr <;> simp [binOp, hequal']
      · cases hr <;> simp [binOp, hequal']
    simp only [execOp, ho, hX, ey, Sem.run_bind, hg, Result.andThen_ok, hbin]
    rfl
  split at he
  · rename_i e1 e2 e3; exact fin _ _ e2 (.inl rfl) e3 rfl he.symm
  · rename_i e1 e2 e3; exact fin _ _ e2 (.inr rfl) e3 rfl he.symm
  · cases he
end
end V
namespace V
open Go
section
variable {Ty : Nat → Type} {T : Tab Ty} {P : Program}
variable {w0 : Base} {D0 : Nat → Prop} {N : Nat} {s : St Ty} {a : Act} {w : World} {D : Nat → Prop} {gv : Nat → Option GObj}
variable {specs : Nat → Option (FSpec Ty)} {o : Oper} {v : AV Ty} {ups : List (Nat × Obj Ty)}

theorem RepC.flat (hT : TabOK P T) {D' : Nat → Prop} {gv' : Nat → Option GObj} {cs : List Value} (h : RepC T w D gv v cs) (hf : v.flat T = true) : RepC T w D' gv' v cs := by
  have hl : ∀ (t : Nat) (xs : List (Ty t)), T.flatTy t = true → (encs T t xs).flat T = true := by
    intro t xs ht
    induction xs with
    | nil => rfl
    | cons x r ih => simp only [encs, List.map_cons, listAV, AV.flat, Bool.and_eq_true] at ih ⊢; exact ⟨hT.flat t x ht, ih⟩
  induction h with
  | bool b => exact .bool b
  | int k n => exact .int k n
  | str s => exact .str s
  | nilp => exact .nilp
  | nils t => exact .nils t
  | nil => exact .nil
  | cons _ _ i1 i2 => simp only [AV.flat, Bool.and_eq_true] at hf; exact .cons (i1 hf.1) (i2 hf.2)
  | arr l _ ih => exact .arr l (ih (hl _ _ hf))
  | ifaceS a _ ih => exact .ifaceS a (ih hf)
  | ifaceA a _ ih => exact .ifaceA a (ih hf)
  | _ => cases hf

theorem RepV.flat (hT : TabOK P T) {D' : Nat → Prop} {gv' : Nat → Option GObj} {x : Value} (h : RepV T w D gv v x) (hf : v.flat T = true) : RepV T w D' gv' v x := by
  have he : ∀ {v : AV Ty} {x : Value}, RepE T w D gv v x → v.flat T = true → RepE T w D' gv' v x := by
    intro v x h hf
    cases h with
    | undef => cases hf
    | skp => cases hf
    | agg a h => exact .agg a (h.flat hT hf)
    | one a h => exact .one a (h.flat hT hf)
  cases h with
  | elem h => exact .elem (he h hf)
  | @tup vs xs h =>
    refine .tup ?_
    simp only [AV.flat] at hf
    induction h with
    | nil => exact .nil
    | cons h _ ih => simp only [AV.flat, Bool.and_eq_true] at hf; exact .cons (he h hf.1) (ih hf.2)

theorem RepV.regv (hT : TabOK P T) {gv' : Nat → Option GObj} {x : Value} (h : RepV T w D gv v x) (hi : v.ids = []) : RepV T w D gv' v x := by
  have he : ∀ {v : AV Ty} {x : Value}, RepE T w D gv v x → v.ids = [] → RepE T w D gv' v x := by
    intro v x h hi
    cases h with
    | undef => exact .undef _
    | skp => exact .skp
    | agg a h => exact .agg a (h.regv hT hi)
    | one a h => exact .one a (h.regv hT hi)
  cases h with
  | elem h => exact .elem (he h hi)
  | @tup vs xs h =>
    refine .tup ?_
    simp only [AV.ids] at hi
    induction h with
    | nil => exact .nil
    | cons h _ ih => simp only [AV.ids, List.append_eq_nil_iff] at hi; exact .cons (he h hi.1) (ih hi.2)

theorem settleV_rep (hT : TabOK P T) {Own : Nat → Prop} {ob : Nat → Obj Ty} (hob : ∀ o, ObjOK T w Own D gv o (ob o)) {D' : Nat → Prop} (hD : ∀ b, D b → D' b) {v : AV Ty} {x : Value}
    (h : RepV T w D gv v x) (hs : ∀ b, blocksOf ob gv v.shares b → D' b) : RepV T w D' gv (settle T ob v) x := by
  have he : ∀ {v : AV Ty} {x : Value}, RepE T w D gv v x → (∀ b, blocksOf ob gv v.shares b → D' b) → RepE T w D' gv (settle T ob v) x := by
    intro v x h hs
    cases h with
    | undef => exact .undef _
    | skp => exact .skp
    | agg a h => exact .agg (by rw [settle_isAgg]; exact a) (settle_rep hT hob hD h hs)
    | one a h => exact .one (by rw [settle_isAgg]; exact a) (settle_rep hT hob hD h hs)
  cases h with
  | elem h => exact .elem (he h hs)
  | @tup vs xs h =>
    refine .tup ?_
    simp only [AV.shares] at hs
    induction h with
    | nil => exact .nil
    | cons h _ ih =>
      refine .cons (he h fun b ⟨o1, ho1, r⟩ => hs b ⟨o1, by simp [AV.shares, ho1], r⟩) (ih fun b ⟨o1, ho1, r⟩ => hs b ⟨o1, by simp [AV.shares, ho1], r⟩)

/-- the values that a call is given -/
inductive RepL (T : Tab Ty) (w : World) (D : Nat → Prop) : List (AV Ty) → List Value → Prop
  | nil : RepL T w D [] []
  | cons {v x vs xs} : RepV T w D (fun _ => none) v x → RepL T w D vs xs → RepL T w D (v :: vs) (x :: xs)

/-- what a function's contract says: if its abstract fellow answers, it returns that, and all that was there is as it was -/
def FOK (P : Program) (T : Tab Ty) (f : Nat) (sp : FSpec Ty) : Prop := ∀ (k : Nat) (args : List (AV Ty)) (r : AV Ty), sp.runK k args (AV Ty) some = some r →
  ∀ (w : World) (D : Nat → Prop) (vals : List Value), GlobOK T w → (∀ b, D b → b < w.heap.size) → RepL T w D args vals →
    Calls P f vals.toArray w fun e w' => ∃ x, e = .returned x ∧ RepV T w' (fun b => (sp.alias = true ∧ D b) ∨ (w.heap.size ≤ b ∧ b < w'.heap.size)) (fun _ => none) r x ∧ w.grownBy w' none


def Callable (P : Program) (f : Nat) : Prop := ∀ (args : Array Value) (w : World), (callFunc f args).run P w = .ok (.enter f args) w

/-- errors.As: whether there is a number, and then it is laid down -/
def AsOK (P : Program) (T : Tab Ty) : Prop := T.asOn = true → Callable P T.asFn ∧ ∀ (W : World) (D : Nat → Prop) (e : GErr) (x : Value) (t : Nat) (ty : TypeId) (old : Int), GlobOK T W → (∀ b, D b → b < W.heap.size) → ErrRep T W D e x →
  W.heap[t]? = some (.cells #[.int .i64 old] ty (0, 0)) → ¬ D t → Calls P T.asFn #[x, .iface T.errnoPtr (.pointer (some ⟨t, 0, none⟩))] W fun r w' => r = .returned (.bool e.first.isSome) ∧
    W.grownBy w' (some t) ∧ w'.heap[t]? = some (.cells #[.int .i64 (e.first.getD old)] ty (0, 0))

structure SpecsOK (P : Program) (T : Tab Ty) (specs : Nat → Option (FSpec Ty)) : Prop where
  cmp : CmpOK P T
  as : AsOK P T
  fn : ∀ f sp, specs f = some sp → FOK P T f sp ∧ Callable P f

/-- more is known not to change -/
theorem Inv.more (h : Inv T w0 D0 N s a w D gv) {D' : Nat → Prop} (hD : ∀ b, D b → D' b) (hlt : ∀ b, D' b → b < w.heap.size) (hnew : ∀ b, D' b → D b ∨ w0.Own b)
    (hl : ∀ o g b, (s.obj o).live = true → gv o = some g → g.blk = some b → ¬ D' b) : Inv T w0 D0 N s a w D' gv :=
  { defers := h.defers, size := h.size, env := fun t => (h.env t).mono hD (fun _ _ => rfl) (fun _ _ h => h),
    obj := fun o => (h.obj o).mono hD (fun _ _ => rfl) (fun _ _ h => h) (fun h => h) (fun hlv g b hg hb => ⟨rfl, hl o g b hlv hg hb⟩),
    apart := h.apart, grown := h.grown, dold := fun b hb => hD b (h.dold b hb), dlt := hlt,
    dnew := fun b hb => (hnew b hb).elim (h.dnew b) .inr, glob := h.glob }

theorem snd_call (hT : TabOK P T) (hS : SpecsOK P T specs) (h : Inv T w0 D0 N s a w D gv) {cx : Operand} {args : Array Operand} {tys : Array TypeId} (ho : o.op = .call { callee := .value cx, args := args, argTypes := tys })
    {sp : FSpec Ty} {as : List (AV Ty)} (he : callE specs T o s.eval s.obj = some (sp, as, ups)) {k : Nat} {r : AV Ty} (hr : sp.runK k as (AV Ty) some = some r)
    {K : Act → World → Prop} {Q : Exit → Act → World → Prop} (hd : ∀ d, o.dst = some d → d < N) (hK : ∀ a' w', Gam T w0 D0 N (s.put o.dst r ups) a' w' → K a' w') : o.wp P a w K Q := by
  unfold callE at he; rw [ho] at he
  simp only at he
  split at he
  case h_2 => cases he
  rename_i f hcx
  have hfx := h.eval cx
  rw [hcx] at hfx
  have hfv := hfx.func_inv
  split at he
  case h_2 => cases he
  rename_i sp' hsp
  cases hids : (args.toList.all fun a => (settle T s.obj (s.eval a)).ids.isEmpty) with
  | false => rw [hids] at he; cases he
  | true =>
    rw [hids] at he
    simp only [cond_true, Option.some.injEq, Prod.mk.injEq] at he
    obtain ⟨rfl, rfl, rfl⟩ := he
    obtain ⟨hF, hcall⟩ := hS.fn f sp' hsp
    have hidsL : ∀ x ∈ args.toList, (settle T s.obj (s.eval x)).ids = [] := fun x hx => by
      have := List.all_eq_true.1 hids x hx
      simpa using this
    -- the world in which the arguments are read
    have main : ∀ (D1 : Nat → Prop), (∀ b, D b → D1 b) → (∀ b, blocksOf s.obj gv (args.toList.flatMap fun a => (s.eval a).shares) b → D1 b) → RepL T w D1 (args.toList.map fun a => settle T s.obj (s.eval a)) (args.toList.map a.eval) := by
      intro D1 h1 h2
      have key : ∀ (l : List Operand), (∀ x ∈ l, x ∈ args.toList) → RepL T w D1 (l.map fun a => settle T s.obj (s.eval a)) (l.map a.eval) := by
        intro l
        induction l with
        | nil => intro _; exact .nil
        | cons x l ih =>
          intro hl
          refine .cons ((settleV_rep hT h.obj h1 (h.eval x) fun b ⟨o1, ho1, r⟩ => h2 b ⟨o1, List.mem_flatMap.2 ⟨x, hl x (by simp), ho1⟩, r⟩).regv hT (hidsL x (hl x (by simp)))) (ih fun y hy => hl y (by simp [hy]))
      exact key _ fun _ h => h
    have enter : (execOp a.eval o).run P w = .ok (.enter f (args.toList.map a.eval).toArray) w := by
      simp only [execOp, ho, resolve, hfv, Deferred.ofValue, Sem.run_bind, Sem.run_pure, Result.andThen_ok, invoke]
      have : (#[] ++ args.map a.eval ++ #[] : Array Value) = (args.toList.map a.eval).toArray := by apply Array.ext'; simp
      rw [this]
      exact hcall _ _
    unfold Oper.wp
    rw [enter, Oper.upon_enter]
    have fin : ∀ (s1 : St Ty) (D1 D2 : Nat → Prop) (al : Prop), s1.env = s.env → s1.obj = Obj.upd s.obj (cond sp'.alias ((args.toList.flatMap fun a => (s.eval a).shares).map (freeze s.obj)) []) → Inv T w0 D0 N s1 a w D1 gv → (al → ∀ b, D2 b → D1 b) →
        ∀ (w' : World) (x : Value), RepV T w' (fun b => (al ∧ D2 b) ∨ (w.heap.size ≤ b ∧ b < w'.heap.size)) (fun _ => none) r x → w.grownBy w' none → K (a.put o.dst x) w' := by
      intro s1 D1 D2 al he1 he2 hinv hal w' x hv hg
      have hw := hinv.world hg
      have hm := hw.more (D' := fun b => D1 b ∨ (w.heap.size ≤ b ∧ b < w'.heap.size)) (fun b h => .inl h) (fun b hb => hb.elim (hw.dlt b) (·.2)) (fun b hb => hb.elim .inl fun hb => .inr (.inr (Nat.le_trans h.grown.size hb.1))) (fun o1 g b hl hgo hb hb2 => by
        rcases hb2 with hb2 | hb2
        · exact live_notD (hinv.obj o1) hl hgo hb hb2
        · have := (live_blk (hinv.obj o1) hl hgo hb).1
          omega)
      have hv2 : RepV T w' (fun b => D1 b ∨ (w.heap.size ≤ b ∧ b < w'.heap.size)) gv r x := hv.mono (fun b hb => hb.elim (fun hb => .inl (hal hb.1 b hb.2)) .inr) (fun _ _ => rfl) (fun _ _ h => by cases h)
      refine hK _ _ ⟨fun b => D1 b ∨ (w.heap.size ≤ b ∧ b < w'.heap.size), gv, ?_⟩
      have hs1 : s1 = { s with obj := Obj.upd s.obj (cond sp'.alias ((args.toList.flatMap fun a => (s.eval a).shares).map (freeze s.obj)) []) } := by
        cases s1; simp only at he1 he2; rw [he1, he2]
      rw [hs1] at hm
      exact hm.put_ups hd hv2
    cases hal : sp'.alias with
    | false =>
      have hblk : ∀ b, (D b ∨ blocksOf s.obj gv (args.toList.flatMap fun a => (s.eval a).shares) b) → b < w.heap.size := fun b hb => hb.elim (h.dlt b) fun ⟨o1, _, hl, g, hg, hb⟩ => (live_blk (h.obj o1) hl hg hb).1
      refine (hF k _ r hr w (fun b => D b ∨ blocksOf s.obj gv (args.toList.flatMap fun a => (s.eval a).shares) b) _ h.globOK hblk (main _ (fun b h => .inl h) (fun b h => .inr h))).mono ?_
      rintro e w' ⟨x, rfl, hv, hg⟩
      refine fin s D _ (sp'.alias = true) rfl (by rw [hal]; rfl) h (fun e => by rw [hal] at e; cases e) w' x hv hg
    | true =>
      obtain ⟨D', hD, hsh, hback, hinv⟩ := h.freeze hT (args.toList.flatMap fun a => (s.eval a).shares)
      refine (hF k _ r hr w D' _ h.globOK (fun b hb => hinv.dlt b hb) (main D' hD hsh)).mono ?_
      rintro e w' ⟨x, rfl, hv, hg⟩
      refine fin { s with obj := Obj.upd s.obj ((args.toList.flatMap fun a => (s.eval a).shares).map (V.freeze s.obj)) } D' D' (sp'.alias = true) rfl (by rw [hal]; rfl) hinv (fun _ b h => h) w' x hv hg

theorem snd_as (hS : SpecsOK P T specs) (h : Inv T w0 D0 N s a w D gv) {cx : Operand} {args : Array Operand} {tys : Array TypeId} (ho : o.op = .call { callee := .value cx, args := args, argTypes := tys })
    (he : asE T o s.eval s.obj = some (v, ups)) {K : Act → World → Prop} {Q : Exit → Act → World → Prop} (hd : ∀ d, o.dst = some d → d < N) (hK : ∀ a' w', Gam T w0 D0 N (s.put o.dst v ups) a' w' → K a' w') : o.wp P a w K Q := by
  unfold asE at he; rw [ho] at he
  simp only at he
  obtain ⟨al⟩ := args
  simp only at he
  split at he
  case h_2 => cases he
  rename_i f xa xt hcx
  have hfx := h.eval cx
  rw [hcx] at hfx
  have hfv := hfx.func_inv
  cases hon : (T.asOn && f == T.asFn) with
  | false => rw [hon] at he; cases he
  | true =>
    rw [hon, cond_true] at he
    simp only [Bool.and_eq_true, beq_iff_eq] at hon
    obtain ⟨hon, rfl⟩ := hon
    split at he
    case h_2 => cases he
    rename_i e p i hxa hxt
    cases hp : p == T.errnoPtr with
    | false => rw [hp] at he; cases he
    | true =>
      rw [hp, cond_true] at he
      have hp' : p = T.errnoPtr := by simpa using hp
      subst hp'
      split at he
      case h_2 => cases he
      rename_i old hobj
      cases he
      obtain ⟨hcall, hA⟩ := hS.as hon
      have ha := h.eval xa
      rw [hxa] at ha
      have ha := ha.err_inv
      have ht := h.eval xt
      rw [hxt] at ht
      have ht := ht.one_inv rfl (by simp) (by simp) (by simp)
      generalize hat : a.eval xt = X at ht
      cases ht with
      | ifaceA q => cases q
      | ifaceS q ht =>
        cases ht with
        | @ptr _ _ b hg _ =>
          have hob := h.obj i
          rw [hobj] at hob
          cases hob with
          | @var _ b' cs ty k1 k2 k3 k4 k5 =>
            rw [hg] at k1
            cases k1
            have hcs : cs = #[.int .i64 old] := by
              obtain ⟨cl⟩ := cs
              simp only at k5
              cases k5
              rfl
            subst hcs
            have enter : (execOp a.eval o).run P w = .ok (.enter T.asFn #[a.eval xa, a.eval xt]) w := by
              simp only [execOp, ho, resolve, hfv, Deferred.ofValue, Sem.run_bind, Sem.run_pure, Result.andThen_ok, invoke]
              simpa using hcall _ _
            unfold Oper.wp
            rw [enter, Oper.upon_enter, hat]
            refine (hA w D e _ b ty old h.globOK h.dlt ha k4 k3).mono ?_
            rintro r w' ⟨rfl, hgr, hheap⟩
            have hinv := h.write (o1 := i) (x := .var (.int .i64 (e.first.getD old))) (by rw [hobj]; rfl) hg rfl hgr (.var hg k2 k3 hheap (.int _ _))
            exact hK _ _ ⟨D, gv, hinv.put_ups hd (.elem (.one rfl (.bool _)))⟩
end
end V
namespace V
open Go
section
variable {Ty : Nat → Type} {T : Tab Ty} {P : Program}
variable {w0 : Base} {D0 : Nat → Prop} {N : Nat} {s : St Ty} {a : Act} {w : World} {D : Nat → Prop} {gv : Nat → Option GObj}
variable {specs : Nat → Option (FSpec Ty)} {o : Oper}

theorem eff_sound (hT : TabOK P T) (hC : CmpOK P T) (h : Inv T w0 D0 N s a w D gv) {d : Nat} {c : Bool} {v : AV Ty} {ups : List (Nat × Obj Ty)} (he : effOp T o d s.eval s.obj = .ok c v ups) (hc : c = true) : Does P T w0 D0 N s a w D o v ups := by
  cases ho : o.op with
  | move x => exact snd_move h (.inl ho) he
  | assign x => exact snd_move h (.inr ho) he
  | pick x y z => exact snd_pick h ho he
  | alloc t => exact snd_alloc hT h ho he
  | box t x => exact snd_box h ho he
  | build t ps => exact snd_build hT h ho he
  | buildSlice t n ps => exact snd_buildSlice hT h ho he
  | load t x => exact snd_load hT h ho he
  | store t x y => exact snd_store hT h ho he
  | nilCheck x => exact snd_nilCheck h ho he
  | binOp op t x y t2 =>
    cases hns : isNilS y with
    | true => exact snd_nilEq hT h ho hns he
    | false =>
      cases hnI : isNilI y with
      | true => exact snd_nilErr hT h ho hns hnI he
      | false =>
        by_cases hi : ∃ k k' m n, s.eval x = .int k m ∧ s.eval y = .int k' n
        · obtain ⟨k, k', m, n, hx, hy⟩ := hi
          exact snd_binOp_int h ho hx hy hns hnI he hc
        · exact snd_binOp_eq hC h ho hi hns hnI he hc
  | unOp op t x => exact snd_unOp h ho he
  | convert s t x => exact snd_convert hT h ho he
  | makeInterface t x => exact snd_makeInterface hT h ho he
  | makeSlice t l m => exact snd_makeSlice hT h ho he hc
  | slice t x lo hi mx => exact snd_slice hT h ho he hc
  | fieldAddr t x f => exact snd_fieldAddr hT h ho he
  | sliceToArrayPointer t x => exact snd_s2ap hT h ho he hc
  | field t x f => exact snd_field hT h ho he
  | indexAddr t x i => exact snd_indexAddr hT h ho he hc
  | index t x i => exact snd_index hT h ho he hc
  | extract x i => exact snd_extract h ho he
  | call cl =>
    obtain ⟨callee, args, tys⟩ := cl
    cases callee with
    | builtin b =>
      cases b with
      | len => exact snd_len hT h ho he
      | min => exact snd_min h ho he
      | max => exact snd_max h ho he
      | append => exact snd_append hT h ho he hc
      | copy => exact snd_copy hT h ho he
      | _ => unfold effOp at he; rw [ho] at he; simp [builtinAV] at he
    | value f => unfold effOp at he; rw [ho] at he; cases he
    | invoke r m => unfold effOp at he; rw [ho] at he; cases he
  | _ => unfold effOp at he; rw [ho] at he; cases he

theorem callE_op {sp : FSpec Ty} {as : List (AV Ty)} {ups : List (Nat × Obj Ty)} (h : callE specs T o s.eval s.obj = some (sp, as, ups)) : ∃ x args tys, o.op = .call { callee := .value x, args := args, argTypes := tys } := by
  unfold callE at h
  split at h
  · rename_i ho; exact ⟨_, _, _, ho⟩
  · cases h

theorem asE_op {v : AV Ty} {ups : List (Nat × Obj Ty)} (h : asE T o s.eval s.obj = some (v, ups)) : ∃ x args tys, o.op = .call { callee := .value x, args := args, argTypes := tys } := by
  unfold asE at h
  split at h
  · rename_i ho; exact ⟨_, _, _, ho⟩
  · cases h

/-- one operation -/
theorem op_sound (hT : TabOK P T) (hS : SpecsOK P T specs) (h : Gam T w0 D0 N s a w) {k : Nat} {s' : St Ty} (hd : ∀ d, o.dst = some d → d < N) (hk : opK specs T k o s some = some s')
    {K : Act → World → Prop} {Q : Exit → Act → World → Prop} (hK : ∀ a' w', Gam T w0 D0 N s' a' w' → K a' w') : o.wp P a w K Q := by
  obtain ⟨D, gv, h⟩ := h
  unfold opK at hk
  split at hk
  · rename_i sp args ups hc
    obtain ⟨f, as, tys, ho⟩ := callE_op hc
    rw [sp.nat] at hk
    cases hr : sp.runK k args (AV Ty) some with
    | none => rw [hr] at hk; cases hk
    | some r =>
      rw [hr] at hk
      simp only [Option.bind_some, Option.some.injEq] at hk
      subst hk
      exact snd_call hT hS h ho hc hr hd hK
  · split at hk
    · rename_i v ups ha
      simp only [Option.some.injEq] at hk
      subst hk
      obtain ⟨x, as, tys, ho⟩ := asE_op ha
      exact snd_as hS h ho ha hd hK
    split at hk
    · cases hk
    · rename_i c v ups he
      cases c with
      | false => cases hk
      | true =>
        simp only [cond_true, Option.some.injEq] at hk
        subst hk
        obtain ⟨x, w', D', gv', hrun, hv, hinv, _⟩ := eff_sound hT hS.cmp h he rfl
        have := hinv.put_ups hd hv
        rcases hrun with hrun | ⟨hrun, rfl⟩
        · exact wp_value hrun (hK _ _ ⟨_, _, this⟩)
        · exact wp_skip' hrun (hK _ _ ⟨_, _, this⟩)

theorem set_same {t : Nat} {v : AV Ty} (h : s.env t = v) : s.set t v = s := by
  cases s with
  | mk env obj =>
    simp only [St.set, St.mk.injEq, and_true]
    funext i
    by_cases e : i = t
    · subst e; simp only [beq_self_eq_true, cond_true]; exact h.symm
    · have : (i == t) = false := by simpa using e
      simp [this]

/-- whether a guarded operation is carried out -/
theorem guard_sound {R : Type} (h : Gam T w0 D0 N s a w) {ops : List Oper} {yes no : St Ty → Option R} {r : R} (hg : guardK ops o s yes no = some r) :
    (Region.wanted o (yielded ops.toArray a.tmps) = true ∧ yes s = some r) ∨ (Region.wanted o (yielded ops.toArray a.tmps) = false ∧ no s = some r) := by
  obtain ⟨D, gv, h⟩ := h
  unfold guardK at hg
  unfold Region.wanted
  split at hg
  · rename_i e; rw [e]; exact .inl ⟨rfl, hg⟩
  · rename_i g want e
    rw [e]
    simp only
    split at hg
    case h_2 => cases hg
    rename_i t ht
    have hy : ∀ x, a.tmps.getD t Go.undef = x → (∀ b, x = .bool b → yielded ops.toArray a.tmps g = some b) ∧ (x = Go.undef → yielded ops.toArray a.tmps g = none) := by
      intro x hx
      have hb : ((ops.toArray[g]?).bind (·.dst)) = some t := by simpa using ht
      refine ⟨fun b e => ?_, fun e => ?_⟩
      · subst e
        unfold yielded
        rw [hb]
        simp only [Option.bind_some]
        have : a.tmps[t]? = some (.bool b) := by
          cases hq : a.tmps[t]? with
          | none => simp [Array.getD_eq_getD_getElem?, hq, Go.undef] at hx
          | some y => simp [Array.getD_eq_getD_getElem?, hq] at hx; rw [hx]
        rw [this]
      · subst e
        unfold yielded
        rw [hb]
        simp only [Option.bind_some]
        cases hq : a.tmps[t]? with
        | none => rfl
        | some y =>
          simp [Array.getD_eq_getD_getElem?, hq] at hx
          subst hx
          rfl
    have hv := h.env t
    split at hg
    · rename_i b hb
      rw [hb] at hv
      have := (hy _ hv.bool_inv).1 b rfl
      rw [this]
      cases b <;> cases want <;> simp only [cond_true, cond_false] at hg <;> rw [set_same hb] at hg
      · exact .inl ⟨rfl, hg⟩
      · exact .inr ⟨rfl, hg⟩
      · exact .inr ⟨rfl, hg⟩
      · exact .inl ⟨rfl, hg⟩
    · rename_i hb
      rw [hb] at hv
      have hu : a.tmps.getD t Go.undef = Go.undef := by
        cases hv with
        | elem hv => generalize a.tmps.getD t Go.undef = y at hv; cases hv with
          | skp => rfl
          | one _ h => cases h
          | agg h _ => cases h
      have := (hy _ hu).2 rfl
      rw [this]
      exact .inr ⟨rfl, hg⟩
    · cases hg

theorem put_skp (h : Gam T w0 D0 N s a w) (hd : ∀ d, o.dst = some d → d < N) : Gam T w0 D0 N (s.put o.dst .skp []) (a.put o.dst Go.undef) w := by
  obtain ⟨D, gv, h⟩ := h
  exact ⟨D, gv, h.put hd (.elem .skp)⟩

/-- operations, one behind the other -/
theorem ops_sound (hT : TabOK P T) (hS : SpecsOK P T specs) {k : Nat} {ops : List Oper} {Q : Exit → Act → World → Prop} : ∀ (todo : List Oper) {s s' : St Ty} {a : Act} {w : World}, (∀ o ∈ todo, ∀ d, o.dst = some d → d < N) → Gam T w0 D0 N s a w →
    opsK specs T k ops todo s some = some s' → (∀ a' w', Gam T w0 D0 N s' a' w' → Q .normal a' w') → wpList P ops.toArray Q todo a w := by
  intro todo
  induction todo with
  | nil =>
    intro s s' a w _ h hk hQ
    simp only [opsK, Option.some.injEq] at hk
    subst hk
    exact hQ _ _ h
  | cons o r ih =>
    intro s s' a w hd h hk hQ
    simp only [opsK] at hk
    unfold wpList
    have hr : ∀ o ∈ r, ∀ d, o.dst = some d → d < N := fun o ho => hd o (List.mem_cons_of_mem _ ho)
    rcases guard_sound h hk with ⟨hw, hk⟩ | ⟨hw, hk⟩
    · rw [if_pos hw]
      left
      have hnat : opK specs T k o s (fun s => opsK specs T k ops r s some) = (opK specs T k o s some).bind fun s => opsK specs T k ops r s some := by
        unfold opK
        split
        · rename_i sp args ups _
          rw [sp.nat k args (St Ty), sp.nat k args (St Ty)]
          cases sp.runK k args (AV Ty) some <;> rfl
        · split
          · rfl
          · split
            · rfl
            · rename_i c _ _ _; cases c <;> rfl
      rw [hnat] at hk
      cases ho : opK specs T k o s some with
      | none => rw [ho] at hk; cases hk
      | some s1 =>
        rw [ho] at hk
        simp only [Option.bind_some] at hk
        exact op_sound hT hS h (hd o (by simp)) ho fun a' w' h' => ih hr h' hk hQ
    · have hw' : ¬ (Region.wanted o (yielded ops.toArray a.tmps) = true) := by rw [hw]; simp
      rw [if_neg hw']
      exact ih hr (put_skp h (hd o (by simp))) hk hQ
end
end V
namespace V
open Go
section
variable {Ty : Nat → Type} {T : Tab Ty} {P : Program}
variable {specs : Nat → Option (FSpec Ty)}

/-! ### an operation hangs on its operands, and on the objects that it looks into -/

theorem mem_shares_iface {t : Nat} {v : AV Ty} {i : Nat} (h : i ∈ v.shares) : i ∈ (AV.iface t v).shares := by
  cases v with
  | ptr o p => simp [AV.shares] at h
  | _ => exact h
theorem errOf_congr {ob ob' : Nat → Obj Ty} {t : Nat} {v : AV Ty} (h : ∀ i ∈ (AV.iface t v).shares, ob i = ob' i) : errOf T ob t v = errOf T ob' t v := by
  unfold errOf
  cases v with
  | ptr o p =>
    have e := h o (by simp [AV.shares])
    cases p with
    | nil => simp only [e]
    | cons _ _ => rfl
  | _ => rfl
theorem settle_congr {ob ob' : Nat → Obj Ty} {v : AV Ty} (h : ∀ i ∈ v.shares, ob i = ob' i) : settle T ob v = settle T ob' v := by
  induction v with
  | row o => simp only [settle]; rw [h o (by simp [AV.shares])]
  | view o p t n lo len => simp only [settle]; rw [h o (by simp [AV.shares])]
  | cons a b i1 i2 => simp only [settle]; rw [i1 fun i hi => h i (by simp [AV.shares, hi]), i2 fun i hi => h i (by simp [AV.shares, hi])]
  | tup a i1 => simp only [settle]; rw [i1 fun i hi => h i (by simpa [AV.shares] using hi)]
  | iface t a i1 => simp only [settle]; rw [i1 fun i hi => h i (mem_shares_iface hi), errOf_congr h]
  | _ => rfl

theorem lenOf_congr {ob ob' : Nat → Obj Ty} {v : AV Ty} (h : ∀ i ∈ v.shares, ob i = ob' i) : lenOf ob v = lenOf ob' v := by
  cases v with
  | row o => simp only [lenOf]; rw [h o (by simp [AV.shares])]
  | _ => rfl

theorem freeze_congr {ob ob' : Nat → Obj Ty} {l : List Nat} (h : ∀ i ∈ l, ob i = ob' i) : l.map (freeze ob) = l.map (freeze ob') :=
  List.map_congr_left fun i hi => by simp only [freeze]; rw [h i hi]

theorem mem_shares_ids (v : AV Ty) : ∀ i ∈ v.shares, i ∈ v.ids := by
  induction v with
  | cons a b i1 i2 => intro i hi; simp only [AV.shares, List.mem_append] at hi; simp only [AV.ids, List.mem_append]; exact hi.imp (i1 i) (i2 i)
  | tup a i1 => exact i1
  | iface t a i1 =>
    intro i hi
    cases a with
    | ptr o p => simpa [AV.shares, AV.ids] using hi
    | _ => exact i1 i hi
  | row o => intro i hi; simpa [AV.shares, AV.ids] using hi
  | view o p t n lo len => intro i hi; simpa [AV.shares, AV.ids] using hi
  | _ => intro i hi; simp [AV.shares] at hi

theorem eff_congr {o : Oper} {d : Nat} {ev ev' : Operand → AV Ty} {ob ob' : Nat → Obj Ty} (he : ∀ x ∈ o.op.operands, ev x = ev' x) (hb : ∀ i ∈ readsOf o d ev, ob i = ob' i) : effOp T o d ev ob = effOp T o d ev' ob' := by
  unfold effOp
  cases ho : o.op <;> simp only [ho, Op.operands, readsOf] at he hb <;> (try simp only)
  case move x => 
    unfold moveE
    split
    · rfl
    · rw [he x (by simp)]
  case assign x =>
    unfold moveE
    split
    · rfl
    · rw [he x (by simp)]
  case pick x y z => rw [he x (by simp), he y (by simp), he z (by simp)]
  case alloc t => rw [hb d (by simp)]
  case box t x => rw [hb d (by simp), he x (by simp)]
  case build t ps =>
    have : (ps.toList.map fun p => (p.1, ev p.2)) = ps.toList.map fun p => (p.1, ev' p.2) := List.map_congr_left fun p hp => by rw [he p.2 (by simp; exact ⟨p.1, by simpa using hp⟩)]
    rw [this]
  case buildSlice t n ps =>
    have hev : ∀ p ∈ ps.toList, ev p.2 = ev' p.2 := fun p hp => he p.2 (by simp; exact ⟨p.1, by simpa using hp⟩)
    have h1 : (ps.toList.map fun p => (p.1, settle T ob (ev p.2))) = ps.toList.map fun p => (p.1, settle T ob' (ev' p.2)) := List.map_congr_left fun p hp => by
      rw [← hev p hp, settle_congr fun i hi => hb i (List.mem_cons_of_mem _ (List.mem_flatMap.2 ⟨p, hp, hi⟩))]
    have h2 : (ps.toList.flatMap fun p => (ev p.2).shares) = ps.toList.flatMap fun p => (ev' p.2).shares := by
      rw [List.flatMap_def, List.flatMap_def, List.map_congr_left fun p hp => by rw [hev p hp]]
    have h3 : (ps.toList.flatMap fun p => (ev' p.2).shares).map (freeze ob) = (ps.toList.flatMap fun p => (ev' p.2).shares).map (freeze ob') := by
      rw [← h2]; exact freeze_congr fun i hi => hb i (List.mem_cons_of_mem _ hi)
    rw [hb d (by simp), h1, h2, h3]
  case load t x =>
    rw [← he x (by simp)]
    cases hx : ev x <;> simp only [hx, AV.ids] at hb <;> simp only
    · rw [hb _ (by simp)]
    · rw [hb _ (by simp)]
  case store t x y =>
    rw [← he x (by simp), ← he y (by simp)]
    cases hx : ev x <;> simp only [hx, AV.ids] at hb <;> simp only
    · rw [hb _ (by simp)]
    · rw [hb _ (by simp), settle_congr (v := ev y) fun i hi => hb i (by simp [hi]), freeze_congr (l := (ev y).shares) fun i hi => hb i (by simp [hi])]
  case nilCheck x => rw [he x (by simp)]
  case binOp op t x y t2 => rw [he x (by simp), he y (by simp)]
  case unOp op t x => rw [he x (by simp)]
  case convert a b x =>
    rw [← he x (by simp)]
    have hs : settle T ob (ev x) = settle T ob' (ev x) := settle_congr hb
    clear he hb
    revert hs
    generalize ev x = v
    intro hs
    split
    · rfl
    · rw [hs]
    · rfl
  case makeInterface t x => rw [he x (by simp)]
  case makeSlice t l m => rw [he l (by simp), he m (by simp), hb d (by simp)]
  case slice t x lo hi mx =>
    have h1 : lo.map ev = lo.map ev' := by cases lo with | none => rfl | some y => simp only [Option.map_some]; rw [he y (by simp)]
    have h2 : hi.map ev = hi.map ev' := by cases hi with | none => rfl | some y => simp only [Option.map_some]; rw [he y (by simp)]
    have h3 : mx.map ev = mx.map ev' := by cases mx with | none => rfl | some y => simp only [Option.map_some]; rw [he y (by simp)]
    rw [h1, h2, h3, ← he x (by simp)]
    simp only [sliceAV]
    rw [settle_congr hb, freeze_congr hb]
  case fieldAddr t x f => rw [he x (by simp)]
  case sliceToArrayPointer t x => rw [← he x (by simp), settle_congr hb, freeze_congr hb]
  case field t x f => rw [he x (by simp)]
  case indexAddr t x i =>
    rw [← he x (by simp), ← he i (by simp)]
    cases hx : ev x <;> simp only [hx, AV.shares] at hb <;> simp only
    rw [hb _ (by simp)]
  case index t x i => rw [he x (by simp), he i (by simp)]
  case extract x i => rw [he x (by simp)]
  case call c =>
    obtain ⟨callee, args, tys⟩ := c
    cases callee with
    | builtin b =>
      simp only [Call.operands] at he
      simp only
      have hargs : args.toList.map ev = args.toList.map ev' := List.map_congr_left fun x hx => he x (by simpa using hx)
      rw [← hargs]
      have hsh : ∀ x ∈ args.toList, ∀ i ∈ (ev x).shares, (b = .append → ob d = ob' d) ∧ ob i = ob' i := by
        intro x hx i hi
        cases b <;> first | exact ⟨fun e => (by cases e), hb i (List.mem_flatMap.2 ⟨x, hx, hi⟩)⟩ | exact ⟨fun _ => hb d (by simp), hb i (List.mem_cons_of_mem _ (List.mem_flatMap.2 ⟨x, hx, hi⟩))⟩
      have hd : b = .append → ob d = ob' d := fun e => by subst e; exact hb d (by simp)
      obtain ⟨al⟩ := args
      simp only at hsh
      clear hb he hargs
      cases b <;> try rfl
      case len =>
        match al with
        | [x] =>
          simp only [List.map_cons, List.map_nil, builtinAV]
          rw [lenOf_congr fun i hi => (hsh x (by simp) i hi).2]
        | [] => rfl
        | x :: y :: r => rfl
      case append =>
        match al with
        | [x, y] =>
          simp only [List.map_cons, List.map_nil, builtinAV]
          rw [settle_congr fun i hi => (hsh y (by simp) i hi).2]
          have key : ∀ {e : Nat} (zs : List (Ty e)) (c : Nat → Bool), appTo d ob (ev x) zs c = appTo d ob' (ev x) zs c := by
            intro e zs c
            unfold appTo
            rw [hd rfl]
            cases hx : ev x <;> try rfl
            rename_i o1
            have := (hsh x (by simp) o1 (by simp [hx, AV.shares])).2
            simp only [this]
          simp only [key]
        | [] => rfl
        | [x] => rfl
        | x :: y :: z :: r => rfl
      case copy =>
        match al with
        | [x, y] =>
          simp only [List.map_cons, List.map_nil, builtinAV]
          rw [settle_congr fun i hi => (hsh y (by simp) i hi).2]
          cases hx : ev x <;> try rfl
          · rename_i o1
            have := (hsh x (by simp) o1 (by simp [hx, AV.shares])).2
            simp only [this]
          · rename_i o1 _ _ _ _ _
            have := (hsh x (by simp) o1 (by simp [hx, AV.shares])).2
            simp only [this]
        | [] => rfl
        | [x] => rfl
        | x :: y :: z :: r => rfl
    | _ => rfl

theorem call_congr {o : Oper} {d : Nat} {ev ev' : Operand → AV Ty} {ob ob' : Nat → Obj Ty} (he : ∀ x ∈ o.op.operands, ev x = ev' x) (hb : ∀ i ∈ readsOf o d ev, ob i = ob' i) : callE specs T o ev ob = callE specs T o ev' ob' := by
  unfold callE
  split
  · rename_i f args tys ho
    simp only [ho, Op.operands, Call.operands] at he
    simp only [ho, readsOf] at hb
    have hev : ∀ x ∈ args.toList, ev x = ev' x := fun x hx => he x (by simp; exact .inr (by simpa using hx))
    have h1 : (args.toList.map fun a => settle T ob (ev a)) = args.toList.map fun a => settle T ob' (ev' a) := List.map_congr_left fun x hx => by
      rw [← hev x hx, settle_congr fun i hi => hb i (List.mem_flatMap.2 ⟨x, hx, hi⟩)]
    have h2 : (args.toList.flatMap fun a => (ev a).shares) = args.toList.flatMap fun a => (ev' a).shares := by
      rw [List.flatMap_def, List.flatMap_def, List.map_congr_left fun p hp => by rw [hev p hp]]
    have h3 : (args.toList.flatMap fun a => (ev' a).shares).map (freeze ob) = (args.toList.flatMap fun a => (ev' a).shares).map (freeze ob') := by
      rw [← h2]; exact freeze_congr fun i hi => hb i hi
    have h4 : (args.toList.all fun a => (settle T ob (ev a)).ids.isEmpty) = args.toList.all fun a => (settle T ob' (ev' a)).ids.isEmpty := by
      have : ∀ (l : List Operand), (l.all fun a => (settle T ob (ev a)).ids.isEmpty) = ((l.map fun a => settle T ob (ev a)).all fun v => v.ids.isEmpty) := fun l => by simp [List.all_map, Function.comp_def]
      rw [this, h1]
      simp [List.all_map, Function.comp_def]
    have hf : ev f = ev' f := he f (by simp)
    rw [hf, h1, h2, h3, h4]
  · rfl
end
end V
namespace V
open Go

/-! ### writes to one place, some of them carried out -/
def foldL {X : Type} : List (X → X) → (Nat → Bool) → X → X
  | [], _, x => x
  | f :: r, L, x => foldL r (fun j => L (j + 1)) (if L 0 = true then f x else x)

theorem foldL_agree {X : Type} : ∀ (fs : List (X → X)) (L M : Nat → Bool) (x : X), (∀ j f, fs[j]? = some f → f ≠ id → L j = M j) → foldL fs L x = foldL fs M x := by
  intro fs
  induction fs with
  | nil => intro L M x _; rfl
  | cons f r ih =>
    intro L M x h
    simp only [foldL]
    have h0 : (if L 0 = true then f x else x) = (if M 0 = true then f x else x) := by
      by_cases hf : f = id
      · subst hf; simp
      · rw [h 0 f rfl hf]
    rw [h0]
    exact ih _ _ _ fun j g hg hne => h (j + 1) g (by simpa using hg) hne

theorem foldL_id {X : Type} : ∀ (fs : List (X → X)) (L : Nat → Bool) (x : X), (∀ j g, fs[j]? = some g → L j = true → g = id) → foldL fs L x = x := by
  intro fs
  induction fs with
  | nil => intro L x _; rfl
  | cons f r ih =>
    intro L x h
    simp only [foldL]
    have h0 : (if L 0 = true then f x else x) = x := by
      by_cases hl : L 0 = true
      · rw [if_pos hl, h 0 f rfl hl]; rfl
      · rw [if_neg hl]
    rw [h0]
    exact ih _ _ fun j g hg hl => h (j + 1) g (by simpa using hg) hl

theorem foldL_insert {X : Type} : ∀ (fs : List (X → X)) (i : Nat) (f : X → X) (L : Nat → Bool) (x : X), fs[i]? = some f → L i = false → (∀ j g, i < j → fs[j]? = some g → L j = true → g = id) →
    foldL fs (fun j => j == i || L j) x = f (foldL fs L x) := by
  intro fs
  induction fs with
  | nil => intro i f L x h; simp at h
  | cons f0 r ih =>
    intro i f L x h hl hid
    cases i with
    | zero =>
      simp only [List.getElem?_cons_zero, Option.some.injEq] at h
      subst h
      simp only [foldL, hl, Bool.false_eq_true, if_false, beq_self_eq_true, Bool.true_or, if_true]
      have e1 : foldL r (fun j => L (j + 1)) x = x := foldL_id r _ x fun j g hg hlj => hid (j + 1) g (by omega) (by simpa using hg) hlj
      rw [e1]
      exact foldL_id r _ _ fun j g hg hlj => hid (j + 1) g (by omega) (by simpa using hg) (by simpa using hlj)
    | succ i =>
      simp only [foldL]
      have h0 : (if ((0 == i + 1 || L 0) : Bool) = true then f0 x else x) = (if L 0 = true then f0 x else x) := by simp
      rw [h0]
      have := ih i f (fun j => L (j + 1)) (if L 0 = true then f0 x else x) (by simpa using h) hl fun j g hj hg hlj => hid (j + 1) g (by omega) (by simpa using hg) hlj
      rw [← this]
      congr 1
      funext j
      simp

section
variable {Ty : Nat → Type} {T : Tab Ty} {P : Program}
variable {specs : Nat → Option (FSpec Ty)} {k : Nat}

structure Rec (Ty : Nat → Type) where
  v : AV Ty
  ups : List (Nat × Obj Ty)

def selGo : List Oper → List (Rec Ty) → (Nat → Bool) → St Ty → St Ty
  | o :: r, c :: cs, L, s => selGo r cs (fun j => L (j + 1)) (if L 0 = true then s.put o.dst c.v c.ups else s)
  | _, _, _, s => s

def envW (t : Nat) (o : Oper) (c : Rec Ty) : AV Ty → AV Ty := if o.dst = some t then fun _ => c.v else id
def objW (x : Nat) (c : Rec Ty) : Obj Ty → Obj Ty := if x ∈ c.ups.map (·.1) then fun y => Obj.upd (fun _ => y) c.ups x else id

theorem put_env (s : St Ty) (o : Oper) (c : Rec Ty) (t : Nat) : (s.put o.dst c.v c.ups).env t = envW t o c (s.env t) := by
  unfold envW St.put
  cases hd : o.dst with
  | none => rfl
  | some d =>
    by_cases h : t = d
    · subst h; simp
    · have : (t == d) = false := by simpa using h
      have h2 : ¬ (some d = some t) := fun e => h (Option.some.inj e).symm
      simp only [this, cond_false, h2, if_false, id]

theorem upd_local (ups : List (Nat × Obj Ty)) (x : Nat) : ∀ (ob ob' : Nat → Obj Ty), ob x = ob' x → Obj.upd ob ups x = Obj.upd ob' ups x := by
  induction ups with
  | nil => intro ob ob' h; exact h
  | cons p r ih =>
    intro ob ob' h
    obtain ⟨i, y⟩ := p
    simp only [Obj.upd]
    apply ih
    simp only [h]
theorem upd_out (ups : List (Nat × Obj Ty)) (x : Nat) (hx : x ∉ ups.map (·.1)) : ∀ (ob : Nat → Obj Ty), Obj.upd ob ups x = ob x := by
  induction ups with
  | nil => intro ob; rfl
  | cons p r ih =>
    intro ob
    obtain ⟨i, y⟩ := p
    simp only [List.map_cons, List.mem_cons, not_or] at hx
    simp only [Obj.upd]
    rw [ih hx.2]
    have : (x == i) = false := by simpa using hx.1
    simp [this]
theorem put_obj (s : St Ty) (o : Oper) (c : Rec Ty) (x : Nat) : (s.put o.dst c.v c.ups).obj x = objW x c (s.obj x) := by
  unfold objW St.put
  simp only
  by_cases hx : x ∈ c.ups.map (·.1)
  · rw [if_pos hx]; exact upd_local _ _ _ _ rfl
  · rw [if_neg hx]; exact upd_out _ _ hx _

theorem sel_env (t : Nat) : ∀ (ops : List Oper) (recs : List (Rec Ty)) (L : Nat → Bool) (s : St Ty), (selGo ops recs L s).env t = foldL (ops.zipWith (envW t) recs) L (s.env t) := by
  intro ops
  induction ops with
  | nil => intro recs L s; cases recs <;> rfl
  | cons o r ih =>
    intro recs L s
    cases recs with
    | nil => rfl
    | cons c cs =>
      simp only [selGo, List.zipWith_cons_cons, foldL, ih]
      congr 1
      split
      · exact put_env s o c t
      · rfl
theorem sel_obj (x : Nat) : ∀ (ops : List Oper) (recs : List (Rec Ty)) (L : Nat → Bool) (s : St Ty), (selGo ops recs L s).obj x = foldL (ops.zipWith (fun _ c => objW x c) recs) L (s.obj x) := by
  intro ops
  induction ops with
  | nil => intro recs L s; cases recs <;> rfl
  | cons o r ih =>
    intro recs L s
    cases recs with
    | nil => rfl
    | cons c cs =>
      simp only [selGo, List.zipWith_cons_cons, foldL, ih]
      congr 1
      split
      · exact put_obj s o c x
      · rfl

theorem sel_insert {ops : List Oper} {recs : List (Rec Ty)} {L : Nat → Bool} {s : St Ty} {i : Nat} {o : Oper} {c : Rec Ty} (ho : ops[i]? = some o) (hc : recs[i]? = some c) (hl : L i = false)
    (hd : ∀ j o', i < j → ops[j]? = some o' → L j = true → o.dst ≠ none → o'.dst ≠ o.dst)
    (hu : ∀ j c', i < j → recs[j]? = some c' → L j = true → ∀ x ∈ c.ups.map (·.1), x ∉ c'.ups.map (·.1)) :
    selGo ops recs (fun j => j == i || L j) s = (selGo ops recs L s).put o.dst c.v c.ups := by
  have he : ∀ t, (selGo ops recs (fun j => j == i || L j) s).env t = ((selGo ops recs L s).put o.dst c.v c.ups).env t := by
    intro t
    rw [sel_env, put_env (selGo ops recs L s) o c t, sel_env]
    by_cases ht : o.dst = some t
    · refine foldL_insert _ i (envW t o c) L _ (by rw [List.getElem?_zipWith, ho, hc]) hl fun j g hj hg hlj => ?_
      rw [List.getElem?_zipWith] at hg
      split at hg
      · rename_i o' c' h1 h2
        cases hg
        have := hd j o' hj h1 hlj (by rw [ht]; simp)
        unfold envW
        rw [if_neg (by rw [← ht]; exact this)]
      · cases hg
    · have hid : envW t o c = id := by unfold envW; rw [if_neg ht]
      rw [hid]
      refine foldL_agree _ _ _ _ fun j g hg hne => ?_
      by_cases hji : j = i
      · subst hji
        rw [List.getElem?_zipWith, ho, hc] at hg
        cases hg
        exact absurd hid hne
      · have : (j == i) = false := by simpa using hji
        simp [this]
  have hb : ∀ x, (selGo ops recs (fun j => j == i || L j) s).obj x = ((selGo ops recs L s).put o.dst c.v c.ups).obj x := by
    intro x
    rw [sel_obj, put_obj (selGo ops recs L s) o c x, sel_obj]
    by_cases hx : x ∈ c.ups.map (·.1)
    · refine foldL_insert _ i (objW x c) L _ (by rw [List.getElem?_zipWith, ho, hc]) hl fun j g hj hg hlj => ?_
      rw [List.getElem?_zipWith] at hg
      split at hg
      · rename_i o' c' h1 h2
        cases hg
        unfold objW
        rw [if_neg (hu j c' hj h2 hlj x hx)]
      · cases hg
    · have hid : objW x c = id := by unfold objW; rw [if_neg hx]
      rw [hid]
      refine foldL_agree _ _ _ _ fun j g hg hne => ?_
      by_cases hji : j = i
      · subst hji
        rw [List.getElem?_zipWith, ho, hc] at hg
        cases hg
        exact absurd hid hne
      · have : (j == i) = false := by simpa using hji
        simp [this]
  cases h1 : selGo ops recs (fun j => j == i || L j) s with
  | mk e1 b1 =>
    cases h2 : (selGo ops recs L s).put o.dst c.v c.ups with
    | mk e2 b2 =>
      rw [h1, h2] at he hb
      congr 1
      · funext t; exact he t
      · funext x; exact hb x

/-- an operation's value, and what becomes of objects -/
def opV (specs : Nat → Option (FSpec Ty)) (T : Tab Ty) (k : Nat) (o : Oper) (s : St Ty) : Option (AV Ty × List (Nat × Obj Ty)) :=
  match callE specs T o s.eval s.obj with
  | some (sp, args, ups) => (sp.runK k args (AV Ty) some).map fun r => (r, ups)
  | none => match asE T o s.eval s.obj with
    | some x => some x
    | none => match effOp T o (o.dst.getD 0) s.eval s.obj with
      | .fail => none
      | .ok c v ups => cond c (some (v, ups)) none

theorem opK_eq {R : Type} (o : Oper) (s : St Ty) (K : St Ty → Option R) : opK specs T k o s K = (opV specs T k o s).bind fun x => K (s.put o.dst x.1 x.2) := by
  unfold opK opV
  cases hc : callE specs T o s.eval s.obj with
  | some x =>
    obtain ⟨sp, args, ups⟩ := x
    simp only
    rw [sp.nat]
    cases sp.runK k args (AV Ty) some <;> rfl
  | none =>
    simp only
    cases ha : asE T o s.eval s.obj with
    | some x => rfl
    | none =>
      simp only
      cases he : effOp T o (o.dst.getD 0) s.eval s.obj with
      | fail => rfl
      | ok c v ups => cases c <;> rfl
theorem opD_eq {R : Type} (o : Oper) (i an : Nat) (s : St Ty) (K : Acc → St Ty → Option R) : opD specs T k o i an s K = (opV specs T k o s).bind fun x => K ⟨i, an, readsOf o (o.dst.getD 0) s.eval, x.2.map (·.1)⟩ (s.put o.dst x.1 x.2) := by
  unfold opD opV
  cases hc : callE specs T o s.eval s.obj with
  | some x =>
    obtain ⟨sp, args, ups⟩ := x
    simp only
    rw [sp.nat]
    cases sp.runK k args (AV Ty) some <;> rfl
  | none =>
    simp only
    cases ha : asE T o s.eval s.obj with
    | some x => rfl
    | none =>
      simp only
      cases he : effOp T o (o.dst.getD 0) s.eval s.obj with
      | fail => rfl
      | ok c v ups => cases c <;> rfl

/-- whether a guarded operation is carried out -/
def wantB (ops : List Oper) (o : Oper) (s : St Ty) : Option Bool :=
  match o.guard with
  | none => some true
  | some (g, want) => match (ops[g]?).bind (·.dst) with
    | some t => match s.env t with
      | .bool b => some (b == want)
      | .skp => some false
      | _ => none
    | none => none

theorem guardK_eq {R : Type} (ops : List Oper) (o : Oper) (s : St Ty) (yes no : St Ty → Option R) : guardK ops o s yes no = match wantB ops o s with
    | some true => yes s
    | some false => no s
    | none => none := by
  unfold guardK wantB
  cases hg : o.guard with
  | none => rfl
  | some gw =>
    obtain ⟨g, want⟩ := gw
    simp only
    cases hb : (ops[g]?).bind (·.dst) with
    | none => rfl
    | some t =>
      simp only
      cases he : s.env t with
      | bool b =>
        simp only
        cases b <;> cases want <;> simp only [cond_true, cond_false] <;> rw [set_same he] <;> rfl
      | _ => rfl

inductive Canon (specs : Nat → Option (FSpec Ty)) (T : Tab Ty) (k : Nat) (ops : List Oper) : List Oper → List Nat → Nat → List Acc → St Ty → List (Rec Ty) → List Acc → St Ty → Prop
  | nil {an i l s} : Canon specs T k ops [] an i l s [] l s
  | run {o r an i l s v ups recs l' s'} : wantB ops o s = some true → opV specs T k o s = some (v, ups) →
      Canon specs T k ops r an.tail (i + 1) (addAcc ⟨i, an.headD 0, readsOf o (o.dst.getD 0) s.eval, ups.map (·.1)⟩ l) (s.put o.dst v ups) recs l' s' → Canon specs T k ops (o :: r) an i l s (⟨v, ups⟩ :: recs) l' s'
  | skip {o r an i l s recs l' s'} : wantB ops o s = some false → Canon specs T k ops r an.tail (i + 1) l (s.put o.dst .skp []) recs l' s' → Canon specs T k ops (o :: r) an i l s (⟨.skp, []⟩ :: recs) l' s'

theorem opsD_canon {R : Type} {ops : List Oper} {K : St Ty → Option R} {r : R} : ∀ (todo : List Oper) (an : List Nat) (i : Nat) (l : List Acc) (s : St Ty), opsD specs T k ops todo an i l s K = some r →
    ∃ recs l' s', Canon specs T k ops todo an i l s recs l' s' ∧ accOk l' = true ∧ K s' = some r := by
  intro todo
  induction todo with
  | nil =>
    intro an i l s h
    simp only [opsD] at h
    cases ha : accOk l with
    | false => rw [ha] at h; cases h
    | true => rw [ha] at h; exact ⟨[], l, s, .nil, ha, h⟩
  | cons o r ih =>
    intro an i l s h
    simp only [opsD, guardK_eq] at h
    split at h
    · rename_i hw
      rw [opD_eq] at h
      cases hv : opV specs T k o s with
      | none => rw [hv] at h; cases h
      | some x =>
        rw [hv] at h
        simp only [Option.bind_some] at h
        obtain ⟨recs, l', s', h1, h2, h3⟩ := ih _ _ _ _ h
        exact ⟨_, l', s', .run hw hv h1, h2, h3⟩
    · rename_i hw
      obtain ⟨recs, l', s', h1, h2, h3⟩ := ih _ _ _ _ h
      exact ⟨_, l', s', .skip hw h1, h2, h3⟩
    · cases h

theorem addAcc_sub (a : Acc) (l : List Acc) : (∀ x ∈ l, x ∈ addAcc a l) ∧ (a ∈ addAcc a l ∨ (a.reads = [] ∧ a.writes = [])) := by
  unfold addAcc
  split
  · rename_i h1 h2; exact ⟨fun x hx => hx, .inr ⟨h1, h2⟩⟩
  · exact ⟨fun x hx => List.mem_cons_of_mem _ hx, .inl (by simp)⟩

/-- what the run in the text's order tells of each operation -/
theorem Canon.spec {ops : List Oper} {todo : List Oper} {an : List Nat} {i : Nat} {l : List Acc} {s : St Ty} {recs : List (Rec Ty)} {l' : List Acc} {s' : St Ty} (h : Canon specs T k ops todo an i l s recs l' s') :
    recs.length = todo.length ∧ (∀ x ∈ l, x ∈ l') ∧ s' = selGo todo recs (fun _ => true) s ∧
    ∀ j o c, todo[j]? = some o → recs[j]? = some c →
      (wantB ops o (selGo todo recs (fun x => decide (x < j)) s) = some true ∧ opV specs T k o (selGo todo recs (fun x => decide (x < j)) s) = some (c.v, c.ups) ∧
        ((⟨i + j, an.getD j 0, readsOf o (o.dst.getD 0) (selGo todo recs (fun x => decide (x < j)) s).eval, c.ups.map (·.1)⟩ : Acc) ∈ l' ∨
          (readsOf o (o.dst.getD 0) (selGo todo recs (fun x => decide (x < j)) s).eval = [] ∧ c.ups.map (·.1) = []))) ∨
      (wantB ops o (selGo todo recs (fun x => decide (x < j)) s) = some false ∧ c = ⟨.skp, []⟩) := by
  have selz : ∀ (todo : List Oper) (recs : List (Rec Ty)) (s : St Ty), selGo todo recs (fun x => decide (x < 0)) s = s := by
    intro todo
    induction todo with
    | nil => intro recs s; cases recs <;> rfl
    | cons o r ih =>
      intro recs s
      cases recs with
      | nil => rfl
      | cons c cs =>
        have := ih cs s
        simpa [selGo] using this
  have sels : ∀ (o : Oper) (r : List Oper) (c : Rec Ty) (cs : List (Rec Ty)) (s : St Ty) (j : Nat), selGo (o :: r) (c :: cs) (fun x => decide (x < j + 1)) s = selGo r cs (fun x => decide (x < j)) (s.put o.dst c.v c.ups) := by
    intro o r c cs s j
    simp [selGo]
  induction h with
  | nil => exact ⟨rfl, fun x h => h, rfl, fun j o c h => by simp at h⟩
  | @run o r an i l s v ups recs l' s' hw hv hc ih =>
    obtain ⟨i1, i2, i3, i4⟩ := ih
    have hsub := addAcc_sub ⟨i, an.headD 0, readsOf o (o.dst.getD 0) s.eval, ups.map (·.1)⟩ l
    refine ⟨by simp [i1], fun x hx => i2 x (hsub.1 x hx), by rw [i3]; simp [selGo], fun j o' c' h1 h2 => ?_⟩
    cases j with
    | zero =>
      simp only [List.getElem?_cons_zero, Option.some.injEq] at h1 h2
      subst h1; subst h2
      rw [selz]
      refine .inl ⟨hw, hv, ?_⟩
      rcases hsub.2 with h3 | h3
      · left
        have := i2 _ h3
        have e : an.getD 0 0 = an.headD 0 := by cases an <;> rfl
        rw [Nat.add_zero, e]
        exact this
      · exact .inr h3
    | succ j =>
      simp only [List.getElem?_cons_succ] at h1 h2
      rw [sels]
      have := i4 j o' c' h1 h2
      have e : an.getD (j + 1) 0 = an.tail.getD j 0 := by cases an <;> simp
      rw [e, show i + (j + 1) = i + 1 + j by omega]
      exact this
  | @skip o r an i l s recs l' s' hw hc ih =>
    obtain ⟨i1, i2, i3, i4⟩ := ih
    refine ⟨by simp [i1], i2, by rw [i3]; simp [selGo], fun j o' c' h1 h2 => ?_⟩
    cases j with
    | zero =>
      simp only [List.getElem?_cons_zero, Option.some.injEq] at h1 h2
      subst h1; subst h2
      rw [selz]
      exact .inr ⟨hw, rfl⟩
    | succ j =>
      simp only [List.getElem?_cons_succ] at h1 h2
      rw [sels]
      have := i4 j o' c' h1 h2
      have e : an.getD (j + 1) 0 = an.tail.getD j 0 := by cases an <;> simp
      rw [e, show i + (j + 1) = i + 1 + j by omega]
      exact this
end
end V
namespace V
open Go

theorem binds_eq (e : Edge) : Region.binds .any e = Edge.binds e := by
  unfold Region.binds Edge.binds
  cases e.ground <;> rfl

/-! ### who comes ahead of whom -/

theorem ancOne_bit {acc : List Nat} {o : Oper} {j : Nat} (h : (ancOne acc o).testBit j = true) : ∃ e ∈ o.after, Edge.binds e = true ∧ (j = e.on ∨ (acc.getD e.on 0).testBit j = true) := by
  unfold ancOne at h
  have key : ∀ (l : List Edge) (m : Nat), (l.foldl (fun m e => cond (Edge.binds e) (m ||| (1 <<< e.on) ||| acc.getD e.on 0) m) m).testBit j = true →
      m.testBit j = true ∨ ∃ e ∈ l, Edge.binds e = true ∧ (j = e.on ∨ (acc.getD e.on 0).testBit j = true) := by
    intro l
    induction l with
    | nil => intro m h; exact .inl h
    | cons e r ih =>
      intro m h
      simp only [List.foldl_cons] at h
      rcases ih _ h with h | ⟨e', h1, h2⟩
      · cases hb : Edge.binds e with
        | false => rw [hb] at h; exact .inl h
        | true =>
          rw [hb, cond_true, Nat.testBit_or, Nat.testBit_or, Bool.or_eq_true, Bool.or_eq_true] at h
          rcases h with (h | h) | h
          · exact .inl h
          · refine .inr ⟨e, by simp, hb, .inl ?_⟩
            rw [Nat.shiftLeft_eq, Nat.one_mul, Nat.testBit_two_pow] at h
            simpa using (of_decide_eq_true h).symm
          · exact .inr ⟨e, by simp, hb, .inr h⟩
      · exact .inr ⟨e', List.mem_cons_of_mem _ h1, h2⟩
  rcases key _ _ h with h | ⟨e, h1, h2⟩
  · simp at h
  · exact ⟨e, by simpa using h1, h2⟩

theorem ancsGo_spec : ∀ (ops : List Oper) (acc : List Nat), (∀ i, i < acc.length → (ancsGo acc ops)[i]? = acc[i]?) ∧ (ancsGo acc ops).length = acc.length + ops.length ∧
    ∀ i o, ops[i]? = some o → (ancsGo acc ops)[acc.length + i]? = some (ancOne ((ancsGo acc ops).take (acc.length + i)) o) := by
  intro ops
  induction ops with
  | nil => intro acc; exact ⟨fun i _ => rfl, rfl, fun i o h => by simp at h⟩
  | cons o r ih =>
    intro acc
    obtain ⟨i1, i2, i3⟩ := ih (acc ++ [ancOne acc o])
    simp only [ancsGo]
    simp only [List.length_append, List.length_cons, List.length_nil] at i1 i2 i3
    refine ⟨fun i hi => ?_, by rw [i2]; simp; omega, fun i o' h => ?_⟩
    · rw [i1 i (by omega), List.getElem?_append_left hi]
    · cases i with
      | zero =>
        simp only [List.getElem?_cons_zero, Option.some.injEq] at h
        subst h
        rw [Nat.add_zero, i1 acc.length (by omega)]
        have : (ancsGo (acc ++ [ancOne acc o]) r).take acc.length = acc := by
          apply List.ext_getElem?
          intro j
          rw [List.getElem?_take]
          split
          · rename_i hj
            rw [i1 j (by omega), List.getElem?_append_left hj]
          · rename_i hj
            rw [List.getElem?_eq_none (by omega)]
        rw [this]
        simp
      | succ i =>
        have := i3 i o' (by simpa using h)
        rw [show acc.length + (i + 1) = acc.length + (0 + 1) + i by omega]
        exact this

theorem ancs_closed {ops : List Oper} {L : Nat → Bool} (hc : ∀ j o, L j = true → ops[j]? = some o → ∀ e ∈ o.after, Edge.binds e = true → L e.on = true) :
    ∀ (n i : Nat) (o : Oper), i < n → ops[i]? = some o → (∀ e ∈ o.after, Edge.binds e = true → L e.on = true) → ∀ j, ((ancs ops).getD i 0).testBit j = true → L j = true := by
  intro n
  induction n with
  | zero => intro i o h; omega
  | succ n ih =>
    intro i o hi ho hdep j hj
    obtain ⟨_, h2, h3⟩ := ancsGo_spec ops []
    have := h3 i o ho
    simp only [List.length_nil, Nat.zero_add] at this h2
    have hg : (ancs ops).getD i 0 = ancOne ((ancs ops).take i) o := by
      unfold ancs
      rw [List.getD_eq_getElem?_getD, this]; rfl
    rw [hg] at hj
    obtain ⟨e, he, hb, hor⟩ := ancOne_bit hj
    rcases hor with rfl | hor
    · exact hdep e he hb
    · have hlt : e.on < i := by
        apply Decidable.byContradiction
        intro hge
        have : ((ancs ops).take i).getD e.on 0 = 0 := by
          rw [List.getD_eq_getElem?_getD, List.getElem?_eq_none (by rw [List.length_take]; omega)]; rfl
        rw [this] at hor
        simp at hor
      have hget : ((ancs ops).take i).getD e.on 0 = (ancs ops).getD e.on 0 := by
        rw [List.getD_eq_getElem?_getD, List.getElem?_take, if_pos hlt, ← List.getD_eq_getElem?_getD]
      rw [hget] at hor
      have hilt : i < ops.length := (List.getElem?_eq_some_iff.1 ho).1
      have hoe : ∃ o', ops[e.on]? = some o' := ⟨_, List.getElem?_eq_getElem (by omega)⟩
      obtain ⟨o', ho'⟩ := hoe
      exact ih e.on o' (by omega) ho' (hc e.on o' (hdep e he hb) ho') j hor

/-! ### the temporaries -/

theorem rowsOf_get (ops : List Oper) : ∀ (l : List Oper) (as : List Nat) (i : Nat) (o : Oper) (a : Nat), l[i]? = some o → as[i]? = some a → (rowsOf ops l as)[i]? = some ⟨o, a, touchOf ops o⟩ := by
  intro l
  induction l with
  | nil => intro as i o a h; simp at h
  | cons x r ih =>
    intro as i o a h h2
    cases as with
    | nil => simp at h2
    | cons b bs =>
      cases i with
      | zero => simp only [List.getElem?_cons_zero, Option.some.injEq] at h h2; subst h; subst h2; rfl
      | succ i => simpa [rowsOf] using ih bs i o a (by simpa using h) (by simpa using h2)

theorem freeRow_spec {y : Row} : ∀ (l : List Row) (j : Nat), freeRow y j l = true → ∀ i x, l[i]? = some x → y.anc.testBit (j + i) = true ∨ (dstIn x.op y.touch = false ∧ dstIn y.op x.touch = false) := by
  intro l
  induction l with
  | nil => intro j _ i x h; simp at h
  | cons x r ih =>
    intro j h i z hz
    simp only [freeRow, Bool.and_eq_true, Bool.or_eq_true, Bool.not_eq_true'] at h
    cases i with
    | zero => simp only [List.getElem?_cons_zero, Option.some.injEq] at hz; subst hz; exact h.1
    | succ i =>
      have := ih (j + 1) h.2 i z (by simpa using hz)
      rwa [show j + 1 + i = j + (i + 1) by omega] at this

theorem freeRows_spec : ∀ (l seen : List Row), freeRows seen l = true → ∀ i y, l[i]? = some y →
    (∀ j x, j < seen.length + i → (seen ++ l)[j]? = some x → y.anc.testBit j = true ∨ (dstIn x.op y.touch = false ∧ dstIn y.op x.touch = false)) ∧
    (∀ e ∈ y.op.after, Edge.binds e = true → e.on < seen.length + i) := by
  intro l
  induction l with
  | nil => intro seen _ i y h; simp at h
  | cons z r ih =>
    intro seen h i y hy
    simp only [freeRows, Bool.and_eq_true] at h
    obtain ⟨⟨h1, h2⟩, h3⟩ := h
    cases i with
    | zero =>
      simp only [List.getElem?_cons_zero, Option.some.injEq] at hy; subst hy
      refine ⟨fun j x hj hx => ?_, fun e he hb => ?_⟩
      · rw [List.getElem?_append_left (by simpa using hj)] at hx
        have := freeRow_spec seen 0 h1 j x hx
        rwa [Nat.zero_add] at this
      · have := List.all_eq_true.1 h2 e (by simpa using he)
        simp only [hb, Bool.not_true, Bool.false_or] at this
        simpa [Nat.blt_eq] using this
    | succ i =>
      obtain ⟨k1, k2⟩ := ih (seen ++ [z]) h3 i y (by simpa using hy)
      simp only [List.length_append, List.length_cons, List.length_nil, List.append_assoc, List.cons_append, List.nil_append] at k1 k2
      refine ⟨fun j x hj hx => k1 j x (by omega) hx, fun e he hb => by have := k2 e he hb; omega⟩

theorem free_of {ops : List Oper} (h : freeRows [] (rowsOf ops ops (ancs ops)) = true) {i j : Nat} {o o' : Oper} (hji : j < i) (ho : ops[i]? = some o) (ho' : ops[j]? = some o') :
    ((ancs ops).getD i 0).testBit j = true ∨ (dstIn o' (touchOf ops o) = false ∧ dstIn o (touchOf ops o') = false) := by
  have hlen : (ancs ops).length = ops.length := by have := (ancsGo_spec ops []).2.1; simpa [ancs] using this
  have hi : i < ops.length := (List.getElem?_eq_some_iff.1 ho).1
  have e1 : (ancs ops)[i]? = some ((ancs ops).getD i 0) := by rw [List.getD_eq_getElem?_getD, List.getElem?_eq_getElem (by omega)]; rfl
  have e2 : (ancs ops)[j]? = some ((ancs ops).getD j 0) := by rw [List.getD_eq_getElem?_getD, List.getElem?_eq_getElem (by omega)]; rfl
  have := (freeRows_spec _ [] h i _ (rowsOf_get ops ops _ i o _ ho e1)).1 j _ (by simpa using hji) (by simpa using rowsOf_get ops ops _ j o' _ ho' e2)
  exact this

theorem back_of {ops : List Oper} (h : freeRows [] (rowsOf ops ops (ancs ops)) = true) {i : Nat} {o : Oper} (ho : ops[i]? = some o) : ∀ e ∈ o.after, Edge.binds e = true → e.on < i := by
  have hlen : (ancs ops).length = ops.length := by have := (ancsGo_spec ops []).2.1; simpa [ancs] using this
  have hi : i < ops.length := (List.getElem?_eq_some_iff.1 ho).1
  have e1 : (ancs ops)[i]? = some ((ancs ops).getD i 0) := by rw [List.getD_eq_getElem?_getD, List.getElem?_eq_getElem (by omega)]; rfl
  have := (freeRows_spec _ [] h i _ (rowsOf_get ops ops _ i o _ ho e1)).2
  simpa using this

theorem bit_or_one (m t j : Nat) : (m ||| 1 <<< t).testBit j = (m.testBit j || decide (t = j)) := by
  rw [Nat.testBit_or, Nat.shiftLeft_eq, Nat.one_mul, Nat.testBit_two_pow]

theorem touch_ops (ops : List Oper) (o : Oper) {t : Nat} (h : .tmp t ∈ o.op.operands) : (touchOf ops o).testBit t = true := by
  have k1 : ∀ (l : List Operand) (m : Nat), (m.testBit t = true ∨ .tmp t ∈ l) → (l.foldl (fun m x => match x with
    | .tmp t => m ||| (1 <<< t)
    | _ => m) m).testBit t = true := by
    intro l
    induction l with
    | nil => intro m h; exact h.resolve_right (by simp)
    | cons x r ih =>
      intro m h
      simp only [List.foldl_cons]
      apply ih
      rcases h with h | h
      · left
        cases x <;> simp only [bit_or_one, h, Bool.true_or]
      · rcases List.mem_cons.1 h with h | h
        · subst h; left; simp
        · exact .inr h
  unfold touchOf
  have := k1 o.op.operands.toList 0 (.inr (by simpa using h))
  simp only
  generalize (List.foldl _ 0 o.op.operands.toList) = m at this
  have k2 : ∀ m', m'.testBit t = true → (match o.dst with | some t => m' ||| 1 <<< t | none => m').testBit t = true := by
    intro m' h
    cases o.dst with
    | none => exact h
    | some d => simp [h]
  apply k2
  cases hg : o.guard with
  | none => exact this
  | some gw =>
    obtain ⟨g, wt⟩ := gw
    simp only
    cases (ops[g]?).bind (·.dst) with
    | none => exact this
    | some d => simp [this]

theorem touch_guard (ops : List Oper) (o : Oper) {g t : Nat} {want : Bool} (h : o.guard = some (g, want)) (ht : (ops[g]?).bind (·.dst) = some t) : (touchOf ops o).testBit t = true := by
  unfold touchOf
  have k2 : ∀ m', m'.testBit t = true → (match o.dst with | some t => m' ||| 1 <<< t | none => m').testBit t = true := by
    intro m' h
    cases o.dst with
    | none => exact h
    | some d => simp [h]
  apply k2
  rw [h]
  simp only [ht]
  simp

theorem touch_dst (ops : List Oper) (o : Oper) {t : Nat} (h : o.dst = some t) : (touchOf ops o).testBit t = true := by
  unfold touchOf
  simp only [h]
  simp

theorem dstIn_of {o : Oper} {t m : Nat} (h : o.dst = some t) (hm : m.testBit t = true) : dstIn o m = true := by
  unfold dstIn; rw [h]; exact hm

/-! ### the objects -/

theorem apart_spec {a b : List Nat} (h : apart a b = true) {x : Nat} (ha : x ∈ a) (hb : x ∈ b) : False := by
  have := List.all_eq_true.1 h x ha
  simp at this
  exact this hb

theorem accOk_pair : ∀ (l : List Acc), accOk l = true → List.Pairwise (fun y x => x.at_ < y.at_) l → ∀ x ∈ l, ∀ y ∈ l, x.at_ < y.at_ → x.fits y = true := by
  intro l
  induction l with
  | nil => intro _ _ x hx; simp at hx
  | cons z r ih =>
    intro h hp x hx y hy hlt
    simp only [accOk, Bool.and_eq_true] at h
    rw [List.pairwise_cons] at hp
    rcases List.mem_cons.1 hy with rfl | hy'
    · rcases List.mem_cons.1 hx with rfl | hx'
      · omega
      · exact List.all_eq_true.1 h.1 x hx'
    · rcases List.mem_cons.1 hx with rfl | hx'
      · have := hp.1 y hy'; omega
      · exact ih h.2 hp.2 x hx' y hy' hlt

section
variable {Ty : Nat → Type} {T : Tab Ty} {P : Program}
variable {specs : Nat → Option (FSpec Ty)} {k : Nat}

theorem Canon.sorted {ops : List Oper} {todo : List Oper} {an : List Nat} {i : Nat} {l : List Acc} {s : St Ty} {recs : List (Rec Ty)} {l' : List Acc} {s' : St Ty} (h : Canon specs T k ops todo an i l s recs l' s') :
    (∀ x ∈ l, x.at_ < i) → List.Pairwise (fun y x => x.at_ < y.at_) l → List.Pairwise (fun y x => x.at_ < y.at_) l' := by
  induction h with
  | nil => exact fun _ h => h
  | @run o r an i l s v ups recs l' s' hw hv hc ih =>
    intro h1 h2
    apply ih
    · intro x hx
      unfold addAcc at hx
      split at hx
      · have := h1 x hx; omega
      · rcases List.mem_cons.1 hx with rfl | hx
        · simp
        · have := h1 x hx; omega
    · unfold addAcc
      split
      · exact h2
      · exact List.pairwise_cons.2 ⟨fun x hx => h1 x hx, h2⟩
  | skip _ _ ih => intro h1 h2; exact ih (fun x hx => by have := h1 x hx; omega) h2

theorem wantB_congr {ops : List Oper} {o : Oper} {s s' : St Ty} (h : ∀ t, (touchOf ops o).testBit t = true → s.env t = s'.env t) : wantB ops o s = wantB ops o s' := by
  unfold wantB
  cases hg : o.guard with
  | none => rfl
  | some gw =>
    obtain ⟨g, want⟩ := gw
    simp only
    cases hb : (ops[g]?).bind (·.dst) with
    | none => rfl
    | some t => simp only; rw [h t (touch_guard ops o hg hb)]

theorem as_congr {o : Oper} {d : Nat} {ev ev' : Operand → AV Ty} {ob ob' : Nat → Obj Ty} (he : ∀ x ∈ o.op.operands, ev x = ev' x) (hb : ∀ i ∈ readsOf o d ev, ob i = ob' i) : asE T o ev ob = asE T o ev' ob' := by
  unfold asE
  split
  · rename_i f args tys ho
    simp only [ho, Op.operands, Call.operands] at he
    simp only [ho, readsOf] at hb
    have hev : ∀ x ∈ args.toList, ev x = ev' x := fun x hx => he x (by simp; exact .inr (by simpa using hx))
    have hf : ev f = ev' f := he f (by simp)
    rw [← hf]
    obtain ⟨al⟩ := args
    simp only at hev hb ⊢
    match al with
    | [a, t] =>
      have ha := hev a (by simp)
      have ht := hev t (by simp)
      cases ev f <;> try rfl
      simp only [← ha, ← ht]
      have hb' : ∀ i ∈ (ev t).shares, ob i = ob' i := fun i hi => hb i (List.mem_flatMap.2 ⟨t, by simp, hi⟩)
      generalize ev a = va
      generalize ev t = vt at hb'
      cases va <;> try rfl
      cases vt <;> try rfl
      rename_i p v
      cases v <;> try rfl
      rename_i i q
      have := hb' i (by simp [AV.shares])
      cases q with
      | nil => simp only [this]
      | cons _ _ => rfl
    | [] => cases ev f <;> rfl
    | [a] => cases ev f <;> rfl
    | a :: b :: c :: r => cases ev f <;> rfl
  · rfl

theorem opV_congr {ops : List Oper} {o : Oper} {s s' : St Ty} (h : ∀ t, (touchOf ops o).testBit t = true → s.env t = s'.env t) (hb : ∀ i ∈ readsOf o (o.dst.getD 0) s.eval, s.obj i = s'.obj i) : opV specs T k o s = opV specs T k o s' := by
  have he : ∀ x ∈ o.op.operands, s.eval x = s'.eval x := by
    intro x hx
    cases x with
    | tmp t => exact h t (touch_ops ops o hx)
    | _ => rfl
  unfold opV
  rw [call_congr he hb, eff_congr he hb, as_congr he hb]

theorem sel_ext {ops : List Oper} {recs : List (Rec Ty)} {s : St Ty} : ∀ {L M : Nat → Bool}, (∀ j, j < ops.length → L j = M j) → selGo ops recs L s = selGo ops recs M s := by
  induction ops generalizing recs s with
  | nil => intro L M _; cases recs <;> rfl
  | cons o r ih =>
    intro L M h
    cases recs with
    | nil => rfl
    | cons c cs =>
      simp only [selGo]
      rw [h 0 (by simp)]
      exact ih fun j hj => h (j + 1) (by simpa using hj)

structure Ordered (specs : Nat → Option (FSpec Ty)) (T : Tab Ty) (k : Nat) (ops : List Oper) (recs : List (Rec Ty)) (s : St Ty) : Prop where
  len : recs.length = ops.length
  step : ∀ (L : Nat → Bool) i o c, ops[i]? = some o → recs[i]? = some c → L i = false → (∀ j o', L j = true → ops[j]? = some o' → ∀ e ∈ o'.after, Edge.binds e = true → L e.on = true) →
    (∀ e ∈ o.after, Edge.binds e = true → L e.on = true) →
    selGo ops recs (fun j => j == i || L j) s = (selGo ops recs L s).put o.dst c.v c.ups ∧
    ((wantB ops o (selGo ops recs L s) = some true ∧ opV specs T k o (selGo ops recs L s) = some (c.v, c.ups)) ∨ (wantB ops o (selGo ops recs L s) = some false ∧ c = ⟨.skp, []⟩))

theorem ordered {ops : List Oper} {s s' : St Ty} {recs : List (Rec Ty)} {l' : List Acc} (hf : freeRows [] (rowsOf ops ops (ancs ops)) = true) (hc : Canon specs T k ops ops (ancs ops) 0 [] s recs l' s') (ha : accOk l' = true) :
    Ordered specs T k ops recs s := by
  obtain ⟨hlen, _, hs', hspec⟩ := hc.spec
  have hsort := hc.sorted (by simp) .nil
  refine ⟨hlen, ?_⟩
  intro L i o c ho hci hLi hcl hdep
  have hanc : ∀ j, ((ancs ops).getD i 0).testBit j = true → L j = true := ancs_closed hcl (i + 1) i o (by omega) ho hdep
  have hanc' : ∀ j o', L j = true → ops[j]? = some o' → ((ancs ops).getD j 0).testBit i = false := fun j o' hj ho' => by
    cases hb : ((ancs ops).getD j 0).testBit i with
    | false => rfl
    | true =>
      have := ancs_closed hcl (j + 1) j o' (by omega) ho' (hcl j o' hj ho') i hb
      rw [hLi] at this; cases this
  -- an operation's record
  have hacc : ∀ j o' c' x, ops[j]? = some o' → recs[j]? = some c' → x ∈ c'.ups.map (·.1) → ∃ a ∈ l', a.at_ = j ∧ a.anc = (ancs ops).getD j 0 ∧ x ∈ a.writes := by
    intro j o' c' x h1 h2 hx
    rcases hspec j o' c' h1 h2 with ⟨_, _, h3 | h3⟩ | ⟨_, h3⟩
    · exact ⟨_, h3, by simp, rfl, hx⟩
    · rw [h3.2] at hx; simp at hx
    · subst h3; simp at hx
  have henv : ∀ t, (touchOf ops o).testBit t = true → (selGo ops recs (fun x => decide (x < i)) s).env t = (selGo ops recs L s).env t := by
    intro t ht
    rw [sel_env, sel_env]
    refine foldL_agree _ _ _ _ fun j g hg hne => ?_
    rw [List.getElem?_zipWith] at hg
    split at hg
    case h_2 => cases hg
    rename_i o' c' h1 h2
    cases hg
    have hd : o'.dst = some t := by
      apply Decidable.byContradiction
      intro hd
      exact hne (by unfold envW; rw [if_neg hd])
    rcases Nat.lt_trichotomy j i with hji | rfl | hji
    · rcases free_of hf hji ho h1 with hb | ⟨hb, _⟩
      · rw [hanc j hb]; simpa using hji
      · rw [dstIn_of hd ht] at hb; cases hb
    · rw [hLi]; simp
    · have : L j = false := by
        cases hL : L j with
        | false => rfl
        | true =>
          rcases free_of hf hji h1 ho with hb | ⟨_, hb⟩
          · rw [hanc' j o' hL h1] at hb; cases hb
          · rw [dstIn_of hd ht] at hb; cases hb
      rw [this]
      simp; omega
  have hw : wantB ops o (selGo ops recs L s) = wantB ops o (selGo ops recs (fun x => decide (x < i)) s) := wantB_congr fun t ht => (henv t ht).symm
  constructor
  · apply sel_insert ho hci hLi
    · intro j o' hj ho' hL hne he
      cases hd : o.dst with
      | none => exact hne hd
      | some t =>
        rcases free_of hf hj ho' ho with hb | ⟨_, hb⟩
        · rw [hanc' j o' hL ho'] at hb; cases hb
        · rw [dstIn_of (he.trans hd) (touch_dst ops o hd)] at hb; cases hb
    · intro j c' hj hcj hL x hx hx'
      have hjl : j < ops.length := by have := (List.getElem?_eq_some_iff.1 hcj).1; omega
      obtain ⟨a1, m1, p1, q1, r1⟩ := hacc i o c x ho hci hx
      obtain ⟨a2, m2, p2, q2, r2⟩ := hacc j _ c' x (List.getElem?_eq_getElem hjl) hcj hx'
      have := accOk_pair l' ha hsort a1 m1 a2 m2 (by rw [p1, p2]; exact hj)
      unfold Acc.fits at this
      rw [p1, q2, hanc' j _ hL (List.getElem?_eq_getElem hjl)] at this
      simp only [Bool.false_or, Bool.and_eq_true] at this
      exact apart_spec this.1.1 r1 r2
  · rw [hw]
    rcases hspec i o c ho hci with ⟨h1, h2, h3⟩ | ⟨h1, h2⟩
    · refine .inl ⟨h1, ?_⟩
      rw [← h2]
      symm
      refine opV_congr (ops := ops) henv fun x hx => ?_
      rw [sel_obj, sel_obj]
      refine foldL_agree _ _ _ _ fun j g hg hne => ?_
      rw [List.getElem?_zipWith] at hg
      split at hg
      case h_2 => cases hg
      rename_i o' c' k1 k2
      cases hg
      have hu : x ∈ c'.ups.map (·.1) := by
        apply Decidable.byContradiction
        intro hd
        exact hne (by unfold objW; rw [if_neg hd])
      obtain ⟨a2, m2, p2, q2, r2⟩ := hacc j o' c' x k1 k2 hu
      rcases h3 with h3 | h3
      · rcases Nat.lt_trichotomy j i with hji | rfl | hji
        · have := accOk_pair l' ha hsort a2 m2 _ h3 (by rw [p2]; simpa using hji)
          unfold Acc.fits at this
          simp only [Bool.or_eq_true, Bool.and_eq_true] at this
          rcases this with hb | hb
          · rw [p2] at hb
            rw [hanc j hb]; simpa using hji
          · exact absurd (apart_spec hb.1.2 r2 hx) (fun h => h)
        · rw [hLi]; simp
        · have : L j = false := by
            cases hL : L j with
            | false => rfl
            | true =>
              have := accOk_pair l' ha hsort _ h3 a2 m2 (by rw [p2]; simpa using hji)
              unfold Acc.fits at this
              simp only [Nat.zero_add] at this
              rw [q2, hanc' j o' hL k1] at this
              simp only [Bool.false_or, Bool.and_eq_true] at this
              exact absurd (apart_spec this.2 hx r2) (fun h => h)
          rw [this]
          simp; omega
      · rw [h3.1] at hx; simp at hx
    · exact .inr ⟨h1, h2⟩


variable {w0 : Base} {D0 : Nat → Prop} {N : Nat} {s : St Ty} {a : Act} {w : World}

theorem Gam.world (h : Gam T w0 D0 N s a w) {w' : World} (hg : w.grownBy w' none) : Gam T w0 D0 N s a w' := by
  obtain ⟨D, gv, h⟩ := h
  exact ⟨D, gv, h.world hg⟩

theorem Gam.drew (h : Gam T w0 D0 N s a w) : Gam T w0 D0 N s a { w with drawn := w.drawn + 1 } :=
  h.world ⟨rfl, rfl, rfl, Nat.le_refl _, fun _ _ _ => rfl⟩

/-- any order -/
theorem any_sound (hT : TabOK P T) (hS : SpecsOK P T specs) {ops : List Oper} {recs : List (Rec Ty)} {s0 : St Ty} (ho : Ordered specs T k ops recs s0)
    (hback : ∀ i o, ops[i]? = some o → ∀ e ∈ o.after, Edge.binds e = true → e.on < i) (hN : ∀ o ∈ ops, ∀ d, o.dst = some d → d < N) {Q : Exit → Act → World → Prop}
    (hQ : ∀ a w, Gam T w0 D0 N (selGo ops recs (fun _ => true) s0) a w → Q .normal a w) :
    ∀ (fuel : Nat) (listed : Array Bool) (a : Act) (w : World), listed.size = ops.length → listed.toList.count false ≤ fuel →
      (∀ j o', listed.getD j false = true → ops[j]? = some o' → ∀ e ∈ o'.after, Edge.binds e = true → listed.getD e.on false = true) →
      Gam T w0 D0 N (selGo ops recs (fun j => listed.getD j false) s0) a w → wpAny P .any ops.toArray Q fuel listed a w := by
  have all : ∀ (listed : Array Bool) (a : Act) (w : World), listed.size = ops.length → (∀ j, j < listed.size → listed.getD j false = true) → Gam T w0 D0 N (selGo ops recs (fun j => listed.getD j false) s0) a w → Q .normal a w := by
    intro listed a w hs hl hg
    apply hQ
    rwa [sel_ext (M := fun _ => true) fun j hj => hl j (by omega)] at hg
  -- nothing is ready: all are listed
  have done : ∀ (listed : Array Bool), listed.size = ops.length → Region.ready .any ops.toArray listed = [] → ∀ n j, j < n → j < listed.size → listed.getD j false = true := by
    intro listed hs hr n
    induction n with
    | zero => intro j h; omega
    | succ n ih =>
      intro j hj hjl
      apply Decidable.byContradiction
      intro hne
      have hjo : ops[j]? = some (ops[j]'(by omega)) := List.getElem?_eq_getElem (by omega)
      have : j ∈ Region.ready .any ops.toArray listed := by
        rw [mem_ready]
        have hlj : listed[j]? = some (listed[j]'hjl) := Array.getElem?_eq_getElem hjl
        have hb : listed[j]'hjl = false := by
          cases hb : listed[j]'hjl with
          | false => rfl
          | true => rw [Array.getD_eq_getD_getElem?, hlj, hb] at hne; exact absurd rfl hne
        refine ⟨by rw [Array.getD_eq_getD_getElem?, hlj, hb]; rfl, ops[j]'(by omega), (List.getElem?_toArray ▸ hjo : ops.toArray[j]? = some (ops[j]'(by omega))), fun e he hbd => ?_⟩
        rw [binds_eq] at hbd
        have := hback j _ hjo e he hbd
        exact ih e.on (by omega) (by omega)
      rw [hr] at this
      cases this
  intro fuel
  induction fuel with
  | zero =>
    intro listed a w hs hc hcl hg
    have hall : ∀ j, j < listed.size → listed.getD j false = true := by
      intro j hj
      have h0 : listed.toList.count false = 0 := by omega
      rw [List.count_eq_zero] at h0
      cases hb : listed[j]'hj with
      | true => rw [Array.getD_eq_getD_getElem?, Array.getElem?_eq_getElem hj, hb]; rfl
      | false => exact absurd (by rw [← hb]; simp) h0
    refine ⟨?_, all listed a w hs hall hg⟩
    cases hr : Region.ready .any ops.toArray listed with
    | nil => rfl
    | cons j r =>
      have hj : j ∈ Region.ready .any ops.toArray listed := by rw [hr]; simp
      rw [mem_ready] at hj
      obtain ⟨hj, o, ho1, _⟩ := hj
      have hjl : j < ops.length := by
        have := (Array.getElem?_eq_some_iff.1 ho1).1
        simpa using this
      have := hall j (by omega)
      rw [Array.getD_eq_getD_getElem?, Array.getElem?_eq_getElem (by omega)] at this hj
      simp only [Option.getD_some] at this hj
      rw [this] at hj
      cases hj
  | succ fuel ih =>
    intro listed a w hs hc hcl hg
    refine ⟨fun hr => all listed a w hs (fun j hj => done listed hs hr (j + 1) j (by omega) hj) hg, fun i hi => ?_⟩
    have hi' := hi
    rw [mem_ready] at hi
    obtain ⟨hli, o, hoi, hdep⟩ := hi
    have hol : ops[i]? = some o := by simpa using hoi
    have hil : i < ops.length := (List.getElem?_eq_some_iff.1 hol).1
    have hmem : o ∈ ops := List.mem_of_getElem? hol
    have hci : recs[i]? = some (recs[i]'(by rw [ho.len]; exact hil)) := List.getElem?_eq_getElem _
    generalize recs[i]'(by rw [ho.len]; exact hil) = c at hci
    have hli' : listed.getD i false = false := by
      rw [Array.getD_eq_getD_getElem?, Array.getElem?_eq_getElem (by omega)] at hli ⊢
      exact hli
    have hlb : listed[i]'(by omega) = false := by
      rw [Array.getD_eq_getD_getElem?, Array.getElem?_eq_getElem (by omega)] at hli'
      exact hli'
    obtain ⟨hins, hstep⟩ := ho.step (fun j => listed.getD j false) i o c hol hci hli' hcl (fun e he hb => hdep e he (by rw [binds_eq]; exact hb))
    have hnew : (fun j => (listed.setIfInBounds i true).getD j false) = fun j => j == i || listed.getD j false := by
      funext j
      by_cases e : j = i
      · subst e
        rw [Array.getD_eq_getD_getElem?]
        simp [show j < listed.size by omega]
      · have : (j == i) = false := by simpa using e
        rw [getD_set_ne false (Ne.symm e), this, Bool.false_or]
    have next : ∀ a' w', Gam T w0 D0 N ((selGo ops recs (fun j => listed.getD j false) s0).put o.dst c.v c.ups) a' w' → wpAny P .any ops.toArray Q fuel (listed.setIfInBounds i true) a' w' := by
      intro a' w' hg'
      apply ih
      · simpa using hs
      · have : (listed.setIfInBounds i true).toList = listed.toList.set i true := by simp
        rw [this, List.count_set (by simpa using (by omega : i < listed.size))]
        have : listed.toList[i]'(by simpa using (by omega : i < listed.size)) = false := by simpa using hlb
        rw [this]
        have e1 : ((false : Bool) == false) = true := rfl
        have e2 : ((true : Bool) == false) = false := rfl
        rw [e1, e2, if_pos rfl, if_neg (by simp)]
        omega
      · intro j o' hj ho' e he hb
        have hj' : (listed.setIfInBounds i true).getD j false = (j == i || listed.getD j false) := congrFun hnew j
        rw [hj'] at hj
        have he' : (listed.setIfInBounds i true).getD e.on false = (e.on == i || listed.getD e.on false) := congrFun hnew e.on
        rw [he']
        rcases (Bool.or_eq_true _ _).mp hj with h | h
        · have : j = i := by simpa using h
          subst this
          rw [hol] at ho'
          cases ho'
          rw [hdep e he (by rw [binds_eq]; exact hb), Bool.or_true]
        · rw [hcl j o' h ho' e he hb, Bool.or_true]
      · rw [hnew, hins]; exact hg'
    unfold wpOp
    rw [hoi]
    simp only
    have hwant : ∀ b, wantB ops o (selGo ops recs (fun j => listed.getD j false) s0) = some b → Region.wanted o (yielded ops.toArray a.tmps) = b := by
      intro b hb
      have : guardK ops o (selGo ops recs (fun j => listed.getD j false) s0) (fun _ => some true) (fun _ => some false) = some b := by
        rw [guardK_eq, hb]; cases b <;> rfl
      rcases guard_sound hg this with ⟨h1, h2⟩ | ⟨h1, h2⟩
      · rw [h1]; exact Option.some.inj h2
      · rw [h1]; exact Option.some.inj h2
    rcases hstep with ⟨hw, hv⟩ | ⟨hw, hc⟩
    · rw [if_pos (hwant _ hw)]
      left
      have hk : opK specs T k o (selGo ops recs (fun j => listed.getD j false) s0) some = some ((selGo ops recs (fun j => listed.getD j false) s0).put o.dst c.v c.ups) := by
        rw [opK_eq, hv]; rfl
      exact op_sound hT hS hg (hN o hmem) hk next
    · have : ¬ (Region.wanted o (yielded ops.toArray a.tmps) = true) := by rw [hwant _ hw]; simp
      rw [if_neg this]
      apply next
      rw [hc]
      exact put_skp hg (hN o hmem)

theorem region_sound (hT : TabOK P T) (hS : SpecsOK P T specs) {id : Nat} {ops : Array Oper} {draw : Bool} {s' : St Ty} (h : Gam T w0 D0 N s a w) (hN : ∀ o ∈ ops, ∀ d, o.dst = some d → d < N)
    (hr : regionK specs T k ops.toList draw s some = some s') {Q : Exit → Act → World → Prop} (hQ : ∀ a w, Gam T w0 D0 N s' a w → Q .normal a w) : (Code.region id ops draw).wp P Q a w := by
  unfold regionK at hr
  cases draw with
  | false =>
    refine wp_region_list ?_
    have := ops_sound (ops := ops.toList) hT hS ops.toList (fun o ho => hN o (by simpa using ho)) h hr hQ
    simpa using this
  | true =>
    simp only [cond_true] at hr
    cases hf : freeRows [] (rowsOf ops.toList ops.toList (ancs ops.toList)) with
    | false => rw [hf] at hr; cases hr
    | true =>
      rw [hf] at hr
      simp only [cond_true] at hr
      obtain ⟨recs, l', s1, hc, ha, hs1⟩ := opsD_canon _ _ _ _ _ hr
      cases hs1
      have hord := ordered hf hc ha
      apply wp_region_any hT.follow
      have := any_sound (w0 := w0) (D0 := D0) (N := N) hT hS hord (fun i o ho => back_of hf ho) (fun o ho => hN o (by simpa using ho)) (Q := Q) (by
        rw [← hc.spec.2.2.1]; exact hQ) ops.size (Array.replicate ops.size false) a { w with drawn := w.drawn + 1 } (by simp) (by simp) (by
        intro j o' hj
        rw [Array.getD_eq_getD_getElem?, Array.getElem?_replicate] at hj
        split at hj <;> cases hj) (by
        have hz : selGo ops.toList recs (fun j => (Array.replicate ops.size false).getD j false) s = s := by
          rw [sel_ext (M := fun _ => false) (by
            intro j hj
            rw [Array.getD_eq_getD_getElem?, Array.getElem?_replicate]
            split <;> rfl)]
          have : ∀ (l : List Oper) (r : List (Rec Ty)) (s : St Ty), selGo l r (fun _ => false) s = s := by
            intro l
            induction l with
            | nil => intro r s; cases r <;> rfl
            | cons o r ih =>
              intro cs s
              cases cs with
              | nil => rfl
              | cons c cs => simp only [selGo, Bool.false_eq_true, if_false]; exact ih cs s
          exact this _ _ _
        rw [hz]
        exact h.drew)
      simpa using this
end
end V
namespace V
open Go
section
variable {Ty : Nat → Type} {T : Tab Ty} {P : Program}

def gvM (T : Tab Ty) (gv : Nat → Option GObj) : Met → Option GObj
  | .old p => gv p
  | .empty t => some (.row none 0 0 (T.size t))
def gvN (T : Tab Ty) (gv : Nat → Option GObj) (l : List Met) : Nat → Option GObj := fun o => if o < cbase then none else (l[o - cbase]?).bind (gvM T gv)

theorem metAt_some {o : Nat} : ∀ (l : List Met) (k i : Nat), metAt o l k = some i → k ≤ i ∧ l[i - k]? = some (.old o) := by
  intro l
  induction l with
  | nil => intro k i h; cases h
  | cons m r ih =>
    intro k i h
    have next : metAt o r (k + 1) = some i → k ≤ i ∧ (m :: r)[i - k]? = some (.old o) := by
      intro h
      obtain ⟨h1, h2⟩ := ih _ _ h
      refine ⟨by omega, ?_⟩
      rw [show i - k = (i - (k + 1)) + 1 by omega]
      simpa using h2
    cases m with
    | old p =>
      simp only [metAt] at h
      by_cases hp : p = o
      · subst hp
        simp only [beq_self_eq_true, cond_true, Option.some.injEq] at h
        subst h
        simp
      · have : (p == o) = false := by simpa using hp
        rw [this] at h
        exact next h
    | empty t => exact next h
theorem metAt_none {o : Nat} : ∀ (l : List Met) (k : Nat), metAt o l k = none → Met.old o ∉ l := by
  intro l
  induction l with
  | nil => intro k _ h; cases h
  | cons m r ih =>
    intro k h hm
    cases m with
    | old p =>
      simp only [metAt] at h
      by_cases hp : p = o
      · subst hp
        simp at h
      · have : (p == o) = false := by simpa using hp
        rw [this] at h
        rcases List.mem_cons.1 hm with e | hm
        · cases e; exact hp rfl
        · exact ih _ h hm
    | empty t =>
      rcases List.mem_cons.1 hm with e | hm
      · cases e
      · exact ih _ h hm

def Once (l : List Met) : Prop := ∀ (i j o : Nat), l[i]? = some (.old o) → l[j]? = some (.old o) → i = j

theorem once_new {l : List Met} {m : Met} (h : Once l) (hm : ∀ o, m = .old o → Met.old o ∉ l) : Once (l ++ [m]) := by
  intro i j o hi hj
  rcases Nat.lt_or_ge i l.length with h1 | h1
  · rw [List.getElem?_append_left h1] at hi
    rcases Nat.lt_or_ge j l.length with h2 | h2
    · rw [List.getElem?_append_left h2] at hj
      exact h i j o hi hj
    · rw [List.getElem?_append_right h2] at hj
      have := List.mem_of_getElem? hj
      simp only [List.mem_singleton] at this
      exact absurd (List.mem_of_getElem? hi) (hm o this.symm)
  · rw [List.getElem?_append_right h1] at hi
    have hi2 := (List.getElem?_eq_some_iff.1 hi).1
    have := List.mem_of_getElem? hi
    simp only [List.mem_singleton] at this
    rcases Nat.lt_or_ge j l.length with h2 | h2
    · rw [List.getElem?_append_left h2] at hj
      exact absurd (List.mem_of_getElem? hj) (hm o this.symm)
    · rw [List.getElem?_append_right h2] at hj
      have hj2 := (List.getElem?_eq_some_iff.1 hj).1
      simp at hi2 hj2
      omega

theorem meet_spec (o : Nat) (l : List Met) : l <+: (meet o l).2 ∧ cbase ≤ (meet o l).1 ∧ (meet o l).2[(meet o l).1 - cbase]? = some (.old o) ∧ (Once l → Once (meet o l).2) := by
  unfold meet
  cases h : metAt o l 0 with
  | some i =>
    obtain ⟨_, h2⟩ := metAt_some _ _ _ h
    exact ⟨List.prefix_refl _, Nat.le_add_right _ _, by simpa using h2, fun h => h⟩
  | none =>
    have := metAt_none _ _ h
    exact ⟨List.prefix_append _ _, Nat.le_add_right _ _, by simp, fun hl => once_new hl fun p hp => by cases hp; exact this⟩

theorem renum_pre (v : AV Ty) : ∀ l, l <+: (v.renum l).2 := by
  induction v with
  | ptr o p => intro l; exact (meet_spec o l).1
  | rptr o i p => intro l; exact (meet_spec o l).1
  | row o => intro l; exact (meet_spec o l).1
  | view o p t n lo len => intro l; exact (meet_spec o l).1
  | nils t => intro l; exact List.prefix_append _ _
  | cons h t ih1 ih2 => intro l; exact (ih1 l).trans (ih2 _)
  | tup v ih => intro l; exact ih l
  | iface t v ih => intro l; exact ih l
  | cptr v ih => intro l; exact ih l
  | _ => intro l; exact List.prefix_refl _

theorem renum_once (v : AV Ty) : ∀ l, Once l → Once (v.renum l).2 := by
  induction v with
  | ptr o p => intro l; exact (meet_spec o l).2.2.2
  | rptr o i p => intro l; exact (meet_spec o l).2.2.2
  | row o => intro l; exact (meet_spec o l).2.2.2
  | view o p t n lo len => intro l; exact (meet_spec o l).2.2.2
  | nils t => intro l h; exact once_new h fun o e => by cases e
  | cons h t ih1 ih2 => intro l hl; exact ih2 _ (ih1 l hl)
  | tup v ih => intro l; exact ih l
  | iface t v ih => intro l; exact ih l
  | cptr v ih => intro l; exact ih l
  | _ => intro l h; exact h

theorem renum_isAgg (v : AV Ty) (l : List Met) : (v.renum l).1.isAgg = v.isAgg := by cases v <;> rfl

theorem pre_get {l lF : List Met} (h : l <+: lF) {i : Nat} {m : Met} (hi : l[i]? = some m) : lF[i]? = some m := by
  obtain ⟨e, rfl⟩ := h
  have := (List.getElem?_eq_some_iff.1 hi).1
  rw [List.getElem?_append_left this]; exact hi

theorem gvN_meet {gv : Nat → Option GObj} {o : Nat} {l lF : List Met} {g : GObj} (hg : gv o = some g) (hp : (meet o l).2 <+: lF) : gvN T gv lF (meet o l).1 = some g := by
  obtain ⟨_, h2, h3, _⟩ := meet_spec o l
  unfold gvN
  rw [if_neg (by omega), pre_get hp h3]
  exact hg

theorem renum_rep (hT : TabOK P T) {w : World} {D : Nat → Prop} {gv : Nat → Option GObj} {v : AV Ty} {cs : List Value} (h : RepC T w D gv v cs) :
    ∀ (l lF : List Met), (v.renum l).2 <+: lF → RepC T w D (gvN T gv lF) (v.renum l).1 cs := by
  induction h with
  | undef v h => intro l lF _; exact .undef v h
  | bool b => intro l lF _; exact .bool b
  | int k n => intro l lF _; exact .int k n
  | str s => intro l lF _; exact .str s
  | nilp => intro l lF _; exact .nilp
  | ptr h p => intro l lF hp; exact .ptr (gvN_meet h hp) p
  | rptr h i p => intro l lF hp; exact .rptr (gvN_meet h hp) i p
  | cptr d a _ ih => intro l lF hp; exact .cptr d a (ih l lF hp)
  | row h => intro l lF hp; exact .row (gvN_meet h hp)
  | view h p k c => intro l lF hp; exact .view (gvN_meet h hp) p k c
  | vnil h p k => intro l lF hp; exact .vnil (gvN_meet h hp) p k
  | snil t a c h => intro l lF _; exact .snil t a c h
  | slice d k a h _ => intro l lF _; exact (RepC.slice d k a h).regv hT rfl
  | nils t =>
    intro l lF hp
    refine RepC.row (g := none) (n := 0) (cap := 0) (sz := T.size t) ?_
    have : lF[l.length]? = some (.empty t) := pre_get hp (by simp [AV.renum])
    unfold gvN
    rw [if_neg (by omega), Nat.add_sub_cancel_left, this]
    rfl
  | slicen0 t a c => intro l lF _; exact .slicen0 t a c
  | slicen d k a h _ => intro l lF _; exact (RepC.slicen d k a h).regv hT rfl
  | func f => intro l lF _; exact .func f
  | nil => intro l lF _; exact .nil
  | cons _ _ i1 i2 =>
    intro l lF hp
    exact .cons (i1 l lF ((renum_pre _ _).trans hp)) (i2 _ lF hp)
  | arr k h _ => intro l lF _; exact (RepC.arr k h).regv hT rfl
  | err h => intro l lF _; exact .err h
  | ifaceS a _ ih => intro l lF hp; exact .ifaceS (by rw [renum_isAgg]; exact a) (ih l lF hp)
  | ifaceA a _ ih => intro l lF hp; exact .ifaceA (by rw [renum_isAgg]; exact a) (ih l lF hp)

theorem renum_repE (hT : TabOK P T) {w : World} {D : Nat → Prop} {gv : Nat → Option GObj} {v : AV Ty} {x : Value} (h : RepE T w D gv v x)
    (l lF : List Met) (hp : (v.renum l).2 <+: lF) : RepE T w D (gvN T gv lF) (v.renum l).1 x := by
  cases h with
  | undef => exact .undef _
  | skp => exact .skp
  | agg a h => exact .agg (by rw [renum_isAgg]; exact a) (renum_rep hT h l lF hp)
  | one a h => exact .one (by rw [renum_isAgg]; exact a) (renum_rep hT h l lF hp)

theorem renum_repV (hT : TabOK P T) {w : World} {D : Nat → Prop} {gv : Nat → Option GObj} {v : AV Ty} {x : Value} (h : RepV T w D gv v x)
    (l lF : List Met) (hp : (v.renum l).2 <+: lF) : RepV T w D (gvN T gv lF) (v.renum l).1 x := by
  cases h with
  | elem h => exact .elem (renum_repE hT h l lF hp)
  | @tup vs xs h =>
    refine .tup ?_
    have hp' : (vs.renum l).2 <+: lF := hp
    clear hp
    induction h generalizing l with
    | nil => exact .nil
    | cons h _ ih => exact .cons (renum_repE hT h l lF ((renum_pre _ _).trans hp')) (ih _ hp')

theorem renumAll_spec : ∀ (vs : List (AV Ty)) (l : List Met), l <+: (renumAll vs l).2 ∧ (Once l → Once (renumAll vs l).2) ∧ (renumAll vs l).1.length = vs.length ∧
    ∀ (i : Nat) (v' : AV Ty), (renumAll vs l).1[i]? = some v' → ∃ (v : AV Ty) (l1 : List Met), vs[i]? = some v ∧ v' = (v.renum l1).1 ∧ (v.renum l1).2 <+: (renumAll vs l).2 := by
  intro vs
  induction vs with
  | nil => intro l; exact ⟨List.prefix_refl _, fun h => h, rfl, fun i v h => by simp [renumAll] at h⟩
  | cons v r ih =>
    intro l
    obtain ⟨i1, i2, i3, i4⟩ := ih (v.renum l).2
    simp only [renumAll]
    refine ⟨(renum_pre v l).trans i1, fun h => i2 (renum_once v l h), by simp [i3], fun i v' hv => ?_⟩
    cases i with
    | zero =>
      simp only [List.getElem?_cons_zero, Option.some.injEq] at hv
      exact ⟨v, l, rfl, hv.symm, i1⟩
    | succ i => simpa using i4 i v' (by simpa using hv)

def metsOf (s : St Ty) : Nat → Nat → List Met → List Met
  | 0, _, l => l
  | f + 1, i, l => match l[i]? with
    | none => l
    | some (.empty _) => metsOf s f (i + 1) l
    | some (.old o) => match s.obj o with
      | .var c => metsOf s f (i + 1) (c.renum l).2
      | .fvar c => metsOf s f (i + 1) (c.renum l).2
      | _ => metsOf s f (i + 1) l

inductive Renamed (l lF : List Met) : Obj Ty → Obj Ty → Prop
  | var {c} : l <+: lF → (c.renum l).2 <+: lF → Renamed l lF (.var c) (.var (c.renum l).1)
  | fvar {c} : l <+: lF → (c.renum l).2 <+: lF → Renamed l lF (.fvar c) (.fvar (c.renum l).1)
  | none : Renamed l lF .none .none
  | dead : Renamed l lF .dead .dead
  | row {t xs} : Renamed l lF (.row t xs) (.row t xs)
  | frow {t xs} : Renamed l lF (.frow t xs) (.frow t xs)

theorem objsOf_spec (s : St Ty) : ∀ (f i : Nat) (l : List Met), l <+: metsOf s f i l ∧ (Once l → Once (metsOf s f i l)) ∧
    ∀ j x, (objsOf s f i l)[j]? = some x → (∃ t, (metsOf s f i l)[i + j]? = some (.empty t) ∧ x = .row t []) ∨ (∃ o l1, (metsOf s f i l)[i + j]? = some (.old o) ∧ Renamed l1 (metsOf s f i l) (s.obj o) x) := by
  intro f
  induction f with
  | zero => intro i l; exact ⟨List.prefix_refl _, fun h => h, fun j x h => by simp [objsOf] at h⟩
  | succ f ih =>
    intro i l
    unfold metsOf objsOf
    cases hl : l[i]? with
    | none => exact ⟨List.prefix_refl _, fun h => h, fun j x h => by simp at h⟩
    | some m =>
      cases m with
      | empty t =>
        obtain ⟨i1, i2, i3⟩ := ih (i + 1) l
        refine ⟨i1, i2, fun j x hx => ?_⟩
        cases j with
        | zero =>
          simp only [List.getElem?_cons_zero, Option.some.injEq] at hx
          exact .inl ⟨t, pre_get i1 hl, hx.symm⟩
        | succ j => have := i3 j x (by simpa using hx); rwa [show i + 1 + j = i + (j + 1) by omega] at this
      | old o =>
        have gen : ∀ (l2 : List Met) (x0 : Obj Ty), l <+: l2 → (Once l → Once l2) → (∀ lF, l2 <+: lF → Renamed l lF (s.obj o) x0) →
            l <+: metsOf s f (i + 1) l2 ∧ (Once l → Once (metsOf s f (i + 1) l2)) ∧
            ∀ j x, (x0 :: objsOf s f (i + 1) l2)[j]? = some x → (∃ t, (metsOf s f (i + 1) l2)[i + j]? = some (.empty t) ∧ x = .row t []) ∨ (∃ o l1, (metsOf s f (i + 1) l2)[i + j]? = some (.old o) ∧ Renamed l1 (metsOf s f (i + 1) l2) (s.obj o) x) := by
          intro l2 x0 h1 h2 h3
          obtain ⟨i1, i2, i3⟩ := ih (i + 1) l2
          refine ⟨h1.trans i1, fun h => i2 (h2 h), fun j x hx => ?_⟩
          cases j with
          | zero =>
            simp only [List.getElem?_cons_zero, Option.some.injEq] at hx
            subst hx
            exact .inr ⟨o, l, pre_get (h1.trans i1) hl, h3 _ i1⟩
          | succ j => have := i3 j x (by simpa using hx); rwa [show i + 1 + j = i + (j + 1) by omega] at this
        cases ho : s.obj o with
        | var c => simp only [ho]; exact gen _ _ (renum_pre c l) (renum_once c l) fun lF h => by rw [ho]; exact .var ((renum_pre c l).trans h) h
        | fvar c => simp only [ho]; exact gen _ _ (renum_pre c l) (renum_once c l) fun lF h => by rw [ho]; exact .fvar ((renum_pre c l).trans h) h
        | none => simp only [ho]; exact gen _ _ (List.prefix_refl _) (fun h => h) fun lF h => by rw [ho]; exact .none
        | dead => simp only [ho]; exact gen _ _ (List.prefix_refl _) (fun h => h) fun lF h => by rw [ho]; exact .dead
        | row t xs => simp only [ho]; exact gen _ _ (List.prefix_refl _) (fun h => h) fun lF h => by rw [ho]; exact .row
        | frow t xs => simp only [ho]; exact gen _ _ (List.prefix_refl _) (fun h => h) fun lF h => by rw [ho]; exact .frow

theorem encs_ids (hT : TabOK P T) (t : Nat) (xs : List (Ty t)) : (encs T t xs).ids = [] := by
  induction xs with
  | nil => rfl
  | cons x r ih => simp only [encs, List.map_cons, listAV, AV.ids] at ih ⊢; rw [hT.encIds, ih]; rfl

theorem zip_lookup : ∀ (keep : List Nat) (vs : List (AV Ty)) (t : Nat) (v : AV Ty), (keep.zip vs).lookup t = some v → ∃ i : Nat, keep[i]? = some t ∧ vs[i]? = some v := by
  intro keep
  induction keep with
  | nil => intro vs t v h; simp at h
  | cons k r ih =>
    intro vs t v h
    cases vs with
    | nil => simp at h
    | cons u us =>
      simp only [List.zip_cons_cons, List.lookup_cons] at h
      by_cases e : t = k
      · subst e
        simp only [beq_self_eq_true, Option.some.injEq] at h
        exact ⟨0, rfl, by simp [h]⟩
      · have : (t == k) = false := by simpa using e
        rw [this] at h
        obtain ⟨i, h1, h2⟩ := ih us t v h
        exact ⟨i + 1, by simpa using h1, by simpa using h2⟩

variable {w0 : Base} {D0 : Nat → Prop} {N : Nat} {s : St Ty} {a : Act} {w : World}

theorem norm_sound (hT : TabOK P T) (h : Gam T w0 D0 N s a w) (keep : List Nat) : Gam T w0 D0 N ((s.norm keep).toSt keep) a w := by
  obtain ⟨D, gv, h⟩ := h
  have hall := renumAll_spec (keep.map s.env) []
  have hobj := objsOf_spec s 64 0 (renumAll (keep.map s.env) []).2
  generalize hlF : metsOf s 64 0 (renumAll (keep.map s.env) []).2 = lF at hobj
  obtain ⟨a1, a2, a3, a4⟩ := hall
  obtain ⟨o1, o2, o3⟩ := hobj
  have honce : Once lF := o2 (a2 fun i j o h => by simp at h)
  have hst : (s.norm keep).toSt keep = { env := fun t => ((keep.zip (renumAll (keep.map s.env) []).1).lookup t).getD .undef, obj := fun o => cond (Nat.blt o cbase) .none ((objsOf s 64 0 (renumAll (keep.map s.env) []).2).getD (o - cbase) .dead) } := rfl
  rw [hst]
  -- an object of the new state
  have what : ∀ o, ((o < cbase ∧ cond (Nat.blt o cbase) Obj.none ((objsOf s 64 0 (renumAll (keep.map s.env) []).2).getD (o - cbase) .dead) = .none) ∨ cond (Nat.blt o cbase) Obj.none ((objsOf s 64 0 (renumAll (keep.map s.env) []).2).getD (o - cbase) .dead) = .dead ∨
      (cbase ≤ o ∧ ((∃ t, lF[o - cbase]? = some (.empty t) ∧ cond (Nat.blt o cbase) Obj.none ((objsOf s 64 0 (renumAll (keep.map s.env) []).2).getD (o - cbase) .dead) = .row t []) ∨
        (∃ p l1, lF[o - cbase]? = some (.old p) ∧ Renamed l1 lF (s.obj p) (cond (Nat.blt o cbase) Obj.none ((objsOf s 64 0 (renumAll (keep.map s.env) []).2).getD (o - cbase) .dead)))))) := by
    intro o
    rcases Nat.lt_or_ge o cbase with ho | ho
    · have hb : Nat.blt o cbase = true := by rw [Nat.blt_eq]; exact ho
      exact .inl ⟨ho, by rw [hb]; rfl⟩
    · right
      have hb : Nat.blt o cbase = false := by
        cases hb : Nat.blt o cbase with
        | false => rfl
        | true => rw [Nat.blt_eq] at hb; omega
      rw [hb, cond_false]
      cases hg : (objsOf s 64 0 (renumAll (keep.map s.env) []).2)[o - cbase]? with
      | none => left; rw [List.getD_eq_getElem?_getD, hg]; rfl
      | some x =>
        right
        have := o3 _ _ hg
        rw [Nat.zero_add] at this
        rw [List.getD_eq_getElem?_getD, hg]
        exact ⟨ho, this⟩
  have gvo : ∀ o m, cbase ≤ o → lF[o - cbase]? = some m → gvN T gv lF o = gvM T gv m := by
    intro o m ho hm
    unfold gvN
    rw [if_neg (by omega), hm]; rfl
  refine ⟨D, gvN T gv lF, { defers := h.defers, size := h.size, env := fun t => ?_, obj := fun o => ?_, apart := ?_, grown := h.grown, dold := h.dold, dlt := h.dlt, dnew := h.dnew, glob := h.glob }⟩
  · simp only
    cases hl : (keep.zip (renumAll (keep.map s.env) []).1).lookup t with
    | none => exact .elem (.undef _)
    | some v =>
      obtain ⟨i, h1, h2⟩ := zip_lookup _ _ _ _ hl
      obtain ⟨u, l1, h3, rfl, h4⟩ := a4 i v h2
      rw [List.getElem?_map, h1] at h3
      simp only [Option.map_some, Option.some.injEq] at h3
      subst h3
      exact renum_repV hT (h.env t) l1 lF (h4.trans o1)
  · simp only
    rcases what o with ⟨h1, h2⟩ | h2 | ⟨h1, ⟨t, h2, h3⟩ | ⟨p, l1, h2, h3⟩⟩
    · rw [h2]
      refine .none ?_
      unfold gvN
      rw [if_pos h1]
    · rw [h2]; exact .dead
    · rw [h3]
      refine ObjOK.row (g := none) (cap := 0) (flat := []) ?_ .nil ⟨?_, .inl ⟨rfl, rfl⟩⟩ (fun b e => by cases e)
      · rw [gvo o _ h1 h2]; rfl
      · simp
    · have hg := gvo o _ h1 h2
      simp only [gvM] at hg
      have ho := h.obj p
      generalize (cond (Nat.blt o cbase) Obj.none ((objsOf s 64 0 (renumAll (keep.map s.env) []).2).getD (o - cbase) .dead)) = x at h3
      generalize s.obj p = y at h3 ho
      cases h3 with
      | var e1 e2 => cases ho with | var k1 k2 k3 k4 k5 => exact .var (by rw [hg]; exact k1) k2 k3 k4 (renum_rep hT k5 _ _ e2)
      | fvar e1 e2 => cases ho with | fvar k1 k2 k3 k4 => exact .fvar (by rw [hg]; exact k1) k2 k3 (renum_rep hT k4 _ _ e2)
      | none => cases ho with | none k => exact .none (by rw [hg]; exact k)
      | dead => exact .dead
      | row => cases ho with | row k1 k2 k3 k4 => exact .row (by rw [hg]; exact k1) (k2.regv hT (encs_ids hT _ _)) k3 k4
      | frow => cases ho with | frow k1 k2 => exact .frow (by rw [hg]; exact k1) (k2.regv hT rfl)
  · intro o o' g g' b hne hl hl' hg hg' hb hb'
    simp only at hl hl'
    have get : ∀ o g, (cond (Nat.blt o cbase) Obj.none ((objsOf s 64 0 (renumAll (keep.map s.env) []).2).getD (o - cbase) .dead)).live = true → gvN T gv lF o = some g → g.blk = some b →
        ∃ p, cbase ≤ o ∧ lF[o - cbase]? = some (.old p) ∧ (s.obj p).live = true ∧ gv p = some g := by
      intro o g hl hg hb
      rcases what o with ⟨h1, h2⟩ | h2 | ⟨h1, ⟨t, h2, h3⟩ | ⟨p, l1, h2, h3⟩⟩
      · rw [h2] at hl; cases hl
      · rw [h2] at hl; cases hl
      · rw [gvo o _ h1 h2] at hg
        cases hg
        cases hb
      · rw [gvo o _ h1 h2] at hg
        refine ⟨p, h1, h2, ?_, hg⟩
        generalize (cond (Nat.blt o cbase) Obj.none ((objsOf s 64 0 (renumAll (keep.map s.env) []).2).getD (o - cbase) .dead)) = x at h3 hl
        generalize s.obj p = y at h3
        cases h3 <;> first | rfl | cases hl
    obtain ⟨p, e1, e2, e3, e4⟩ := get o g hl hg hb
    obtain ⟨p', f1, f2, f3, f4⟩ := get o' g' hl' hg' hb'
    refine h.apart p p' g g' b (fun e => ?_) e3 f3 e4 f4 hb hb'
    subst e
    have := honce _ _ _ e2 f2
    omega
end
end V
namespace V
open Go

def Ex.to : Ex → Exit
  | .normal => .normal
  | .exit i => .exit i
  | .ret => .ret

/-- every operation's temporary is one of the frame's -/
def dsts (N : Nat) : Code → Bool
  | .region _ ops _ => ops.toList.all fun o => match o.dst with
    | some d => Nat.blt d N
    | none => true
  | .seq a b => dsts N a && dsts N b
  | .cond _ a b => dsts N a && dsts N b
  | .block _ b => dsts N b
  | .loop b => dsts N b
  | .scope b => dsts N b
  | _ => true

def loopsIn : Code → List Code
  | .seq a b => loopsIn a ++ loopsIn b
  | .cond _ a b => loopsIn a ++ loopsIn b
  | .block _ b | .scope b => loopsIn b
  | .loop b => b :: loopsIn b
  | _ => []

def nodupB : List Nat → Bool
  | [] => true
  | x :: l => !(l.contains x) && nodupB l

section
variable {Ty : Nat → Type} {T : Tab Ty} {P : Program}
variable {specs : Nat → Option (FSpec Ty)} {keeps : Nat → Keep} {k : Nat}

/-! ### what goes on behind may be asked later -/

theorem opsK_nat {R : Type} (ops : List Oper) : ∀ (todo : List Oper) (s : St Ty) (K : St Ty → Option R), opsK specs T k ops todo s K = (opsK specs T k ops todo s some).bind K := by
  intro todo
  induction todo with
  | nil => intro s K; rfl
  | cons o r ih =>
    intro s K
    simp only [opsK, guardK_eq]
    split
    · rw [opK_eq, opK_eq]
      cases opV specs T k o s with
      | none => rfl
      | some x => simp only [Option.bind_some]; exact ih _ _
    · exact ih _ _
    · rfl

theorem opsD_nat {R : Type} (ops : List Oper) : ∀ (todo : List Oper) (an : List Nat) (i : Nat) (l : List Acc) (s : St Ty) (K : St Ty → Option R), opsD specs T k ops todo an i l s K = (opsD specs T k ops todo an i l s some).bind K := by
  intro todo
  induction todo with
  | nil => intro an i l s K; simp only [opsD]; cases accOk l <;> rfl
  | cons o r ih =>
    intro an i l s K
    simp only [opsD, guardK_eq]
    split
    · rw [opD_eq, opD_eq]
      cases opV specs T k o s with
      | none => rfl
      | some x => simp only [Option.bind_some]; exact ih _ _ _ _ _
    · exact ih _ _ _ _ _
    · rfl

theorem regionK_nat {R : Type} (ops : List Oper) (draw : Bool) (s : St Ty) (K : St Ty → Option R) : regionK specs T k ops draw s K = (regionK specs T k ops draw s some).bind K := by
  unfold regionK
  cases draw with
  | false => exact opsK_nat ops ops s K
  | true =>
    simp only [cond_true]
    cases freeRows [] (rowsOf ops ops (ancs ops)) with
    | false => rfl
    | true => exact opsD_nat ops ops _ _ _ s K

/-! ### the run -/

variable {w0 : Base} {D0 : Nat → Prop} {N : Nat}

theorem loopN_sound (hT : TabOK P T) {b : Code} {Q : Exit → Act → World → Prop} {hd ou : List Nat}
    (ih : ∀ {s : St Ty} {a : Act} {w : World} {e : Ex} {s' : St Ty} {Q : Exit → Act → World → Prop}, Gam T w0 D0 N s a w → Run specs keeps T k b s = some (e, s') → (∀ a w, Gam T w0 D0 N s' a w → Q e.to a w) → b.wp P Q a w)
    {e : Ex} {n' : NSt Ty} (hQ : ∀ a w, Gam T w0 D0 N (n'.toSt ou) a w → Q e.to a w) :
    ∀ (f : Nat) (n : NSt Ty) (a : Act) (w : World), Gam T w0 D0 N (n.toSt hd) a w → loopN (fun n => Run specs keeps T k b (n.toSt hd)) (St.norm hd) (St.norm ou) f n = some (e, n') → Code.rounds P b Q f a w := by
  intro f
  induction f with
  | zero => intro n a w _ h; cases h
  | succ f ihf =>
    intro n a w hg h
    rw [rounds_succ]
    simp only [loopN] at h
    cases hr : Run specs keeps T k b (n.toSt hd) with
    | none => rw [hr] at h; cases h
    | some p =>
      obtain ⟨e1, s1⟩ := p
      rw [hr] at h
      refine ih hg hr fun a' w' hg' => ?_
      cases e1 with
      | normal => exact ihf _ a' w' (norm_sound hT hg' hd) h
      | exit i =>
        simp only [Option.some.injEq, Prod.mk.injEq] at h
        obtain ⟨h1, h2⟩ := h
        subst h1; subst h2
        exact hQ _ _ (norm_sound hT hg' ou)
      | ret =>
        simp only [Option.some.injEq, Prod.mk.injEq] at h
        obtain ⟨h1, h2⟩ := h
        subst h1; subst h2
        exact hQ _ _ (norm_sound hT hg' ou)

theorem run_sound (hT : TabOK P T) (hS : SpecsOK P T specs) : ∀ (c : Code), dsts N c = true → ∀ {s : St Ty} {a : Act} {w : World} {e : Ex} {s' : St Ty} {Q : Exit → Act → World → Prop}, Gam T w0 D0 N s a w →
    Run specs keeps T k c s = some (e, s') → (∀ a w, Gam T w0 D0 N s' a w → Q e.to a w) → c.wp P Q a w := by
  intro c
  induction c with
  | skip =>
    intro _ s a w e s' Q hg hr hQ
    simp only [Run, Option.some.injEq, Prod.mk.injEq] at hr
    obtain ⟨rfl, rfl⟩ := hr
    exact wp_skip (hQ _ _ hg)
  | region id ops draw =>
    intro hd s a w e s' Q hg hr hQ
    simp only [Run] at hr
    rw [regionK_nat] at hr
    cases hk : regionK specs T k ops.toList draw s some with
    | none => rw [hk] at hr; cases hr
    | some s1 =>
      rw [hk] at hr
      simp only [Option.bind_some, Option.some.injEq, Prod.mk.injEq] at hr
      obtain ⟨rfl, rfl⟩ := hr
      refine region_sound hT hS hg (fun o ho d hdst => ?_) hk hQ
      have := List.all_eq_true.1 hd o (by simpa using ho)
      rw [hdst] at this
      simpa [Nat.blt_eq] using this
  | seq x y ihx ihy =>
    intro hd s a w e s' Q hg hr hQ
    simp only [dsts, Bool.and_eq_true] at hd
    simp only [Run] at hr
    apply wp_seq
    cases hx : Run specs keeps T k x s with
    | none => rw [hx] at hr; cases hr
    | some p =>
      obtain ⟨e1, s1⟩ := p
      rw [hx] at hr
      refine ihx hd.1 hg hx fun a' w' hg' => ?_
      cases e1 with
      | normal => exact ihy hd.2 hg' hr hQ
      | exit i =>
        simp only [Option.some.injEq, Prod.mk.injEq] at hr
        obtain ⟨rfl, rfl⟩ := hr
        exact hQ _ _ hg'
      | ret =>
        simp only [Option.some.injEq, Prod.mk.injEq] at hr
        obtain ⟨rfl, rfl⟩ := hr
        exact hQ _ _ hg'
  | cond c x y ihx ihy =>
    intro hd s a w e s' Q hg hr hQ
    simp only [dsts, Bool.and_eq_true] at hd
    simp only [Run] at hr
    split at hr
    case h_2 => cases hr
    rename_i t ht
    obtain ⟨D, gv, h⟩ := hg
    have hv := h.eval c
    rw [ht] at hv
    cases t with
    | true => exact wp_cond_true hv.bool_inv (ihx hd.1 ⟨D, gv, h⟩ hr hQ)
    | false => exact wp_cond_false hv.bool_inv (ihy hd.2 ⟨D, gv, h⟩ hr hQ)
  | block id b ih =>
    intro hd s a w e s' Q hg hr hQ
    simp only [Run] at hr
    apply wp_block
    cases hx : Run specs keeps T k b s with
    | none => rw [hx] at hr; cases hr
    | some p =>
      obtain ⟨e1, s1⟩ := p
      rw [hx] at hr
      simp only [Option.some.injEq, Prod.mk.injEq] at hr
      obtain ⟨rfl, rfl⟩ := hr
      refine ih hd hg hx fun a' w' hg' => ?_
      have := hQ a' w' hg'
      cases e1 with
      | normal => simpa [Ex.to, Exit.inBlock] using this
      | ret => simpa [Ex.to, Exit.inBlock] using this
      | exit i =>
        unfold Ex.to Exit.inBlock
        simp only
        by_cases hi : i = id
        · subst hi
          rw [if_pos rfl] at this ⊢
          exact this
        · have : Q (.exit i) a' w' := by
            rw [if_neg (by simpa using hi)] at this
            exact this
          rw [if_neg hi]; exact this
  | loop b ih =>
    intro hd s a w e s' Q hg hr hQ
    simp only [Run] at hr
    split at hr
    case h_2 => cases hr
    rename_i e1 n hl
    simp only [Option.some.injEq, Prod.mk.injEq] at hr
    obtain ⟨rfl, rfl⟩ := hr
    exact wp_loop_rounds k (loopN_sound hT (fun hg hr hQ => ih hd hg hr hQ) hQ k _ a w (norm_sound hT hg _) hl)
  | exit id =>
    intro _ s a w e s' Q hg hr hQ
    simp only [Run, Option.some.injEq, Prod.mk.injEq] at hr
    obtain ⟨rfl, rfl⟩ := hr
    exact wp_exit (hQ _ _ hg)
  | ret =>
    intro _ s a w e s' Q hg hr hQ
    simp only [Run, Option.some.injEq, Prod.mk.injEq] at hr
    obtain ⟨rfl, rfl⟩ := hr
    exact wp_ret (hQ _ _ hg)
  | _ => intro _ s a w e s' Q hg hr hQ; simp only [Run] at hr; cases hr

/-! ### the ways on to the end -/

variable {lsums : Nat → Option (LSum Ty)}

def LOK (specs : Nat → Option (FSpec Ty)) (keeps : Nat → Keep) (T : Tab Ty) (b : Code) (L : LSum Ty) : Prop := ∀ (k : Nat) (n : NSt Ty) (R : Type) (K : Ex → NSt Ty → Option R) (r : R), L.runK k n R K = some r →
  ∃ e n', loopN (fun n => Run specs keeps T k b (n.toSt (keeps (firstRegion b)).head)) (St.norm (keeps (firstRegion b)).head) (St.norm (keeps (firstRegion b)).out) k n = some (e, n') ∧ K e n' = some r

def LSOK (specs : Nat → Option (FSpec Ty)) (keeps : Nat → Keep) (T : Tab Ty) (fn : Func) (lsums : Nat → Option (LSum Ty)) : Prop := ∀ i L, lsums i = some L → LOK specs keeps T (bodyAt fn i) L

/-- the loops of a code are told apart by their numbers -/
def LoopsAt (fn : Func) (c : Code) : Prop := ∀ b ∈ loopsIn c, bodyAt fn (firstRegion b) = b

theorem know_same {s : St Ty} {c : Operand} {b : Bool} (h : s.eval c = .bool b) : s.know c b = s := by
  cases c with
  | tmp t => exact set_same h
  | _ => rfl

theorem X_run {fn : Func} (hL : LSOK specs keeps T fn lsums) : ∀ (c : Code), LoopsAt fn c → ∀ (s : St Ty) (R : Type) (K : Ex → St Ty → Option R) (r : R), X specs keeps lsums T k c s R K = some r →
    ∃ e s', Run specs keeps T k c s = some (e, s') ∧ K e s' = some r := by
  intro c
  induction c with
  | skip => intro _ s R K r h; exact ⟨.normal, s, rfl, h⟩
  | region id ops draw =>
    intro _ s R K r h
    simp only [X] at h
    rw [regionK_nat] at h
    cases hk : regionK specs T k ops.toList draw s some with
    | none => rw [hk] at h; cases h
    | some s1 =>
      rw [hk] at h
      refine ⟨.normal, s1, ?_, h⟩
      simp only [Run]
      rw [regionK_nat, hk]; rfl
  | seq x y ihx ihy =>
    intro hl s R K r h
    simp only [X] at h
    obtain ⟨e1, s1, h1, h2⟩ := ihx (fun b hb => hl b (by simp [loopsIn, hb])) _ _ _ _ h
    simp only [Run]
    rw [h1]
    cases e1 with
    | normal =>
      obtain ⟨e2, s2, h3, h4⟩ := ihy (fun b hb => hl b (by simp [loopsIn, hb])) _ _ _ _ h2
      exact ⟨e2, s2, h3, h4⟩
    | exit i => exact ⟨_, _, rfl, h2⟩
    | ret => exact ⟨_, _, rfl, h2⟩
  | cond c x y ihx ihy =>
    intro hl s R K r h
    simp only [X] at h
    simp only [Run]
    split at h
    case h_2 => cases h
    rename_i t ht
    cases t with
    | true => rw [know_same ht] at h; exact ihx (fun b hb => hl b (by simp [loopsIn, hb])) _ _ _ _ h
    | false => rw [know_same ht] at h; exact ihy (fun b hb => hl b (by simp [loopsIn, hb])) _ _ _ _ h
  | block id b ih =>
    intro hl s R K r h
    simp only [X] at h
    obtain ⟨e1, s1, h1, h2⟩ := ih hl _ _ _ _ h
    simp only [Run]
    rw [h1]
    refine ⟨_, _, rfl, ?_⟩
    cases e1 with
    | normal => simpa using h2
    | ret => simpa using h2
    | exit i =>
      simp only at h2
      by_cases hi : i = id
      · subst hi
        rw [beq_self_eq_true] at h2
        rw [if_pos rfl]; exact h2
      · have : (i == id) = false := by simpa using hi
        rw [this] at h2
        rw [if_neg (by simpa using hi)]; exact h2
  | loop b ih =>
    intro hl s R K r h
    simp only [X] at h
    simp only [Run]
    split at h
    case h_2 => cases h
    rename_i L hLs
    have hb := hl b (by simp [loopsIn])
    have hok := hL _ _ hLs
    rw [hb] at hok
    obtain ⟨e, n', h1, h2⟩ := hok _ _ _ _ _ h
    rw [h1]
    exact ⟨_, _, rfl, h2⟩
  | exit id => intro _ s R K r h; exact ⟨_, _, rfl, h⟩
  | ret => intro _ s R K r h; exact ⟨_, _, rfl, h⟩
  | _ => intro _ s R K r h; simp only [X] at h; cases h

/-- a typed loop serves -/
theorem LOK.of {fn : Func} (hL : LSOK specs keeps T fn lsums) {S O : Type} {i : Nat} (hl : LoopsAt fn (bodyAt fn i)) (ofS : S → NSt Ty) (abs : (n : NSt Ty) → Option {x : S // ofS x = n}) (outE : O → Ex) (outN : O → NSt Ty)
    (outA : (e : Ex) → (n : NSt Ty) → Option {y : O // outE y = e ∧ outN y = n}) (L : Nat → Nat → S → Option O) (h0 : ∀ k x, L k 0 x = none)
    (h1 : ∀ k n x, L k (n + 1) x = roundK specs keeps lsums T (bodyAt fn i) ofS abs outE outN outA k (L k n) x) : LOK specs keeps T (bodyAt fn i) (LSum.of ofS abs L outE outN) := by
  have key : ∀ k n x y, L k n x = some y → loopN (fun n => Run specs keeps T k (bodyAt fn i) (n.toSt (keeps (firstRegion (bodyAt fn i))).head)) (St.norm (keeps (firstRegion (bodyAt fn i))).head) (St.norm (keeps (firstRegion (bodyAt fn i))).out) n (ofS x) = some (outE y, outN y) := by
    intro k n
    induction n with
    | zero => intro x y h; rw [h0] at h; cases h
    | succ n ih =>
      intro x y h
      rw [h1] at h
      unfold roundK at h
      obtain ⟨e, s1, hr, hK⟩ := X_run hL _ hl _ _ _ _ h
      simp only [loopN]
      rw [hr]
      cases e with
      | normal =>
        simp only at hK ⊢
        split at hK
        case h_2 => cases hK
        rename_i z _
        have := ih z.1 y hK
        rw [z.2] at this
        exact this
      | exit j =>
        simp only at hK ⊢
        split at hK
        case h_2 => cases hK
        rename_i z _
        cases hK
        rw [z.2.1, z.2.2]
      | ret =>
        simp only at hK ⊢
        split at hK
        case h_2 => cases hK
        rename_i z _
        cases hK
        rw [z.2.1, z.2.2]
  intro k n R K r h
  unfold LSum.of at h
  simp only at h
  split at h
  case h_2 => cases h
  rename_i x _
  cases hy : L k k x.1 with
  | none => rw [hy] at h; cases h
  | some y =>
    rw [hy] at h
    have := key k k x.1 y hy
    rw [x.2] at this
    exact ⟨_, _, this, h⟩

def noL : Nat → Option (LSum Ty) := fun _ => none
def addL (i : Nat) (L : LSum Ty) (ls : Nat → Option (LSum Ty)) : Nat → Option (LSum Ty) := fun j => cond (j == i) (some L) (ls j)
theorem LSOK.none {fn : Func} : LSOK specs keeps T fn noL := fun i L h => by cases h
theorem LSOK.add {fn : Func} {i : Nat} {L : LSum Ty} (hL : LSOK specs keeps T fn lsums) (h : LOK specs keeps T (bodyAt fn i) L) : LSOK specs keeps T fn (addL i L lsums) := by
  intro j M hM
  unfold addL at hM
  by_cases e : j = i
  · subst e
    simp only [beq_self_eq_true, cond_true, Option.some.injEq] at hM
    subst hM; exact h
  · have : (j == i) = false := by simpa using e
    rw [this] at hM
    exact hL j M hM

/-! ### the loops' numbers -/

theorem nodupB_spec : ∀ (l : List Nat), nodupB l = true → l.Nodup := by
  intro l
  induction l with
  | nil => intro _; exact .nil
  | cons x r ih =>
    intro h
    simp only [nodupB, Bool.and_eq_true, Bool.not_eq_true'] at h
    refine List.nodup_cons.2 ⟨fun hm => ?_, ih h.2⟩
    have : r.contains x = true := by simpa using hm
    rw [this] at h; cases h.1

theorem loopAt_mem {i : Nat} : ∀ (c b : Code), loopAt i c = some b → b ∈ loopsIn c ∧ firstRegion b = i := by
  intro c
  induction c with
  | seq x y ihx ihy =>
    intro b h
    simp only [loopAt] at h
    simp only [loopsIn, List.mem_append]
    split at h
    · rename_i c hc; cases h; exact ⟨.inl (ihx _ hc).1, (ihx _ hc).2⟩
    · exact ⟨.inr (ihy _ h).1, (ihy _ h).2⟩
  | cond c x y ihx ihy =>
    intro b h
    simp only [loopAt] at h
    simp only [loopsIn, List.mem_append]
    split at h
    · rename_i c hc; cases h; exact ⟨.inl (ihx _ hc).1, (ihx _ hc).2⟩
    · exact ⟨.inr (ihy _ h).1, (ihy _ h).2⟩
  | block id c ih => intro b h; exact ih b h
  | scope c ih => intro b h; exact ih b h
  | loop c ih =>
    intro b h
    simp only [loopAt] at h
    simp only [loopsIn, List.mem_cons]
    cases hb : firstRegion c == i with
    | true =>
      rw [hb] at h
      cases h
      exact ⟨.inl rfl, by simpa using hb⟩
    | false => rw [hb] at h; exact ⟨.inr (ih _ h).1, (ih _ h).2⟩
  | _ => intro b h; simp [loopAt] at h

theorem loopAt_some {i : Nat} : ∀ (c b : Code), b ∈ loopsIn c → firstRegion b = i → ∃ b', loopAt i c = some b' := by
  intro c
  induction c with
  | seq x y ihx ihy =>
    intro b h hi
    simp only [loopsIn, List.mem_append] at h
    simp only [loopAt]
    split
    · exact ⟨_, rfl⟩
    · rename_i hn
      rcases h with h | h
      · obtain ⟨b', hb'⟩ := ihx b h hi; rw [hn] at hb'; cases hb'
      · exact ihy b h hi
  | cond c x y ihx ihy =>
    intro b h hi
    simp only [loopsIn, List.mem_append] at h
    simp only [loopAt]
    split
    · exact ⟨_, rfl⟩
    · rename_i hn
      rcases h with h | h
      · obtain ⟨b', hb'⟩ := ihx b h hi; rw [hn] at hb'; cases hb'
      · exact ihy b h hi
  | block id c ih => intro b h hi; exact ih b h hi
  | scope c ih => intro b h hi; exact ih b h hi
  | loop c ih =>
    intro b h hi
    simp only [loopsIn, List.mem_cons] at h
    simp only [loopAt]
    cases hb : firstRegion c == i with
    | true => exact ⟨_, rfl⟩
    | false =>
      rcases h with rfl | h
      · have : (firstRegion b == i) = true := by simpa using hi
        rw [hb] at this; cases this
      · exact ih b h hi
  | _ => intro b h; simp [loopsIn] at h

theorem inj_of_nodup {α : Type} {f : α → Nat} : ∀ (l : List α), (l.map f).Nodup → ∀ x ∈ l, ∀ y ∈ l, f x = f y → x = y := by
  intro l
  induction l with
  | nil => intro _ x hx; cases hx
  | cons z r ih =>
    intro h x hx y hy he
    simp only [List.map_cons, List.nodup_cons, List.mem_map, not_exists, not_and] at h
    rcases List.mem_cons.1 hx with rfl | hx'
    · rcases List.mem_cons.1 hy with rfl | hy'
      · rfl
      · exact absurd he.symm (h.1 y hy')
    · rcases List.mem_cons.1 hy with rfl | hy'
      · exact absurd he (h.1 x hx')
      · exact ih h.2 x hx' y hy' he

theorem loopsAt_of {fn : Func} {c : Code} (hb : fn.body = some c) (hn : nodupB ((loopsIn c).map firstRegion) = true) : LoopsAt fn c := by
  intro b hm
  obtain ⟨b', hb'⟩ := loopAt_some c b hm rfl
  have := loopAt_mem c b' hb'
  unfold bodyAt
  rw [hb]
  simp only [Option.bind_some, hb', Option.getD_some]
  exact inj_of_nodup _ (nodupB_spec _ hn) _ this.1 _ hm this.2

theorem loopsIn_sub : ∀ (c b : Code), b ∈ loopsIn c → ∀ x ∈ loopsIn b, x ∈ loopsIn c := by
  intro c
  induction c with
  | seq x y ihx ihy =>
    intro b h z hz
    simp only [loopsIn, List.mem_append] at h ⊢
    exact h.imp (fun h => ihx b h z hz) (fun h => ihy b h z hz)
  | cond c x y ihx ihy =>
    intro b h z hz
    simp only [loopsIn, List.mem_append] at h ⊢
    exact h.imp (fun h => ihx b h z hz) (fun h => ihy b h z hz)
  | block id c ih => intro b h z hz; exact ih b h z hz
  | scope c ih => intro b h z hz; exact ih b h z hz
  | loop c ih =>
    intro b h z hz
    simp only [loopsIn, List.mem_cons] at h ⊢
    rcases h with rfl | h
    · exact .inr hz
    · exact .inr (ih b h z hz)
  | _ => intro b h; simp [loopsIn] at h

theorem loopsAt_body {fn : Func} {c : Code} (hb : fn.body = some c) (hn : nodupB ((loopsIn c).map firstRegion) = true) (i : Nat) : LoopsAt fn (bodyAt fn i) := by
  have hl := loopsAt_of hb hn
  unfold bodyAt
  rw [hb]
  simp only [Option.bind_some]
  cases h : loopAt i c with
  | none => intro b hm; simp [loopsIn] at hm
  | some b' => exact fun x hx => hl x (loopsIn_sub c b' (loopAt_mem c b' h).1 x hx)
end
end V
namespace V
open Go
section
variable {Ty : Nat → Type} {T : Tab Ty} {P : Program}
variable {specs : Nat → Option (FSpec Ty)} {keeps : Nat → Keep} {k : Nat} {lsums : Nat → Option (LSum Ty)}
variable {w0 : Base} {D0 : Nat → Prop} {N : Nat} {s : St Ty} {a : Act} {w : World} {D : Nat → Prop} {gv : Nat → Option GObj}

def resF (tmps : Array Value) : ResultVar → Sem Value
  | .tmp t => pure (tmps.getD t Go.undef)
  | .cell c t => do loadVar t (← asAddr (tmps.getD c Go.undef))

theorem resultAV_sound (hT : TabOK P T) (h : Inv T w0 D0 N s a w D gv) {r : ResultVar} {v : AV Ty} (hr : resultAV T s r = some v) {D' : Nat → Prop} (hD : ∀ b, D b → D' b) (hall : ∀ b, w0.Own b → b < w.heap.size → D' b) :
    ∃ x, ((resF a.tmps r)).run P w = .ok x w ∧ RepV T w D' gv v x := by
  have hb : ∀ (l : List Nat) b, blocksOf s.obj gv l b → D' b := fun l b ⟨o1, _, hl, g, hg, hb⟩ => by
    have := live_blk (h.obj o1) hl hg hb
    exact hall b this.2 this.1
  cases r with
  | tmp t =>
    simp only [resultAV, Option.some.injEq] at hr
    subst hr
    exact ⟨_, rfl, settleV_rep hT h.obj hD (h.env t) (hb _)⟩
  | cell c t =>
    simp only [resultAV] at hr
    split at hr
    case h_2 => cases hr
    rename_i o ho
    have hv := h.env c
    rw [ho] at hv
    obtain ⟨b, hgo, _, hx⟩ := hv.ptr_inv
    have hobj := h.obj o
    have key : ∀ c0 : AV Ty, (cond (fits T t c0) (some (settle T s.obj c0)) none) = some v → (∃ cs e, w.heap[b]? = some (.cells cs e (0, 0)) ∧ RepC T w D gv c0 cs.toList) →
        ∃ x, (do loadVar t (← asAddr (a.tmps.getD c Go.undef)) : Sem Value).run P w = .ok x w ∧ RepV T w D' gv v x := by
      intro c0 hr ⟨cs, e, hw, hrep⟩
      cases hf : fits T t c0 with
      | false => rw [hf] at hr; cases hr
      | true =>
        rw [hf] at hr
        simp only [cond_true, Option.some.injEq] at hr
        subst hr
        have hat : At w b (poff []) cs.toList := by
          intro j v hj
          simp only [poff, Nat.zero_add]
          simp only [World.cell?, hw]
          simpa using hj
        obtain ⟨x, h1, h2⟩ := load_run hT hf hat hrep
        refine ⟨x, ?_, settleV_rep hT h.obj hD h2 (hb _)⟩
        rw [hx, Sem.run_bind]
        simpa [asAddr] using h1
    split at hr
    · rename_i c0 hob
      rw [hob] at hobj
      cases hobj with
      | var k1 k2 k3 k4 k5 => rw [hgo] at k1; cases k1; exact key c0 hr ⟨_, _, k4, k5⟩
    · rename_i c0 hob
      rw [hob] at hobj
      cases hobj with
      | fvar k1 k2 k3 k4 => rw [hgo] at k1; cases k1; exact key c0 hr ⟨_, _, k3, k4⟩
    · cases hr

/-- a value that is no tuple -/
theorem RepV.elem_inv {v : AV Ty} {x : Value} (h : RepV T w D gv v x) (hv : ∀ vs, v ≠ .tup vs) : RepE T w D gv v x := by
  cases h with
  | elem h => exact h
  | tup h => exact absurd rfl (hv _)

def AV.noTup : AV Ty → Bool
  | .tup _ => false
  | _ => true
def AV.noTups : AV Ty → Bool
  | .cons h t => h.noTup && t.noTups
  | _ => true

theorem finish_sound (hT : TabOK P T) (h : Inv T w0 D0 N s a w D gv) {fn : Func} {v : AV Ty} (hr : finish T fn s = some v) (hn : ∀ vs, v = .tup vs → vs.noTups = true) {D' : Nat → Prop} (hD : ∀ b, D b → D' b) (hall : ∀ b, w0.Own b → b < w.heap.size → D' b) :
    ∃ x, (results fn a.tmps).run P w = .ok x w ∧ RepV T w D' gv v x := by
  have many : ∀ (l : List ResultVar) (v : AV Ty), resultsAV T s l = some v → v.noTups = true → ∃ xs : List Value, xs.length = l.length ∧
      (l.mapM (resF a.tmps)).run P w = .ok xs w ∧ RepT T w D' gv v xs := by
    intro l
    induction l with
    | nil => intro v h _; simp only [resultsAV, Option.some.injEq] at h; subst h; exact ⟨[], rfl, rfl, .nil⟩
    | cons r l ih =>
      intro v hv hn
      simp only [resultsAV] at hv
      split at hv
      case h_2 => cases hv
      rename_i v1 v2 e1 e2
      cases hv
      simp only [AV.noTups, Bool.and_eq_true] at hn
      obtain ⟨x, h1, h2⟩ := resultAV_sound hT h e1 hD hall
      obtain ⟨xs, h3, h4, h5⟩ := ih v2 e2 hn.2
      refine ⟨x :: xs, by simp [h3], ?_, .cons (h2.elem_inv fun vs e => by rw [e] at hn; cases hn.1) h5⟩
      rw [List.mapM_cons, Sem.run_bind]
      simp only [h1, Result.andThen_ok, Sem.run_bind, h4, Sem.run_pure]
  have arr : ∀ (xs : List Value), (fn.results.toList.mapM (resF a.tmps)).run P w = .ok xs w →
      (results fn a.tmps).run P w = .ok (if h : xs.toArray.size = 1 then xs.toArray[0] else .tuple xs.toArray) w := by
    intro xs hx
    have h0 : results fn a.tmps = (fn.results.mapM (resF a.tmps) >>= fun vs => pure (if h : vs.size = 1 then vs[0] else .tuple vs)) := by
      unfold results
      congr 2
    rw [h0, Sem.run_bind, Array.mapM_eq_mapM_toList]
    rw [map_eq_pure_bind, Sem.run_bind, hx]
    simp only [Result.andThen_ok, Sem.run_pure]
  unfold finish at hr
  split at hr
  · rename_i r hl
    obtain ⟨x, h1, h2⟩ := resultAV_sound hT h hr hD hall
    refine ⟨x, ?_, h2⟩
    have := arr [x] (by
      rw [hl, List.mapM_cons, Sem.run_bind]
      rw [h1]
      simp)
    simpa using this
  · rename_i hl
    split at hr
    case h_2 => cases hr
    rename_i v1 e1
    cases hr
    obtain ⟨xs, h1, h2, h3⟩ := many _ v1 e1 (hn v1 rfl)
    refine ⟨.tuple xs.toArray, ?_, .tup h3⟩
    have := arr xs h2
    rw [this]
    have hne : ¬ xs.toArray.size = 1 := by
      intro e
      have : fn.results.toList.length = 1 := by rw [← h1]; simpa using e
      match hfl : fn.results.toList, this with
      | [r], _ => exact hl r hfl
    rw [dif_neg hne]

theorem repL_get : ∀ {args : List (AV Ty)} {vals : List Value}, RepL T w D args vals → args.length = vals.length ∧ ∀ (i : Nat) v, args[i]? = some v → ∃ x, vals[i]? = some x ∧ RepV T w D (fun _ => none) v x := by
  intro args vals h
  induction h with
  | nil => exact ⟨rfl, fun i v h => by simp at h⟩
  | cons h _ ih =>
    refine ⟨by simp [ih.1], fun i v hv => ?_⟩
    cases i with
    | zero =>
      simp only [List.getElem?_cons_zero, Option.some.injEq] at hv
      subst hv; exact ⟨_, rfl, h⟩
    | succ i => simpa using ih.2 i v (by simpa using hv)

theorem entry_sound {fn : Func} {args : List (AV Ty)} {vals : List Value} (hG : GlobOK T w) (hD : ∀ b, D b → b < w.heap.size) (h : RepL T w D args vals) :
    Inv T ⟨w, fun _ => False⟩ D (vals.toArray ++ Array.replicate (fn.ntmps - vals.toArray.size) Go.undef).size (entry args) { tmps := vals.toArray ++ Array.replicate (fn.ntmps - vals.toArray.size) Go.undef, defers := [] } w D (fun _ => none) := by
  obtain ⟨hlen, hget⟩ := repL_get h
  refine { defers := rfl, size := rfl, env := fun t => ?_, obj := fun o => .none rfl, apart := fun _ _ _ _ _ _ h => (by cases h), grown := ⟨rfl, rfl, rfl, Nat.le_refl _, fun _ _ _ => rfl⟩, dold := fun b h => h, dlt := hD, dnew := fun b h => .inl h, glob := ⟨hG, fun _ _ h => h⟩ }
  simp only [entry]
  cases hv : args[t]? with
  | none => rw [List.getD_eq_getElem?_getD, hv]; exact .elem (.undef _)
  | some v =>
    obtain ⟨x, hx, hr⟩ := hget t v hv
    rw [List.getD_eq_getElem?_getD, hv]
    have hlt := (List.getElem?_eq_some_iff.1 hx).1
    have : (vals.toArray ++ Array.replicate (fn.ntmps - vals.toArray.size) Go.undef).getD t Go.undef = x := by
      rw [Array.getD_eq_getD_getElem?, Array.getElem?_append_left (by simpa using hlt)]
      simp [hx]
    simp only [this]
    exact hr

theorem dsts_mono {n m : Nat} (h : n ≤ m) : ∀ c, dsts n c = true → dsts m c = true := by
  intro c
  induction c with
  | region id ops draw =>
    intro hd
    refine List.all_eq_true.2 fun o ho => ?_
    have := List.all_eq_true.1 hd o ho
    cases hdst : o.dst with
    | none => rfl
    | some d => rw [hdst] at this; simp only [Nat.blt_eq] at this ⊢; omega
  | seq x y i1 i2 => intro hd; simp only [dsts, Bool.and_eq_true] at hd ⊢; exact ⟨i1 hd.1, i2 hd.2⟩
  | cond c x y i1 i2 => intro hd; simp only [dsts, Bool.and_eq_true] at hd ⊢; exact ⟨i1 hd.1, i2 hd.2⟩
  | block id b ih => intro hd; exact ih hd
  | loop b ih => intro hd; exact ih hd
  | scope b ih => intro hd; exact ih hd
  | _ => intro _; rfl

/-- what is asked of an answer that is handed on -/
def AV.out (al : Bool) (T : Tab Ty) (v : AV Ty) : Prop := v.ids = [] ∧ (∀ vs, v = .tup vs → vs.noTups = true) ∧ (al = false → v.flat T = true)

/-- a call, by what the abstract run of the body comes to -/
theorem xf_calls (hT : TabOK P T) (hS : SpecsOK P T specs) {f : FuncId} {fn : Func} {c : Code} (hf : P.funcs[f]? = some fn) (hb : fn.body = some c) (hd : dsts fn.ntmps c = true) (hn : nodupB ((loopsIn c).map firstRegion) = true)
    (hL : LSOK specs keeps T fn lsums) {al : Bool} {k' : Nat} {args : List (AV Ty)} {B : Type} {dec : AV Ty → Option B} {y : B} {r : AV Ty} (hx : XF specs keeps lsums T k' fn args B dec = some y) (hdec : ∀ v, dec v = some y → v = r) (hout : r.out al T)
    {w : World} {D : Nat → Prop} {vals : List Value} (hG : GlobOK T w) (hD : ∀ b, D b → b < w.heap.size) (hrep : RepL T w D args vals) :
    Calls P f vals.toArray w fun e w' => ∃ x, e = .returned x ∧ RepV T w' (fun b => (al = true ∧ D b) ∨ (w.heap.size ≤ b ∧ b < w'.heap.size)) (fun _ => none) r x ∧ w.grownBy w' none := by
  obtain ⟨hids, hnt, hfl⟩ := hout
  have hX : ∃ e s', Run specs keeps T k' c (entry args) = some (e, s') ∧ (∀ i, e ≠ .exit i) ∧ finish T fn s' = some r := by
    unfold XF at hx
    rw [hb] at hx
    simp only at hx
    obtain ⟨e, s', h1, h2⟩ := X_run hL c (loopsAt_of hb hn) _ _ _ _ hx
    refine ⟨e, s', h1, ?_, ?_⟩
    · intro i e; subst e; cases h2
    · cases e with
      | exit i => cases h2
      | normal =>
        simp only at h2
        cases hfi : finish T fn s' with
        | none => rw [hfi] at h2; cases h2
        | some v => rw [hfi] at h2; rw [hdec v h2]
      | ret =>
        simp only at h2
        cases hfi : finish T fn s' with
        | none => rw [hfi] at h2; cases h2
        | some v => rw [hfi] at h2; rw [hdec v h2]
  obtain ⟨e, s', hrun, hne, hfin⟩ := hX
  refine calls_of_wp hf hb ?_
  have hent := entry_sound (T := T) (fn := fn) hG hD hrep
  refine run_sound (w0 := ⟨w, fun _ => False⟩) (D0 := D) hT hS c (dsts_mono (by simp; omega) c hd) ⟨_, _, hent⟩ hrun ?_
  rintro a' w' ⟨D1, gv, h⟩
  obtain ⟨x, h1, h2⟩ := finish_sound (D' := fun b => D b ∨ (w.heap.size ≤ b ∧ b < w'.heap.size)) hT h hfin hnt (fun b hb => (h.dnew b hb).imp id fun h2 => ⟨h2.resolve_left id, h.dlt b hb⟩) (fun b h1 h2 => .inr ⟨h1.resolve_left id, h2⟩)
  have h3 : RepV T w' (fun b => (al = true ∧ D b) ∨ (w.heap.size ≤ b ∧ b < w'.heap.size)) (fun _ => none) r x := by
    cases hal : al with
    | true => exact (h2.regv hT hids).mono (fun b hb => hb.imp (fun h => ⟨rfl, h⟩) id) (fun _ _ => rfl) (fun _ _ h => h)
    | false => exact h2.flat hT (hfl hal)
  have hbody : a'.defers = [] ∧ ∃ v, (results fn a'.tmps).run P w' = .ok v w' ∧ ∃ x, Ending.returned v = .returned x ∧ RepV T w' (fun b => (al = true ∧ D b) ∨ (w.heap.size ≤ b ∧ b < w'.heap.size)) (fun _ => none) r x ∧ w.grownBy w' none :=
    ⟨h.defers, x, h1, x, rfl, h3, h.grown.grownBy fun _ h => h⟩
  cases e with
  | normal => exact hbody
  | ret => exact hbody
  | exit i => exact absurd rfl (hne i)

theorem fn_sound (hT : TabOK P T) (hS : SpecsOK P T specs) {f : FuncId} {fn : Func} {c : Code} (hf : P.funcs[f]? = some fn) (hb : fn.body = some c) (hd : dsts fn.ntmps c = true) (hn : nodupB ((loopsIn c).map firstRegion) = true)
    (hL : LSOK specs keeps T fn lsums) {sp : FSpec Ty} (hsp : ∀ k args r, sp.runK k args (AV Ty) some = some r → ∃ (k' : Nat) (B : Type) (dec : AV Ty → Option B) (y : B), XF specs keeps lsums T k' fn args B dec = some y ∧ (∀ v, dec v = some y → v = r) ∧ r.out sp.alias T) : FOK P T f sp := by
  intro k args r hr w D vals hG hD hrep
  obtain ⟨k', B, dec, y, hx, hdec, hout⟩ := hsp k args r hr
  exact xf_calls hT hS hf hb hd hn hL hx hdec hout hG hD hrep
end
end V
namespace V
open Go
section
variable {Ty : Nat → Type}

/-! ### a table of types, laid out as a chain of tests -/

def pickDen {α β : Type} (b : Bool) (x : Den Ty α) (y : Den Ty β) : Den Ty (cond b α β) := match b with
  | true => x
  | false => y

theorem pick_all {Q : (α : Type) → Den Ty α → Prop} {α β : Type} {b : Bool} {x : Den Ty α} {y : Den Ty β} (h1 : b = true → Q α x) (h2 : b = false → Q β y) : Q (cond b α β) (pickDen b x y) := by
  cases b with
  | true => exact h1 rfl
  | false => exact h2 rfl

def unitDen : Den Ty Unit := { enc := fun _ => .bool false, dec := fun _ => none, dflt := (), spec := fun _ _ h => by cases h }

/-- an address, of which nothing is told but that there is none -/
def ptrDen : Den Ty Unit := { enc := fun _ => .nilp, dec := fun v => match v with | .nilp => some () | _ => none, dflt := (), spec := fun v _ h => by split at h <;> cases h; rfl }

/-! ### what may be looked up -/

/-- closed values against cells -/
def eat (T : Tab Ty) : Nat → AV Ty → List Value → Option (List Value)
  | 0, _, _ => none
  | f + 1, v, cs => match v, cs with
    | .bool b, .bool b' :: r => cond (b == b') (some r) none
    | .int k n, .int k' n' :: r => cond (decide (k = k') && decide (n = n')) (some r) none
    | .str s, .string s' :: r => cond (decide (s = s')) (some r) none
    | .nilp, .pointer none :: r => some r
    | .nils _, .slice none 0 0 :: r => some r
    | .slice _ [], .slice none 0 0 :: r => some r
    | .err .nil, .nilIface :: r => some r
    | .nil, r => some r
    | .cons h t, cs => match eat T f h cs with
      | some r => eat T f t r
      | none => none
    | .arr t n xs, cs => cond (xs.length == n) (eat T f (encs T t xs) cs) none
    | _, _ => none

theorem eat_rep {T : Tab Ty} {w : World} {D : Nat → Prop} {gv : Nat → Option GObj} : ∀ (f : Nat) (v : AV Ty) (cs r : List Value), eat T f v cs = some r → ∃ c, cs = c ++ r ∧ RepC T w D gv v c := by
  intro f
  induction f with
  | zero => intro v cs r h; cases h
  | succ f ih =>
    intro v cs r h
    unfold eat at h
    split at h
    · rename_i b b' r'
      cases hb : b == b' with
      | false => rw [hb] at h; cases h
      | true => rw [hb] at h; cases h; rw [beq_iff_eq] at hb; subst hb; exact ⟨_, rfl, .bool _⟩
    · rename_i k n k' n' r'
      cases hb : decide (k = k') && decide (n = n') with
      | false => rw [hb] at h; cases h
      | true =>
        rw [hb] at h; cases h
        simp only [Bool.and_eq_true, decide_eq_true_eq] at hb
        obtain ⟨rfl, rfl⟩ := hb
        exact ⟨_, rfl, .int _ _⟩
    · rename_i s s' r'
      cases hb : decide (s = s') with
      | false => rw [hb] at h; cases h
      | true => rw [hb] at h; cases h; have := of_decide_eq_true hb; subst this; exact ⟨_, rfl, .str _⟩
    · cases h; exact ⟨_, rfl, .nilp⟩
    · cases h; exact ⟨_, rfl, .nils _⟩
    · cases h; exact ⟨_, rfl, .snil _ _ _ fun _ => rfl⟩
    · cases h; exact ⟨_, rfl, .err .nil⟩
    · cases h; exact ⟨[], rfl, .nil⟩
    · rename_i a b cs'
      split at h
      case h_2 => cases h
      rename_i r1 h1
      obtain ⟨c1, rfl, k1⟩ := ih _ _ _ h1
      obtain ⟨c2, rfl, k2⟩ := ih _ _ _ h
      exact ⟨c1 ++ c2, by rw [List.append_assoc], .cons k1 k2⟩
    · rename_i cs' t n xs
      cases hb : xs.length == n with
      | false => rw [hb] at h; cases h
      | true =>
        rw [hb] at h
        obtain ⟨c1, h1, k1⟩ := ih _ _ _ h
        exact ⟨c1, h1, .arr (by simpa using hb) k1⟩
    · cases h

theorem eat_all {T : Tab Ty} {w : World} {D : Nat → Prop} {gv : Nat → Option GObj} {f : Nat} {v : AV Ty} {cs : List Value} (h : eat T f v cs = some []) : RepC T w D gv v cs := by
  obtain ⟨c, rfl, hr⟩ := eat_rep (w := w) (D := D) (gv := gv) f v cs [] h
  simpa using hr

/-- a type's zero value, checked -/
def zeroB (T : Tab Ty) (t : Nat) (d : AV Ty) (i : TypeInfo) : Bool :=
  match i.zero with
  | none => false
  | some z => (match (T.zero t).isAgg, z with
      | true, .agg cs => match eat T 100000 (T.zero t) cs.toList with
        | some [] => true
        | _ => false
      | false, z => match eat T 100000 (T.zero t) [z] with
        | some [] => true
        | _ => false
      | _, _ => false) && (match eat T 100000 d z.cells.toList with
        | some [] => true
        | _ => false)

def fieldsB (fs : List Field) (l : List (Nat × Nat)) : Bool :=
  match fs, l with
  | [], [] => true
  | f :: fs, p :: l => f.type == p.1 && f.offset == p.2 && fieldsB fs l
  | _, _ => false
theorem fieldsB_spec : ∀ (fs : List Field) (l : List (Nat × Nat)), fieldsB fs l = true → fs.map (fun f => (f.type, f.offset)) = l := by
  intro fs
  induction fs with
  | nil => intro l h; cases l with
    | nil => rfl
    | cons p l => cases h
  | cons f fs ih =>
    intro l h
    cases l with
    | nil => cases h
    | cons p l =>
      simp only [fieldsB, Bool.and_eq_true, beq_iff_eq] at h
      obtain ⟨⟨h1, h2⟩, h3⟩ := h
      simp only [List.map_cons, h1, h2, ih l h3]

def tdB (P : Program) (t : Nat) : TD → Bool
  | .other => true
  | td => match P.underlying t with
    | none => false
    | some d => match td, d with
      | .bool, .bool => true
      | .int k, .int k' => decide (k' = k)
      | .str, .string => true
      | .ptr e, .pointer e' => e' == e
      | .slice e, .slice e' => e' == e
      | .arr n e, .array n' e' => n' == n && e' == e
      | .struct fs, .struct l => fieldsB l.toList fs
      | .iface, .interface _ => true
      | _, _ => false

theorem tdB_ok {P : Program} {t : Nat} {td : TD} (h : tdB P t td = true) : TDok P t td := by
  unfold tdB at h
  cases td with
  | other => trivial
  | _ =>
    simp only at h
    cases hu : P.underlying t with
    | none => rw [hu] at h; cases h
    | some d =>
      rw [hu] at h
      cases d <;> simp only at h <;> first
        | exact hu
        | (have h := of_decide_eq_true h; subst h; exact hu)
        | (rw [beq_iff_eq] at h; subst h; exact hu)
        | (simp only [Bool.and_eq_true, beq_iff_eq] at h; obtain ⟨rfl, rfl⟩ := h; exact hu)
        | exact ⟨_, hu, fieldsB_spec _ _ h⟩
        | exact ⟨_, hu⟩
        | cases h

/-- the known parts of a type -/
def partsB (T : Tab Ty) : TD → Bool
  | .struct fs => fs.all fun p => (T.td p.1).known
  | .slice e => (T.td e).known
  | .arr _ e => (T.td e).known
  | _ => true

def infoB (P : Program) (T : Tab Ty) (t : Nat) (d : AV Ty) : Bool :=
  match P.info? t with
  | none => false
  | some i => i.size == T.size t && i.bytes == T.bytes t && Nat.ble (T.bytes t) 32768 && Nat.blt 0 (T.size t) && (T.zero t).isAgg == (T.td t).agg && zeroB T t d i

theorem infoB_ok {P : Program} {T : Tab Ty} {t : Nat} (h : infoB P T t (T.enc t (T.dflt t)) = true) : ∃ i z, P.info? t = some i ∧ i.size = T.size t ∧ i.bytes = T.bytes t ∧ T.bytes t ≤ 32768 ∧ 0 < T.size t ∧ i.zero = some z ∧
    (∀ w D gv, RepE T w D gv (T.zero t) z) ∧ (T.zero t).isAgg = (T.td t).agg ∧ (∀ w D gv, RepC T w D gv (T.enc t (T.dflt t)) z.cells.toList) := by
  unfold infoB at h
  cases hi : P.info? t with
  | none => rw [hi] at h; cases h
  | some i =>
    rw [hi] at h
    simp only [Bool.and_eq_true, beq_iff_eq, Nat.ble_eq, Nat.blt_eq] at h
    obtain ⟨⟨⟨⟨⟨h1, h2⟩, h3⟩, h4⟩, h5⟩, h6⟩ := h
    unfold zeroB at h6
    cases hz : i.zero with
    | none => rw [hz] at h6; cases h6
    | some z =>
      rw [hz] at h6
      simp only [Bool.and_eq_true] at h6
      obtain ⟨k1, k2⟩ := h6
      refine ⟨i, z, rfl, h1, h2, h3, h4, hz, fun w D gv => ?_, h5, fun w D gv => ?_⟩
      · split at k1
        · rename_i cs ha
          split at k1
          · rename_i he; have := eat_all (w := w) (D := D) (gv := gv) he; exact .agg ha (by simpa using this)
          · cases k1
        · rename_i z2 ha
          split at k1
          · rename_i he; exact .one ha (eat_all he)
          · cases k1
        · cases k1
      · split at k2
        · rename_i he; exact eat_all he
        · cases k2

/-- what is asked of one type of the table -/
structure EntOK (T : Tab Ty) (t : Nat) (α : Type) (d : Den Ty α) : Prop where
  size : ∀ x, (d.enc x).size T = T.size t
  agg : ∀ x, (T.td t).known = true → (d.enc x).isAgg = (T.td t).agg
  ids : ∀ x, (d.enc x).ids = []
  plain : ∀ x, (d.enc x).plain = true
  flat : ∀ x, T.flatTy t = true → (d.enc x).flat T = true
  num : ∀ x, T.td t = .int .u8 → ∃ n, d.enc x = .int .u8 n

theorem infoAt_spec : ∀ (l : List (Nat × TI)) (t : Nat), (∃ p ∈ l, p.1 = t ∧ infoAt t l = p.2) ∨ infoAt t l = ⟨.other, 1, 8⟩ := by
  intro l
  induction l with
  | nil => intro t; exact .inr rfl
  | cons p l ih =>
    intro t
    obtain ⟨u, i⟩ := p
    unfold infoAt
    cases hb : u == t with
    | true => exact .inl ⟨(u, i), by simp, by simpa using hb, rfl⟩
    | false =>
      rcases ih t with ⟨p, h1, h2⟩ | h
      · exact .inl ⟨p, List.mem_cons_of_mem _ h1, h2⟩
      · exact .inr h

/-- the table, checked -/
def tabB (P : Program) (T : Tab Ty) : Bool := T.info.all fun p => (match (T.td p.1).known with
  | true => infoB P T p.1 (T.enc p.1 (T.dflt p.1))
  | false => true) && tdB P p.1 (T.td p.1) && partsB T (T.td p.1)

theorem TabOK.of {P : Program} {T : Tab Ty} (hB : tabB P T = true) (hE : ∀ t, EntOK T t (Ty t) (T.den t)) (hf : P.follows .mixedOrders = true) : TabOK P T := by
  have key : ∀ t, (∃ p ∈ T.info, p.1 = t) ∨ T.td t = .other := by
    intro t
    rcases infoAt_spec T.info t with ⟨p, h1, h2, _⟩ | h
    · exact .inl ⟨p, h1, h2⟩
    · right; unfold Tab.td; rw [h]
  have get : ∀ t, (∃ p ∈ T.info, p.1 = t) → ((T.td t).known = true → infoB P T t (T.enc t (T.dflt t)) = true) ∧ tdB P t (T.td t) = true ∧ partsB T (T.td t) = true := by
    rintro t ⟨p, hp, rfl⟩
    have := List.all_eq_true.1 hB p hp
    simp only [Bool.and_eq_true] at this
    obtain ⟨⟨h1, h2⟩, h3⟩ := this
    refine ⟨fun hk => ?_, h2, h3⟩
    rw [hk] at h1; exact h1
  refine { td := fun t => ?_, info := fun t hk => ?_, fields := fun t fs hs p hp => ?_, elem := fun t e he => ?_, encSize := fun t x => (hE t).size x, encAgg := fun t x h => (hE t).agg x h, encIds := fun t x => (hE t).ids x, encPlain := fun t x => plain_ne ((hE t).plain x), follow := hf, flat := fun t x h => (hE t).flat x h, num := fun t x h => (hE t).num x h }
  · rcases key t with h | h
    · exact tdB_ok (get t h).2.1
    · rw [h]; trivial
  · rcases key t with h | h
    · exact infoB_ok ((get t h).1 hk)
    · rw [h] at hk; cases hk
  · rcases key t with h | h
    · have := (get t h).2.2
      rw [hs] at this
      exact List.all_eq_true.1 this p hp
    · rw [h] at hs; cases hs
  · rcases key t with h | h
    · have := (get t h).2.2
      rcases he with he | ⟨n, he⟩ <;> (rw [he] at this; exact this)
    · rcases he with he | ⟨n, he⟩ <;> (rw [h] at he; cases he)

/-! ### a typed function's contract -/

def FSpec.of {A B : Type} (decA : List (AV Ty) → Option A) (F : Nat → A → Option B) (encB : B → AV Ty) (al : Bool) : FSpec Ty :=
  { runK := fun k args _ K => match decA args with
      | some x => (F k x).bind fun y => K (encB y)
      | none => none
    nat := fun k args R K => by
      cases decA args with
      | none => rfl
      | some x => simp only; cases F k x <;> rfl
    alias := al }

theorem FSpec.of_ok {T : Tab Ty} {specs : Nat → Option (FSpec Ty)} {keeps : Nat → Keep} {lsums : Nat → Option (LSum Ty)} {P : Program} (hT : TabOK P T) (hS : SpecsOK P T specs) {f : FuncId} {fn : Func} {c : Code} (hf : P.funcs[f]? = some fn) (hb : fn.body = some c)
    (hd : dsts fn.ntmps c = true) (hn : nodupB ((loopsIn c).map firstRegion) = true) (hL : LSOK specs keeps T fn lsums) {A B : Type} {decA : List (AV Ty) → Option A} {encA : A → List (AV Ty)} (hA : ∀ l x, decA l = some x → encA x = l)
    {F : Nat → A → Option B} {encB : B → AV Ty} {decB : AV Ty → Option B} (hB : ∀ v y, decB v = some y → encB y = v) {al : Bool} (hF : ∀ k x, F k x = XF specs keeps lsums T k fn (encA x) B decB) (ho : ∀ y, (encB y).out al T) : FOK P T f (FSpec.of decA F encB al) := by
  refine fn_sound hT hS hf hb hd hn hL fun k args r hr => ?_
  unfold FSpec.of at hr
  simp only at hr
  split at hr
  case h_2 => cases hr
  rename_i x hx
  cases hy : F k x with
  | none => rw [hy] at hr; cases hr
  | some y =>
    rw [hy] at hr
    simp only [Option.bind_some, Option.some.injEq] at hr
    subst hr
    refine ⟨k, B, decB, y, ?_, fun v hv => (hB v y hv).symm, ho y⟩
    rw [← hy, hF, hA _ _ hx]

def noF : Nat → Option (FSpec Ty) := fun _ => none
def addF (i : Nat) (sp : FSpec Ty) (fs : Nat → Option (FSpec Ty)) : Nat → Option (FSpec Ty) := fun j => cond (j == i) (some sp) (fs j)
theorem SpecsOK.none {P : Program} {T : Tab Ty} (hC : CmpOK P T) (hA : AsOK P T) : SpecsOK P T noF := ⟨hC, hA, fun f sp h => by cases h⟩
theorem SpecsOK.add {P : Program} {T : Tab Ty} {fs : Nat → Option (FSpec Ty)} {i : Nat} {sp : FSpec Ty} (h : SpecsOK P T fs) (h1 : FOK P T i sp) (h2 : Callable P i) : SpecsOK P T (addF i sp fs) := by
  refine ⟨h.cmp, h.as, fun f sp' hf => ?_⟩
  unfold addF at hf
  by_cases e : f = i
  · subst e
    simp only [beq_self_eq_true, cond_true, Option.some.injEq] at hf
    subst hf; exact ⟨h1, h2⟩
  · have : (f == i) = false := by simpa using e
    rw [this] at hf
    exact h.fn f sp' hf
end
end V
namespace V
open Go Go.ChangeShapes Go.WideShapes Go.ChangeAt Go.RowKit
section
variable {Ty : Nat → Type} {T : Tab Ty} {P : Program}

/-- what lies in the world ahead of a call -/
def Below0 (w : World) : Nat → Prop := fun b => b < w.heap.size

/-- whoever reads at a type, finds a typed value -/
def Rd (P : Program) (T : Tab Ty) (t : Nat) {α : Type} (e : α → AV Ty) (WF : α → Prop) : Prop :=
  ∀ (H : Type) (enc : TypeId × Value → H) (w : World) (spare : Nat → Bool) (held : Bool) (fuel : Nat) (cs : List Value) (x : DataW H × List MemPlace), DataW.trod enc P w 0 spare held fuel t cs = some x →
    ∃ y, WF y ∧ RepC T w (Below0 w) (fun _ => none) (e y) cs

theorem Rd.int {t : Nat} {k : IntKind} (h : T.td t = .int k) (hT : TabOK P T) : Rd P T t (fun n : Int => .int k n) (fun n => (Lit.int k n).wf = true) := by
  intro H enc w sp hd fuel cs x hx
  have := hT.td t
  rw [h] at this
  obtain ⟨n, rfl, _, hw⟩ := DataW.trod_int this hx
  exact ⟨n, hw, .int _ _⟩
theorem Rd.bool {t : Nat} (h : T.td t = .bool) (hT : TabOK P T) : Rd P T t (fun b : Bool => .bool b) (fun _ => True) := by
  intro H enc w sp hd fuel cs x hx
  have := hT.td t
  rw [h] at this
  obtain ⟨n, rfl, _⟩ := DataW.trod_bool this hx
  exact ⟨n, trivial, .bool _⟩
theorem Rd.str {t : Nat} (h : T.td t = .str) (hT : TabOK P T) : Rd P T t (fun b : ByteArray => .str b) (fun b => b.size ≤ maxLen) := by
  intro H enc w sp hd fuel cs x hx
  have := hT.td t
  rw [h] at this
  obtain ⟨n, rfl, _, hl⟩ := DataW.trod_string this hx
  exact ⟨n, hl, .str _⟩

theorem Rd.imp {t : Nat} {α β : Type} {e : α → AV Ty} {WF : α → Prop} {e' : β → AV Ty} {WF' : β → Prop} (h : Rd P T t e WF) (f : α → β) (hf : ∀ x, e' (f x) = e x) (hw : ∀ x, WF x → WF' (f x)) : Rd P T t e' WF' := by
  intro H enc w sp hd fuel cs x hx
  obtain ⟨y, h1, h2⟩ := h H enc w sp hd fuel cs x hx
  exact ⟨f y, hw y h1, by rw [hf]; exact h2⟩

theorem cellsOf_eq (hT : TabOK P T) {t : Nat} (h : (T.td t).known = true) : P.cellsOf t = T.size t := by
  obtain ⟨i, z, hi, hs, _⟩ := hT.info t h
  unfold Program.cellsOf
  rw [hi]; simpa using hs

theorem cells_at {w : World} {base : Nat} {a : Addr} {n : Nat} {cs : List Value} (h : w.cells? base a n = some cs) (hn : 0 < n) : cs.length = n ∧ a = ⟨a.block, a.off, none⟩ ∧ a.block < w.heap.size ∧ At w a.block a.off cs := by
  have hget : cs.length = n ∧ ∀ j v, cs[j]? = some v → w.cell? (a.add j) = some v := by
    obtain ⟨_, hl, hg⟩ := World.cells?_some h
    refine ⟨hl, fun j v hj => ?_⟩
    have := (List.getElem?_eq_some_iff.1 hj).1
    rw [hg j (by omega)]; exact hj
  obtain ⟨hl, hg⟩ := hget
  have h0 : ∃ v, cs[0]? = some v := ⟨_, List.getElem?_eq_getElem (by omega)⟩
  obtain ⟨v0, h0⟩ := h0
  have hc0 := hg 0 v0 h0
  have hs : a.spot = none := by
    simp only [Addr.add, if_true, World.cell?] at hc0
    split at hc0
    · split at hc0
      · cases hc0
      · rename_i hs; simpa using hs
    · cases hc0
  have hlt : a.block < w.heap.size := by
    simp only [Addr.add, if_true, World.cell?] at hc0
    cases hh : w.heap[a.block]? with
    | none => rw [hh] at hc0; cases hc0
    | some o => exact (Array.getElem?_eq_some_iff.1 hh).1
  have ha : a = ⟨a.block, a.off, none⟩ := by cases a; simp only at hs; subst hs; rfl
  refine ⟨hl, ha, hlt, fun j v hj => ?_⟩
  have := hg j v hj
  rw [ha, Addr.add_lit] at this
  exact this

theorem Rd.slice (hT : TabOK P T) {t e : Nat} (h : T.td t = .slice e) {WF : Ty e → Prop} (he : Rd P T e (T.enc e) WF) : Rd P T t (fun xs : List (Ty e) => .slice e xs) (fun xs => xs.length ≤ maxLen ∧ ∀ x ∈ xs, WF x) := by
  intro H enc w sp hd fuel cs x hx
  have htd := hT.td t
  rw [h] at htd
  have hk := hT.elem t e (.inl h)
  have hsz : 0 < T.size e := by obtain ⟨i, z, _, _, _, _, h0, _⟩ := hT.info e hk; exact h0
  have hce := cellsOf_eq hT hk
  rcases DataW.trod_slice htd hx with ⟨rfl, _⟩ | ⟨a, len, cap, elems, rest, n, _, rfl, _, _, hlc, hcap, hlen, hel, _⟩
  · exact ⟨[], ⟨by simp, by simp⟩, .snil _ _ _ fun _ => rfl⟩
  · -- each element
    have each : ∀ i, i < len → ∃ (ci : List Value) (y : Ty e), w.cells? 0 (a.add (i * T.size e)) (T.size e) = some ci ∧ WF y ∧ RepC T w (Below0 w) (fun _ => none) (T.enc e y) ci := by
      intro i hi
      have h1 := hel i hi
      rw [hce] at h1
      have hs : ∃ z, elems[i]? = some z := ⟨_, List.getElem?_eq_getElem (by omega)⟩
      obtain ⟨z, hz⟩ := hs
      rw [hz] at h1
      obtain ⟨ci, h2, h3⟩ := Option.bind_eq_some_iff.1 h1
      obtain ⟨y, h4, h5⟩ := he H enc w sp hd n ci z h3
      exact ⟨ci, y, h2, h4, h5⟩
    cases hl0 : len with
    | zero => exact ⟨[], ⟨by simp, by simp⟩, .snil _ _ _ fun e => by cases e⟩
    | succ m =>
      obtain ⟨c0, y0, h0, _⟩ := each 0 (by omega)
      obtain ⟨_, ha, hlt, _⟩ := cells_at h0 hsz
      rw [Nat.zero_mul, show a.add 0 = a from rfl] at ha hlt
      have all : ∀ k, k ≤ len → ∃ (xs : List (Ty e)) (flat : List Value), xs.length = k ∧ (∀ x ∈ xs, WF x) ∧ flat.length = k * T.size e ∧ RepC T w (Below0 w) (fun _ => none) (encs T e xs) flat ∧ At w a.block a.off flat := by
        intro k
        induction k with
        | zero => intro _; exact ⟨[], [], rfl, by simp, by simp, .nil, fun j v hj => by simp at hj⟩
        | succ k ih =>
          intro hk'
          obtain ⟨xs, flat, h1, h2, h3, h4, h5⟩ := ih (by omega)
          obtain ⟨ck, yk, k1, k2, k3⟩ := each k (by omega)
          obtain ⟨k4, _, _, k5⟩ := cells_at k1 hsz
          refine ⟨xs ++ [yk], flat ++ ck, by simp [h1], fun x hx => ?_, by rw [List.length_append, h3, k4, Nat.add_mul, Nat.one_mul], ?_, fun j v hj => ?_⟩
          · rcases List.mem_append.1 hx with hx | hx
            · exact h2 x hx
            · rw [List.mem_singleton.1 hx]; exact k2
          · have app : ∀ (xs : List (Ty e)) (flat : List Value), RepC T w (Below0 w) (fun _ => none) (encs T e xs) flat → RepC T w (Below0 w) (fun _ => none) (encs T e (xs ++ [yk])) (flat ++ ck) := by
              intro xs
              induction xs with
              | nil => intro flat hf; cases hf; simpa [encs, listAV] using RepC.cons k3 RepC.nil
              | cons x r ih =>
                intro flat hf
                cases hf with
                | cons a b => rw [List.append_assoc]; exact .cons a (ih _ b)
            exact app xs flat h4
          · rcases Nat.lt_or_ge j flat.length with hj1 | hj1
            · rw [List.getElem?_append_left hj1] at hj; exact h5 j v hj
            · rw [List.getElem?_append_right hj1] at hj
              have := k5 _ v hj
              have e1 : (a.add (k * T.size e)).block = a.block := by unfold Addr.add; split <;> rfl
              have e2 : (a.add (k * T.size e)).off = a.off + k * T.size e := by
                unfold Addr.add
                split
                · rename_i hz; rw [hz]; rfl
                · rfl
              rw [e1, e2] at this
              rw [show a.off + j = a.off + k * T.size e + (j - flat.length) by omega]
              exact this
      obtain ⟨xs, flat, h1, h2, h3, h4, h5⟩ := all len (Nat.le_refl _)
      refine ⟨xs, ⟨by omega, h2⟩, ?_⟩
      rw [ha, ← hl0, ← h1]
      exact .slice hlt (by omega) h5 h4

theorem Rd.arr (hT : TabOK P T) {t e n : Nat} (h : T.td t = .arr n e) {WF : Ty e → Prop} (he : Rd P T e (T.enc e) WF) (hsz : T.size t = n * T.size e) : Rd P T t (fun xs : List (Ty e) => .arr e n xs) (fun xs => xs.length = n ∧ ∀ x ∈ xs, WF x) := by
  intro H enc w sp hd fuel cs x hx
  have htd := hT.td t
  rw [h] at htd
  have hk := hT.elem t e (.inr ⟨n, h⟩)
  have hce := cellsOf_eq hT hk
  have hct := cellsOf_eq hT (t := t) (by rw [h]; rfl)
  obtain ⟨xs, m, _, _, hl, hxl, hel⟩ := DataW.trod_array htd hx
  rw [hct, hsz] at hl
  have all : ∀ k, k ≤ n → ∃ (ys : List (Ty e)), ys.length = k ∧ (∀ x ∈ ys, WF x) ∧ RepC T w (Below0 w) (fun _ => none) (encs T e ys) (cs.take (k * T.size e)) := by
    intro k
    induction k with
    | zero => intro _; exact ⟨[], rfl, by simp, by rw [Nat.zero_mul]; exact .nil⟩
    | succ k ih =>
      intro hk'
      obtain ⟨ys, h1, h2, h3⟩ := ih (by omega)
      have h4 := hel k (by omega)
      rw [hce, List.getElem?_eq_getElem (by omega)] at h4
      obtain ⟨y, h5, h6⟩ := he H enc w sp hd m _ _ h4
      refine ⟨ys ++ [y], by simp [h1], fun x hx => ?_, ?_⟩
      · rcases List.mem_append.1 hx with hx | hx
        · exact h2 x hx
        · rw [List.mem_singleton.1 hx]; exact h5
      · have app : ∀ (ys : List (Ty e)) (flat : List Value), RepC T w (Below0 w) (fun _ => none) (encs T e ys) flat → RepC T w (Below0 w) (fun _ => none) (encs T e (ys ++ [y])) (flat ++ (cs.drop (k * T.size e)).take (T.size e)) := by
          intro ys
          induction ys with
          | nil => intro flat hf; cases hf; simpa [encs, listAV] using RepC.cons h6 RepC.nil
          | cons x r ih =>
            intro flat hf
            cases hf with
            | cons a b => rw [List.append_assoc]; exact .cons a (ih _ b)
        have := app ys _ h3
        rw [← List.take_add] at this
        rw [Nat.add_mul, Nat.one_mul]; exact this
  obtain ⟨ys, h1, h2, h3⟩ := all n (Nat.le_refl _)
  refine ⟨ys, ⟨h1, h2⟩, .arr h1 ?_⟩
  rwa [List.take_of_length_le (by omega)] at h3

/-- fields one behind the other -/
def RdF (P : Program) (T : Tab Ty) (off : Nat) (fs : List (Nat × Nat)) {α : Type} (e : α → AV Ty) (WF : α → Prop) : Prop :=
  ∀ (H : Type) (enc : TypeId × Value → H) (w : World) (spare : Nat → Bool) (held : Bool) (fuel : Nat) (cs : List Value), (∀ p ∈ fs, ∃ x, DataW.trod enc P w 0 spare held fuel p.1 ((cs.drop p.2).take (T.size p.1)) = some x) →
    ∃ y, WF y ∧ RepC T w (Below0 w) (fun _ => none) (e y) ((cs.drop off).take ((fs.map fun p => T.size p.1).sum))

theorem RdF.nil {off : Nat} : RdF P T off [] (fun _ : Unit => .nil) (fun _ => True) := by
  intro H enc w sp hd fuel cs _
  exact ⟨(), trivial, by simpa using RepC.nil⟩

theorem RdF.cons {off : Nat} {p : Nat × Nat} {fs : List (Nat × Nat)} {α β : Type} {e : α → AV Ty} {WF : α → Prop} {e' : β → AV Ty} {WF' : β → Prop} (h1 : Rd P T p.1 e WF) (ho : p.2 = off) (h2 : RdF P T (off + T.size p.1) fs e' WF') :
    RdF P T off (p :: fs) (fun z : α × β => .cons (e z.1) (e' z.2)) (fun z => WF z.1 ∧ WF' z.2) := by
  intro H enc w sp hd fuel cs h
  obtain ⟨x, hx⟩ := h p (by simp)
  obtain ⟨y, k1, k2⟩ := h1 H enc w sp hd fuel _ x hx
  obtain ⟨z, k3, k4⟩ := h2 H enc w sp hd fuel cs fun q hq => h q (by simp [hq])
  refine ⟨(y, z), ⟨k1, k3⟩, ?_⟩
  have := RepC.cons k2 k4
  rw [ho, ← List.drop_drop, ← List.take_add] at this
  simpa using this

theorem Rd.struct (hT : TabOK P T) {t : Nat} {fs : List (Nat × Nat)} (h : T.td t = .struct fs) {α : Type} {e : α → AV Ty} {WF : α → Prop} (hf : RdF P T 0 fs e WF) (hsz : T.size t = (fs.map fun p => T.size p.1).sum) : Rd P T t e WF := by
  intro H enc w sp hd fuel cs x hx
  have htd := hT.td t
  rw [h] at htd
  obtain ⟨fields, hu, hfs⟩ := htd
  have hct := cellsOf_eq hT (t := t) (by rw [h]; rfl)
  obtain ⟨xs, n, _, _, hl, hxl, hel⟩ := DataW.trod_struct hu hx
  rw [hct, hsz] at hl
  obtain ⟨y, h1, h2⟩ := hf H enc w sp hd n cs fun p hp => by
    have hp' : p ∈ fields.toList.map (fun f => (f.type, f.offset)) := by rw [hfs]; exact hp
    obtain ⟨f, hfm, rfl⟩ := List.mem_map.1 hp'
    obtain ⟨i, hi⟩ := List.getElem?_of_mem hfm
    have hi' : fields[i]? = some f := by simpa using hi
    have hlt : i < fields.size := (Array.getElem?_eq_some_iff.1 hi').1
    have := hel i f hi'
    rw [cellsOf_eq hT (hT.fields t fs h _ hp), List.getElem?_eq_getElem (by omega)] at this
    exact ⟨_, this⟩
  refine ⟨y, h1, ?_⟩
  rw [List.drop_zero, List.take_of_length_le (by omega)] at h2
  exact h2

/-- a value handed in -/
theorem Rd.val (hT : TabOK P T) {t : Nat} {α : Type} {e : α → AV Ty} {WF : α → Prop} (h : Rd P T t e WF) (hk : (T.td t).known = true) (ha : ∀ y, (e y).isAgg = (T.td t).agg) {H : Type} {enc : TypeId × Value → H} {w : World} {r : Reach} {base : Nat} {spare : Nat → Bool} {held : Bool} {v : Value} {d : DataW H} {ps : List MemPlace}
    (hv : Value.okWide P w r base t v) (hd : DataW.Trod enc P w 0 spare held t v d ps) : ∃ y, WF y ∧ RepV T w (Below0 w) (fun _ => none) (e y) v := by
  obtain ⟨fuel, hd⟩ := hd
  obtain ⟨y, h1, h2⟩ := h H enc w spare held fuel _ _ hd
  refine ⟨y, h1, ?_⟩
  have htd := hT.td t
  cases hag : (T.td t).agg with
  | true =>
    have : ∃ cs, v = .agg cs := by
      cases hd' : T.td t with
      | arr n e => rw [hd'] at htd; simp only [TDok] at htd; simp only [Value.okWide, htd] at hv; obtain ⟨cs, h, _⟩ := hv; exact ⟨cs, h⟩
      | struct fs => rw [hd'] at htd; obtain ⟨f, hu, _⟩ := htd; simp only [Value.okWide, hu] at hv; obtain ⟨cs, h, _⟩ := hv; exact ⟨cs, h⟩
      | _ => rw [hd'] at hag; cases hag
    obtain ⟨cs, rfl⟩ := this
    have h3 : (e y).isAgg = true := by rw [ha, hag]
    have := RepE.agg h3 (by simpa [Value.cells] using h2 : RepC T w (Below0 w) (fun _ => none) (e y) cs.toList)
    simpa using RepV.elem this
  | false =>
    have hone : v.cells = #[v] := by
      cases v with
      | agg cs =>
        exfalso
        cases hd' : T.td t with
        | other => rw [hd'] at hk; cases hk
        | arr n e => rw [hd'] at hag; cases hag
        | struct fs => rw [hd'] at hag; cases hag
        | iface => rw [hd'] at htd; obtain ⟨ms, hu⟩ := htd; simp [Value.okWide, hu, Cell.okWide, Cell.ok] at hv
        | _ => rw [hd'] at htd; simp only [TDok] at htd; simp [Value.okWide, htd, Cell.okWide, Cell.ok] at hv
      | _ => rfl
    rw [hone] at h2
    exact .elem (.one (by rw [ha, hag]) (by simpa using h2))

/-! ### the row's end -/

theorem law_post {H : Type} {enc : TypeId × Value → H} {f : Func} {s : ChangeSpec} {W W' : World} {args : Array Value} {ds gs : List (DataW H)} {before : List MemPlace} {tb : Nat}
    (hl : laidOutB P = true) (hp : (f.params.toList.all fun t => P.readableRec t && decide (t < P.types.size)) = true) (hr : f.resultTypes = #[tb]) (hb : P.underlying tb = some .bool)
    (hv : s.vars = []) (hres : (s.fn H ds).results = [.lit (.bool true)]) (hargs : (s.fn H ds).args = ds) (hvars : (s.fn H ds).vars = [])
    (hW : DataW.Whole enc P f.params.toList s.vars false W args.toList ds gs before) (hg : W.grownBy W' none) : s.post enc P f false true false false W args (.bool true) W' := by
  have hlt := hW.lt
  have hW' := hW
  obtain ⟨p, q, hA, hV, rfl, _, _⟩ := hW
  rw [hv] at hV
  cases gs with
  | cons g r => exact hV.elim
  | nil =>
    cases hV
    rw [List.append_nil] at hlt hW'
    have stays : ∀ (ts : List TypeId) (vs : List Value) (ds : List (DataW H)) (ps : List MemPlace), (∀ t ∈ ts, P.readableRec t = true ∧ t < P.types.size) → (∀ x ∈ ps, x.block < W.heap.size) → DataW.TrodAll enc P W 0 (fun _ => true) true ts vs ds ps →
        DataW.TrodAll enc P W' 0 (fun b => decide (b < W.heap.size)) true ts vs ds ps := by
      intro ts
      induction ts with
      | nil => intro vs ds ps _ _ h; cases vs <;> cases ds <;> first | exact h | exact h.elim
      | cons t ts ih =>
        intro vs ds ps ht hps h
        obtain ⟨v, vs', d, ds', p', q', rfl, rfl, rfl, h1, h2⟩ := ChangeShapes.trodAll_cons h
        refine ⟨p', q', ?_, ih _ _ _ (fun t h => ht t (by simp [h])) (fun x hx => hps x (by simp [hx])) h2, rfl⟩
        exact WideElems.Trod_stays hl (ht t (by simp)).1 (ht t (by simp)).2 h1 (fun x hx => by
          have hxl := hps x (by simp [hx])
          cases x with
          | cell b o => exact World.cell?_of_block (w := W) (hg.block b hxl (by simp))
          | map b => exact hg.block b hxl (by simp)) (fun x hx => by simpa using hps x (by simp [hx]))
    refine ⟨ds, [], p, [], p, [], hW', ?_, ?_, ?_, ⟨hg.os, hg.output, fun i hi => ?_⟩, fun h => by cases h⟩
    · rw [List.append_nil, hres, hr]
      exact trodAll_cons_mk (shut_bool hb true) rfl
    · rw [List.append_nil, hargs]
      refine stays _ _ _ _ (fun t ht => ?_) hlt hA
      have := List.all_eq_true.1 hp t ht
      simpa using this
    · rw [List.append_nil, hv, hvars]; rfl
    · rw [hg.block i hi (by simp)]
      split
      · rename_i h1 h2; rw [h1] at h2; cases h2; exact ⟨rfl, rfl, rfl, fun _ _ => rfl⟩
      · rename_i h1 h2; rw [h1] at h2; cases h2; exact .inr ⟨rfl, rfl⟩
      · rfl
end
end V
namespace V
open Go
section
variable {Ty : Nat → Type} {T : Tab Ty} {P : Program}

/-! ### signatures -/

/-- arguments, one by one -/
structure Args (Ty : Nat → Type) (α : Type) where
  enc : α → List (AV Ty)
  dec : List (AV Ty) → Option α
  spec : ∀ l x, dec l = some x → enc x = l

def noArgs : Args Ty Unit where
  enc := fun _ => []
  dec := fun
    | [] => some ()
    | _ => none
  spec := fun l x h => by cases l with
    | nil => rfl
    | cons a l => cases h

def arg {α β : Type} (d : Den Ty α) (r : Args Ty β) : Args Ty (α × β) where
  enc := fun x => d.enc x.1 :: r.enc x.2
  dec := fun
    | v :: l => match d.dec v with
      | some a => match r.dec l with
        | some b => some (a, b)
        | none => none
      | none => none
    | [] => none
  spec := fun l x h => by
    cases l with
    | nil => cases h
    | cons v l =>
      simp only at h
      split at h
      case h_2 => cases h
      rename_i a ha
      split at h
      case h_2 => cases h
      rename_i b hb
      cases h
      simp only [d.spec v a ha, r.spec l b hb]

/-- results: one, or a row of them -/
structure Res (Ty : Nat → Type) (T : Tab Ty) (α : Type) (al : Bool) where
  enc : α → AV Ty
  dec : AV Ty → Option α
  spec : ∀ v x, dec v = some x → enc x = v
  out : ∀ x, (enc x).out al T

structure Parts (Ty : Nat → Type) (T : Tab Ty) (α : Type) (al : Bool) where
  enc : α → AV Ty
  dec : AV Ty → Option α
  spec : ∀ v x, dec v = some x → enc x = v
  ids : ∀ x, (enc x).ids = []
  noTups : ∀ x, (enc x).noTups = true
  flat : ∀ x, al = false → (enc x).flat T = true

def oneRes {al : Bool} {α : Type} (d : Den Ty α) (ids : ∀ x, (d.enc x).ids = []) (pl : ∀ x, (d.enc x).plain = true) (fl : ∀ x, al = false → (d.enc x).flat T = true) : Res Ty T α al where
  enc := d.enc
  dec := d.dec
  spec := d.spec
  out := fun x => ⟨ids x, fun vs e => (by have := pl x; rw [e] at this; cases this), fl x⟩

def noParts {al : Bool} : Parts Ty T Unit al where
  enc := fun _ => .nil
  dec := fun
    | .nil => some ()
    | _ => none
  spec := fun v x h => by split at h <;> first | rfl | cases h
  ids := fun _ => rfl
  noTups := fun _ => rfl
  flat := fun _ _ => rfl

def part {al : Bool} {α β : Type} (d : Den Ty α) (ids : ∀ x, (d.enc x).ids = []) (pl : ∀ x, (d.enc x).plain = true) (fl : ∀ x, al = false → (d.enc x).flat T = true) (r : Parts Ty T β al) : Parts Ty T (α × β) al where
  enc := fun x => .cons (d.enc x.1) (r.enc x.2)
  dec := fun
    | .cons v l => match d.dec v with
      | some a => match r.dec l with
        | some b => some (a, b)
        | none => none
      | none => none
    | _ => none
  spec := fun v x h => by
    split at h
    case h_2 => cases h
    split at h
    case h_2 => cases h
    rename_i a ha
    split at h
    case h_2 => cases h
    rename_i b hb
    cases h
    simp only [d.spec _ a ha, r.spec _ b hb]
  ids := fun x => by simp only [AV.ids, ids, r.ids, List.append_nil]
  noTups := fun x => by
    have h := pl x.1
    have h2 := r.noTups x.2
    simp only [AV.noTups, Bool.and_eq_true]
    refine ⟨?_, h2⟩
    generalize d.enc x.1 = v at h
    cases v <;> first | rfl | cases h
  flat := fun x h => by simp only [AV.flat, fl x.1 h, r.flat x.2 h, Bool.and_self]

def manyRes {al : Bool} {α : Type} (r : Parts Ty T α al) : Res Ty T α al where
  enc := fun x => .tup (r.enc x)
  dec := fun
    | .tup v => r.dec v
    | _ => none
  spec := fun v x h => by
    split at h
    · rw [r.spec _ _ h]
    · cases h
  out := fun x => ⟨r.ids x, fun vs e => (by cases e; exact r.noTups x), fun h => r.flat x h⟩

def bodyOf (fn : Func) : Code := fn.body.getD .skip

/-- the contract of a typed function -/
def spec {α β : Type} {al : Bool} (A : Args Ty α) (B : Res Ty T β al) (F : Nat → α → Option β) : FSpec Ty := FSpec.of A.dec F B.enc al

theorem spec_ok {specs : Nat → Option (FSpec Ty)} {keeps : Nat → Keep} {lsums : Nat → Option (LSum Ty)} (hT : TabOK P T) (hS : SpecsOK P T specs) {f : FuncId} {fn : Func} (hf : P.funcs[f]? = some fn) (hb : fn.body = some (bodyOf fn))
    (hd : dsts fn.ntmps (bodyOf fn) = true) (hn : nodupB ((loopsIn (bodyOf fn)).map firstRegion) = true) (hL : LSOK specs keeps T fn lsums) {α β : Type} {al : Bool} {A : Args Ty α} {B : Res Ty T β al}
    {F : Nat → α → Option β} (hF : ∀ k x, F k x = XF specs keeps lsums T k fn (A.enc x) β B.dec) : FOK P T f (spec A B F) :=
  FSpec.of_ok hT hS hf hb hd hn hL A.spec B.spec hF B.out

/-! ### loops -/

def iterR {S O : Type} (R : (S → Option O) → S → Option O) : Nat → S → Option O
  | 0, _ => none
  | n + 1, x => R (iterR R n) x

/-- two ways out -/
def sumK {α β γ : Type} (y : α ⊕ β) (f : α → Option γ) (g : β → Option γ) : Option γ :=
  match y with
  | .inl a => f a
  | .inr b => g b
def oe2 {α β : Type} (e1 e2 : Ex) : α ⊕ β → Ex
  | .inl _ => e1
  | .inr _ => e2
def on2 {α β : Type} (n1 : α → NSt Ty) (n2 : β → NSt Ty) : α ⊕ β → NSt Ty
  | .inl a => n1 a
  | .inr b => n2 b
def lsum2 {S O1 O2 : Type} (ofS : S → NSt Ty) (abs : (n : NSt Ty) → Option {x : S // ofS x = n}) (L : Nat → Nat → S → Option (O1 ⊕ O2)) (e1 : Ex) (n1 : O1 → NSt Ty) (e2 : Ex) (n2 : O2 → NSt Ty) : LSum Ty :=
  { runK := fun k n _ K => match abs n with
      | some x => (L k k x.1).bind fun y => sumK y (fun a => K e1 (n1 a)) (fun b => K e2 (n2 b))
      | none => none }
theorem lsum2_eq {S O1 O2 : Type} (ofS : S → NSt Ty) (abs : (n : NSt Ty) → Option {x : S // ofS x = n}) (L : Nat → Nat → S → Option (O1 ⊕ O2)) (e1 : Ex) (n1 : O1 → NSt Ty) (e2 : Ex) (n2 : O2 → NSt Ty) :
    lsum2 ofS abs L e1 n1 e2 n2 = LSum.of ofS abs L (oe2 e1 e2) (on2 n1 n2) := by
  unfold lsum2 LSum.of
  congr 1
  funext k n R K
  cases abs n with
  | none => rfl
  | some x =>
    simp only
    congr 1
    funext y
    cases y <;> rfl

theorem lsum_ok {specs : Nat → Option (FSpec Ty)} {keeps : Nat → Keep} {lsums : Nat → Option (LSum Ty)} {fn : Func} (hb : fn.body = some (bodyOf fn)) (hn : nodupB ((loopsIn (bodyOf fn)).map firstRegion) = true) (hL : LSOK specs keeps T fn lsums) {S O : Type} {i : Nat}
    {ofS : S → NSt Ty} {abs : (n : NSt Ty) → Option {x : S // ofS x = n}} {outE : O → Ex} {outN : O → NSt Ty} (outA : (e : Ex) → (n : NSt Ty) → Option {y : O // outE y = e ∧ outN y = n}) {R : Nat → (S → Option O) → S → Option O}
    (hR : ∀ k again x, R k again x = roundK specs keeps lsums T (bodyAt fn i) ofS abs outE outN outA k again x) : LSOK specs keeps T fn (addL i (LSum.of ofS abs (fun k n => iterR (R k) n) outE outN) lsums) := by
  refine LSOK.add hL (LOK.of hL (loopsAt_body hb hn i) ofS abs outE outN outA _ (fun _ _ => rfl) fun k n x => ?_)
  exact hR k _ x

theorem lsum2_ok {specs : Nat → Option (FSpec Ty)} {keeps : Nat → Keep} {lsums : Nat → Option (LSum Ty)} {fn : Func} (hb : fn.body = some (bodyOf fn)) (hn : nodupB ((loopsIn (bodyOf fn)).map firstRegion) = true) (hL : LSOK specs keeps T fn lsums) {S O1 O2 : Type} {i : Nat}
    {ofS : S → NSt Ty} {abs : (n : NSt Ty) → Option {x : S // ofS x = n}} {e1 e2 : Ex} {n1 : O1 → NSt Ty} {n2 : O2 → NSt Ty} (outA : (e : Ex) → (n : NSt Ty) → Option {y : O1 ⊕ O2 // oe2 e1 e2 y = e ∧ on2 n1 n2 y = n}) {R : Nat → (S → Option (O1 ⊕ O2)) → S → Option (O1 ⊕ O2)}
    (hR : ∀ k again x, R k again x = roundK specs keeps lsums T (bodyAt fn i) ofS abs (oe2 e1 e2) (on2 n1 n2) outA k again x) : LSOK specs keeps T fn (addL i (lsum2 ofS abs (fun k n => iterR (R k) n) e1 n1 e2 n2) lsums) := by
  rw [lsum2_eq]
  exact lsum_ok hb hn hL outA hR

/-! ### comparison -/

theorem eqInts : ∀ (xs ys : List Int), xs.length = ys.length → decide (xs = ys) = (xs.zip ys).all fun p => p.1 == p.2 := by
  intro xs
  induction xs with
  | nil => intro ys h; cases ys with
    | nil => rfl
    | cons y ys => cases h
  | cons x xs ih =>
    intro ys h
    cases ys with
    | nil => cases h
    | cons y ys =>
      have := ih ys (by simpa using h)
      simp only [List.zip_cons_cons, List.all_cons, ← this]
      by_cases e : x = y
      · subst e; simp
      · simp [e]

theorem eqLists : ∀ (xs ys : List (List Int)), xs.length = ys.length → decide (xs = ys) = (xs.zip ys).all fun p => decide (p.1 = p.2) := by
  intro xs
  induction xs with
  | nil => intro ys h; cases ys with
    | nil => rfl
    | cons y ys => cases h
  | cons x xs ih =>
    intro ys h
    cases ys with
    | nil => cases h
    | cons y ys =>
      have := ih ys (by simpa using h)
      simp only [List.zip_cons_cons, List.all_cons, ← this]
      by_cases e : x = y
      · subst e; simp
      · simp [e]

theorem EqAt.more {n m t : Nat} (hn : n ≤ m) (h : EqAt P T n t) : EqAt P T m t := by
  intro w D gv x y X Y b f hx hy tx ty he d
  have := h w D gv x y X Y b f hx hy tx ty he (d + (m - n))
  rwa [show d + (m - n) + n = d + m by omega] at this
end
end V
namespace V
open Go

/-! ### wraps -/
theorem wI_in {x : Int} (h : -9223372036854775808 ≤ x ∧ x ≤ 9223372036854775807) : IntKind.i64.wrap x = x := by
  show (let m := x % (18446744073709551616 : Int); if (true && decide (m ≥ (9223372036854775808 : Int))) = true then m - 18446744073709551616 else m) = x
  simp only [Bool.true_and, decide_eq_true_eq]
  split <;> omega
theorem w8_eq (x : Int) : IntKind.u8.wrap x = x % 256 := by
  simp [IntKind.wrap, IntKind.signed, IntKind.bits]
theorem w32_eq (x : Int) : IntKind.u32.wrap x = x % 4294967296 := by
  simp [IntKind.wrap, IntKind.signed, IntKind.bits]
theorem w64_eq (x : Int) : IntKind.u64.wrap x = x % 18446744073709551616 := by
  simp [IntKind.wrap, IntKind.signed, IntKind.bits]
theorem w64_in {x : Int} (h : 0 ≤ x ∧ x < 18446744073709551616) : IntKind.u64.wrap x = x := by rw [w64_eq]; omega

theorem inRange_true {i : Int} {n : Nat} (h : 0 ≤ i ∧ i < n) : inRange i n = true := by simp [inRange, h]

/-! ### loops -/
section
variable {S O : Type} {R : (S → Option O) → S → Option O}

/-- a loop comes to an end, and to what is said of it -/
theorem iter_post (P : S → Prop) (μ : S → Nat) (Q : S → O → Prop)
    (step : ∀ x, P x → (∃ o, (∀ again, R again x = some o) ∧ Q x o) ∨ (∃ y, (∀ again, R again x = again y) ∧ P y ∧ μ y < μ x ∧ ∀ o, Q y o → Q x o)) :
    ∀ n x, P x → μ x < n → ∃ o, iterR R n x = some o ∧ Q x o := by
  intro n
  induction n with
  | zero => intro x _ h; omega
  | succ n ih =>
    intro x hP hn
    rcases step x hP with ⟨o, h1, h2⟩ | ⟨y, h1, h2, h3, h4⟩
    · exact ⟨o, h1 _, h2⟩
    · obtain ⟨o, k1, k2⟩ := ih y h2 (by omega)
      exact ⟨o, by simp only [iterR]; rw [h1]; exact k1, h4 o k2⟩
/-- a loop comes to what is said -/
theorem iter_out (P : S → Prop) (μ : S → Nat) (out : S → O)
    (step : ∀ x, P x → (∀ again, R again x = some (out x)) ∨ (∃ y, (∀ again, R again x = again y) ∧ P y ∧ μ y < μ x ∧ out y = out x)) {n : Nat} {x : S} (hP : P x) (hn : μ x < n) : iterR R n x = some (out x) := by
  obtain ⟨o, h1, h2⟩ := iter_post (R := R) P μ (fun x o => o = out x) (fun x hx => by
    rcases step x hx with h | ⟨y, h1, h2, h3, h4⟩
    · exact .inl ⟨_, h, rfl⟩
    · exact .inr ⟨y, h1, h2, h3, fun o h => h.trans h4⟩) n x hP hn
  rw [h1, h2]
end

theorem drop_cons {α : Type} {l : List α} {i : Nat} (d : α) (h : i < l.length) : l.drop i = l.getD i d :: l.drop (i + 1) := by
  rw [List.getD_eq_getElem?_getD, List.getElem?_eq_getElem h]
  exact List.drop_eq_getElem_cons h
end V
namespace V
open Go
section
variable {Ty : Nat → Type} {T : Tab Ty} {P : Program}

def noK : Nat → Keep := fun _ => ⟨[], []⟩

/-- slices.Clone -/
def cloneF {α : Type} (_ : Nat) (x : List α × Unit) : Option (List α) :=
  match x with
  | (l, ()) => bif decide (l.length ≤ roomMost) then some l else none

theorem clone_ok (hT : TabOK P T) (hS : SpecsOK P T (noF : Nat → Option (FSpec Ty))) {f : FuncId} {fn : Func} (hf : P.funcs[f]? = some fn) (hb : fn.body = some (bodyOf fn)) (hd : dsts fn.ntmps (bodyOf fn) = true) (hn : nodupB ((loopsIn (bodyOf fn)).map firstRegion) = true)
    {e : Nat} {A : Args Ty (List (Ty e) × Unit)} {B : Res Ty T (List (Ty e)) true} (hA : ∀ l, A.enc (l, ()) = [.slice e l]) (hB : ∀ l, B.enc l = .slice e l)
    (h0 : XF (noF : Nat → Option (FSpec Ty)) noK noL T 0 fn [.nils e] (AV Ty) some = some (.slice e []))
    (h1 : ∀ xs : List (Ty e), XF (noF : Nat → Option (FSpec Ty)) noK noL T 0 fn [.slicen e xs] (AV Ty) some = cond (decide ((List.replicate 0 (T.dflt e)).length + xs.length ≤ roomMost)) (some (.slice e (List.replicate 0 (T.dflt e) ++ xs))) none) :
    FOK P T f (spec A B cloneF) := by
  intro k args r hr w D vals hG hD hrep
  unfold spec FSpec.of at hr
  simp only at hr
  split at hr
  case h_2 => cases hr
  rename_i x hx
  obtain ⟨l, u⟩ := x
  cases u
  have hargs := A.spec _ _ hx
  rw [hA] at hargs
  subst hargs
  unfold cloneF at hr
  simp only at hr
  cases hl : decide (l.length ≤ roomMost) with
  | false => rw [hl] at hr; cases hr
  | true =>
    rw [hl] at hr
    simp only [cond_true, Option.bind_some, Option.some.injEq] at hr
    subst hr
    have hout : (B.enc l).out true T := B.out l
    cases hrep with
    | cons h1' hrest =>
      cases hrest
      have hc := h1'.one_inv rfl (by simp) (by simp) (by simp)
      rename_i x
      have hcase : (x = .slice none 0 0 ∧ l = []) ∨ RepV T w D (fun _ => none) (.slicen e l) x := by
        cases hc with
        | snil _ a cap ha =>
          cases a with
          | none => rw [ha rfl]; exact .inl ⟨rfl, rfl⟩
          | some a => exact .inr (.elem (.one rfl (.slicen0 _ _ _)))
        | slice d l a h => exact .inr (.elem (.one rfl (.slicen d l a h)))
      rcases hcase with ⟨rfl, rfl⟩ | hv
      · rw [hB] at hout ⊢
        exact xf_calls hT hS hf hb hd hn LSOK.none h0 (fun v hv => Option.some.inj hv) hout hG hD (.cons (.elem (.one rfl (.nils e))) .nil)
      · rw [hB] at hout ⊢
        have := h1 l
        rw [show (List.replicate 0 (T.dflt e)).length + l.length = l.length by simp, hl, cond_true] at this
        have h2 : List.replicate 0 (T.dflt e) ++ l = l := rfl
        rw [h2] at this
        exact xf_calls hT hS hf hb hd hn LSOK.none this (fun v hv => Option.some.inj hv) hout hG hD (.cons hv .nil)
/-- a contract that is proved by hand -/
theorem hand_ok {f : FuncId} {α β : Type} {al : Bool} {A : Args Ty α} {B : Res Ty T β al} {F : Nat → α → Option β}
    (h : ∀ k x y, F k x = some y → ∀ (w : World) (D : Nat → Prop) (vals : List Value), GlobOK T w → (∀ b, D b → b < w.heap.size) → RepL T w D (A.enc x) vals →
      Calls P f vals.toArray w fun e w' => ∃ v, e = .returned v ∧ RepV T w' (fun b => (al = true ∧ D b) ∨ (w.heap.size ≤ b ∧ b < w'.heap.size)) (fun _ => none) (B.enc y) v ∧ w.grownBy w' none) : FOK P T f (spec A B F) := by
  intro k args r hr w D vals hG hD hrep
  unfold spec FSpec.of at hr
  simp only at hr
  cases hd : A.dec args with
  | none => rw [hd] at hr; cases hr
  | some x =>
    rw [hd] at hr
    simp only at hr
    cases hF : F k x with
    | none => rw [hF] at hr; cases hr
    | some y =>
      rw [hF] at hr
      simp only [Option.bind_some, Option.some.injEq] at hr
      subst hr
      rw [← A.spec _ _ hd] at hrep
      exact h k x y hF w D vals hG hD hrep

/-- errors.Is(err, a number) -/
def errIsF (_ : Nat) (x : GErr × GErr × Unit) : Option Bool :=
  match x with
  | (e, .num n, ()) => some (e.has n)
  | _ => none
theorem errIs_ok {f : FuncId} {A : Args Ty (GErr × GErr × Unit)} {B : Res Ty T Bool false} (hA : ∀ e t, A.enc (e, t, ()) = [.err e, .err t]) (hB : ∀ b, B.enc b = .bool b)
    (calls : ∀ (W : World) (D : Nat → Prop) (n : Int) (e : GErr) (x : Value), ErrRep T W D e x → Calls P f #[x, .iface T.errnoTy (.int .i64 n)] W fun r w' => r = .returned (.bool (e.has n)) ∧ w' = W) : FOK P T f (spec A B errIsF) := by
  refine hand_ok fun k x y hF w D vals hG hD hrep => ?_
  obtain ⟨e, t, u⟩ := x
  cases t with
  | nil => cases hF
  | flt _ _ _ => cases hF
  | num n =>
    simp only [errIsF, Option.some.injEq] at hF
    subst hF
    rw [hA] at hrep
    cases hrep with
    | cons h1 h2 =>
      cases h2 with
      | cons h3 h4 =>
        cases h4
        have r1 := h1.err_inv
        have r2 := h3.err_inv
        cases r2
        refine (calls w D n e _ r1).mono ?_
        rintro r w' ⟨rfl, rfl⟩
        refine ⟨_, rfl, ?_, ⟨rfl, rfl, rfl, Nat.le_refl _, fun _ _ _ => rfl⟩⟩
        rw [hB]
        exact .elem (.one rfl (.bool _))
end
end V
