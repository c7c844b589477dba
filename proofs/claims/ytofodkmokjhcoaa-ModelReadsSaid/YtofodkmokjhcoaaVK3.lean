/-
  Calls, comparisons, drawn orders: what the abstract run of an operation computes is what it does. No conditions.
-/
import Derived.Test.YtofodkmokjhcoaaVK2
namespace V
open Go
section
variable {Ty : Nat → Type} {T : Tab Ty} {P : Program}
variable {w0 : Base} {D0 : Nat → Prop} {N : Nat} {s : St Ty} {a : Act} {w : World} {D : Nat → Prop} {gv : Nat → Option GObj}
variable {o : Oper} {d : Nat} {c : Bool} {v : AV Ty} {ups : List (Nat × Obj Ty)}

theorem partsTy_agg {g : Nat → AV Ty → Bool} {v : AV Ty} {fs : List (Nat × Nat)} {k : Nat} (hp : partsTy T g fs v k = true) : v.isAgg = true := by
  cases fs <;> cases v <;> simp [partsTy] at hp <;> rfl

theorem hasTy_cases {f t : Nat} {v : AV Ty} (h : hasTy T f t v = true) : v.isAgg = true ∨ (∃ b, v = .bool b) ∨ (∃ s, v = .str s) ∨ ∃ k n, v = .int k n := by
  cases f with
  | zero => cases h
  | succ f =>
    simp only [hasTy] at h
    split at h
    · exact .inr (.inl ⟨_, rfl⟩)
    · exact .inr (.inr (.inr ⟨_, _, rfl⟩))
    · exact .inr (.inr (.inl ⟨_, rfl⟩))
    · exact .inl rfl
    · exact .inl (partsTy_agg h)
    · cases h

theorem hasTy_plain {f t : Nat} {v : AV Ty} (h : hasTy T f t v = true) : v ≠ .undef ∧ v ≠ .skp ∧ ∀ vs, v ≠ .tup vs := by
  rcases hasTy_cases h with h1 | ⟨b, rfl⟩ | ⟨b, rfl⟩ | ⟨k, n, rfl⟩
  · refine ⟨?_, ?_, ?_⟩ <;> intros <;> intro e <;> rw [e] at h1 <;> cases h1
  all_goals exact ⟨by simp, by simp, by simp⟩

theorem eqAt_int {t : Nat} {k : IntKind} (h : P.underlying t = some (.int k)) (ht : T.td t = .int k) : EqAt P T 1 t := by
  intro w D gv x y X Y b f hx hy tx ty he d
  cases f with
  | zero => cases tx
  | succ f =>
    simp only [hasTy, ht] at tx ty
    cases x <;> simp only at tx <;> first | (cases tx; done) | skip
    cases y <;> simp only at ty <;> first | (cases ty; done) | skip
    rename_i k1 n1 k2 n2
    simp only [decide_eq_true_eq] at tx ty
    subst tx; subst ty
    have ex := (RepV.elem hx).int_inv
    have ey := (RepV.elem hy).int_inv
    subst ex; subst ey
    simp only [AV.eqv, decide_true, cond_true, Option.some.injEq] at he
    subst he
    exact run_equalIn_int w d t k k n1 n2 h

theorem eqAt_bool {t : Nat} (h : P.underlying t = some .bool) (ht : T.td t = .bool) : EqAt P T 1 t := by
  intro w D gv x y X Y b f hx hy tx ty he d
  cases f with
  | zero => cases tx
  | succ f =>
    simp only [hasTy, ht] at tx ty
    cases x <;> simp only at tx <;> first | (cases tx; done) | skip
    cases y <;> simp only at ty <;> first | (cases ty; done) | skip
    have ex := (RepV.elem hx).bool_inv
    have ey := (RepV.elem hy).bool_inv
    subst ex; subst ey
    simp only [AV.eqv, Option.some.injEq] at he
    subst he
    exact run_equalIn_bool' w d t _ _ h

theorem eqAt_str {t : Nat} (h : P.underlying t = some .string) (ht : T.td t = .str) : EqAt P T 1 t := by
  intro w D gv x y X Y b f hx hy tx ty he d
  cases f with
  | zero => cases tx
  | succ f =>
    simp only [hasTy, ht] at tx ty
    cases x <;> simp only at tx <;> first | (cases tx; done) | skip
    cases y <;> simp only at ty <;> first | (cases ty; done) | skip
    have ex := (RepV.elem hx).str_inv
    have ey := (RepV.elem hy).str_inv
    subst ex; subst ey
    simp only [AV.eqv, Option.some.injEq] at he
    subst he
    exact run_equalIn_string w d t _ _ h

theorem RepE.of_c {v : AV Ty} {cs : List Value} (h : RepC T w D gv v cs) : ∃ x, RepE T w D gv v x ∧ ((v.isAgg = true ∧ x = .agg cs.toArray) ∨ (v.isAgg = false ∧ cs = [x])) := by
  cases ha : v.isAgg with
  | true => exact ⟨_, .agg ha h, .inl ⟨rfl, rfl⟩⟩
  | false =>
    have : ∃ x, cs = [x] := by cases h <;> first | exact ⟨_, rfl⟩ | cases ha
    obtain ⟨x, rfl⟩ := this
    exact ⟨x, .one ha h, .inr ⟨rfl, rfl⟩⟩

theorem part_run' (hT : TabOK P T) {t : Nat} {v : AV Ty} (hf : fits T t v = true) {cs : Array Value} {pre sub post : List Value} (hc : cs.toList = pre ++ sub ++ post) (hr : RepC T w D gv v sub) (hp : v ≠ .undef) (hp2 : v ≠ .skp) (hp3 : ∀ vs, v ≠ .tup vs) :
    ∃ x, (part t cs pre.length).run P w = .ok x w ∧ RepE T w D gv v x := by
  obtain ⟨x, h1, h2⟩ := part_run hT hf hc hr
  refine ⟨x, h1, ?_⟩
  cases h2 with
  | elem h => exact h
  | tup => exact absurd rfl (hp3 _)

theorem eqAt_arr (hT : TabOK P T) {t n e m f0 : Nat} (h : P.underlying t = some (.array n e)) (ht : T.td t = .arr n e) (he : EqAt P T m e) (hty : ∀ x, hasTy T f0 e (T.enc e x) = true)
    {f : Ty e → Ty e → Bool} (hf : ∀ x y, (T.enc e x).eqv T (T.enc e y) = some (f x y)) (hL : ∀ xs ys : List (Ty e), xs.length = ys.length → T.eqL e xs ys = (xs.zip ys).all fun p => f p.1 p.2) : EqAt P T (m + 1) t := by
  intro w D gv x y X Y b fu hx hy tx ty heq d
  cases fu with
  | zero => cases tx
  | succ fu =>
    simp only [hasTy, ht] at tx ty
    cases x <;> simp only at tx <;> first | (cases tx; done) | skip
    cases y <;> simp only at ty <;> first | (cases ty; done) | skip
    rename_i e1 n1 xs e2 n2 ys
    simp only [Bool.and_eq_true, beq_iff_eq] at tx ty
    obtain ⟨rfl, rfl⟩ := tx
    obtain ⟨rfl, rfl⟩ := ty
    obtain ⟨cx, rfl, rx⟩ := (RepV.elem hx).agg_inv rfl
    obtain ⟨cy, rfl, ry⟩ := (RepV.elem hy).agg_inv rfl
    cases rx with
    | arr lx rx =>
      cases ry with
      | arr ly ry =>
        have hkn := hT.elem t e2 (.inr (.inl ⟨n2, ht⟩))
        obtain ⟨i, z, hi, hs, _⟩ := hT.info e2 hkn
        have hcell : P.cellsOf e2 = T.size e2 := by simp [Program.cellsOf, hi, hs]
        simp only [AV.eqv, dite_true] at heq
        have hb : T.eqL e2 xs ys = b := by
          cases hq : (T.eqOk e2 && n2 == n2) with
          | false => rw [hq] at heq; cases heq
          | true => rw [hq] at heq; simpa using heq
        rw [show d + (m + 1) = (d + m) + 1 by omega, run_equalIn_array w (d + m) _ _ h hi, hcell, ← hb, hL xs ys (by omega)]
        have key : ∀ (k : Nat) (xs' ys' : List (Ty e2)) (j : Nat), xs'.length = k → ys'.length = k → xs' = xs.drop j → ys' = ys.drop j →
            (Op.eqItems (d + m) e2 (T.size e2) cx.toArray cy.toArray (List.range' j k)).run P w = .ok ((xs'.zip ys').all fun p => f p.1 p.2) w := by
          intro k
          induction k with
          | zero =>
            intro xs' ys' j h1 h2 _ _
            have : xs' = [] := List.eq_nil_of_length_eq_zero h1
            subst this
            simp [Op.eqItems]
          | succ k ih =>
            intro xs' ys' j h1 h2 h3 h4
            match xs', ys', h1, h2 with
            | x1 :: xs', y1 :: ys', h1, h2 =>
              have hjx : j < xs.length := by
                have := congrArg List.length h3
                simp at this; omega
              have hjy : j < ys.length := by
                have := congrArg List.length h4
                simp at this; omega
              rw [List.drop_eq_getElem_cons hjx] at h3
              rw [List.drop_eq_getElem_cons hjy] at h4
              injection h3 with h3a h3b
              injection h4 with h4a h4b
              obtain ⟨px, sx, qx, a1, a2, a3, _⟩ := encs_rep hT rx hjx
              obtain ⟨py, sy, qy, b1, b2, b3, _⟩ := encs_rep hT ry hjy
              have hfit : ∀ z, fits T e2 (T.enc e2 z) = true := fun z => by simp [fits, hkn, hT.encSize, hT.encAgg _ _ hkn]
              obtain ⟨vx, c1, c2⟩ := part_run' hT (hfit _) (cs := cx.toArray) (by simpa using a1) a3 (hT.encPlain _ _).1 (hT.encPlain _ _).2.1 (hT.encPlain _ _).2.2
              obtain ⟨vy, d1, d2⟩ := part_run' hT (hfit _) (cs := cy.toArray) (by simpa using b1) b3 (hT.encPlain _ _).1 (hT.encPlain _ _).2.1 (hT.encPlain _ _).2.2
              rw [a2] at c1
              rw [b2] at d1
              have hq := he w D gv _ _ vx vy _ f0 c2 d2 (hty _) (hty _) (hf _ _) d
              simp only [List.range'_succ, Op.eqItems, Sem.run_bind, c1, d1, hq, Result.andThen_ok, List.zip_cons_cons, List.all_cons]
              rw [← h3a, ← h4a]
              cases hfb : f x1 y1 with
              | false => simp
              | true =>
                simp only [Bool.not_true, Bool.false_eq_true, if_false, Bool.true_and]
                exact ih xs' ys' (j + 1) (by simpa using h1) (by simpa using h2) h3b h4b
        have := key n2 xs ys 0 lx ly rfl rfl
        rw [List.range_eq_range']
        exact this

theorem eqAt_struct (hT : TabOK P T) {t m : Nat} {fields : Array Field} {fs : List (Nat × Nat)} (h : P.underlying t = some (.struct fields)) (ht : T.td t = .struct fs) (hfs : fields.toList.map (fun f => (f.type, f.offset)) = fs)
    (hs : P.stoodInHeld t = false) (hn : ∀ f ∈ fields.toList, f.name ≠ "_") (he : ∀ p ∈ fs, EqAt P T m p.1) : EqAt P T (m + 1) t := by
  intro w D gv x y X Y b fu hx hy tx ty heq d
  cases fu with
  | zero => cases tx
  | succ fu =>
    simp only [hasTy, ht] at tx ty
    have hof : P.fieldsOf t = fields := by simp [Program.fieldsOf, h]
    obtain ⟨cx, rfl, rx⟩ := (RepV.elem hx).agg_inv (partsTy_agg tx)
    obtain ⟨cy, rfl, ry⟩ := (RepV.elem hy).agg_inv (partsTy_agg ty)
    rw [show d + (m + 1) = (d + m) + 1 by omega, run_equalIn_struct w (d + m) t _ _ (by rw [hof]; exact h) hs, hof]
    have key : ∀ (fl : List Field) (x y : AV Ty) (px py sx sy : List Value) (b : Bool), (∀ f ∈ fl, f.name ≠ "_") → (∀ f ∈ fl, EqAt P T m f.type ∧ (T.td f.type).known = true) →
        partsTy T (hasTy T fu) (fl.map fun f => (f.type, f.offset)) x px.length = true → partsTy T (hasTy T fu) (fl.map fun f => (f.type, f.offset)) y py.length = true →
        cx = px ++ sx → cy = py ++ sy → RepC T w D gv x sx → RepC T w D gv y sy → x.eqv T y = some b →
        (Op.eqFields (d + m) cx.toArray cy.toArray fl).run P w = .ok b w := by
      intro fl
      induction fl with
      | nil =>
        intro x y px py sx sy b _ _ h1 h2 _ _ _ _ h5
        cases x <;> simp [partsTy] at h1
        cases y <;> simp [partsTy] at h2
        simp [AV.eqv] at h5
        subst h5
        simp [Op.eqFields]
      | cons f fl ih =>
        intro x y px py sx sy b hnm hall h1 h2 ecx ecy h3 h4 h5
        cases x <;> simp only [List.map_cons, partsTy] at h1 <;> first | (cases h1; done) | skip
        cases y <;> simp only [List.map_cons, partsTy] at h2 <;> first | (cases h2; done) | skip
        rename_i x1 x2 y1 y2
        simp only [Bool.and_eq_true, beq_iff_eq] at h1 h2
        obtain ⟨⟨⟨⟨p1, p2⟩, p3⟩, p4⟩, p5⟩ := h1
        obtain ⟨⟨⟨⟨r1, r2⟩, r3⟩, r4⟩, r5⟩ := h2
        obtain ⟨heqf, hkn⟩ := hall f (by simp)
        simp only [AV.eqv] at h5
        split at h5
        case h_2 => cases h5
        rename_i q1 q2 e1 e2
        simp only [Option.some.injEq] at h5
        subst h5
        cases h3 with
        | @cons _ _ s1 s2 h3a h3b =>
          cases h4 with
          | @cons _ _ u1 u2 h4a h4b =>
            obtain ⟨vx, c1, c2⟩ := part_run' hT (t := f.type) (by simp [fits, hkn, p3, p4]) (cs := cx.toArray) (pre := px) (sub := s1) (post := s2) (by rw [ecx]; simp) h3a (hasTy_plain p1).1 (hasTy_plain p1).2.1 (hasTy_plain p1).2.2
            obtain ⟨vy, d1, d2⟩ := part_run' hT (t := f.type) (by simp [fits, hkn, r3, r4]) (cs := cy.toArray) (pre := py) (sub := u1) (post := u2) (by rw [ecy]; simp) h4a (hasTy_plain r1).1 (hasTy_plain r1).2.1 (hasTy_plain r1).2.2
            have hq := heqf w D gv x1 y1 vx vy q1 fu c2 d2 p1 r1 e1 d
            rw [← p2] at c1
            rw [← r2] at d1
            simp only [Op.eqFields, hnm f (by simp), ne_eq, not_false_eq_true, if_true, Sem.run_bind, c1, d1, hq, Result.andThen_ok]
            have l1 : s1.length = x1.size T := h3a.len hT
            have l2 : u1.length = y1.size T := h4a.len hT
            have hih := ih x2 y2 (px ++ s1) (py ++ u1) s2 u2 q2 (fun f hf => hnm f (by simp [hf])) (fun f hf => hall f (by simp [hf])) (by rw [List.length_append, l1]; exact p5) (by rw [List.length_append, l2]; exact r5)
              (by rw [ecx]; simp) (by rw [ecy]; simp) h3b h4b e2
            cases q1 with
            | false => simp
            | true => simpa using hih
    refine key fields.toList x y [] [] cx cy b hn (fun f hf => ?_) (by rw [hfs]; exact tx) (by rw [hfs]; exact ty) rfl rfl rx ry heq
    have hm : (f.type, f.offset) ∈ fs := by rw [← hfs]; exact List.mem_map.2 ⟨f, hf, rfl⟩
    exact ⟨he _ hm, hT.fields t fs ht _ hm⟩

theorem snd_binOp_eq (hC : CmpOK P T) (h : Inv T w0 D0 N s a w D gv) {op : BinOp} {t t2 : TypeId} {x y : Operand} (ho : o.op = .binOp op t x y t2) (hni : ¬ ∃ k k' m n, s.eval x = .int k m ∧ s.eval y = .int k' n) (hns : isNilS y = false) (hnI : isNilI y = false) (hnP : isNilP y = false)
    (he : effOp T o d s.eval s.obj = .ok c v ups) (hc : c = true) : Does P T w0 D0 N s a w D o v ups := by
  unfold effOp at he; rw [ho] at he
  simp only [hns, hnI, hnP, cond_false] at he
  have main : ∀ b, (s.eval x).eqv T (s.eval y) = some b → T.cmp t = true → hasTy T 8 t (s.eval x) = true → hasTy T 8 t (s.eval y) = true →
      ∃ B : Bool → Bool, (op = .eql → B = id) ∧ (op = .neq → B = not) ∧ ((op = .eql ∨ op = .neq) → (execOp a.eval o).run P w = .ok (.value (.bool (B b))) w) := by
    intro b hb hc tx ty
    obtain ⟨hg, n, hn, heq⟩ := hC t hc
    have repE : ∀ {v : AV Ty} {X : Value}, RepV T w D gv v X → hasTy T 8 t v = true → RepE T w D gv v X := by
      intro v X hv hh
      cases hv with
      | elem h => exact h
      | tup => exact absurd rfl ((hasTy_plain hh).2.2 _)
    have rx := repE (h.eval x) tx
    have ry := repE (h.eval y) ty
    have hrun := heq w D gv _ _ _ _ b 8 rx ry tx ty hb (10000 - n)
    rw [show 10000 - n + n = 10000 by omega] at hrun
    have hequal : (Op.equal t (a.eval x) (a.eval y)).run P w = .ok b w := hrun
    have hagx : (s.eval x).isAgg = true → ∃ cs, a.eval x = .agg cs := fun ha => by obtain ⟨cs, e, _⟩ := (h.eval x).agg_inv ha; exact ⟨_, e⟩
    have hagy : (s.eval y).isAgg = true → ∃ cs, a.eval y = .agg cs := fun ha => by obtain ⟨cs, e, _⟩ := (h.eval y).agg_inv ha; exact ⟨_, e⟩
    refine ⟨if op = .eql then id else not, fun e => by simp [e], fun e => by simp [e], fun hop => ?_⟩
    have guard : ∀ X Y, X ≠ Value.nilIface → (eqGuard op t x y X Y).run P w = .ok () w := by
      intro X Y hX
      cases X <;> cases Y <;> first | exact absurd rfl hX | (rcases hop with rfl | rfl <;> first | exact run_eqGuard_agg w _ t x y _ _ hg | rfl)
    have hX : a.eval x ≠ .nilIface := by
      rcases hasTy_cases tx with h1 | ⟨b, h1⟩ | ⟨b, h1⟩ | ⟨k, n, h1⟩
      · obtain ⟨cs, e⟩ := hagx h1; rw [e]; simp
      · have := h.eval x; rw [h1] at this; rw [this.bool_inv]; simp
      · have := h.eval x; rw [h1] at this; rw [this.str_inv]; simp
      · have := h.eval x; rw [h1] at this; rw [this.int_inv]; simp
    have hbin : (binOp op t (a.eval x) (a.eval y)).run P w = .ok (.bool ((if op = .eql then id else not) b)) w := by
      rcases hasTy_cases tx with h1 | ⟨b1, h1⟩ | ⟨b1, h1⟩ | ⟨k, n, h1⟩
      · obtain ⟨cs, e⟩ := hagx h1
        rw [e] at hequal ⊢
        rcases hop with rfl | rfl
        · cases hY : a.eval y <;> rw [hY] at hequal <;> simp [binOp, hequal]
        · cases hY : a.eval y <;> rw [hY] at hequal <;> simp [binOp, hequal]
      · have ex := h.eval x; rw [h1] at ex
        rw [ex.bool_inv] at hequal ⊢
        rcases hop with rfl | rfl
        · cases hY : a.eval y <;> rw [hY] at hequal <;> simp [binOp, hequal]
        · cases hY : a.eval y <;> rw [hY] at hequal <;> simp [binOp, hequal]
      · have ex := h.eval x; rw [h1] at ex
        have hsy : ∃ b2, s.eval y = .str b2 := by
          rw [h1] at hb
          cases hy : s.eval y <;> rw [hy] at hb <;> simp [AV.eqv] at hb
          exact ⟨_, rfl⟩
        obtain ⟨b2, h2⟩ := hsy
        have ey := h.eval y; rw [h2] at ey
        rw [h1, h2] at hb
        simp only [AV.eqv, Option.some.injEq] at hb
        rw [ex.str_inv, ey.str_inv]
        rcases hop with rfl | rfl
        · simp [binOp, Op.stringOp, hb]
        · simp [binOp, Op.stringOp, hb]
      · rw [h1] at hb
        exfalso
        cases hy : s.eval y <;> rw [hy] at hb <;> simp [AV.eqv] at hb
        exact hni ⟨_, _, _, _, h1, hy⟩
    simp only [execOp, ho, Sem.run_bind, guard _ _ hX, Result.andThen_ok, hbin]
    rfl
  have fin : ∀ (b : Bool) (e : Eff Ty), cond (T.cmp t && hasTy T 8 t (s.eval x) && hasTy T 8 t (s.eval y)) e .fail = .ok c v ups → (s.eval x).eqv T (s.eval y) = some b → (op = .eql → e = ans (.bool b)) → (op = .neq → e = ans (.bool !b)) → (op = .eql ∨ op = .neq) → Does P T w0 D0 N s a w D o v ups := by
    intro b e he2 hb h1 h2 hop
    obtain ⟨hk, he3⟩ := cond_fail he2
    simp only [Bool.and_eq_true] at hk
    obtain ⟨B, B1, B2, hr⟩ := main b hb hk.1.1 hk.1.2 hk.2
    have hr2 := hr hop
    clear hr he main
    rcases hop with rfl | rfl
    · rw [h1 rfl] at he3
      obtain ⟨_, rfl, rfl⟩ := ans_inj he3
      rw [B1 rfl] at hr2
      exact .pure h hr2 (.elem (.one rfl (.bool _)))
    · rw [h2 rfl] at he3
      obtain ⟨_, rfl, rfl⟩ := ans_inj he3
      rw [B2 rfl] at hr2
      exact .pure h hr2 (.elem (.one rfl (.bool _)))
  unfold binAV at he
  split at he
  · exact absurd ⟨_, _, _, _, ‹_›, ‹_›⟩ hni
  · exact absurd ⟨_, _, _, _, ‹_›, ‹_›⟩ hni
  · rename_i p q hp hq
    unfold ansIf at he
    cases he
    rw [Nat.ble_eq] at hc
    have ex := h.eval x; rw [hp] at ex
    have ey := h.eval y; rw [hq] at ey
    refine .pure h (x := .string (p ++ q)) ?_ (.elem (.one rfl (.str _)))
    have hlt : ¬ (((p.size + q.size : Nat) : Int) > IntKind.i64.max) := by
      show ¬ (((p.size + q.size : Nat) : Int) > 9223372036854775807)
      omega
    have hg : (eqGuard .add t x y (.string p) (.string q)).run P w = .ok () w := rfl
    simp only [execOp, ho, ex.str_inv, ey.str_inv, Sem.run_bind, hg, Result.andThen_ok, binOp, Op.stringOp, hlt, if_false]
    rfl
  · exact absurd ⟨_, _, _, _, ‹_›, ‹_›⟩ hni
  · split at he
    · rename_i b hb
      exact fin b _ he hb (fun _ => rfl) (fun e => by cases e) (.inl rfl)
    · cases he
  · split at he
    · rename_i b hb
      exact fin b _ he hb (fun e => by cases e) (fun _ => rfl) (.inr rfl)
    · cases he
  · cases he

/-- a slice compared with nil -/
theorem snd_nilEq (hT : TabOK P T) (h : Inv T w0 D0 N s a w D gv) {op : BinOp} {t t2 : TypeId} {x y : Operand} (ho : o.op = .binOp op t x y t2) (hns : isNilS y = true)
    (he : effOp T o d s.eval s.obj = .ok c v ups) (hc : c = true) : Does P T w0 D0 N s a w D o v ups := by
  unfold effOp at he; rw [ho] at he
  simp only [hns, cond_true] at he
  have hy : y = .const (.slice none 0 0) := by
    unfold isNilS at hns
    split at hns
    · rfl
    · cases hns
  subst hy
  have ey : a.eval (.const (.slice none 0 0)) = .slice none 0 0 := rfl
  have htd := hT.td t
  have hv := h.eval x
  unfold nilEq at he
  have fin : ∀ (e : Nat) (b : Bool) (X : Value), T.td t = .slice e → (op = .eql ∨ op = .neq) → a.eval x = X → ((X = .slice none 0 0 ∧ b = (op == .eql)) ∨ (∃ ad l cp, X = .slice (some ad) l cp ∧ b = !(op == .eql))) → Eff.ok c v ups = ans (.bool b) → Does P T w0 D0 N s a w D o v ups := by
    intro e b X ht hop hX hor heq
    obtain ⟨_, rfl, rfl⟩ := ans_inj heq.symm
    rw [ht] at htd
    simp only [TDok] at htd
    refine .pure h (x := .bool b) ?_ (.elem (.one rfl (.bool b)))
    have key : ∀ (r : Bool), (∀ d, (Op.equalIn (d + 1) t X (.slice none 0 0)).run P w = .ok r w) → (eqGuard op t x (.const (.slice none 0 0)) X (.slice none 0 0)).run P w = .ok () w → b = (if op = .eql then r else !r) → (execOp a.eval o).run P w = .ok (.value (.bool b)) w := by
      intro r hr hg hb
      have hequal : (Op.equal t X (.slice none 0 0)).run P w = .ok r w := hr 9999
      have hbin : (binOp op t X (.slice none 0 0)).run P w = .ok (.bool b) w := by
        rcases hop with rfl | rfl
        · cases X <;> simp [binOp, hequal, hb]
        · cases X <;> simp [binOp, hequal, hb]
      simp only [execOp, ho, hX, ey, Sem.run_bind, hg, Result.andThen_ok, hbin]
      rfl
    rcases hor with ⟨rfl, rfl⟩ | ⟨ad, l, cp, rfl, rfl⟩
    · refine key true (fun d => by simp [Op.equalIn, Sem.run_bind, run_underlying htd]) (by rcases hop with rfl | rfl <;> rfl) ?_
      rcases hop with rfl | rfl <;> rfl
    · refine key false (fun d => by simp [Op.equalIn, Sem.run_bind, run_underlying htd]) (by rcases hop with rfl | rfl <;> rfl) ?_
      rcases hop with rfl | rfl <;> rfl
  have nil : ∀ {t' : Nat}, s.eval x = .nils t' → a.eval x = .slice none 0 0 := by
    intro t' e
    rw [e] at hv
    have := hv.one_inv rfl (by simp) (by simp) (by simp)
    generalize a.eval x = X at this
    cases this; rfl
  have non : ∀ {t' : Nat} {xs : List (Ty t')}, s.eval x = .slicen t' xs → ∃ ad l cp, a.eval x = .slice (some ad) l cp := by
    intro t' xs e
    rw [e] at hv
    have := hv.one_inv rfl (by simp) (by simp) (by simp)
    generalize a.eval x = X at this
    cases this with
    | slicen0 _ ad cp => exact ⟨_, _, _, rfl⟩
    | slicen d l a r => exact ⟨_, _, _, rfl⟩
  have some_ : ∀ {t' : Nat} {xs : List (Ty t')}, s.eval x = .slice t' xs → Nat.blt 0 xs.length = true → ∃ ad l cp, a.eval x = .slice (some ad) l cp := by
    intro t' xs e hx
    rw [e] at hv
    have := hv.one_inv rfl (by simp) (by simp) (by simp)
    generalize a.eval x = X at this
    cases this with
    | snil _ ad cp _ => cases hx
    | slice d l a r => exact ⟨_, _, _, rfl⟩
  split at he
  · rename_i e1 e2 e3; exact fin _ true _ e2 (.inl rfl) (nil e3) (.inl ⟨rfl, rfl⟩) he.symm
  · rename_i e1 e2 e3; obtain ⟨ad, l, cp, e4⟩ := non e3; exact fin _ false _ e2 (.inl rfl) e4 (.inr ⟨_, _, _, rfl, rfl⟩) he.symm
  · rename_i e1 e2 e3; exact fin _ false _ e2 (.inr rfl) (nil e3) (.inl ⟨rfl, rfl⟩) he.symm
  · rename_i e1 e2 e3; obtain ⟨ad, l, cp, e4⟩ := non e3; exact fin _ true _ e2 (.inr rfl) e4 (.inr ⟨_, _, _, rfl, rfl⟩) he.symm
  · rename_i e1 e2 e3
    obtain ⟨rfl, rfl, rfl⟩ := ansIf_inj he
    obtain ⟨ad, l, cp, e4⟩ := some_ e3 hc
    exact fin _ false _ e2 (.inl rfl) e4 (.inr ⟨_, _, _, rfl, rfl⟩) (by rw [hc]; rfl)
  · rename_i e1 e2 e3
    obtain ⟨rfl, rfl, rfl⟩ := ansIf_inj he
    obtain ⟨ad, l, cp, e4⟩ := some_ e3 hc
    exact fin _ true _ e2 (.inr rfl) e4 (.inr ⟨_, _, _, rfl, rfl⟩) (by rw [hc]; rfl)
  · cases he

/-- an error compared with none -/
theorem snd_nilErr (hT : TabOK P T) (h : Inv T w0 D0 N s a w D gv) {op : BinOp} {t t2 : TypeId} {x y : Operand} (ho : o.op = .binOp op t x y t2) (hns : isNilS y = false) (hnI : isNilI y = true)
    (he : effOp T o d s.eval s.obj = .ok c v ups) : Does P T w0 D0 N s a w D o v ups := by
  unfold effOp at he; rw [ho] at he
  simp only [hns, hnI, cond_true, cond_false] at he
  have hy : y = .const .nilIface := by
    unfold isNilI at hnI
    split at hnI
    · rfl
    · cases hnI
  subst hy
  have ey : a.eval (.const .nilIface) = .nilIface := rfl
  have htd := hT.td t
  have hv := h.eval x
  unfold nilErr at he
  have fin : ∀ (e : GErr) (b : Bool), T.td t = .iface → (op = .eql ∨ op = .neq) → s.eval x = .err e → b = (if op = .eql then e.isNil else !e.isNil) → Eff.ok c v ups = ans (.bool b) → Does P T w0 D0 N s a w D o v ups := by
    intro e b ht hop hx hb heq
    obtain ⟨_, rfl, rfl⟩ := ans_inj heq.symm
    rw [ht] at htd
    obtain ⟨ms, htd⟩ := htd
    rw [hx] at hv
    have hr := hv.err_inv
    generalize hX : a.eval x = X at hr
    refine .pure h (x := .bool b) ?_ (.elem (.one rfl (.bool b)))
    have hequal : ∀ dd, (Op.equalIn (dd + 1) t X .nilIface).run P w = .ok e.isNil w := by
      intro dd
      cases hr <;> simp [Op.equalIn, Sem.run_bind, run_underlying htd, GErr.isNil]
    have hequal' : (Op.equal t X .nilIface).run P w = .ok e.isNil w := hequal 9999
    have hg : (eqGuard op t x (.const .nilIface) X .nilIface).run P w = .ok () w := by
      rcases hop with rfl | rfl
      · cases hr <;> simp [eqGuard]
      · cases hr <;> simp [eqGuard]
    have hbin : (binOp op t X .nilIface).run P w = .ok (.bool b) w := by
      subst hb
      rcases hop with rfl | rfl
      · cases hr <;> simp [binOp, hequal']
      · cases hr <;> simp [binOp, hequal']
    simp only [execOp, ho, hX, ey, Sem.run_bind, hg, Result.andThen_ok, hbin]
    rfl
  split at he
  · rename_i e1 e2 e3; exact fin _ _ e2 (.inl rfl) e3 rfl he.symm
  · rename_i e1 e2 e3; exact fin _ _ e2 (.inr rfl) e3 rfl he.symm
  · cases he

/-- an address compared with none -/
theorem snd_nilPtr (hT : TabOK P T) (h : Inv T w0 D0 N s a w D gv) {op : BinOp} {t t2 : TypeId} {x y : Operand} (ho : o.op = .binOp op t x y t2) (hns : isNilS y = false) (hnI : isNilI y = false) (hnP : isNilP y = true)
    (he : effOp T o d s.eval s.obj = .ok c v ups) : Does P T w0 D0 N s a w D o v ups := by
  unfold effOp at he; rw [ho] at he
  simp only [hns, hnI, hnP, cond_true, cond_false] at he
  have hy : y = .const (.pointer none) := by
    unfold isNilP at hnP
    split at hnP
    · rfl
    · cases hnP
  subst hy
  have ey : a.eval (.const (.pointer none)) = .pointer none := rfl
  have htd := hT.td t
  have hv := h.eval x
  unfold nilPtr at he
  have fin : ∀ (e : Nat) (b : Bool) (X : Value), P.underlying t = some (.pointer e) → (op = .eql ∨ op = .neq) → a.eval x = X → ((X = .pointer none ∧ b = (op == .eql)) ∨ (∃ ad, X = .pointer (some ad) ∧ b = !(op == .eql))) → Eff.ok c v ups = ans (.bool b) → Does P T w0 D0 N s a w D o v ups := by
    intro e b X htd hop hX hor heq
    obtain ⟨_, rfl, rfl⟩ := ans_inj heq.symm
    refine .pure h (x := .bool b) ?_ (.elem (.one rfl (.bool b)))
    have key : ∀ (r : Bool), (∀ d, (Op.equalIn (d + 1) t X (.pointer none)).run P w = .ok r w) → (eqGuard op t x (.const (.pointer none)) X (.pointer none)).run P w = .ok () w → b = (if op = .eql then r else !r) → (execOp a.eval o).run P w = .ok (.value (.bool b)) w := by
      intro r hr hg hb
      have hequal : (Op.equal t X (.pointer none)).run P w = .ok r w := hr 9999
      have hbin : (binOp op t X (.pointer none)).run P w = .ok (.bool b) w := by
        rcases hop with rfl | rfl
        · cases X <;> simp [binOp, hequal, hb]
        · cases X <;> simp [binOp, hequal, hb]
      simp only [execOp, ho, hX, ey, Sem.run_bind, hg, Result.andThen_ok, hbin]
      rfl
    rcases hor with ⟨rfl, rfl⟩ | ⟨ad, rfl, rfl⟩
    · refine key true (fun d => by simp [Op.equalIn, Sem.run_bind, run_underlying htd]) (by rcases hop with rfl | rfl <;> rfl) ?_
      rcases hop with rfl | rfl <;> rfl
    · refine key false (fun d => by simp [Op.equalIn, Sem.run_bind, run_underlying htd]) (by rcases hop with rfl | rfl <;> rfl) ?_
      rcases hop with rfl | rfl <;> rfl
  have non : ∀ {i : Nat} {p : List Step}, s.eval x = .ptr i p → ∃ ad, a.eval x = .pointer (some ad) := by
    intro i p e
    rw [e] at hv
    obtain ⟨b, _, _, e2⟩ := hv.ptr_inv
    exact ⟨_, e2⟩
  have nil : s.eval x = .nilp → a.eval x = .pointer none := by
    intro e
    rw [e] at hv
    exact hv.nilp_inv
  split at he
  · rename_i e1 e2 e3; rw [e2] at htd; exact fin _ true _ htd (.inl rfl) (nil e3) (.inl ⟨rfl, rfl⟩) he.symm
  · rename_i e1 e2 e3; rw [e2] at htd; obtain ⟨ad, e4⟩ := non e3; exact fin _ false _ htd (.inl rfl) e4 (.inr ⟨_, rfl, rfl⟩) he.symm
  · rename_i e1 e2 e3; rw [e2] at htd; exact fin _ false _ htd (.inr rfl) (nil e3) (.inl ⟨rfl, rfl⟩) he.symm
  · rename_i e1 e2 e3; rw [e2] at htd; obtain ⟨ad, e4⟩ := non e3; exact fin _ true _ htd (.inr rfl) e4 (.inr ⟨_, rfl, rfl⟩) he.symm
  · rename_i e1 e2 e3
    rw [e2] at htd
    rw [e3] at hv
    rcases hv.opt_inv with ⟨rfl, e4⟩ | ⟨z, b, off, cs, rfl, _, _, _, e4⟩
    · exact fin _ true _ htd (.inl rfl) e4 (.inl ⟨rfl, rfl⟩) he.symm
    · exact fin _ false _ htd (.inl rfl) e4 (.inr ⟨_, rfl, rfl⟩) he.symm
  · rename_i e1 e2 e3
    rw [e2] at htd
    rw [e3] at hv
    rcases hv.opt_inv with ⟨rfl, e4⟩ | ⟨z, b, off, cs, rfl, _, _, _, e4⟩
    · exact fin _ false _ htd (.inr rfl) e4 (.inl ⟨rfl, rfl⟩) he.symm
    · exact fin _ true _ htd (.inr rfl) e4 (.inr ⟨_, rfl, rfl⟩) he.symm
  · cases he
end
end V
namespace V
open Go
section
variable {Ty : Nat → Type} {T : Tab Ty} {P : Program}
variable {w0 : Base} {D0 : Nat → Prop} {N : Nat} {s : St Ty} {a : Act} {w : World} {D : Nat → Prop} {gv : Nat → Option GObj}
variable {o : Oper} {d : Nat} {c : Bool} {v : AV Ty} {ups : List (Nat × Obj Ty)}

/-! ### maps -/

theorem map_get {r : Nat} {es : Array MapEntry} {clock : Nat} (hb : w.heap[r]? = some (.map es clock)) : (getObj r).run P w = .ok (.map es clock) w := by simp [getObj, Sem.run, hb]
theorem map_set {r : Nat} {es : Array MapEntry} {clock : Nat} (x : Go.Obj) (hb : w.heap[r]? = some (.map es clock)) : (setObj r x).run P w = .ok () { w with heap := w.heap.setIfInBounds r x } := by simp [setObj, Sem.run, hb]

theorem find_ints (n : Int) : ∀ (l : List MapEntry) (ks : List Int) (i : Nat), l.map (·.key) = ks.map (fun n => Value.int .i64 n) →
    (ks.contains n = true → ∃ j u, Instr.findNow (.int .i64) (.int .i64 n) l i = some (some (i + j, u)) ∧ (l[j]?).map (·.key) = some (.int .i64 n)) ∧ (ks.contains n = false → Instr.findNow (.int .i64) (.int .i64 n) l i = some none) := by
  intro l
  induction l with
  | nil =>
    intro ks i h
    cases ks with
    | nil => exact ⟨fun h => (by cases h), fun _ => rfl⟩
    | cons x r => cases h
  | cons e l ih =>
    intro ks i h
    cases ks with
    | nil => cases h
    | cons x r =>
      simp only [List.map_cons, List.cons.injEq] at h
      obtain ⟨hk, hr⟩ := h
      obtain ⟨i1, i2⟩ := ih r (i + 1) hr
      have hs : Instr.sameNow (.int .i64) (.int .i64 n) e.key = some (n == x) := by rw [hk]; rfl
      by_cases hx : n = x
      · subst hx
        refine ⟨fun _ => ⟨0, e.val, ?_, ?_⟩, fun h => ?_⟩
        · simp [Instr.findNow, hs]
        · simp [hk]
        · simp at h
      · have hb : (n == x) = false := by simpa using hx
        have hc : (x :: r).contains n = r.contains n := by simp [hx]
        rw [hc]
        refine ⟨fun h => ?_, fun h => ?_⟩
        · obtain ⟨j, u, h1, h2⟩ := i1 h
          refine ⟨j + 1, u, ?_, by simpa using h2⟩
          simp only [Instr.findNow, hs, hb]
          rw [h1, show i + 1 + j = i + (j + 1) by omega]
        · simp only [Instr.findNow, hs, hb]
          exact i2 h

theorem key_ok {k : TypeId} (hk : P.underlying k = some (.int .i64)) (b : Bool) (n : Int) : (Instr.checkKey b 10000 k (.int .i64 n)).run P w = .ok () w := by
  have key : ∀ m, (Instr.checkKey b (m + 1) k (.int .i64 n)).run P w = .ok () w := fun m => by
    simp [Instr.checkKey, Sem.run_bind, run_underlying hk]
  exact key 9999

theorem zero_ok {e : TypeId} {i : TypeInfo} {z : Value} (hi : P.info? e = some i) (hz : i.zero = some z) : (zeroValue e).run P w = .ok z w := by
  simp [zeroValue, typeInfo, hi, hz]

theorem lookup_run {t k e : TypeId} {i : TypeInfo} {z : Value} (ht : P.underlying t = some (.map k e)) (hk : P.underlying k = some (.int .i64)) (hi : P.info? e = some i) (hz : i.zero = some z) {b clock : Nat} {es : Array MapEntry}
    (hb : w.heap[b]? = some (.map es clock)) {ks : List Int} (hks : es.toList.map (·.key) = ks.map (fun n => Value.int .i64 n)) (n : Int) :
    ∃ u, (Instr.lookup t (.map (some b)) (.int .i64 n) true).run P w = .ok (.tuple #[u, .bool (ks.contains n)]) w := by
  obtain ⟨f1, f2⟩ := find_ints n es.toList ks 0 hks
  cases hc : ks.contains n with
  | true =>
    obtain ⟨j, u, h1, _⟩ := f1 hc
    refine ⟨u, ?_⟩
    simp [Instr.lookup, Sem.run_bind, run_underlying ht, map_get hb, key_ok hk, Instr.findKey, run_underlying hk, h1]
  | false =>
    refine ⟨z, ?_⟩
    simp [Instr.lookup, Sem.run_bind, run_underlying ht, map_get hb, key_ok hk, Instr.findKey, run_underlying hk, f2 hc, zero_ok hi hz]

theorem update_run {t k e : TypeId} (ht : P.underlying t = some (.map k e)) (hk : P.underlying k = some (.int .i64)) {b clock : Nat} {es : Array MapEntry}
    (hb : w.heap[b]? = some (.map es clock)) {ks : List Int} (hks : es.toList.map (·.key) = ks.map (fun n => Value.int .i64 n)) (n : Int) (x : Value) :
    ∃ es' clock', (Instr.mapUpdate t (.map (some b)) (.int .i64 n) x).run P w = .ok () { w with heap := w.heap.setIfInBounds b (.map es' clock') } ∧
      es'.toList.map (·.key) = (cond (ks.contains n) ks (ks ++ [n])).map (fun n => Value.int .i64 n) := by
  obtain ⟨f1, f2⟩ := find_ints n es.toList ks 0 hks
  cases hc : ks.contains n with
  | true =>
    obtain ⟨j, u, h1, h2⟩ := f1 hc
    rw [Nat.zero_add] at h1
    refine ⟨es.modify j fun e => { e with key := .int .i64 n, val := x }, clock, ?_, ?_⟩
    · have hsame : Instr.sameBits 10000 (.int .i64 n) (.int .i64 n) = true := by simp [Instr.sameBits]
      have hkey : ((es[j]?).map (·.key)).getD (.int .i64 n) = .int .i64 n := by
        have : (es[j]?).map (·.key) = some (.int .i64 n) := by simpa using h2
        rw [this]; rfl
      simp [Instr.mapUpdate, Sem.run_bind, run_underlying ht, map_get hb, key_ok hk, Instr.findKey, run_underlying hk, h1, hkey, Instr.keyThatStays, hsame, map_set _ hb]
    · rw [cond_true, ← hks]
      apply List.ext_getElem?
      intro m
      simp only [List.getElem?_map, Array.getElem?_toList, Array.getElem?_modify]
      by_cases hm : j = m
      · subst hm
        rw [if_pos rfl]
        have : (es[j]?).map (·.key) = some (.int .i64 n) := by simpa using h2
        cases hj : es[j]? with
        | none => rfl
        | some y => rw [hj] at this; simp only [Option.map_some, Option.some.injEq] at this ⊢; exact this.symm
      · rw [if_neg hm]
  | false =>
    refine ⟨es.push { key := .int .i64 n, val := x, born := clock }, clock + 1, ?_, ?_⟩
    · simp [Instr.mapUpdate, Sem.run_bind, run_underlying ht, map_get hb, key_ok hk, Instr.findKey, run_underlying hk, f2 hc, map_set _ hb]
    · rw [cond_false]
      simp [hks]

theorem RepV.mapp_inv {i : Nat} {x : Value} (h : RepV T w D gv (.mapp i : AV Ty) x) : ∃ b, gv i = some (.var b) ∧ x = .map (some b) := by
  have := h.one_inv rfl (by simp) (by simp) (by simp); cases this; exact ⟨_, ‹_›, rfl⟩

theorem snd_makeMap (h : Inv T w0 D0 N s a w D gv) {t : TypeId} {r : Option Operand} (ho : o.op = .makeMap t r) (he : effOp T o d s.eval s.obj = .ok c v ups) : Does P T w0 D0 N s a w D o v ups := by
  unfold effOp at he; rw [ho] at he
  cases r with
  | some x => simp at he
  | none =>
    simp only at he
    split at he
    case h_2 => cases he
    rename_i k htd hd
    obtain ⟨_, rfl, rfl⟩ := does_inj he
    have hw := h.world (World.grownBy_alloc w (.map #[] 0) none)
    refine ⟨.map (some w.heap.size), w.alloc (.map #[] 0), D, gset gv d (.var w.heap.size), .inl ?_, .elem (.one rfl (.mapp (gset_same _ _ _))), ?_, fun _ h => h⟩
    · simp only [execOp, ho, Option.map_none]
      rfl
    · refine hw.new hd ?_ ?_
      · exact .map (gset_same _ _ _) (.inr h.grown.size) (fun hD => Nat.lt_irrefl _ (h.dlt _ hD)) (heap_alloc_new w _) rfl
      · intro o g' b _ hl hg' hb e
        simp only [GObj.blk, Option.some.injEq] at e
        have := (live_blk (h.obj o) hl hg' hb).1
        omega

theorem snd_lookup (hT : TabOK P T) (h : Inv T w0 D0 N s a w D gv) {t : TypeId} {m x : Operand} {ok : Bool} (ho : o.op = .lookup t m x ok) (he : effOp T o d s.eval s.obj = .ok c v ups) : Does P T w0 D0 N s a w D o v ups := by
  unfold effOp at he; rw [ho] at he
  cases ok with
  | false => simp at he
  | true =>
    simp only at he
    split at he
    case h_2 => cases he
    rename_i k i n htd hm hx
    split at he
    case h_2 => cases he
    rename_i ks hob
    obtain ⟨_, rfl, rfl⟩ := ans_inj he
    have ht := hT.td t
    rw [htd] at ht
    obtain ⟨e, ti, z, ht, hk, hi, hz⟩ := ht
    have hmv := h.eval m
    rw [hm] at hmv
    obtain ⟨b, hg, hme⟩ := hmv.mapp_inv
    have hxv := h.eval x
    rw [hx] at hxv
    have hxe := hxv.int_inv
    have hobj := h.obj i
    rw [hob] at hobj
    cases hobj with
    | map h1 h2 h3 h4 h5 =>
      rw [hg] at h1
      cases h1
      obtain ⟨u, hrun⟩ := lookup_run ht hk hi hz h4 h5 n
      refine .pure h (x := .tuple #[u, .bool (ks.contains n)]) ?_ (.tup (xs := [u, .bool (ks.contains n)]) (.cons (.undef _) (.cons (.one rfl (.bool _)) .nil)))
      simp [execOp, ho, hme, hxe, hrun]

theorem snd_mapUpdate (hT : TabOK P T) (h : Inv T w0 D0 N s a w D gv) {t : TypeId} {m x y : Operand} (ho : o.op = .mapUpdate t m x y) (he : effOp T o d s.eval s.obj = .ok c v ups) : Does P T w0 D0 N s a w D o v ups := by
  unfold effOp at he; rw [ho] at he
  simp only at he
  split at he
  case h_2 => cases he
  rename_i k i n htd hm hx
  split at he
  case h_2 => cases he
  rename_i ks hob
  obtain ⟨_, rfl, rfl⟩ := does_inj he
  have ht := hT.td t
  rw [htd] at ht
  obtain ⟨e, ti, z, ht, hk, hi, hz⟩ := ht
  have hmv := h.eval m
  rw [hm] at hmv
  obtain ⟨b, hg, hme⟩ := hmv.mapp_inv
  have hxv := h.eval x
  rw [hx] at hxv
  have hxe := hxv.int_inv
  have hobj := h.obj i
  rw [hob] at hobj
  cases hobj with
  | map h1 h2 h3 h4 h5 =>
    rw [hg] at h1
    cases h1
    obtain ⟨es', clock', hrun, hks⟩ := update_run ht hk h4 h5 n (a.eval y)
    have hlt : b < w.heap.size := (Array.getElem?_eq_some_iff.1 h4).1
    have hex : (execOp a.eval o).run P w = .ok .skip { w with heap := w.heap.setIfInBounds b (.map es' clock') } := by simp [execOp, ho, hme, hxe, hrun]
    refine ⟨Go.undef, _, D, gv, .inr ⟨hex, rfl⟩, .elem (.undef _), ?_, fun _ h => h⟩
    · refine h.write (o1 := i) (b := b) (by rw [hob]; rfl) hg rfl ⟨rfl, rfl, rfl, by simp, fun k _ hne => ?_⟩ (.map hg h2 h3 (es := es') (clock := clock') ?_ hks)
      · have : k ≠ b := fun e => hne (by rw [e])
        simp only
        rw [Array.getElem?_setIfInBounds_ne (Ne.symm this)]
      · simp only
        rw [Array.getElem?_setIfInBounds_self_of_lt hlt]

theorem cellsAV_list (l : List (AV Ty)) : (cellsAV l).list = l := by
  induction l with
  | nil => rfl
  | cons v r ih => simp only [cellsAV, AV.list, ih]
theorem lone_spec {v : AV Ty} (h : v.lone = true) : v.isAgg = false ∧ v ≠ .undef ∧ v ≠ .skp ∧ ∀ vs, v ≠ .tup vs := by
  simp only [AV.lone, Bool.and_eq_true, Bool.not_eq_true'] at h
  refine ⟨h.2, ?_, ?_, ?_⟩ <;> (intros; intro e; rw [e] at h; simp [AV.plain] at h)
/-- a function value with some values -/
theorem snd_makeFunc (h : Inv T w0 D0 N s a w D gv) {fn : Fn} {first captured : Array Operand} (ho : o.op = .makeFunc fn first captured) (he : effOp T o d s.eval s.obj = .ok c v ups) : Does P T w0 D0 N s a w D o v ups := by
  unfold effOp at he; rw [ho] at he
  cases fn with
  | func f =>
    simp only at he
    obtain ⟨hk, he2⟩ := cond_fail he
    obtain ⟨_, rfl, rfl⟩ := ans_inj he2
    have hrun : (execOp a.eval o).run P w = .ok (.value (.func (.func f) (first.map a.eval) (captured.map a.eval))) w := by
      simp only [execOp, ho]
      simp [Instr.makeFunc]
    refine .pure h hrun (.elem (.one rfl ?_))
    have key : ∀ l : List Operand, (l.map s.eval).all AV.lone = true → RepC T w D gv (cellsAV (l.map s.eval)) (l.map a.eval) := by
      intro l
      induction l with
      | nil => intro _; exact .nil
      | cons x r ih =>
        intro hl
        simp only [List.map_cons, List.all_cons, Bool.and_eq_true] at hl
        obtain ⟨q1, q2, q3, q4⟩ := lone_spec hl.1
        exact RepC.cons (ch := [a.eval x]) ((h.eval x).one_inv q1 q2 q3 q4) (ih hl.2)
    have := RepC.clo (f := f) (nf := first.size) (by rw [cellsAV_list]; exact fun v hv => List.all_eq_true.1 hk v hv) (by rw [cellsAV_list]; simp) (key _ hk)
    have e1 : (((first ++ captured).toList.map a.eval).take first.size).toArray = first.map a.eval := by
      apply Array.ext'
      simp only [Array.toList_append, List.map_append, Array.toList_map]
      rw [List.take_left' (by simp)]
    have e2 : (((first ++ captured).toList.map a.eval).drop first.size).toArray = captured.map a.eval := by
      apply Array.ext'
      simp only [Array.toList_append, List.map_append, Array.toList_map]
      rw [List.drop_left' (by simp)]
    rw [e1, e2] at this
    exact this
  | _ => simp at he
end
end V
namespace V
open Go
section
variable {Ty : Nat → Type} {T : Tab Ty} {P : Program}
variable {w0 : Base} {D0 : Nat → Prop} {N : Nat} {s : St Ty} {a : Act} {w : World} {D : Nat → Prop} {gv : Nat → Option GObj}
variable {specs : Nat → Option (FSpec Ty)} {o : Oper} {v : AV Ty} {ups : List (Nat × Obj Ty)}

theorem RepC.flat (hT : TabOK P T) {D' : Nat → Prop} {gv' : Nat → Option GObj} {cs : List Value} (h : RepC T w D gv v cs) (hf : v.flat T = true) : RepC T w D' gv' v cs := by
  have hl : ∀ (t : Nat) (xs : List (Ty t)), T.flatTy t = true → (encs T t xs).flat T = true := by
    intro t xs ht
    induction xs with
    | nil => rfl
    | cons x r ih => simp only [encs, List.map_cons, listAV, AV.flat, Bool.and_eq_true] at ih ⊢; exact ⟨hT.flat t x ht, ih⟩
  induction h with
  | bool b => exact .bool b
  | int k n => exact .int k n
  | str s => exact .str s
  | nilp => exact .nilp
  | nils t => exact .nils t
  | nil => exact .nil
  | cons _ _ i1 i2 => simp only [AV.flat, Bool.and_eq_true] at hf; exact .cons (i1 hf.1) (i2 hf.2)
  | arr l _ ih => exact .arr l (ih (hl _ _ hf))
  | ifaceS a _ ih => exact .ifaceS a (ih hf)
  | ifaceA a _ ih => exact .ifaceA a (ih hf)
  | _ => cases hf

theorem RepV.flat (hT : TabOK P T) {D' : Nat → Prop} {gv' : Nat → Option GObj} {x : Value} (h : RepV T w D gv v x) (hf : v.flat T = true) : RepV T w D' gv' v x := by
  have he : ∀ {v : AV Ty} {x : Value}, RepE T w D gv v x → v.flat T = true → RepE T w D' gv' v x := by
    intro v x h hf
    cases h with
    | undef => cases hf
    | skp => cases hf
    | agg a h => exact .agg a (h.flat hT hf)
    | one a h => exact .one a (h.flat hT hf)
  cases h with
  | elem h => exact .elem (he h hf)
  | @tup vs xs h =>
    refine .tup ?_
    simp only [AV.flat] at hf
    induction h with
    | nil => exact .nil
    | cons h _ ih => simp only [AV.flat, Bool.and_eq_true] at hf; exact .cons (he h hf.1) (ih hf.2)

theorem RepV.regv (hT : TabOK P T) {gv' : Nat → Option GObj} {x : Value} (h : RepV T w D gv v x) (hi : v.ids = []) : RepV T w D gv' v x := by
  have he : ∀ {v : AV Ty} {x : Value}, RepE T w D gv v x → v.ids = [] → RepE T w D gv' v x := by
    intro v x h hi
    cases h with
    | undef => exact .undef _
    | skp => exact .skp
    | agg a h => exact .agg a (h.regv hT hi)
    | one a h => exact .one a (h.regv hT hi)
  cases h with
  | elem h => exact .elem (he h hi)
  | @tup vs xs h =>
    refine .tup ?_
    simp only [AV.ids] at hi
    induction h with
    | nil => exact .nil
    | cons h _ ih => simp only [AV.ids, List.append_eq_nil_iff] at hi; exact .cons (he h hi.1) (ih hi.2)

theorem settleV_rep (hT : TabOK P T) {Own : Nat → Prop} {ob : Nat → Obj Ty} (hob : ∀ o, ObjOK T w Own D gv o (ob o)) {D' : Nat → Prop} (hD : ∀ b, D b → D' b) {v : AV Ty} {x : Value}
    (h : RepV T w D gv v x) (hs : ∀ b, blocksOf ob gv v.shares b → D' b) : RepV T w D' gv (settle T ob v) x := by
  have he : ∀ {v : AV Ty} {x : Value}, RepE T w D gv v x → (∀ b, blocksOf ob gv v.shares b → D' b) → RepE T w D' gv (settle T ob v) x := by
    intro v x h hs
    cases h with
    | undef => exact .undef _
    | skp => exact .skp
    | agg a h => exact .agg (by rw [settle_isAgg]; exact a) (settle_rep hT hob hD h hs)
    | one a h => exact .one (by rw [settle_isAgg]; exact a) (settle_rep hT hob hD h hs)
  cases h with
  | elem h => exact .elem (he h hs)
  | @tup vs xs h =>
    refine .tup ?_
    simp only [AV.shares] at hs
    induction h with
    | nil => exact .nil
    | cons h _ ih =>
      refine .cons (he h fun b ⟨o1, ho1, r⟩ => hs b ⟨o1, by simp [AV.shares, ho1], r⟩) (ih fun b ⟨o1, ho1, r⟩ => hs b ⟨o1, by simp [AV.shares, ho1], r⟩)

/-- the values that a call is given -/
inductive RepL (T : Tab Ty) (w : World) (D : Nat → Prop) : List (AV Ty) → List Value → Prop
  | nil : RepL T w D [] []
  | cons {v x vs xs} : RepV T w D (fun _ => none) v x → RepL T w D vs xs → RepL T w D (v :: vs) (x :: xs)

/-- what a function's contract says: if its abstract fellow answers, it returns that, and all that was there is as it was -/
def FOKv (P : Program) (T : Tab Ty) (f : Nat) (sp : FSpec Ty) : Prop := ∀ (k : Nat) (args : List (AV Ty)) (r : AV Ty), sp.runK k args (AV Ty) some = some r →
  ∀ (w : World) (D : Nat → Prop) (vals : List Value), GlobOK T w → (∀ b, D b → b < w.heap.size) → RepL T w D args vals →
    Calls P f vals.toArray w fun e w' => ∃ x, e = .returned x ∧ RepV T w' (fun b => (sp.alias = true ∧ D b) ∨ (w.heap.size ≤ b ∧ b < w'.heap.size)) (fun _ => none) r x ∧ w.grownBy w' none


theorem RepC.forget (hT : TabOK P T) {D' : Nat → Prop} {cs : List Value} (h : RepC T w D gv v cs) : ∀ {v' : AV Ty}, v.forget T = some v' → RepC T w D' gv v' cs := by
  induction h with
  | bool b => intro v' e; cases e; exact .bool b
  | int k n => intro v' e; cases e; exact .int k n
  | str s => intro v' e; cases e; exact .str s
  | nilp => intro v' e; cases e; exact .nilp
  | nil => intro v' e; cases e; exact .nil
  | nils t => intro v' e; cases e; exact .undef _ rfl
  | snil t a c h => intro v' e; cases e; exact .undef _ rfl
  | slice d l a _ _ => intro v' e; cases e; exact .undef _ rfl
  | slicen0 t a c => intro v' e; cases e; exact .undef _ rfl
  | slicen d l a _ _ => intro v' e; cases e; exact .undef _ rfl
  | cptr d a _ _ => intro v' e; cases e; exact .undef _ rfl
  | optn t => intro v' e; cases e; exact .undef _ rfl
  | opts d a _ _ => intro v' e; cases e; exact .undef _ rfl
  | err h => intro v' e; cases e; exact .undef _ h.one
  | cons _ _ i1 i2 =>
    intro v' e
    simp only [AV.forget] at e
    split at e
    · rename_i a b ha hb
      cases e
      exact .cons (i1 ha) (i2 hb)
    · cases e
  | @arr t n xs cs l hr _ =>
    intro v' e
    simp only [AV.forget] at e
    cases hf : T.flatTy t with
    | true =>
      rw [hf] at e
      cases e
      exact (RepC.arr l hr).flat hT hf
    | false => rw [hf] at e; cases e
  | _ => intro v' e; cases e

theorem forget_isAgg {v' : AV Ty} (h : v.forget T = some v') : v'.isAgg = v.isAgg := by
  cases v with
  | cons a b =>
    simp only [AV.forget] at h
    split at h
    · cases h; rfl
    · cases h
  | arr t n xs =>
    simp only [AV.forget] at h
    cases hf : T.flatTy t <;> rw [hf] at h <;> cases h
    rfl
  | tup vs =>
    simp only [AV.forget] at h
    split at h
    · cases h; rfl
    · cases h
  | _ => first | cases h; rfl | cases h

theorem RepV.forget (hT : TabOK P T) {D' : Nat → Prop} {x : Value} (h : RepV T w D gv v x) {v' : AV Ty} (e : v.forget T = some v') : RepV T w D' gv v' x := by
  have he : ∀ {v v' : AV Ty} {x : Value}, RepE T w D gv v x → v.forget T = some v' → RepE T w D' gv v' x := by
    intro v v' x h e
    cases h with
    | undef => cases e
    | skp => cases e
    | agg a h => exact .agg (by rw [forget_isAgg e]; exact a) (h.forget hT e)
    | one a h => exact .one (by rw [forget_isAgg e]; exact a) (h.forget hT e)
  cases h with
  | elem h => exact .elem (he h e)
  | @tup vs xs h =>
    simp only [AV.forget] at e
    split at e
    · rename_i a ha
      cases e
      refine .tup ?_
      induction h generalizing a with
      | nil => cases ha; exact .nil
      | cons h _ ih =>
        simp only [AV.forget] at ha
        split at ha
        · rename_i b c hb hc
          cases ha
          exact .cons (he h hb) (ih _ hc)
        · cases ha
    · cases e

theorem FOKv.forget (hT : TabOK P T) {f : Nat} {sp : FSpec Ty} (h : FOKv P T f sp) : FOKv P T f (sp.forget T) := by
  intro k args r hr w D vals hg hD hR
  have hr' : sp.runK k args (AV Ty) (fun r => match r.forget T with | some v => some v | none => none) = some r := hr
  rw [sp.nat] at hr'
  cases hs : sp.runK k args (AV Ty) some with
  | none => rw [hs] at hr'; cases hr'
  | some r0 =>
    rw [hs] at hr'
    simp only [Option.bind_some] at hr'
    split at hr'
    · rename_i v hv
      cases hr'
      refine (h k args r0 hs w D vals hg hD hR).mono ?_
      rintro e w' ⟨x, rfl, hx, hgr⟩
      exact ⟨x, rfl, hx.forget hT hv, hgr⟩
    · cases hr'

theorem retype_rep {w : World} {D : Nat → Prop} : ∀ (tys : List Nat) {args : List (AV Ty)} {vals : List Value}, RepL T w D args vals → RepL T w D (retypeL T tys args) vals
  | [], _, _, h => by
    cases h with
    | nil => exact .nil
    | cons a b => exact .cons a b
  | t :: ts, _, _, h => by
    cases h with
    | nil => exact .nil
    | cons a b =>
      refine .cons ?_ (retype_rep ts b)
      rename_i v x _ _
      unfold AV.retype
      split
      · rename_i u xs
        cases hu : (u == 1000000) with
        | false => rw [cond_false]; exact a
        | true =>
          rw [cond_true]
          split
          · have h2 := a.one_inv rfl (by simp) (by simp) (by simp)
            cases h2 with
            | snil _ q c hq => exact .elem (.one rfl (.snil _ _ _ hq))
            | slice h1 h2 h3 h4 => exact .elem (.one rfl (.snil _ _ _ (fun e => by cases e)))
          · exact a
      · exact a
theorem FOKv.typed {f : Nat} {sp : FSpec Ty} (h : FOKv P T f sp) (o : Oper) : FOKv P T f (sp.typed T o) := by
  unfold FSpec.typed
  split
  · intro k args r hr w D vals hg hD hR
    exact h k _ r hr w D vals hg hD (retype_rep _ hR)
  · exact h
theorem FOKv.at (hT : TabOK P T) {f : Nat} {sp : FSpec Ty} (h : FOKv P T f sp) (o : Oper) : FOKv P T f (specAt T o sp) := by
  unfold specAt
  split
  · rename_i d _
    cases T.fgt.contains d with
    | true => exact (h.typed o).forget hT
    | false => exact h.typed o
  · exact h.typed o

/-- the same of a function that takes or gives objects -/
def HOK (P : Program) (T : Tab Ty) (f : Nat) (sp : FSpec Ty) : Prop := sp.heap = true → ∀ (k np : Nat) (n n' : NSt Ty), sp.runH k np n (NSt Ty) some = some n' →
  ∀ (B : Base) (D : Nat → Prop) (gv : Nat → Option GObj) (vals : List Value), (∀ j b, B.pin j = some b → j < np) →
    Inv T B D vals.length (n.toSt (List.range vals.length)) { tmps := vals.toArray, defers := [] } B.world D gv → n.tmps.length = vals.length →
    Calls P f vals.toArray B.world fun e w' => ∃ x D' gv', e = .returned x ∧ Inv T B D 1 (n'.toSt [0]) { tmps := #[x], defers := [] } w' D' gv'

/-- a function that is told by what it does to the caller's objects: at each of the caller's states in which its condition holds it does that -/
def POK (P : Program) (T : Tab Ty) (f : Nat) (sp : FSpec Ty) : Prop := ∀ p, sp.prim = some p → ∀ {w0 : Base} {D0 : Nat → Prop} {N : Nat} {s : St Ty} {a : Act} {w : World} {D : Nat → Prop} {gv : Nat → Option GObj} (d : Nat) (vs : List (AV Ty)) (vals : List Value) (v : AV Ty) (ups : List (Nat × Obj Ty)),
  Inv T w0 D0 N s a w D gv → vs.length = vals.length → (∀ i u, vs[i]? = some u → RepV T w D gv u (vals.getD i Go.undef)) → p.eff d vs s.obj = some (true, v, ups) →
    Calls P f vals.toArray w fun e w' => ∃ x D' gv', e = .returned x ∧ RepV T w' D' gv' v x ∧ Inv T w0 D0 N { s with obj := Obj.upd s.obj ups } a w' D' gv'

def FOK (P : Program) (T : Tab Ty) (f : Nat) (sp : FSpec Ty) : Prop := FOKv P T f sp ∧ HOK P T f sp ∧ POK P T f sp

theorem HOK.none {f : Nat} {sp : FSpec Ty} (h : sp.heap = false) : HOK P T f sp := fun h2 => by rw [h] at h2; cases h2
theorem POK.none {f : Nat} {sp : FSpec Ty} (h : sp.prim = .none) : POK P T f sp := fun p h2 => by rw [h] at h2; cases h2

def Callable (P : Program) (f : Nat) : Prop := ∀ (args : Array Value) (w : World), (callFunc f args).run P w = .ok (.enter f args) w

/-- errors.As: whether there is a number, and then it is laid down -/
def AsOK (P : Program) (T : Tab Ty) : Prop := T.asOn = true → Callable P T.asFn ∧ ∀ (W : World) (D : Nat → Prop) (e : GErr) (x : Value) (t : Nat) (ty : TypeId) (old : Int), GlobOK T W → (∀ b, D b → b < W.heap.size) → ErrRep T W D e x →
  W.heap[t]? = some (.cells #[.int .i64 old] ty (0, 0)) → ¬ D t → Calls P T.asFn #[x, .iface T.errnoPtr (.pointer (some ⟨t, 0, none⟩))] W fun r w' => r = .returned (.bool e.first.isSome) ∧
    W.grownBy w' (some t) ∧ w'.heap[t]? = some (.cells #[.int .i64 (e.first.getD old)] ty (0, 0))

structure SpecsOK (P : Program) (T : Tab Ty) (specs : Nat → Option (FSpec Ty)) : Prop where
  cmp : CmpOK P T
  as : AsOK P T
  fn : ∀ f sp, specs f = some sp → FOK P T f sp ∧ Callable P f

theorem snd_call (hT : TabOK P T) (hS : SpecsOK P T specs) (h : Inv T w0 D0 N s a w D gv) {cx : Operand} {args : Array Operand} {tys : Array TypeId} (ho : o.op = .call { callee := .value cx, args := args, argTypes := tys })
    {sp : FSpec Ty} {as : List (AV Ty)} (he : callE specs T o s.eval s.obj = some (sp, as, ups)) {k : Nat} {r : AV Ty} (hr : sp.runK k as (AV Ty) some = some r)
    {K : Act → World → Prop} {Q : Exit → Act → World → Prop} (hd : ∀ d, o.dst = some d → d < N) (hK : ∀ a' w', Gam T w0 D0 N (s.put o.dst r ups) a' w' → K a' w') : o.wp P a w K Q := by
  unfold callE at he; rw [ho] at he
  simp only at he
  split at he
  case h_2 => cases he
  rename_i f hcx
  have hfx := h.eval cx
  rw [hcx] at hfx
  have hfv := hfx.func_inv
  split at he
  case h_2 => cases he
  rename_i sp' hsp
  cases hids : (args.toList.all fun a => (settle T s.obj (s.eval a)).ids.isEmpty) with
  | false => rw [hids] at he; cases he
  | true =>
    rw [hids] at he
    simp only [cond_true, Option.some.injEq, Prod.mk.injEq] at he
    obtain ⟨rfl, rfl, rfl⟩ := he
    obtain ⟨⟨hF0, _, _⟩, hcall⟩ := hS.fn f sp' hsp
    have hF := hF0.at hT o
    generalize specAt T o sp' = sp' at hr hF hK ⊢
    have hidsL : ∀ x ∈ args.toList, (settle T s.obj (s.eval x)).ids = [] := fun x hx => by
      have := List.all_eq_true.1 hids x hx
      simpa using this
    -- the world in which the arguments are read
    have main : ∀ (D1 : Nat → Prop), (∀ b, D b → D1 b) → (∀ b, blocksOf s.obj gv (args.toList.flatMap fun a => (s.eval a).shares) b → D1 b) → RepL T w D1 (args.toList.map fun a => settle T s.obj (s.eval a)) (args.toList.map a.eval) := by
      intro D1 h1 h2
      have key : ∀ (l : List Operand), (∀ x ∈ l, x ∈ args.toList) → RepL T w D1 (l.map fun a => settle T s.obj (s.eval a)) (l.map a.eval) := by
        intro l
        induction l with
        | nil => intro _; exact .nil
        | cons x l ih =>
          intro hl
          refine .cons ((settleV_rep hT h.obj h1 (h.eval x) fun b ⟨o1, ho1, r⟩ => h2 b ⟨o1, List.mem_flatMap.2 ⟨x, hl x (by simp), ho1⟩, r⟩).regv hT (hidsL x (hl x (by simp)))) (ih fun y hy => hl y (by simp [hy]))
      exact key _ fun _ h => h
    have enter : (execOp a.eval o).run P w = .ok (.enter f (args.toList.map a.eval).toArray) w := by
      simp only [execOp, ho, resolve, hfv, Deferred.ofValue, Sem.run_bind, Sem.run_pure, Result.andThen_ok, invoke]
      have : (#[] ++ args.map a.eval ++ #[] : Array Value) = (args.toList.map a.eval).toArray := by apply Array.ext'; simp
      rw [this]
      exact hcall _ _
    unfold Oper.wp
    rw [enter, Oper.upon_enter]
    have fin : ∀ (s1 : St Ty) (D1 D2 : Nat → Prop) (al : Prop), s1.env = s.env → s1.obj = Obj.upd s.obj (cond sp'.alias ((args.toList.flatMap fun a => (s.eval a).shares).map (freeze s.obj)) []) → Inv T w0 D0 N s1 a w D1 gv → (al → ∀ b, D2 b → D1 b) →
        ∀ (w' : World) (x : Value), RepV T w' (fun b => (al ∧ D2 b) ∨ (w.heap.size ≤ b ∧ b < w'.heap.size)) (fun _ => none) r x → w.grownBy w' none → K (a.put o.dst x) w' := by
      intro s1 D1 D2 al he1 he2 hinv hal w' x hv hg
      have hw := hinv.world hg
      have hm := hw.more (D' := fun b => D1 b ∨ (w.heap.size ≤ b ∧ b < w'.heap.size)) (fun b h => .inl h) (fun b hb => hb.elim (hw.dlt b) (·.2)) (fun b hb => hb.elim .inl fun hb => .inr (.inr (Nat.le_trans h.grown.size hb.1))) (fun o1 g b hl hgo hb hb2 => by
        rcases hb2 with hb2 | hb2
        · exact live_notD (hinv.obj o1) hl hgo hb hb2
        · have := (live_blk (hinv.obj o1) hl hgo hb).1
          omega)
      have hv2 : RepV T w' (fun b => D1 b ∨ (w.heap.size ≤ b ∧ b < w'.heap.size)) gv r x := hv.mono (fun b hb => hb.elim (fun hb => .inl (hal hb.1 b hb.2)) .inr) (fun _ _ => rfl) (fun _ _ h => by cases h)
      refine hK _ _ ⟨fun b => D1 b ∨ (w.heap.size ≤ b ∧ b < w'.heap.size), gv, ?_⟩
      have hs1 : s1 = { s with obj := Obj.upd s.obj (cond sp'.alias ((args.toList.flatMap fun a => (s.eval a).shares).map (freeze s.obj)) []) } := by
        cases s1; simp only at he1 he2; rw [he1, he2]
      rw [hs1] at hm
      exact hm.put_ups hd hv2
    cases hal : sp'.alias with
    | false =>
      have hblk : ∀ b, (D b ∨ blocksOf s.obj gv (args.toList.flatMap fun a => (s.eval a).shares) b) → b < w.heap.size := fun b hb => hb.elim (h.dlt b) fun ⟨o1, _, hl, g, hg, hb⟩ => (live_blk (h.obj o1) hl hg hb).1
      refine (hF k _ r hr w (fun b => D b ∨ blocksOf s.obj gv (args.toList.flatMap fun a => (s.eval a).shares) b) _ h.globOK hblk (main _ (fun b h => .inl h) (fun b h => .inr h))).mono ?_
      rintro e w' ⟨x, rfl, hv, hg⟩
      refine fin s D _ (sp'.alias = true) rfl (by rw [hal]; rfl) h (fun e => by rw [hal] at e; cases e) w' x hv hg
    | true =>
      obtain ⟨D', hD, hsh, hback, hinv⟩ := h.freeze hT (args.toList.flatMap fun a => (s.eval a).shares)
      refine (hF k _ r hr w D' _ h.globOK (fun b hb => hinv.dlt b hb) (main D' hD hsh)).mono ?_
      rintro e w' ⟨x, rfl, hv, hg⟩
      refine fin { s with obj := Obj.upd s.obj ((args.toList.flatMap fun a => (s.eval a).shares).map (V.freeze s.obj)) } D' D' (sp'.alias = true) rfl (by rw [hal]; rfl) hinv (fun _ b h => h) w' x hv hg

theorem snd_as (hS : SpecsOK P T specs) (h : Inv T w0 D0 N s a w D gv) {cx : Operand} {args : Array Operand} {tys : Array TypeId} (ho : o.op = .call { callee := .value cx, args := args, argTypes := tys })
    (he : asE T o s.eval s.obj = some (v, ups)) {K : Act → World → Prop} {Q : Exit → Act → World → Prop} (hd : ∀ d, o.dst = some d → d < N) (hK : ∀ a' w', Gam T w0 D0 N (s.put o.dst v ups) a' w' → K a' w') : o.wp P a w K Q := by
  unfold asE at he; rw [ho] at he
  simp only at he
  obtain ⟨al⟩ := args
  simp only at he
  split at he
  case h_2 => cases he
  rename_i f xa xt hcx
  have hfx := h.eval cx
  rw [hcx] at hfx
  have hfv := hfx.func_inv
  cases hon : (T.asOn && f == T.asFn) with
  | false => rw [hon] at he; cases he
  | true =>
    rw [hon, cond_true] at he
    simp only [Bool.and_eq_true, beq_iff_eq] at hon
    obtain ⟨hon, rfl⟩ := hon
    split at he
    case h_2 => cases he
    rename_i e p i hxa hxt
    cases hp : p == T.errnoPtr with
    | false => rw [hp] at he; cases he
    | true =>
      rw [hp, cond_true] at he
      have hp' : p = T.errnoPtr := by simpa using hp
      subst hp'
      split at he
      case h_2 => cases he
      rename_i old hobj
      cases he
      obtain ⟨hcall, hA⟩ := hS.as hon
      have ha := h.eval xa
      rw [hxa] at ha
      have ha := ha.err_inv
      have ht := h.eval xt
      rw [hxt] at ht
      have ht := ht.one_inv rfl (by simp) (by simp) (by simp)
      generalize hat : a.eval xt = X at ht
      cases ht with
      | ifaceA q => cases q
      | ifaceS q ht =>
        cases ht with
        | @ptr _ _ b hg _ =>
          have hob := h.obj i
          rw [hobj] at hob
          cases hob with
          | @var _ b' cs ty k1 k2 k3 k4 k5 =>
            rw [hg] at k1
            cases k1
            have hcs : cs = #[.int .i64 old] := by
              obtain ⟨cl⟩ := cs
              simp only at k5
              cases k5
              rfl
            subst hcs
            have enter : (execOp a.eval o).run P w = .ok (.enter T.asFn #[a.eval xa, a.eval xt]) w := by
              simp only [execOp, ho, resolve, hfv, Deferred.ofValue, Sem.run_bind, Sem.run_pure, Result.andThen_ok, invoke]
              simpa using hcall _ _
            unfold Oper.wp
            rw [enter, Oper.upon_enter, hat]
            refine (hA w D e _ b ty old h.globOK h.dlt ha k4 k3).mono ?_
            rintro r w' ⟨rfl, hgr, hheap⟩
            have hinv := h.write (o1 := i) (x := .var (.int .i64 (e.first.getD old))) (by rw [hobj]; rfl) hg rfl hgr (.var hg k2 k3 hheap (.int _ _))
            exact hK _ _ ⟨D, gv, hinv.put_ups hd (.elem (.one rfl (.bool _)))⟩
end
end V
namespace V
open Go
section
variable {Ty : Nat → Type} {T : Tab Ty} {P : Program}

def gvM (T : Tab Ty) (gv : Nat → Option GObj) : Met → Option GObj
  | .old p => gv p
  | .empty t => some (.row none 0 0 (T.size t))
def gvN (T : Tab Ty) (gv : Nat → Option GObj) (l : List Met) : Nat → Option GObj := fun o => if o < cbase then none else (l[o - cbase]?).bind (gvM T gv)

theorem metAt_some {o : Nat} : ∀ (l : List Met) (k i : Nat), metAt o l k = some i → k ≤ i ∧ l[i - k]? = some (.old o) := by
  intro l
  induction l with
  | nil => intro k i h; cases h
  | cons m r ih =>
    intro k i h
    have next : metAt o r (k + 1) = some i → k ≤ i ∧ (m :: r)[i - k]? = some (.old o) := by
      intro h
      obtain ⟨h1, h2⟩ := ih _ _ h
      refine ⟨by omega, ?_⟩
      rw [show i - k = (i - (k + 1)) + 1 by omega]
      simpa using h2
    cases m with
    | old p =>
      simp only [metAt] at h
      by_cases hp : p = o
      · subst hp
        simp only [beq_self_eq_true, cond_true, Option.some.injEq] at h
        subst h
        simp
      · have : (p == o) = false := by simpa using hp
        rw [this] at h
        exact next h
    | empty t => exact next h
theorem metAt_none {o : Nat} : ∀ (l : List Met) (k : Nat), metAt o l k = none → Met.old o ∉ l := by
  intro l
  induction l with
  | nil => intro k _ h; cases h
  | cons m r ih =>
    intro k h hm
    cases m with
    | old p =>
      simp only [metAt] at h
      by_cases hp : p = o
      · subst hp
        simp at h
      · have : (p == o) = false := by simpa using hp
        rw [this] at h
        rcases List.mem_cons.1 hm with e | hm
        · cases e; exact hp rfl
        · exact ih _ h hm
    | empty t =>
      rcases List.mem_cons.1 hm with e | hm
      · cases e
      · exact ih _ h hm

def Once (l : List Met) : Prop := ∀ (i j o : Nat), l[i]? = some (.old o) → l[j]? = some (.old o) → i = j

theorem once_new {l : List Met} {m : Met} (h : Once l) (hm : ∀ o, m = .old o → Met.old o ∉ l) : Once (l ++ [m]) := by
  intro i j o hi hj
  rcases Nat.lt_or_ge i l.length with h1 | h1
  · rw [List.getElem?_append_left h1] at hi
    rcases Nat.lt_or_ge j l.length with h2 | h2
    · rw [List.getElem?_append_left h2] at hj
      exact h i j o hi hj
    · rw [List.getElem?_append_right h2] at hj
      have := List.mem_of_getElem? hj
      simp only [List.mem_singleton] at this
      exact absurd (List.mem_of_getElem? hi) (hm o this.symm)
  · rw [List.getElem?_append_right h1] at hi
    have hi2 := (List.getElem?_eq_some_iff.1 hi).1
    have := List.mem_of_getElem? hi
    simp only [List.mem_singleton] at this
    rcases Nat.lt_or_ge j l.length with h2 | h2
    · rw [List.getElem?_append_left h2] at hj
      exact absurd (List.mem_of_getElem? hj) (hm o this.symm)
    · rw [List.getElem?_append_right h2] at hj
      have hj2 := (List.getElem?_eq_some_iff.1 hj).1
      simp at hi2 hj2
      omega

theorem meet_spec (o : Nat) (l : List Met) : l <+: (meet o l).2 ∧ cbase ≤ (meet o l).1 ∧ (meet o l).2[(meet o l).1 - cbase]? = some (.old o) ∧ (Once l → Once (meet o l).2) := by
  unfold meet
  cases h : metAt o l 0 with
  | some i =>
    obtain ⟨_, h2⟩ := metAt_some _ _ _ h
    exact ⟨List.prefix_refl _, Nat.le_add_right _ _, by simpa using h2, fun h => h⟩
  | none =>
    have := metAt_none _ _ h
    exact ⟨List.prefix_append _ _, Nat.le_add_right _ _, by simp, fun hl => once_new hl fun p hp => by cases hp; exact this⟩

theorem renum_pre (v : AV Ty) : ∀ l, l <+: (v.renum l).2 := by
  induction v with
  | ptr o p => intro l; exact (meet_spec o l).1
  | rptr o i p => intro l; exact (meet_spec o l).1
  | row o => intro l; exact (meet_spec o l).1
  | sub o lo len => intro l; exact (meet_spec o l).1
  | mapp o => intro l; exact (meet_spec o l).1
  | view o p t n lo len => intro l; exact (meet_spec o l).1
  | nils t => intro l; exact List.prefix_append _ _
  | cons h t ih1 ih2 => intro l; exact (ih1 l).trans (ih2 _)
  | tup v ih => intro l; exact ih l
  | iface t v ih => intro l; exact ih l
  | cptr v ih => intro l; exact ih l
  | clo f nf v ih => intro l; exact ih l
  | _ => intro l; exact List.prefix_refl _

theorem renum_once (v : AV Ty) : ∀ l, Once l → Once (v.renum l).2 := by
  induction v with
  | ptr o p => intro l; exact (meet_spec o l).2.2.2
  | rptr o i p => intro l; exact (meet_spec o l).2.2.2
  | row o => intro l; exact (meet_spec o l).2.2.2
  | sub o lo len => intro l; exact (meet_spec o l).2.2.2
  | mapp o => intro l; exact (meet_spec o l).2.2.2
  | view o p t n lo len => intro l; exact (meet_spec o l).2.2.2
  | nils t => intro l h; exact once_new h fun o e => by cases e
  | cons h t ih1 ih2 => intro l hl; exact ih2 _ (ih1 l hl)
  | tup v ih => intro l; exact ih l
  | iface t v ih => intro l; exact ih l
  | cptr v ih => intro l; exact ih l
  | clo f nf v ih => intro l; exact ih l
  | _ => intro l h; exact h

theorem renum_isAgg (v : AV Ty) (l : List Met) : (v.renum l).1.isAgg = v.isAgg := by cases v <;> rfl

theorem renum_lone (v : AV Ty) (l : List Met) (h : v.lone = true) : (v.renum l).1.lone = true := by
  have hp : ∀ v : AV Ty, v.plain = true → (v.renum l).1.plain = true := by
    intro v h
    cases v <;> first | rfl | cases h
  simp only [AV.lone, Bool.and_eq_true, Bool.not_eq_true'] at h ⊢
  exact ⟨hp v h.1, by rw [renum_isAgg]; exact h.2⟩
theorem renum_list (v : AV Ty) : ∀ l, (v.renum l).1.list.length = v.list.length ∧ ((∀ u ∈ v.list, u.lone = true) → ∀ u ∈ (v.renum l).1.list, u.lone = true) := by
  induction v with
  | cons h t _ ih2 =>
    intro l
    obtain ⟨i1, i2⟩ := ih2 (h.renum l).2
    refine ⟨by simp only [AV.renum, AV.list, List.length_cons, i1], fun hl u hu => ?_⟩
    simp only [AV.renum, AV.list, List.mem_cons] at hl hu
    rcases hu with rfl | hu
    · exact renum_lone h l (hl h (.inl rfl))
    · exact i2 (fun x hx => hl x (.inr hx)) u hu
  | _ => intro l; exact ⟨rfl, fun _ u hu => by cases hu⟩

theorem pre_get {l lF : List Met} (h : l <+: lF) {i : Nat} {m : Met} (hi : l[i]? = some m) : lF[i]? = some m := by
  obtain ⟨e, rfl⟩ := h
  have := (List.getElem?_eq_some_iff.1 hi).1
  rw [List.getElem?_append_left this]; exact hi

theorem gvN_meet {gv : Nat → Option GObj} {o : Nat} {l lF : List Met} {g : GObj} (hg : gv o = some g) (hp : (meet o l).2 <+: lF) : gvN T gv lF (meet o l).1 = some g := by
  obtain ⟨_, h2, h3, _⟩ := meet_spec o l
  unfold gvN
  rw [if_neg (by omega), pre_get hp h3]
  exact hg

theorem renum_rep (hT : TabOK P T) {w : World} {D : Nat → Prop} {gv : Nat → Option GObj} {v : AV Ty} {cs : List Value} (h : RepC T w D gv v cs) :
    ∀ (l lF : List Met), (v.renum l).2 <+: lF → RepC T w D (gvN T gv lF) (v.renum l).1 cs := by
  induction h with
  | undef v h => intro l lF _; exact .undef v h
  | bool b => intro l lF _; exact .bool b
  | int k n => intro l lF _; exact .int k n
  | str s => intro l lF _; exact .str s
  | nilp => intro l lF _; exact .nilp
  | ptr h p => intro l lF hp; exact .ptr (gvN_meet h hp) p
  | rptr h i p => intro l lF hp; exact .rptr (gvN_meet h hp) i p
  | cptr d a _ ih => intro l lF hp; exact .cptr d a (ih l lF hp)
  | optn t => intro l lF _; exact .optn t
  | opts d a hr _ => intro l lF _; exact .opts d a (hr.regv hT (hT.encIds _ _))
  | row h => intro l lF hp; exact .row (gvN_meet h hp)
  | mapp h => intro l lF hp; exact .mapp (gvN_meet h hp)
  | view h p k c => intro l lF hp; exact .view (gvN_meet h hp) p k c
  | vnil h p k => intro l lF hp; exact .vnil (gvN_meet h hp) p k
  | rview h i e k c => intro l lF hp; exact .rview (gvN_meet h hp) i e k c
  | rvnil h i k => intro l lF hp; exact .rvnil (gvN_meet h hp) i k
  | sub h i j => intro l lF hp; exact .sub (gvN_meet h hp) i j
  | subz h i j k => intro l lF hp; exact .subz (gvN_meet h hp) i j k
  | sub0 h => intro l lF hp; exact .sub0 (gvN_meet h hp)
  | snil t a c h => intro l lF _; exact .snil t a c h
  | slice d k a h _ => intro l lF _; exact (RepC.slice d k a h).regv hT rfl
  | nils t =>
    intro l lF hp
    refine RepC.row (g := none) (n := 0) (cap := 0) (sz := T.size t) ?_
    have : lF[l.length]? = some (.empty t) := pre_get hp (by simp [AV.renum])
    unfold gvN
    rw [if_neg (by omega), Nat.add_sub_cancel_left, this]
    rfl
  | slicen0 t a c => intro l lF _; exact .slicen0 t a c
  | slicen d k a h _ => intro l lF _; exact (RepC.slicen d k a h).regv hT rfl
  | func f => intro l lF _; exact .func f
  | nil => intro l lF _; exact .nil
  | cons _ _ i1 i2 =>
    intro l lF hp
    exact .cons (i1 l lF ((renum_pre _ _).trans hp)) (i2 _ lF hp)
  | arr k h _ => intro l lF _; exact (RepC.arr k h).regv hT rfl
  | err h => intro l lF _; exact .err h
  | ifaceS a _ ih => intro l lF hp; exact .ifaceS (by rw [renum_isAgg]; exact a) (ih l lF hp)
  | ifaceA a _ ih => intro l lF hp; exact .ifaceA (by rw [renum_isAgg]; exact a) (ih l lF hp)
  | clo a k _ ih => intro l lF hp; exact .clo ((renum_list _ l).2 a) (by rw [(renum_list _ l).1]; exact k) (ih l lF hp)

theorem renum_repE (hT : TabOK P T) {w : World} {D : Nat → Prop} {gv : Nat → Option GObj} {v : AV Ty} {x : Value} (h : RepE T w D gv v x)
    (l lF : List Met) (hp : (v.renum l).2 <+: lF) : RepE T w D (gvN T gv lF) (v.renum l).1 x := by
  cases h with
  | undef => exact .undef _
  | skp => exact .skp
  | agg a h => exact .agg (by rw [renum_isAgg]; exact a) (renum_rep hT h l lF hp)
  | one a h => exact .one (by rw [renum_isAgg]; exact a) (renum_rep hT h l lF hp)

theorem renum_repV (hT : TabOK P T) {w : World} {D : Nat → Prop} {gv : Nat → Option GObj} {v : AV Ty} {x : Value} (h : RepV T w D gv v x)
    (l lF : List Met) (hp : (v.renum l).2 <+: lF) : RepV T w D (gvN T gv lF) (v.renum l).1 x := by
  cases h with
  | elem h => exact .elem (renum_repE hT h l lF hp)
  | @tup vs xs h =>
    refine .tup ?_
    have hp' : (vs.renum l).2 <+: lF := hp
    clear hp
    induction h generalizing l with
    | nil => exact .nil
    | cons h _ ih => exact .cons (renum_repE hT h l lF ((renum_pre _ _).trans hp')) (ih _ hp')

theorem renumAll_spec : ∀ (vs : List (AV Ty)) (l : List Met), l <+: (renumAll vs l).2 ∧ (Once l → Once (renumAll vs l).2) ∧ (renumAll vs l).1.length = vs.length ∧
    ∀ (i : Nat) (v' : AV Ty), (renumAll vs l).1[i]? = some v' → ∃ (v : AV Ty) (l1 : List Met), vs[i]? = some v ∧ v' = (v.renum l1).1 ∧ (v.renum l1).2 <+: (renumAll vs l).2 := by
  intro vs
  induction vs with
  | nil => intro l; exact ⟨List.prefix_refl _, fun h => h, rfl, fun i v h => by simp [renumAll] at h⟩
  | cons v r ih =>
    intro l
    obtain ⟨i1, i2, i3, i4⟩ := ih (v.renum l).2
    simp only [renumAll]
    refine ⟨(renum_pre v l).trans i1, fun h => i2 (renum_once v l h), by simp [i3], fun i v' hv => ?_⟩
    cases i with
    | zero =>
      simp only [List.getElem?_cons_zero, Option.some.injEq] at hv
      exact ⟨v, l, rfl, hv.symm, i1⟩
    | succ i => simpa using i4 i v' (by simpa using hv)

inductive Renamed (l lF : List Met) : Obj Ty → Obj Ty → Prop
  | var {c} : l <+: lF → (c.renum l).2 <+: lF → Renamed l lF (.var c) (.var (c.renum l).1)
  | fvar {c} : l <+: lF → (c.renum l).2 <+: lF → Renamed l lF (.fvar c) (.fvar (c.renum l).1)
  | none : Renamed l lF .none .none
  | dead : Renamed l lF .dead .dead
  | row {t xs} : Renamed l lF (.row t xs) (.row t xs)
  | frow {t xs} : Renamed l lF (.frow t xs) (.frow t xs)
  | map {ks} : Renamed l lF (.map ks) (.map ks)

theorem objsOf_spec (s : St Ty) : ∀ (f i : Nat) (l : List Met), l <+: metsOf s f i l ∧ (Once l → Once (metsOf s f i l)) ∧
    ∀ j x, (objsOf s f i l)[j]? = some x → (∃ t, (metsOf s f i l)[i + j]? = some (.empty t) ∧ x = .row t []) ∨ (∃ o l1, (metsOf s f i l)[i + j]? = some (.old o) ∧ Renamed l1 (metsOf s f i l) (s.obj o) x) := by
  intro f
  induction f with
  | zero => intro i l; exact ⟨List.prefix_refl _, fun h => h, fun j x h => by simp [objsOf] at h⟩
  | succ f ih =>
    intro i l
    unfold metsOf objsOf
    cases hl : l[i]? with
    | none => exact ⟨List.prefix_refl _, fun h => h, fun j x h => by simp at h⟩
    | some m =>
      cases m with
      | empty t =>
        obtain ⟨i1, i2, i3⟩ := ih (i + 1) l
        refine ⟨i1, i2, fun j x hx => ?_⟩
        cases j with
        | zero =>
          simp only [List.getElem?_cons_zero, Option.some.injEq] at hx
          exact .inl ⟨t, pre_get i1 hl, hx.symm⟩
        | succ j => have := i3 j x (by simpa using hx); rwa [show i + 1 + j = i + (j + 1) by omega] at this
      | old o =>
        have gen : ∀ (l2 : List Met) (x0 : Obj Ty), l <+: l2 → (Once l → Once l2) → (∀ lF, l2 <+: lF → Renamed l lF (s.obj o) x0) →
            l <+: metsOf s f (i + 1) l2 ∧ (Once l → Once (metsOf s f (i + 1) l2)) ∧
            ∀ j x, (x0 :: objsOf s f (i + 1) l2)[j]? = some x → (∃ t, (metsOf s f (i + 1) l2)[i + j]? = some (.empty t) ∧ x = .row t []) ∨ (∃ o l1, (metsOf s f (i + 1) l2)[i + j]? = some (.old o) ∧ Renamed l1 (metsOf s f (i + 1) l2) (s.obj o) x) := by
          intro l2 x0 h1 h2 h3
          obtain ⟨i1, i2, i3⟩ := ih (i + 1) l2
          refine ⟨h1.trans i1, fun h => i2 (h2 h), fun j x hx => ?_⟩
          cases j with
          | zero =>
            simp only [List.getElem?_cons_zero, Option.some.injEq] at hx
            subst hx
            exact .inr ⟨o, l, pre_get (h1.trans i1) hl, h3 _ i1⟩
          | succ j => have := i3 j x (by simpa using hx); rwa [show i + 1 + j = i + (j + 1) by omega] at this
        cases ho : s.obj o with
        | var c => simp only [ho]; exact gen _ _ (renum_pre c l) (renum_once c l) fun lF h => by rw [ho]; exact .var ((renum_pre c l).trans h) h
        | fvar c => simp only [ho]; exact gen _ _ (renum_pre c l) (renum_once c l) fun lF h => by rw [ho]; exact .fvar ((renum_pre c l).trans h) h
        | none => simp only [ho]; exact gen _ _ (List.prefix_refl _) (fun h => h) fun lF h => by rw [ho]; exact .none
        | dead => simp only [ho]; exact gen _ _ (List.prefix_refl _) (fun h => h) fun lF h => by rw [ho]; exact .dead
        | row t xs => simp only [ho]; exact gen _ _ (List.prefix_refl _) (fun h => h) fun lF h => by rw [ho]; exact .row
        | frow t xs => simp only [ho]; exact gen _ _ (List.prefix_refl _) (fun h => h) fun lF h => by rw [ho]; exact .frow
        | map ks => simp only [ho]; exact gen _ _ (List.prefix_refl _) (fun h => h) fun lF h => by rw [ho]; exact .map

theorem encs_ids (hT : TabOK P T) (t : Nat) (xs : List (Ty t)) : (encs T t xs).ids = [] := by
  induction xs with
  | nil => rfl
  | cons x r ih => simp only [encs, List.map_cons, listAV, AV.ids] at ih ⊢; rw [hT.encIds, ih]; rfl

theorem zip_lookup : ∀ (keep : List Nat) (vs : List (AV Ty)) (t : Nat) (v : AV Ty), (keep.zip vs).lookup t = some v → ∃ i : Nat, keep[i]? = some t ∧ vs[i]? = some v := by
  intro keep
  induction keep with
  | nil => intro vs t v h; simp at h
  | cons k r ih =>
    intro vs t v h
    cases vs with
    | nil => simp at h
    | cons u us =>
      simp only [List.zip_cons_cons, List.lookup_cons] at h
      by_cases e : t = k
      · subst e
        simp only [beq_self_eq_true, Option.some.injEq] at h
        exact ⟨0, rfl, by simp [h]⟩
      · have : (t == k) = false := by simpa using e
        rw [this] at h
        obtain ⟨i, h1, h2⟩ := ih us t v h
        exact ⟨i + 1, by simpa using h1, by simpa using h2⟩

/-- an object behind the renumbering -/
def objAt (n : NSt Ty) (o : Nat) : Obj Ty := cond (Nat.blt o cbase) .none (n.objs.getD (o - cbase) .dead)

theorem normW_spec (hT : TabOK P T) {w : World} {Own D : Nat → Prop} {gv : Nat → Option GObj} {s : St Ty} (hob : ∀ o, ObjOK T w Own D gv o (s.obj o)) {vs : List (AV Ty)} {xs : Nat → Value}
    (hvs : ∀ i v, vs[i]? = some v → RepV T w D gv v (xs i)) {l0 : List Met} (h0 : Once l0) {lF : List Met} (hlF : metsOf s 64 0 (renumAll vs l0).2 = lF) :
    (∀ i v', (normW l0 vs s).tmps[i]? = some v' → RepV T w D (gvN T gv lF) v' (xs i)) ∧ (normW l0 vs s).tmps.length = vs.length ∧
    (∀ o, ObjOK T w Own D (gvN T gv lF) o (objAt (normW l0 vs s) o)) ∧
    (∀ o g b, (objAt (normW l0 vs s) o).live = true → gvN T gv lF o = some g → g.blk = some b → ∃ p, cbase ≤ o ∧ lF[o - cbase]? = some (.old p) ∧ (s.obj p).live = true ∧ gv p = some g) ∧
    l0 <+: lF ∧ Once lF := by
  have hall := renumAll_spec vs l0
  have hobj := objsOf_spec s 64 0 (renumAll vs l0).2
  rw [hlF] at hobj
  obtain ⟨a1, a2, a3, a4⟩ := hall
  obtain ⟨o1, o2, o3⟩ := hobj
  have honce : Once lF := o2 (a2 h0)
  have hob' : (normW l0 vs s).objs = objsOf s 64 0 (renumAll vs l0).2 := rfl
  have htm : (normW l0 vs s).tmps = (renumAll vs l0).1 := rfl
  -- an object of the new state
  have what : ∀ o, ((o < cbase ∧ objAt (normW l0 vs s) o = .none) ∨ objAt (normW l0 vs s) o = .dead ∨
      (cbase ≤ o ∧ ((∃ t, lF[o - cbase]? = some (.empty t) ∧ objAt (normW l0 vs s) o = .row t []) ∨
        (∃ p l1, lF[o - cbase]? = some (.old p) ∧ Renamed l1 lF (s.obj p) (objAt (normW l0 vs s) o))))) := by
    intro o
    unfold objAt
    rw [hob']
    rcases Nat.lt_or_ge o cbase with ho | ho
    · have hb : Nat.blt o cbase = true := by rw [Nat.blt_eq]; exact ho
      exact .inl ⟨ho, by rw [hb]; rfl⟩
    · right
      have hb : Nat.blt o cbase = false := by
        cases hb : Nat.blt o cbase with
        | false => rfl
        | true => rw [Nat.blt_eq] at hb; omega
      rw [hb, cond_false]
      cases hg : (objsOf s 64 0 (renumAll vs l0).2)[o - cbase]? with
      | none => left; rw [List.getD_eq_getElem?_getD, hg]; rfl
      | some x =>
        right
        have := o3 _ _ hg
        rw [Nat.zero_add] at this
        rw [List.getD_eq_getElem?_getD, hg]
        exact ⟨ho, this⟩
  have gvo : ∀ o m, cbase ≤ o → lF[o - cbase]? = some m → gvN T gv lF o = gvM T gv m := by
    intro o m ho hm
    unfold gvN
    rw [if_neg (by omega), hm]; rfl
  refine ⟨fun i v' hv => ?_, by rw [htm]; exact a3, fun o => ?_, ?_, a1.trans o1, honce⟩
  · rw [htm] at hv
    obtain ⟨u, l1, h3, rfl, h4⟩ := a4 i v' hv
    exact renum_repV hT (hvs i u h3) l1 lF (h4.trans o1)
  · rcases what o with ⟨h1, h2⟩ | h2 | ⟨h1, ⟨t, h2, h3⟩ | ⟨p, l1, h2, h3⟩⟩
    · rw [h2]
      refine .none ?_
      unfold gvN
      rw [if_pos h1]
    · rw [h2]; exact .dead
    · rw [h3]
      refine ObjOK.row (g := none) (cap := 0) (flat := []) ?_ .nil ⟨?_, .inl ⟨rfl, rfl⟩⟩ (fun b e => by cases e)
      · rw [gvo o _ h1 h2]; rfl
      · simp
    · have hg := gvo o _ h1 h2
      simp only [gvM] at hg
      have ho := hob p
      generalize objAt (normW l0 vs s) o = x at h3
      generalize s.obj p = y at h3 ho
      cases h3 with
      | var e1 e2 => cases ho with | var k1 k2 k3 k4 k5 => exact .var (by rw [hg]; exact k1) k2 k3 k4 (renum_rep hT k5 _ _ e2)
      | fvar e1 e2 => cases ho with | fvar k1 k2 k3 k4 => exact .fvar (by rw [hg]; exact k1) k2 k3 (renum_rep hT k4 _ _ e2)
      | none => cases ho with | none k => exact .none (by rw [hg]; exact k)
      | dead => exact .dead
      | row => cases ho with | row k1 k2 k3 k4 => exact .row (by rw [hg]; exact k1) (k2.regv hT (encs_ids hT _ _)) k3 k4
      | frow => cases ho with | frow k1 k2 => exact .frow (by rw [hg]; exact k1) (k2.regv hT rfl)
      | map => cases ho with | map k1 k2 k3 k4 k5 => exact .map (by rw [hg]; exact k1) k2 k3 k4 k5
  · intro o g b hl hg hb
    rcases what o with ⟨h1, h2⟩ | h2 | ⟨h1, ⟨t, h2, h3⟩ | ⟨p, l1, h2, h3⟩⟩
    · rw [h2] at hl; cases hl
    · rw [h2] at hl; cases hl
    · rw [gvo o _ h1 h2] at hg
      cases hg
      cases hb
    · rw [gvo o _ h1 h2] at hg
      refine ⟨p, h1, h2, ?_, hg⟩
      generalize objAt (normW l0 vs s) o = x at h3 hl
      generalize s.obj p = y at h3
      cases h3 <;> first | rfl | cases hl

theorem pinMets_get (np j : Nat) (h : j < np) : (pinMets np)[j]? = some (.old (cbase + j)) := by
  unfold pinMets
  rw [List.getElem?_map, List.getElem?_range h]
  rfl
theorem pinMets_once (np : Nat) : Once (pinMets np) := by
  have key : ∀ i o, (pinMets np)[i]? = some (.old o) → o = cbase + i := by
    intro i o h
    have hi : i < np := by
      have := (List.getElem?_eq_some_iff.1 h).1
      simpa [pinMets] using this
    rw [pinMets_get np i hi] at h
    cases h
    rfl
  intro i j o hi hj
  have := key i o hi
  have := key j o hj
  omega

variable {w0 : Base} {D0 : Nat → Prop} {N : Nat} {s : St Ty} {a : Act} {w : World}

/-- renumbered, with other values in the temporaries -/
theorem normW_inv (hT : TabOK P T) {D : Nat → Prop} {gv : Nat → Option GObj} (h : Inv T w0 D0 N s a w D gv) {np : Nat} (hp : ∀ j b, w0.pin j = some b → j < np) {vs : List (AV Ty)} {xs : Nat → Value}
    (hvs : ∀ i v, vs[i]? = some v → RepV T w D gv v (xs i)) {keep : List Nat} {a' : Act} {N' : Nat} (ha : a'.defers = []) (hN : a'.tmps.size = N')
    (hk : ∀ i t, keep[i]? = some t → a'.tmps.getD t Go.undef = xs i) : ∃ gv', Inv T w0 D0 N' ((normW (pinMets np) vs s).toSt keep) a' w D gv' := by
  obtain ⟨k1, k2, k3, k4, k5, k6⟩ := normW_spec hT h.obj hvs (pinMets_once np) rfl
  generalize metsOf s 64 0 (renumAll vs (pinMets np)).2 = lF at k1 k3 k4 k5 k6
  refine ⟨gvN T gv lF, { defers := ha, size := hN, env := fun t => ?_, obj := k3, apart := ?_, grown := h.grown, dold := h.dold, dlt := h.dlt, dnew := h.dnew, glob := h.glob, pins := fun j b hb => ?_ }⟩
  · show RepV T w D _ (((keep.zip (normW (pinMets np) vs s).tmps).lookup t).getD .undef) _
    cases hl : (keep.zip (normW (pinMets np) vs s).tmps).lookup t with
    | none => exact .elem (.undef _)
    | some v =>
      obtain ⟨i, h1, h2⟩ := zip_lookup _ _ _ _ hl
      rw [hk i t h1]
      exact k1 i v h2
  · intro o o' g g' b hne hl hl' hg hg' hb hb'
    obtain ⟨p, e1, e2, e3, e4⟩ := k4 o g b hl hg hb
    obtain ⟨p', f1, f2, f3, f4⟩ := k4 o' g' b hl' hg' hb'
    refine h.apart p p' g g' b (fun e => ?_) e3 f3 e4 f4 hb hb'
    subst e
    have := k6 _ _ _ e2 f2
    omega
  · unfold gvN
    rw [if_neg (by omega), Nat.add_sub_cancel_left, pre_get k5 (pinMets_get np j (hp j b hb))]
    exact h.pins j b hb

theorem norm_sound (hT : TabOK P T) (h : Gam T w0 D0 N s a w) {np : Nat} (hp : ∀ j b, w0.pin j = some b → j < np) (keep : List Nat) : Gam T w0 D0 N ((s.norm np keep).toSt keep) a w := by
  obtain ⟨D, gv, h⟩ := h
  obtain ⟨gv', h'⟩ := normW_inv hT h hp (vs := keep.map s.env) (xs := fun i => a.tmps.getD (keep.getD i 0) Go.undef) (keep := keep) (a' := a) (N' := N) (fun i v hv => by
    rw [List.getElem?_map] at hv
    cases hk : keep[i]? with
    | none => rw [hk] at hv; cases hv
    | some t =>
      rw [hk] at hv
      simp only [Option.map_some, Option.some.injEq] at hv
      subst hv
      rw [List.getD_eq_getElem?_getD, hk]
      exact h.env t) h.defers h.size (fun i t hk => by rw [List.getD_eq_getElem?_getD, hk]; rfl)
  exact ⟨D, gv', h'⟩
end
end V
namespace V
open Go
section
variable {Ty : Nat → Type} {T : Tab Ty} {P : Program}
variable {specs : Nat → Option (FSpec Ty)} {o : Oper}
variable {w0 : Base} {D0 : Nat → Prop} {N : Nat} {s : St Ty} {a : Act} {w : World} {D : Nat → Prop} {gv : Nat → Option GObj}

theorem heapN_op {hc : HCall Ty} {ev : Operand → AV Ty} {ob : Nat → Obj Ty} (h : heapCall specs T o ev ob = some hc) : ∃ x args tys f first capt sp, o.op = .call { callee := .value x, args := args, argTypes := tys } ∧ calleeOf (ev x) = some (f, first, capt) ∧ specs f = some sp ∧ sp.heap = true ∧
    heapOf T sp (o.dst.getD 0) (first ++ (nilTL T tys.toList (args.toList.map ev) ++ capt)) ob = hc := by
  unfold heapCall at h
  split at h
  case h_2 => cases h
  rename_i x args tys ho
  split at h
  case h_2 => cases h
  rename_i f first capt hf
  split at h
  case h_2 => cases h
  rename_i sp hsp
  cases hh : sp.heap with
  | false => rw [hh] at h; cases h
  | true => rw [hh] at h; exact ⟨x, args, tys, f, first, capt, sp, ho, hf, hsp, hh, Option.some.inj h⟩

theorem getD_take {α : Type} (l : List α) (n i : Nat) (d : α) (h : i < n) : (l.take n).getD i d = l.getD i d := by
  simp only [List.getD_eq_getElem?_getD, List.getElem?_take, if_pos h]
theorem getD_drop {α : Type} (l : List α) (n i : Nat) (d : α) : (l.drop n).getD i d = l.getD (n + i) d := by
  simp only [List.getD_eq_getElem?_getD, List.getElem?_drop]
/-- a function value -/
theorem callee_rep {v : AV Ty} {x : Value} (h : RepV T w D gv v x) {f : Nat} {first capt : List (AV Ty)} (hc : calleeOf v = some (f, first, capt)) :
    ∃ F C : List Value, x = .func (.func f) F.toArray C.toArray ∧ first.length = F.length ∧ capt.length = C.length ∧ (∀ (i : Nat) u, first[i]? = some u → RepV T w D gv u (F.getD i Go.undef)) ∧ (∀ (i : Nat) u, capt[i]? = some u → RepV T w D gv u (C.getD i Go.undef)) := by
  cases v with
  | func g =>
    simp only [calleeOf, Option.some.injEq, Prod.mk.injEq] at hc
    obtain ⟨rfl, rfl, rfl⟩ := hc
    exact ⟨[], [], h.func_inv, rfl, rfl, fun i u hi => by simp at hi, fun i u hi => by simp at hi⟩
  | clo g nf vs =>
    simp only [calleeOf, Option.some.injEq, Prod.mk.injEq] at hc
    obtain ⟨rfl, rfl, rfl⟩ := hc
    obtain ⟨cs, hl, hn, hr, rfl⟩ := h.clo_inv
    have hg := hr.list_get hl hn
    refine ⟨cs.take nf, cs.drop nf, rfl, by simp [hn], by simp [hn], fun i u hi => ?_, fun i u hi => ?_⟩
    · rw [List.getElem?_take] at hi
      split at hi
      · rename_i hlt
        rw [getD_take _ _ _ _ hlt]
        exact hg i u hi
      · cases hi
    · rw [List.getElem?_drop] at hi
      rw [getD_drop]
      exact hg _ u hi
  | _ => simp [calleeOf] at hc
theorem rep_append {l1 l2 : List (AV Ty)} {c1 c2 : List Value} (hn : l1.length = c1.length) (h1 : ∀ (i : Nat) u, l1[i]? = some u → RepV T w D gv u (c1.getD i Go.undef)) (h2 : ∀ (i : Nat) u, l2[i]? = some u → RepV T w D gv u (c2.getD i Go.undef)) :
    ∀ (i : Nat) u, (l1 ++ l2)[i]? = some u → RepV T w D gv u ((c1 ++ c2).getD i Go.undef) := by
  intro i u hi
  rcases Nat.lt_or_ge i l1.length with hlt | hge
  · rw [List.getElem?_append_left hlt] at hi
    rw [List.getD_eq_getElem?_getD, List.getElem?_append_left (by omega), ← List.getD_eq_getElem?_getD]
    exact h1 i u hi
  · rw [List.getElem?_append_right hge] at hi
    rw [List.getD_eq_getElem?_getD, List.getElem?_append_right (by omega), ← List.getD_eq_getElem?_getD, ← hn]
    exact h2 _ u hi

theorem upd_cases (o : Nat) : ∀ (l : List (Nat × Obj Ty)) (ob : Nat → Obj Ty), ((∀ x, (o, x) ∉ l) ∧ Obj.upd ob l o = ob o) ∨ ∃ x, (o, x) ∈ l ∧ Obj.upd ob l o = x := by
  intro l
  induction l with
  | nil => intro ob; exact .inl ⟨fun x h => (by cases h), rfl⟩
  | cons p r ih =>
    intro ob
    obtain ⟨i, y⟩ := p
    simp only [Obj.upd]
    rcases ih (fun j => cond (j == i) y (ob j)) with ⟨h1, h2⟩ | ⟨x, h1, h2⟩
    · by_cases e : o = i
      · subst e
        exact .inr ⟨y, by simp, by rw [h2]; simp⟩
      · refine .inl ⟨fun x h => ?_, ?_⟩
        · rcases List.mem_cons.1 h with h | h
          · cases h; exact e rfl
          · exact h1 x h
        · rw [h2]
          have : (o == i) = false := by simpa using e
          simp [this]
    · exact .inr ⟨x, List.mem_cons_of_mem _ h1, h2⟩

theorem ObjOK.own {Own Own' : Nat → Prop} {o : Nat} {x : Obj Ty} (h : ObjOK T w Own D gv o x) (ho : x.live = true → ∀ g b, gv o = some g → g.blk = some b → Own' b) : ObjOK T w Own' D gv o x := by
  cases h with
  | none h => exact .none h
  | dead => exact .dead
  | var h1 h2 h3 h4 h5 => exact .var h1 (ho rfl _ _ h1 rfl) h3 h4 h5
  | fvar h1 h2 h3 h4 => exact .fvar h1 h2 h3 h4
  | row h1 h2 h3 h4 => exact .row h1 h2 h3 fun b e => ⟨ho rfl _ b h1 (by simpa [GObj.blk] using e), (h4 b e).2⟩
  | frow h1 h2 => exact .frow h1 h2
  | map h1 h2 h3 h4 h5 => exact .map h1 (ho rfl _ _ h1 rfl) h3 h4 h5

theorem ren_isAgg (f : Nat → Nat) (v : AV Ty) : (v.ren f).isAgg = v.isAgg := by cases v <;> rfl

theorem ren_rep (hT : TabOK P T) {gv3 : Nat → Option GObj} {f : Nat → Nat} {v : AV Ty} {cs : List Value} (h : RepC T w D gv v cs) :
    (∀ i ∈ v.ids, ∀ g, gv i = some g → gv3 (f i) = some g) → RepC T w D gv3 (v.ren f) cs := by
  induction h with
  | undef v h => intro _; exact .undef v h
  | bool b => intro _; exact .bool b
  | int k n => intro _; exact .int k n
  | str s => intro _; exact .str s
  | nilp => intro _; exact .nilp
  | ptr h p => intro k; exact .ptr (k _ (by simp [AV.ids]) _ h) p
  | rptr h i p => intro k; exact .rptr (k _ (by simp [AV.ids]) _ h) i p
  | cptr d a _ ih => intro k; exact .cptr d a (ih k)
  | optn t => intro _; exact .optn t
  | opts d a hr _ => intro _; exact .opts d a (hr.regv hT (hT.encIds _ _))
  | row h => intro k; exact .row (k _ (by simp [AV.ids]) _ h)
  | mapp h => intro k; exact .mapp (k _ (by simp [AV.ids]) _ h)
  | view h p q c => intro k; exact .view (k _ (by simp [AV.ids]) _ h) p q c
  | vnil h p q => intro k; exact .vnil (k _ (by simp [AV.ids]) _ h) p q
  | rview h i e p q => intro k; exact .rview (k _ (by simp [AV.ids]) _ h) i e p q
  | rvnil h i p => intro k; exact .rvnil (k _ (by simp [AV.ids]) _ h) i p
  | sub h i p => intro k; exact .sub (k _ (by simp [AV.ids]) _ h) i p
  | subz h i p q => intro k; exact .subz (k _ (by simp [AV.ids]) _ h) i p q
  | sub0 h => intro k; exact .sub0 (k _ (by simp [AV.ids]) _ h)
  | snil t a c h => intro _; exact .snil t a c h
  | slice d l a h _ => intro _; exact (RepC.slice d l a h).regv hT rfl
  | nils t => intro _; exact .nils t
  | slicen0 t a c => intro _; exact .slicen0 t a c
  | slicen d l a h _ => intro _; exact (RepC.slicen d l a h).regv hT rfl
  | func f => intro _; exact .func f
  | nil => intro _; exact .nil
  | cons _ _ i1 i2 => intro k; exact .cons (i1 fun i hi => k i (by simp [AV.ids, hi])) (i2 fun i hi => k i (by simp [AV.ids, hi]))
  | arr l h _ => intro _; exact (RepC.arr l h).regv hT rfl
  | err h => intro _; exact .err h
  | ifaceS a _ ih => intro k; exact .ifaceS (by rw [ren_isAgg]; exact a) (ih k)
  | ifaceA a _ ih => intro k; exact .ifaceA (by rw [ren_isAgg]; exact a) (ih k)
  | @clo g nf vs cs a l _ ih =>
    intro k
    have hl : ∀ v : AV Ty, (v.ren f).list.length = v.list.length ∧ ((∀ u ∈ v.list, u.lone = true) → ∀ u ∈ (v.ren f).list, u.lone = true) := by
      intro v
      induction v with
      | cons h t _ i2 =>
        refine ⟨by simp only [AV.ren, AV.list, List.length_cons, i2.1], fun hl u hu => ?_⟩
        simp only [AV.ren, AV.list, List.mem_cons] at hl hu
        rcases hu with rfl | hu
        · have := hl h (.inl rfl)
          simp only [AV.lone, Bool.and_eq_true, Bool.not_eq_true'] at this ⊢
          refine ⟨?_, by rw [ren_isAgg]; exact this.2⟩
          have hp := this.1
          cases h <;> first | rfl | cases hp
        · exact i2.2 (fun x hx => hl x (.inr hx)) u hu
      | _ => exact ⟨rfl, fun _ u hu => by cases hu⟩
    exact .clo ((hl vs).2 a) (by rw [(hl vs).1]; exact l) (ih k)

theorem ren_repV (hT : TabOK P T) {gv3 : Nat → Option GObj} {f : Nat → Nat} {v : AV Ty} {x : Value} (h : RepV T w D gv v x)
    (k : ∀ i ∈ v.ids, ∀ g, gv i = some g → gv3 (f i) = some g) : RepV T w D gv3 (v.ren f) x := by
  have he : ∀ {v : AV Ty} {x : Value}, RepE T w D gv v x → (∀ i ∈ v.ids, ∀ g, gv i = some g → gv3 (f i) = some g) → RepE T w D gv3 (v.ren f) x := by
    intro v x h k
    cases h with
    | undef => exact .undef _
    | skp => exact .skp
    | agg a h => exact .agg (by rw [ren_isAgg]; exact a) (ren_rep hT h k)
    | one a h => exact .one (by rw [ren_isAgg]; exact a) (ren_rep hT h k)
  cases h with
  | elem h => exact .elem (he h k)
  | @tup vs xs h =>
    refine .tup ?_
    simp only [AV.ids] at k
    induction h with
    | nil => exact .nil
    | cons h _ ih => exact .cons (he h fun i hi => k i (by simp [AV.ids, hi])) (ih fun i hi => k i (by simp [AV.ids, hi]))

theorem nodupN_get : ∀ {l : List Nat}, nodupN l = true → ∀ (i j x : Nat), l[i]? = some x → l[j]? = some x → i = j := by
  intro l
  induction l with
  | nil => intro _ i j x h; simp at h
  | cons y l ih =>
    intro h i j x hi hj
    simp only [nodupN, Bool.and_eq_true, Bool.not_eq_true'] at h
    have hy : y ∉ l := by simpa using h.1
    cases i with
    | zero =>
      cases j with
      | zero => rfl
      | succ j =>
        simp only [List.getElem?_cons_zero, Option.some.injEq] at hi
        subst hi
        exact absurd (List.mem_of_getElem? (by simpa using hj)) hy
    | succ i =>
      cases j with
      | zero =>
        simp only [List.getElem?_cons_zero, Option.some.injEq] at hj
        subst hj
        exact absurd (List.mem_of_getElem? (by simpa using hi)) hy
      | succ j => rw [ih h.2 i j x (by simpa using hi) (by simpa using hj)]

theorem mem_metIds {p : Nat} {l : List Met} : p ∈ metIds l ↔ Met.old p ∈ l := by
  unfold metIds
  rw [List.mem_filterMap]
  constructor
  · rintro ⟨m, hm, h⟩
    cases m with
    | old q => simp only [Option.some.injEq] at h; subst h; exact hm
    | empty t => cases h
  · intro h; exact ⟨_, h, rfl⟩

theorem isLive_eq (x : Obj Ty) : x.isLive = x.live := by cases x <;> rfl

theorem glob_own (h : Inv T w0 D0 N s a w D gv) : ∀ p ∈ T.globs, ¬ w0.Own p.1 := by
  intro p hp ho
  have h1 := h.glob.1 p hp
  have hlt : p.1 < w0.world.heap.size := by
    rcases Nat.lt_or_ge p.1 w0.world.heap.size with h2 | h2
    · exact h2
    · simp [World.cell?, Array.getElem?_eq_none h2] at h1
  rcases ho with ho | ho
  · exact h.glob.2 p hp ho
  · omega

theorem nilTL_length : ∀ (tys : List Nat) (vs : List (AV Ty)), (nilTL T tys vs).length = vs.length
  | [], vs => rfl
  | t :: ts, [] => rfl
  | t :: ts, v :: vs => by simp only [nilTL, List.length_cons, nilTL_length ts vs]
theorem nilT_rep {t : Nat} {v : AV Ty} {x : Value} (h : RepV T w D gv v x) : RepV T w D gv (v.nilT T t) x := by
  unfold AV.nilT
  split
  · rename_i u
    cases hu : (u == 1000000) with
    | false => rw [cond_false]; exact h
    | true =>
      rw [cond_true]
      split
      · have h2 := h.one_inv rfl (by simp) (by simp) (by simp)
        cases h2
        exact .elem (.one rfl (.nils _))
      · exact h
  · exact h
theorem nilTL_rep : ∀ (tys : List Nat) {vs : List (AV Ty)} {xs : List Value}, (∀ (i : Nat) u, vs[i]? = some u → RepV T w D gv u (xs.getD i Go.undef)) → ∀ (i : Nat) u, (nilTL T tys vs)[i]? = some u → RepV T w D gv u (xs.getD i Go.undef)
  | [], vs, xs, h => h
  | t :: ts, [], xs, h => h
  | t :: ts, v :: vs, xs, h => by
    intro i u hu
    simp only [nilTL] at hu
    cases i with
    | zero =>
      simp only [List.getElem?_cons_zero, Option.some.injEq] at hu
      subst hu
      exact nilT_rep (h 0 v rfl)
    | succ i =>
      simp only [List.getElem?_cons_succ] at hu
      have := nilTL_rep ts (vs := vs) (xs := xs.drop 1) (fun j u' hj => by
        have := h (j + 1) u' (by simpa using hj)
        rwa [getD_drop, Nat.add_comm]) i u hu
      rwa [getD_drop, Nat.add_comm] at this

theorem Inv.freezeAll (hT : TabOK P T) (h : Inv T w0 D0 N s a w D gv) :
    ∃ D1 : Nat → Prop, (∀ b, D b → D1 b) ∧ (∀ l b, blocksOf s.obj gv l b → D1 b) ∧ (∀ b, D1 b → b < w.heap.size) ∧ ∀ o, ObjOK T w w0.Own D1 gv o (s.obj o).frz := by
  refine ⟨fun b => D b ∨ ∃ o, blocksOf s.obj gv [o] b, fun b hb => .inl hb, fun l b ⟨o, ho, r⟩ => .inr ⟨o, o, by simp, r⟩, ?_, fun o => ?_⟩
  · rintro b (hb | ⟨o, o', _, hl, g, hg, hb⟩)
    · exact h.dlt b hb
    · exact (live_blk (h.obj o') hl hg hb).1
  · have ho := h.obj o
    have hD : ∀ b, D b → D b ∨ ∃ o, blocksOf s.obj gv [o] b := fun b hb => .inl hb
    cases hx : s.obj o with
    | var c =>
      rw [hx] at ho
      cases ho with
      | var h1 h2 h3 h4 h5 => exact .fvar h1 (.inr ⟨o, o, by simp, by rw [hx]; rfl, _, h1, rfl⟩) h4 (h5.mono hD (fun _ _ => rfl) (fun _ _ h => h))
    | row t xs =>
      rw [hx] at ho
      cases ho with
      | row h1 h2 h3 h4 =>
        refine .frow h1 ?_
        have := settle_rep hT h.obj (v := .row o) hD (.row h1) (fun b ⟨o', ho', r⟩ => .inr ⟨o, o', ho', r⟩)
        simpa [settle, hx] using this
    | none => rw [hx] at ho; cases ho with | none h1 => exact .none h1
    | dead => exact .dead
    | fvar c => rw [hx] at ho; exact ho.mono hD (fun _ _ => rfl) (fun _ _ h => h) (fun h => h) (fun hl => by cases hl)
    | frow t xs => rw [hx] at ho; exact ho.mono hD (fun _ _ => rfl) (fun _ _ h => h) (fun h => h) (fun hl => by cases hl)
    | map ks => exact .dead
theorem encs_flatL (hT : TabOK P T) {t : Nat} (ht : T.flatTy t = true) (xs : List (Ty t)) : (encs T t xs).flat T = true := by
  induction xs with
  | nil => rfl
  | cons x r ih => simp only [encs, List.map_cons, listAV, AV.flat, Bool.and_eq_true] at ih ⊢; exact ⟨hT.flat t x ht, ih⟩
theorem roOK_isAgg (f : Nat → Nat) (v : AV Ty) : (v.ren f).isAgg = v.isAgg := by cases v <;> rfl
theorem ro_repC (hT : TabOK P T) {D' : Nat → Prop} {gv3 : Nat → Option GObj} {f : Nat → Nat} {objs : List (Obj Ty)}
    (hg : ∀ o g t xs, cbase ≤ o → objs.getD (o - cbase) .dead = .row t xs → T.flatTy t = true → gv o = some g → gv3 (f o) = some g) {v : AV Ty} {cs : List Value} (h : RepC T w D gv v cs) :
    v.roOK T objs = true → RepC T w D' gv3 (v.ren f) cs := by
  induction h with
  | bool b => intro _; exact .bool b
  | int k n => intro _; exact .int k n
  | str s => intro _; exact .str s
  | nilp => intro _; exact .nilp
  | nil => intro _; exact .nil
  | @row o g n cap sz h =>
    intro hk
    simp only [AV.roOK, Bool.and_eq_true, Nat.ble_eq] at hk
    obtain ⟨h1, h2⟩ := hk
    cases hx : objs.getD (o - cbase) .dead with
    | row t xs => rw [hx] at h2; exact .row (hg o _ t xs h1 hx h2 h)
    | _ => rw [hx] at h2; cases h2
  | cons _ _ i1 i2 => intro hk; simp only [AV.roOK, Bool.and_eq_true] at hk; exact .cons (i1 hk.1) (i2 hk.2)
  | @arr t n xs cs l hr _ => intro hk; exact (RepC.arr l hr).flat hT hk
  | _ => intro hk; cases hk
theorem ro_repE (hT : TabOK P T) {D' : Nat → Prop} {gv3 : Nat → Option GObj} {f : Nat → Nat} {objs : List (Obj Ty)}
    (hg : ∀ o g t xs, cbase ≤ o → objs.getD (o - cbase) .dead = .row t xs → T.flatTy t = true → gv o = some g → gv3 (f o) = some g) {v : AV Ty} {x : Value} (h : RepE T w D gv v x) (hk : v.roOK T objs = true) : RepE T w D' gv3 (v.ren f) x := by
  cases h with
  | undef => cases hk
  | skp => cases hk
  | agg a h => exact .agg (by rw [roOK_isAgg]; exact a) (ro_repC hT hg h hk)
  | one a h => exact .one (by rw [roOK_isAgg]; exact a) (ro_repC hT hg h hk)
theorem ro_repV (hT : TabOK P T) {D' : Nat → Prop} {gv3 : Nat → Option GObj} {f : Nat → Nat} {objs : List (Obj Ty)}
    (hg : ∀ o g t xs, cbase ≤ o → objs.getD (o - cbase) .dead = .row t xs → T.flatTy t = true → gv o = some g → gv3 (f o) = some g) {v : AV Ty} {x : Value} (h : RepV T w D gv v x) (hk : v.roOK T objs = true) : RepV T w D' gv3 (v.ren f) x := by
  cases h with
  | elem h => exact .elem (ro_repE hT hg h hk)
  | @tup vs xs h =>
    refine .tup ?_
    simp only [AV.roOK] at hk
    induction h with
    | nil => exact .nil
    | cons h _ ih => simp only [AV.roOK, Bool.and_eq_true] at hk; exact .cons (ro_repE hT hg h hk.1) (ih hk.2)
theorem heapTo_nil (d o : Nat) : heapTo d [] o = freshAt d (o - cbase) := by
  unfold heapTo
  generalize o - cbase = x
  have hbl : Nat.blt x ([] : List Nat).length = false := by
    cases hb : Nat.blt x ([] : List Nat).length with
    | false => rfl
    | true => rw [Nat.blt_eq] at hb; simp at hb
  rw [hbl, cond_false]
theorem roUps_mem (d : Nat) : ∀ (l : List (Obj Ty)) (i : Nat) (o : Nat) (y : Obj Ty), (o, y) ∈ roUps T d i l ↔ ∃ j t xs, l[j]? = some (.row t xs) ∧ T.flatTy t = true ∧ o = freshAt d (i + j) ∧ y = .row t xs := by
  intro l
  induction l with
  | nil => intro i o y; simp [roUps]
  | cons x l ih =>
    intro i o y
    simp only [roUps, List.mem_append, ih]
    constructor
    · rintro (h | ⟨j, t, xs, h1, h2, h3, h4⟩)
      · unfold roUp at h
        split at h
        · rename_i t xs
          cases hf : T.flatTy t with
          | false => rw [hf] at h; cases h
          | true =>
            rw [hf] at h
            simp only [cond_true, List.mem_singleton, Prod.mk.injEq] at h
            exact ⟨0, t, xs, rfl, hf, h.1, h.2⟩
        · cases h
      · exact ⟨j + 1, t, xs, by simpa using h1, h2, by rw [h3]; congr 1; omega, h4⟩
    · rintro ⟨j, t, xs, h1, h2, h3, h4⟩
      cases j with
      | zero =>
        left
        simp only [List.getElem?_cons_zero, Option.some.injEq] at h1
        subst h1
        unfold roUp
        simp only [h2, cond_true, List.mem_singleton, Prod.mk.injEq]
        exact ⟨h3, h4⟩
      | succ j => exact .inr ⟨j, t, xs, by simpa using h1, h2, by rw [h3]; congr 1; omega, h4⟩

set_option maxHeartbeats 1000000 in
theorem snd_ro (hT : TabOK P T) (h : Inv T w0 D0 N s a w D gv) {f : FuncId} {sp : FSpec Ty} (hF : HOK P T f sp) (hheap : sp.heap = true) {d : Nat} {vs : List (AV Ty)} {vals : List Value}
    (hrepV : ∀ (i : Nat) u, vs[i]? = some u → RepV T w D gv u (vals.getD i Go.undef)) (hlenV : vs.length = vals.length) (hok : (roOf T sp d vs s.obj).ok = true) {k : Nat} {n' : NSt Ty} {v : AV Ty} {ups : List (Nat × Obj Ty)}
    (hr : sp.runH k 0 (roOf T sp d vs s.obj).n (NSt Ty) some = some n') (hb : roBack T d n' = some (v, ups)) :
    Calls P f vals.toArray w fun e w' => ∃ x gv', e = .returned x ∧ RepV T w' D gv' v x ∧ Inv T w0 D0 N { s with obj := Obj.upd s.obj ups } a w' D gv' := by
  have hfresh : ((heapFresh d).all fun o => (s.obj o).isNone) = true := hok
  have hr : sp.runH k 0 (normW [] (heapArgs T sp.raw s.obj vs) (roS s.obj)) (NSt Ty) some = some n' := hr
  have hm1 : metsOf (roS s.obj) 64 0 (renumAll (heapArgs T sp.raw s.obj vs) []).2 = roM T sp.raw s.obj vs := by unfold roM; rfl
  generalize roM T sp.raw s.obj vs = m1 at hm1
  obtain ⟨D1, hD, hsh, hlt1, hobj1⟩ := h.freezeAll hT
  have hobj1 : ∀ o, ObjOK T w w0.Own D1 gv o ((roS s.obj).obj o) := hobj1
  have hlive1 : ∀ o, ((roS s.obj).obj o).live = false := fun o => by
    show (s.obj o).frz.live = false
    cases s.obj o <;> rfl
  generalize roS s.obj = S1 at hr hm1 hobj1 hlive1
  generalize hraw : sp.raw = raw at hr hm1
  generalize has : heapArgs T raw s.obj vs = as at hr hm1
  have hfr : ∀ i, i < 64 → s.obj (freshAt d i) = .none := by
    intro i hi
    have := List.all_eq_true.1 hfresh (freshAt d i) (List.mem_map.2 ⟨i, by simpa using hi, rfl⟩)
    cases hx : s.obj (freshAt d i) <;> rw [hx] at this <;> first | rfl | cases this
  have hrep : ∀ (i : Nat) u, as[i]? = some u → RepV T w D1 gv u (vals.getD i Go.undef) := by
    intro i u hu
    rw [← has, heapArgs, List.getElem?_map] at hu
    cases hx : vs[i]? with
    | none => rw [hx] at hu; cases hu
    | some x =>
      rw [hx] at hu
      simp only [Option.map_some, Option.some.injEq] at hu
      subst hu
      have hxr := hrepV i x hx
      cases hp : x.isRaw raw with
      | true => exact hxr.mono hD (fun _ _ => rfl) (fun _ _ h => h)
      | false =>
        exact settleV_rep hT h.obj hD hxr fun b hb => hsh _ b hb
  have honce : Once ([] : List Met) := by intro i j x hi hj; simp at hi
  obtain ⟨k1, k2, k3, k4, k5, k6⟩ := normW_spec hT hobj1 hrep honce hm1
  have hlen : as.length = vals.length := by rw [← has, heapArgs, List.length_map]; exact hlenV
  have nolive : ∀ o g b, (objAt (normW [] as S1) o).live = true → gvN T gv m1 o = some g → g.blk = some b → False := by
    intro o g b hl hg hgb
    obtain ⟨p, _, q2, q3, _⟩ := k4 o g b hl hg hgb
    rw [hlive1] at q3
    cases q3
  let B : Base := { world := w, fp := fun _ => False }
  have hent : Inv T B D1 vals.length ((normW [] as S1).toSt (List.range vals.length)) { tmps := vals.toArray, defers := [] } B.world D1 (gvN T gv m1) := by
    refine { defers := rfl, size := by simp, env := fun t => ?_, obj := fun o => ?_, apart := ?_, grown := ⟨rfl, rfl, rfl, Nat.le_refl _, fun _ _ _ => rfl⟩, dold := fun b h => h, dlt := hlt1, dnew := fun b h => .inl h, glob := ⟨h.globOK, fun p hp hfp => hfp.elim⟩, pins := fun j b hj => (by cases hj) }
    · show RepV T w D1 _ ((((List.range vals.length).zip (normW [] as S1).tmps).lookup t).getD .undef) _
      cases hl : ((List.range vals.length).zip (normW [] as S1).tmps).lookup t with
      | none => exact .elem (.undef _)
      | some u =>
        obtain ⟨i, q1, q2⟩ := zip_lookup _ _ _ _ hl
        have hi : i < vals.length := by have := (List.getElem?_eq_some_iff.1 q1).1; simpa using this
        rw [List.getElem?_range hi] at q1
        have q1 : i = t := by simpa using q1
        subst q1
        have := k1 i u q2
        simpa [List.getD_eq_getElem?_getD, Array.getD_eq_getD_getElem?] using this
    · exact (k3 o).own fun hl g b hg hgb => (nolive o g b hl hg hgb).elim
    · intro o o' g g' b hne hl hl' hg hg' hb1 hb2
      exact (nolive o g b hl hg hb1).elim
  refine (hF hheap k 0 _ n' hr B D1 _ _ (fun j b hj => by cases hj) hent (by rw [k2, hlen])).mono ?_
  rintro e w' ⟨x, D2, gv2, rfl, hfin⟩
  unfold roBack at hb
  cases hck : (Nat.ble n'.objs.length 64 && (n'.tmps.getD 0 .undef).roOK T n'.objs) with
  | false => rw [hck] at hb; cases hb
  | true =>
  rw [hck, cond_true, Option.some.injEq, Prod.mk.injEq] at hb
  obtain ⟨hv, hu⟩ := hb
  simp only [Bool.and_eq_true, Nat.ble_eq] at hck
  obtain ⟨hl64, hro⟩ := hck
  have hgr : w.grownBy w' none := hfin.grown.grownBy fun _ h => h
  have hw := h.world hgr
  have hmem : ∀ o y, (o, y) ∈ ups ↔ ∃ j t xs, n'.objs[j]? = some (.row t xs) ∧ T.flatTy t = true ∧ o = freshAt d j ∧ y = .row t xs := by
    intro o y
    rw [← hu, roUps_mem]
    simp only [Nat.zero_add]
  let gv3 : Nat → Option GObj := fun o => if (ups.any fun p => p.1 == o) = true then gv2 (cbase + (o - freshAt d 0)) else gv o
  have hin : ∀ o, (ups.any fun p => p.1 == o) = true → ∃ j t xs, n'.objs[j]? = some (.row t xs) ∧ T.flatTy t = true ∧ o = freshAt d j ∧ j < n'.objs.length := by
    intro o ho
    obtain ⟨p, hp, e⟩ := List.any_eq_true.1 ho
    have e : p.1 = o := by simpa using e
    obtain ⟨j, t, xs, q1, q2, q3, _⟩ := (hmem p.1 p.2).1 hp
    exact ⟨j, t, xs, q1, q2, by rw [← e]; exact q3, (List.getElem?_eq_some_iff.1 q1).1⟩
  have hin2 : ∀ j t xs, n'.objs[j]? = some (.row t xs) → T.flatTy t = true → (ups.any fun p => p.1 == freshAt d j) = true := by
    intro j t xs h1 h2
    exact List.any_eq_true.2 ⟨(freshAt d j, .row t xs), (hmem _ _).2 ⟨j, t, xs, h1, h2, rfl, rfl⟩, by simp⟩
  have hg3 : ∀ j t xs, n'.objs[j]? = some (.row t xs) → T.flatTy t = true → gv3 (freshAt d j) = gv2 (cbase + j) := by
    intro j t xs h1 h2
    simp only [gv3]
    rw [if_pos (hin2 j t xs h1 h2)]
    congr 2
    unfold freshAt; omega
  have hext : ∀ o g, gv o = some g → gv3 o = some g := by
    intro o g hg
    simp only [gv3]
    split
    · rename_i ho
      obtain ⟨j, t, xs, _, _, rfl, hj⟩ := hin o ho
      have := h.obj (freshAt d j)
      rw [hfr j (by omega)] at this
      cases this with
      | none q => rw [hg] at q; cases q
    · exact hg
  have what : ∀ o, ((ups.any fun p => p.1 == o) = true ∧ ∃ j t xs, n'.objs[j]? = some (.row t xs) ∧ T.flatTy t = true ∧ o = freshAt d j ∧ Obj.upd s.obj ups o = .row t xs) ∨ ((ups.any fun p => p.1 == o) = false ∧ Obj.upd s.obj ups o = s.obj o) := by
    intro o
    rcases upd_cases o ups s.obj with ⟨q1, q2⟩ | ⟨y, q1, q2⟩
    · right
      refine ⟨?_, q2⟩
      cases hx : ups.any fun p => p.1 == o with
      | false => rfl
      | true =>
        obtain ⟨p, hp, e⟩ := List.any_eq_true.1 hx
        have e : p.1 = o := by simpa using e
        exact (q1 p.2 (by rw [← e]; exact hp)).elim
    · left
      obtain ⟨j, t, xs, e1, e2, e3, e4⟩ := (hmem o y).1 q1
      exact ⟨List.any_eq_true.2 ⟨_, q1, by simp⟩, j, t, xs, e1, e2, e3, by rw [q2, e4]⟩
  have hrow : ∀ j t xs, n'.objs[j]? = some (.row t xs) → ObjOK T w' B.Own D2 gv2 (cbase + j) (.row t xs) := by
    intro j t xs hj
    have := hfin.obj (cbase + j)
    have e : (n'.toSt [0]).obj (cbase + j) = .row t xs := by
      show cond (Nat.blt (cbase + j) cbase) .none (n'.objs.getD (cbase + j - cbase) .dead) = _
      have hbl : Nat.blt (cbase + j) cbase = false := by
        cases hb : Nat.blt (cbase + j) cbase with
        | false => rfl
        | true => rw [Nat.blt_eq] at hb; omega
      rw [hbl, cond_false, Nat.add_sub_cancel_left, List.getD_eq_getElem?_getD, hj]
      rfl
    rw [e] at this
    exact this
  have hnew : ∀ b, B.Own b → w.heap.size ≤ b := fun b hb => hb.elim (fun h => h.elim) id
  have hrowblk : ∀ j t xs g b, n'.objs[j]? = some (.row t xs) → gv2 (cbase + j) = some g → g.blk = some b → w.heap.size ≤ b := by
    intro j t xs g b hj hg hgb
    have := hrow j t xs hj
    cases this with
    | row q1 _ _ q4 =>
      rw [hg] at q1; cases q1
      exact hnew b (q4 b hgb).1
  refine ⟨x, gv3, rfl, ?_, ?_⟩
  · rw [← hv]
    refine ro_repV (D := D2) (gv := gv2) hT (objs := n'.objs) (fun o g t xs h1 h2 h3 h4 => ?_) ?_ hro
    · have hj : n'.objs[o - cbase]? = some (.row t xs) := by
        rw [List.getD_eq_getElem?_getD] at h2
        cases hq : n'.objs[o - cbase]? with
        | none => rw [hq] at h2; cases h2
        | some y => rw [hq] at h2; simp only [Option.getD_some] at h2; rw [h2]
      have e : heapTo d [] o = freshAt d (o - cbase) := heapTo_nil d o
      rw [e, hg3 _ t xs hj h3, show cbase + (o - cbase) = o by omega]
      exact h4
    · have := hfin.env 0
      have e : (n'.toSt [0]).env 0 = n'.tmps.getD 0 .undef := by
        show ((([0] : List Nat).zip n'.tmps).lookup 0).getD .undef = _
        cases n'.tmps with
        | nil => rfl
        | cons u r => rfl
      rw [e] at this
      exact this
  · refine { defers := h.defers, size := h.size, env := fun t => (hw.env t).mono (fun _ h => h) (fun _ _ => rfl) hext, obj := fun o => ?_, apart := ?_, grown := hw.grown, dold := h.dold, dlt := hw.dlt, dnew := h.dnew, glob := h.glob, pins := fun j b hj => hext _ _ (h.pins j b hj) }
    · show ObjOK T w' w0.Own D gv3 o (Obj.upd s.obj ups o)
      rcases what o with ⟨_, j, t, xs, e1, e2, rfl, q⟩ | ⟨hno, q⟩
      · rw [q]
        have hk := hrow j t xs e1
        have h3 := hg3 j t xs e1 e2
        cases hk with
        | row q1 q2 q3 q4 =>
          refine .row (by rw [h3]; exact q1) (q2.flat hT (encs_flatL hT e2 xs)) q3 fun b e => ⟨.inr (Nat.le_trans h.grown.size (hnew b (q4 b e).1)), fun hDb => ?_⟩
          have := h.dlt b hDb
          have := hnew b (q4 b e).1
          omega
      · rw [q]
        exact (hw.obj o).mono (fun _ h => h) (fun _ _ => rfl) hext (fun hn => by simp only [gv3]; rw [hno]; exact hn) fun hl g b hg hgb => ⟨rfl, live_notD (hw.obj o) hl hg hgb⟩
    · intro o o' g g' b hne hl hl' hg hg' hb1 hb2
      have hl1 : (Obj.upd s.obj ups o).live = true := hl
      have hl2 : (Obj.upd s.obj ups o').live = true := hl'
      rcases what o with ⟨_, j, t, xs, e1, e2, e3, q⟩ | ⟨hno, q⟩
      · rw [e3, hg3 j t xs e1 e2] at hg
        have hb3 := hrowblk j t xs g b e1 hg hb1
        rcases what o' with ⟨_, j', t', xs', e1', e2', e3', q'⟩ | ⟨hno', q'⟩
        · rw [e3', hg3 j' t' xs' e1' e2'] at hg'
          have hlive : ∀ i t xs, n'.objs[i]? = some (.row t xs) → ((n'.toSt [0]).obj (cbase + i)).live = true := by
            intro i t xs hi
            have hbl : Nat.blt (cbase + i) cbase = false := by
              cases hb : Nat.blt (cbase + i) cbase with
              | false => rfl
              | true => rw [Nat.blt_eq] at hb; omega
            show (cond (Nat.blt (cbase + i) cbase) .none (n'.objs.getD (cbase + i - cbase) .dead) : Obj Ty).live = true
            rw [hbl, cond_false, Nat.add_sub_cancel_left, List.getD_eq_getElem?_getD, hi]
            rfl
          refine hfin.apart (cbase + j) (cbase + j') g g' b (fun ee => hne ?_) (hlive j t xs e1) (hlive j' t' xs' e1') hg hg' hb1 hb2
          rw [e3, e3']
          congr 1
          omega
        · rw [q'] at hl2
          have hg2 : gv o' = some g' := by simpa only [gv3, hno', Bool.false_eq_true, if_false] using hg'
          have := (live_blk (h.obj o') hl2 hg2 hb2).1
          omega
      · rw [q] at hl1
        have hg1 : gv o = some g := by simpa only [gv3, hno, Bool.false_eq_true, if_false] using hg
        rcases what o' with ⟨_, j', t', xs', e1', e2', e3', q'⟩ | ⟨hno', q'⟩
        · rw [e3', hg3 j' t' xs' e1' e2'] at hg'
          have hb3 := hrowblk j' t' xs' g' b e1' hg' hb2
          have := (live_blk (h.obj o) hl1 hg1 hb1).1
          omega
        · rw [q'] at hl2
          have hg2 : gv o' = some g' := by simpa only [gv3, hno', Bool.false_eq_true, if_false] using hg'
          exact h.apart o o' g g' b hne hl1 hl2 hg1 hg2 hb1 hb2

theorem snd_heap (hT : TabOK P T) (hS : SpecsOK P T specs) (h : Inv T w0 D0 N s a w D gv) {hc : HCall Ty} (he : heapCall specs T o s.eval s.obj = some hc) (hok : hc.ok = true) {k : Nat} {n' : NSt Ty} {v : AV Ty} {ups : List (Nat × Obj Ty)}
    (hr : hc.sp.runH k hc.roots.length hc.n (NSt Ty) some = some n') (hb : hc.back T (o.dst.getD 0) n' = some (v, ups))
    {K : Act → World → Prop} {Q : Exit → Act → World → Prop} (hd : ∀ d, o.dst = some d → d < N) (hK : ∀ a' w', Gam T w0 D0 N (s.put o.dst v (hc.ups ++ ups)) a' w' → K a' w') : o.wp P a w K Q := by
  obtain ⟨cx, args, tys, f, first, capt, sp, ho, hcx, hsp, hheap, hof⟩ := heapN_op he
  have hfx := h.eval cx
  obtain ⟨F, C, hfv, hnF, hnC, hrF, hrC⟩ := callee_rep hfx hcx
  obtain ⟨⟨_, hF, _⟩, hcall⟩ := hS.fn f sp hsp
  generalize hdd : o.dst.getD 0 = d at hof hb
  have hrepA : ∀ (i : Nat) u, (args.toList.map s.eval)[i]? = some u → RepV T w D gv u ((args.toList.map a.eval).getD i Go.undef) := by
    intro i u hu
    rw [List.getElem?_map] at hu
    cases hx : args.toList[i]? with
    | none => rw [hx] at hu; cases hu
    | some x =>
      rw [hx] at hu
      simp only [Option.map_some, Option.some.injEq] at hu
      subst hu
      rw [List.getD_eq_getElem?_getD, List.getElem?_map, hx]
      exact h.eval x
  have hrepA := nilTL_rep tys.toList hrepA
  have hrepV := rep_append hnF hrF (rep_append (by simp [nilTL_length]) hrepA hrC)
  have hlenV : (first ++ (nilTL T tys.toList (args.toList.map s.eval) ++ capt)).length = (F ++ (args.toList.map a.eval ++ C)).length := by simp [hnF, hnC, nilTL_length]
  generalize hvs : first ++ (nilTL T tys.toList (args.toList.map s.eval) ++ capt) = vs at hof hrepV hlenV
  generalize hvals : F ++ (args.toList.map a.eval ++ C) = vals at hrepV hlenV
  -- what is handed over
  unfold heapOf at hof
  cases hroB : sp.ro with
  | true =>
    rw [hroB, cond_true] at hof
    have enter : (execOp a.eval o).run P w = .ok (.enter f vals.toArray) w := by
      simp only [execOp, ho, resolve, hfv, Deferred.ofValue, Sem.run_bind, Sem.run_pure, Result.andThen_ok, invoke]
      have : (F.toArray ++ args.map a.eval ++ C.toArray : Array Value) = vals.toArray := by rw [← hvals]; apply Array.ext'; simp
      rw [this]
      exact hcall _ _
    unfold Oper.wp
    rw [enter, Oper.upon_enter]
    subst hof
    refine (snd_ro hT h hF hheap hrepV hlenV hok hr hb).mono ?_
    rintro e w' ⟨x, gv', rfl, hx, hI⟩
    exact hK _ _ ⟨D, gv', Inv.put_ups hI hd hx⟩
  | false =>
  rw [hroB, cond_false] at hof
  unfold heapOf0 at hof
  simp only at hof
  generalize hraw : sp.raw = raw at hof
  generalize hS1 : (heapSt raw s.obj vs : St Ty) = S1 at hof
  have hS1o : S1.obj = Obj.upd s.obj ((heapShares raw vs).map (freeze s.obj)) := by rw [← hS1]; rfl
  generalize has : heapArgs T raw s.obj vs = as at hof
  generalize hro : ((metIds (metsOf S1 64 0 (renumAll as []).2)).filter fun o => (S1.obj o).isVar) ++ ((rawRows raw vs).filter fun o => (S1.obj o).isRow) = roots at hof
  generalize hm1 : metsOf S1 64 0 (renumAll as (roots.map .old)).2 = m1 at hof
  · subst hof
    simp only at hr hb hK hok
    simp only [Bool.and_eq_true] at hok
    obtain ⟨hnd, hfresh⟩ := hok
    obtain ⟨D1, hD, hsh, _, hinv⟩ := h.freeze hT (heapShares raw vs)
    rw [← hS1o] at hinv
    have hvar : ∀ o ∈ roots, ∃ g, gv o = some g := by
      intro o ho
      rw [← hro] at ho
      have hk := hinv.obj o
      rcases List.mem_append.1 ho with ho | ho
      · have := (List.mem_filter.1 ho).2
        cases hx : S1.obj o <;> rw [hx] at this hk <;> first | cases this | skip
        cases hk with | var q1 => exact ⟨_, q1⟩
      · have := (List.mem_filter.1 ho).2
        cases hx : S1.obj o <;> rw [hx] at this hk <;> first | cases this | skip
        cases hk with | row q1 => exact ⟨_, q1⟩
    have hfr : ∀ i, i < 64 → S1.obj (freshAt d i) = .none := by
      intro i hi
      have := List.all_eq_true.1 hfresh (freshAt d i) (List.mem_map.2 ⟨i, by simpa using hi, rfl⟩)
      cases hx : S1.obj (freshAt d i) <;> rw [hx] at this <;> first | rfl | cases this
    have hobj1 : ∀ o, ObjOK T w w0.Own D1 gv o (S1.obj o) := hinv.obj
    -- the arguments
    have hrep : ∀ (i : Nat) u, as[i]? = some u → RepV T w D1 gv u (vals.getD i Go.undef) := by
      intro i u hu
      rw [← has, heapArgs, List.getElem?_map] at hu
      cases hx : vs[i]? with
      | none => rw [hx] at hu; cases hu
      | some x =>
        rw [hx] at hu
        simp only [Option.map_some, Option.some.injEq] at hu
        subst hu
        have hxr := hrepV i x hx
        cases hp : x.isRaw raw with
        | true => exact hxr.mono hD (fun _ _ => rfl) (fun _ _ h => h)
        | false =>
          refine settleV_rep hT h.obj hD hxr fun b ⟨o1, ho1, r⟩ => hsh b ⟨o1, ?_, r⟩
          refine List.mem_flatMap.2 ⟨x, List.mem_of_getElem? hx, ?_⟩
          rw [hp]; exact ho1
    have honce : Once (roots.map Met.old) := by
      intro i j x hi hj
      rw [List.getElem?_map] at hi hj
      cases hi' : roots[i]? with
      | none => rw [hi'] at hi; cases hi
      | some y =>
        cases hj' : roots[j]? with
        | none => rw [hj'] at hj; cases hj
        | some z =>
          rw [hi'] at hi; rw [hj'] at hj
          cases hi; cases hj
          exact nodupN_get hnd i j x hi' hj'
    obtain ⟨k1, k2, k3, k4, k5, k6⟩ := normW_spec hT hobj1 hrep honce hm1
    have hlen : as.length = vals.length := by rw [← has, heapArgs, List.length_map]; exact hlenV
    -- where the call begins
    have hfpOwn : ∀ b, (∃ p, Met.old p ∈ m1 ∧ (S1.obj p).live = true ∧ ∃ g, gv p = some g ∧ g.blk = some b) → w0.Own b ∧ b < w.heap.size ∧ ¬ D1 b := by
      rintro b ⟨p, _, hl, g, hg, hgb⟩
      have := live_blk (hobj1 p) hl hg hgb
      exact ⟨this.2, this.1, live_notD (hobj1 p) hl hg hgb⟩
    let B : Base := { world := w, fp := fun b => ∃ p, Met.old p ∈ m1 ∧ (S1.obj p).live = true ∧ ∃ g, gv p = some g ∧ g.blk = some b, pin := fun j => (roots[j]?).bind gv }
    have hpin : ∀ j b, B.pin j = some b → ∃ o, roots[j]? = some o ∧ gv o = some b := by
      intro j b hj
      simp only [B] at hj
      cases hx : roots[j]? with
      | none => rw [hx] at hj; cases hj
      | some o => rw [hx] at hj; exact ⟨o, rfl, hj⟩
    have hroot : ∀ j o, roots[j]? = some o → ∃ b, B.pin j = some b ∧ gv o = some b := by
      intro j o hx
      obtain ⟨g, hg⟩ := hvar o (List.mem_of_getElem? hx)
      exact ⟨g, by simp only [B, hx, Option.bind_some, hg], hg⟩
    have hent : Inv T B D1 vals.length ((normW (roots.map .old) as S1).toSt (List.range vals.length)) { tmps := vals.toArray, defers := [] } B.world D1 (gvN T gv m1) := by
      refine { defers := rfl, size := by simp, env := fun t => ?_, obj := fun o => ?_, apart := ?_, grown := ⟨rfl, rfl, rfl, Nat.le_refl _, fun _ _ _ => rfl⟩, dold := fun b h => h, dlt := hinv.dlt, dnew := fun b h => .inl h, glob := ⟨h.globOK, fun p hp hfp => glob_own h p hp (hfpOwn _ hfp).1⟩, pins := fun j b hj => ?_ }
      · show RepV T w D1 _ ((((List.range vals.length).zip (normW (roots.map .old) as S1).tmps).lookup t).getD .undef) _
        cases hl : ((List.range vals.length).zip (normW (roots.map .old) as S1).tmps).lookup t with
        | none => exact .elem (.undef _)
        | some u =>
          obtain ⟨i, q1, q2⟩ := zip_lookup _ _ _ _ hl
          have hi : i < vals.length := by have := (List.getElem?_eq_some_iff.1 q1).1; simpa using this
          rw [List.getElem?_range hi] at q1
          have q1 : i = t := by simpa using q1
          subst q1
          have := k1 i u q2
          simpa [List.getD_eq_getElem?_getD, Array.getD_eq_getD_getElem?] using this
      · refine (k3 o).own fun hl g b hg hgb => ?_
        obtain ⟨p, _, q2, q3, q4⟩ := k4 o g b hl hg hgb
        exact .inl ⟨p, List.mem_of_getElem? q2, q3, g, q4, hgb⟩
      · intro o o' g g' b hne hl hl' hg hg' hb1 hb2
        obtain ⟨p, e1, e2, e3, e4⟩ := k4 o g b hl hg hb1
        obtain ⟨p', f1, f2, f3, f4⟩ := k4 o' g' b hl' hg' hb2
        refine hinv.apart p p' g g' b (fun e => ?_) e3 f3 e4 f4 hb1 hb2
        subst e
        have := k6 _ _ _ e2 f2
        omega
      · obtain ⟨o, q1, q2⟩ := hpin j b hj
        unfold gvN
        rw [if_neg (by omega), Nat.add_sub_cancel_left, pre_get k5 (by rw [List.getElem?_map, q1]; rfl)]
        exact q2
    have enter : (execOp a.eval o).run P w = .ok (.enter f vals.toArray) w := by
      simp only [execOp, ho, resolve, hfv, Deferred.ofValue, Sem.run_bind, Sem.run_pure, Result.andThen_ok, invoke]
      have : (F.toArray ++ args.map a.eval ++ C.toArray : Array Value) = vals.toArray := by rw [← hvals]; apply Array.ext'; simp
      rw [this]
      exact hcall _ _
    unfold Oper.wp
    rw [enter, Oper.upon_enter]
    refine (hF hheap k roots.length _ n' hr B D1 _ _ (fun j b hj => ?_) hent (by rw [k2, hlen])).mono ?_
    · obtain ⟨o, q1, _⟩ := hpin j b hj
      exact (List.getElem?_eq_some_iff.1 q1).1
    rintro e w' ⟨x, D2, gv2, rfl, hfin⟩
    -- back
    unfold HCall.back heapBack at hb
    simp only [cond_false] at hb
    cases hck : (Nat.ble n'.objs.length 64 && Nat.ble roots.length n'.objs.length && idsIn n'.objs.length (n'.tmps.getD 0 .undef) && n'.objs.all (objIn n'.objs.length)) with
    | false => rw [hck] at hb; cases hb
    | true =>
      rw [hck, cond_true, Option.some.injEq, Prod.mk.injEq] at hb
      obtain ⟨hv, hu⟩ := hb
      simp only [Bool.and_eq_true, Nat.ble_eq] at hck
      obtain ⟨⟨⟨hl64, hnp⟩, hidv⟩, hido⟩ := hck
      have hgrowW : ∀ b, b < w.heap.size → ¬ B.fp b → w'.heap[b]? = w.heap[b]? := hfin.grown.block
      have hD1same : ∀ b, D1 b → w'.heap[b]? = w.heap[b]? := fun b hb => hgrowW b (hinv.dlt b hb) fun hf => (hfpOwn b hf).2.2 hb
      have hown : ∀ b, B.Own b → w0.Own b := fun b hb => hb.elim (fun hf => (hfpOwn b hf).1) fun hs => .inr (Nat.le_trans h.grown.size hs)
      let gv3 : Nat → Option GObj := fun o => if freshAt d roots.length ≤ o ∧ o < freshAt d n'.objs.length then gv2 (cbase + (o - freshAt d 0)) else gv o
      have hext : ∀ o g, gv o = some g → gv3 o = some g := by
        intro o g hg
        simp only [gv3]
        split
        · rename_i hr2
          exfalso
          have e : o = freshAt d (o - freshAt d 0) := by unfold freshAt at hr2 ⊢; omega
          have h64 : o - freshAt d 0 < 64 := by unfold freshAt at hr2 ⊢; omega
          have := hobj1 (freshAt d (o - freshAt d 0))
          rw [hfr _ h64, ← e] at this
          cases this with
          | none q => rw [hg] at q; cases q
        · exact hg
      have hren : ∀ i, i < n'.objs.length → gv3 (heapTo d roots (cbase + i)) = gv2 (cbase + i) := by
        intro i hi
        unfold heapTo
        rw [Nat.add_sub_cancel_left]
        rcases Nat.lt_or_ge i roots.length with hlt | hge
        · have hbl : Nat.blt i roots.length = true := by rw [Nat.blt_eq]; exact hlt
          rw [hbl, cond_true]
          have hx : roots[i]? = some (roots.getD i 0) := by rw [List.getD_eq_getElem?_getD, List.getElem?_eq_getElem hlt]; rfl
          obtain ⟨b, q1, q2⟩ := hroot i _ hx
          rw [hext _ _ q2, hfin.pins i b q1]
        · have hbl : Nat.blt i roots.length = false := by
            cases hb : Nat.blt i roots.length with
            | false => rfl
            | true => rw [Nat.blt_eq] at hb; omega
          rw [hbl, cond_false]
          simp only [gv3]
          rw [if_pos (by unfold freshAt; omega)]
          congr 2
          unfold freshAt; omega
      have hrenI : ∀ u : AV Ty, idsIn n'.objs.length u = true → ∀ i ∈ u.ids, ∀ g, gv2 i = some g → gv3 (heapTo d roots i) = some g := by
        intro u hu i hi g hg
        have := List.all_eq_true.1 hu i hi
        simp only [Bool.and_eq_true, Nat.ble_eq, Nat.blt_eq] at this
        have e : i = cbase + (i - cbase) := by omega
        rw [e, hren _ this.2, ← e]
        exact hg
      -- the objects behind the call
      have hupd : Obj.upd s.obj (((heapShares raw vs).map (freeze s.obj) ++ (((metIds m1).filter fun o => (S1.obj o).isLive).map fun o => (o, .dead))) ++ ups) =
          Obj.upd (Obj.upd S1.obj (((metIds m1).filter fun o => (S1.obj o).isLive).map fun o => (o, .dead))) (heapUps d roots n'.objs) := by
        rw [upd_append, upd_append, hu, hS1o]
      have what : ∀ o, (∃ i, i < n'.objs.length ∧ o = heapTo d roots (cbase + i) ∧ Obj.upd s.obj (((heapShares raw vs).map (freeze s.obj) ++ (((metIds m1).filter fun o => (S1.obj o).isLive).map fun o => (o, .dead))) ++ ups) o = (objAt n' (cbase + i)).ren (heapTo d roots)) ∨
          ((∀ i, i < n'.objs.length → o ≠ heapTo d roots (cbase + i)) ∧ (Obj.upd s.obj (((heapShares raw vs).map (freeze s.obj) ++ (((metIds m1).filter fun o => (S1.obj o).isLive).map fun o => (o, .dead))) ++ ups) o = .dead ∨
            (Obj.upd s.obj (((heapShares raw vs).map (freeze s.obj) ++ (((metIds m1).filter fun o => (S1.obj o).isLive).map fun o => (o, .dead))) ++ ups) o = S1.obj o ∧ ((S1.obj o).live = true → Met.old o ∉ m1)))) := by
        intro o
        rw [hupd]
        rcases upd_cases o (heapUps d roots n'.objs) (Obj.upd S1.obj (((metIds m1).filter fun o => (S1.obj o).isLive).map fun o => (o, .dead))) with ⟨q1, q2⟩ | ⟨y, q1, q2⟩
        · right
          refine ⟨fun i hi e => q1 _ (List.mem_map.2 ⟨i, by simpa using hi, by rw [e]⟩), ?_⟩
          rw [q2]
          rcases upd_cases o (((metIds m1).filter fun o => (S1.obj o).isLive).map fun o => (o, (.dead : Obj Ty))) S1.obj with ⟨r1, r2⟩ | ⟨y, r1, r2⟩
          · right
            refine ⟨r2, fun hl hm => r1 .dead (List.mem_map.2 ⟨o, List.mem_filter.2 ⟨mem_metIds.2 hm, by rw [isLive_eq]; exact hl⟩, rfl⟩)⟩
          · left
            rw [r2]
            obtain ⟨_, _, e⟩ := List.mem_map.1 r1
            cases e
            rfl
        · left
          obtain ⟨i, hi, e⟩ := List.mem_map.1 q1
          have hi' : i < n'.objs.length := by simpa using hi
          simp only [Prod.mk.injEq] at e
          refine ⟨i, hi', e.1.symm, ?_⟩
          rw [q2, ← e.2]
          unfold objAt
          have hbl : Nat.blt (cbase + i) cbase = false := by
            cases hb : Nat.blt (cbase + i) cbase with
            | false => rfl
            | true => rw [Nat.blt_eq] at hb; omega
          rw [hbl, cond_false, Nat.add_sub_cancel_left]
      have hgvB : ∀ o, (∀ i, i < n'.objs.length → o ≠ heapTo d roots (cbase + i)) → gv3 o = gv o := by
        intro o hne
        simp only [gv3]
        split
        · rename_i hr2
          exfalso
          refine hne (o - freshAt d 0) (by unfold freshAt at hr2 ⊢; omega) ?_
          unfold heapTo
          rw [Nat.add_sub_cancel_left]
          have hbl : Nat.blt (o - freshAt d 0) roots.length = false := by
            cases hb : Nat.blt (o - freshAt d 0) roots.length with
            | false => rfl
            | true => rw [Nat.blt_eq] at hb; unfold freshAt at hr2 hb; omega
          rw [hbl, cond_false]
          unfold freshAt at hr2 ⊢; omega
        · rfl
      -- of the caller's own, that was not handed over
      have hkeep : ∀ o, ((S1.obj o).live = true → Met.old o ∉ m1) → (S1.obj o).live = true → ∀ g b, gv o = some g → g.blk = some b → b < w.heap.size ∧ ¬ B.fp b ∧ ¬ D2 b := by
        intro o hm hl g b hg hgb
        have hlt := (live_blk (hobj1 o) hl hg hgb).1
        have hnf : ¬ B.fp b := by
          rintro ⟨p, p1, p2, g', p3, p4⟩
          have hpo : p ≠ o := fun e => by subst e; exact hm hl p1
          exact hinv.apart p o g' g b hpo p2 hl p3 hg p4 hgb
        refine ⟨hlt, hnf, fun hb => ?_⟩
        rcases hfin.dnew b hb with hb | hb | hb
        · exact live_notD (hobj1 o) hl hg hgb hb
        · exact hnf hb
        · have : w.heap.size ≤ b := hb
          omega
      refine hK _ _ ⟨D2, gv3, ?_⟩
      refine Inv.put_ups ?_ hd ?_
      · refine { defers := h.defers, size := h.size, env := fun t => (hinv.env t).mono hfin.dold hD1same hext, obj := fun o => ?_, apart := ?_, grown := ?_, dold := fun b hb => hfin.dold b (hD b (h.dold b hb)), dlt := hfin.dlt, dnew := ?_, glob := h.glob, pins := fun j b hj => hext _ _ (h.pins j b hj) }
        · show ObjOK T w' w0.Own D2 gv3 o (Obj.upd s.obj _ o)
          rcases what o with ⟨i, hi, rfl, q⟩ | ⟨hne, q | ⟨q, hm⟩⟩
          · rw [q]
            have hof := hfin.obj (cbase + i)
            have hof' : ObjOK T w' B.Own D2 gv2 (cbase + i) (objAt n' (cbase + i)) := hof
            have hg3 := hren i hi
            have hin : objIn n'.objs.length (objAt n' (cbase + i)) = true := by
              unfold objAt
              have hbl : Nat.blt (cbase + i) cbase = false := by
                cases hb : Nat.blt (cbase + i) cbase with
                | false => rfl
                | true => rw [Nat.blt_eq] at hb; omega
              rw [hbl, cond_false, Nat.add_sub_cancel_left]
              refine List.all_eq_true.1 hido _ ?_
              rw [List.getD_eq_getElem?_getD, List.getElem?_eq_getElem hi]
              exact List.getElem_mem hi
            generalize objAt n' (cbase + i) = y at hof' hin
            cases hof' with
            | none q1 => exact .none (by rw [hg3]; exact q1)
            | dead => exact .dead
            | var q1 q2 q3 q4 q5 => exact .var (by rw [hg3]; exact q1) (hown _ q2) q3 q4 (ren_rep hT q5 (hrenI _ hin))
            | fvar q1 q2 q3 q4 => exact .fvar (by rw [hg3]; exact q1) q2 q3 (ren_rep hT q4 (hrenI _ hin))
            | row q1 q2 q3 q4 => exact .row (by rw [hg3]; exact q1) (q2.regv hT (encs_ids hT _ _)) q3 fun b e => ⟨hown _ (q4 b e).1, (q4 b e).2⟩
            | frow q1 q2 => exact .frow (by rw [hg3]; exact q1) (q2.regv hT rfl)
            | map q1 q2 q3 q4 q5 => exact .map (by rw [hg3]; exact q1) (hown _ q2) q3 q4 q5
          · rw [q]; exact .dead
          · rw [q]
            exact (hobj1 o).mono hfin.dold hD1same hext (fun hn => by rw [hgvB o hne]; exact hn) fun hl g b hg hgb => by
              obtain ⟨r1, r2, r3⟩ := hkeep o hm hl g b hg hgb
              exact ⟨hgrowW b r1 r2, r3⟩
        · intro o o' g g' b hne hl hl' hg hg' hb1 hb2
          have renlive : ∀ y : Obj Ty, (y.ren (heapTo d roots)).live = y.live := fun y => by cases y <;> rfl
          have mix : ∀ i o', i < n'.objs.length → (objAt n' (cbase + i)).live = true → gv2 (cbase + i) = some g → g.blk = some b → ((S1.obj o').live = true → Met.old o' ∉ m1) → (S1.obj o').live = true → ∀ g', gv o' = some g' → g'.blk = some b → False := by
            intro i o' hi hl hg hb1 hm hl' g' hg' hb2
            obtain ⟨r1, r2, _⟩ := hkeep o' hm hl' g' b hg' hb2
            have := (live_blk (w := w') (hfin.obj (cbase + i)) hl hg hb1).2
            rcases this with hf | hs
            · exact r2 hf
            · have : w.heap.size ≤ b := hs
              omega
          have hl1 : (Obj.upd s.obj (((heapShares raw vs).map (freeze s.obj) ++ (((metIds m1).filter fun o => (S1.obj o).isLive).map fun o => (o, .dead))) ++ ups) o).live = true := hl
          have hl2 : (Obj.upd s.obj (((heapShares raw vs).map (freeze s.obj) ++ (((metIds m1).filter fun o => (S1.obj o).isLive).map fun o => (o, .dead))) ++ ups) o').live = true := hl'
          rcases what o with ⟨i, hi, e, q⟩ | ⟨hnk, q | ⟨q, hm⟩⟩
          · rw [q, renlive] at hl1
            rw [e, hren i hi] at hg
            rcases what o' with ⟨i', hi', e', q'⟩ | ⟨hnk', q' | ⟨q', hm'⟩⟩
            · rw [q', renlive] at hl2
              rw [e', hren i' hi'] at hg'
              refine hfin.apart (cbase + i) (cbase + i') g g' b (fun ee => hne ?_) hl1 hl2 hg hg' hb1 hb2
              rw [e, e', ee]
            · rw [q'] at hl2; cases hl2
            · rw [q'] at hl2
              rw [hgvB o' hnk'] at hg'
              exact mix i o' hi hl1 hg hb1 hm' hl2 g' hg' hb2
          · rw [q] at hl1; cases hl1
          · rw [q] at hl1
            rw [hgvB o hnk] at hg
            rcases what o' with ⟨i', hi', e', q'⟩ | ⟨hnk', q' | ⟨q', hm'⟩⟩
            · rw [q', renlive] at hl2
              rw [e', hren i' hi'] at hg'
              obtain ⟨r1, r2, _⟩ := hkeep o hm hl1 g b hg hb1
              have := (live_blk (w := w') (hfin.obj (cbase + i')) hl2 hg' hb2).2
              rcases this with hf | hs
              · exact r2 hf
              · have : w.heap.size ≤ b := hs
                omega
            · rw [q'] at hl2; cases hl2
            · rw [q'] at hl2
              rw [hgvB o' hnk'] at hg'
              exact hinv.apart o o' g g' b hne hl1 hl2 hg hg' hb1 hb2
        · refine ⟨hfin.grown.os.trans h.grown.os, hfin.grown.tape.trans h.grown.tape, hfin.grown.output.trans h.grown.output, Nat.le_trans h.grown.size hfin.grown.size, fun b hb1 hb2 => ?_⟩
          rw [hgrowW b (Nat.lt_of_lt_of_le hb1 h.grown.size) fun hf => ?_]
          · exact h.grown.block b hb1 hb2
          · rcases (hfpOwn b hf).1 with h1 | h1
            · exact hb2 h1
            · omega
        · intro b hb
          rcases hfin.dnew b hb with hb | hb
          · exact hinv.dnew b hb
          · exact .inr (hown b hb)
      · rw [← hv]
        refine ren_repV hT ?_ (hrenI _ hidv)
        have := hfin.env 0
        have e : (n'.toSt [0]).env 0 = n'.tmps.getD 0 .undef := by
          show ((([0] : List Nat).zip n'.tmps).lookup 0).getD .undef = _
          cases n'.tmps with
          | nil => rfl
          | cons u r => rfl
        rw [e] at this
        exact this

/-! ### what a call hangs on -/

theorem mets_congr {s s' : St Ty} : ∀ (f i : Nat) (l : List Met), (∀ p, Met.old p ∈ metsOf s f i l → s.obj p = s'.obj p) → metsOf s' f i l = metsOf s f i l ∧ objsOf s' f i l = objsOf s f i l := by
  intro f
  induction f with
  | zero => intro i l _; exact ⟨rfl, rfl⟩
  | succ f ih =>
    intro i l h
    have hpre := (objsOf_spec s (f + 1) i l).1
    unfold metsOf objsOf
    unfold metsOf at h hpre
    cases hl : l[i]? with
    | none => exact ⟨rfl, rfl⟩
    | some m =>
      rw [hl] at h hpre
      cases m with
      | empty t =>
        obtain ⟨e1, e2⟩ := ih (i + 1) l h
        exact ⟨e1, by simp only [e2]⟩
      | old o =>
        have ho : s.obj o = s'.obj o := h o (hpre.subset (List.mem_of_getElem? hl))
        simp only at h ⊢
        rw [← ho]
        cases hx : s.obj o <;> rw [hx] at h <;> simp only at h ⊢ <;> (obtain ⟨e1, e2⟩ := ih _ _ h; exact ⟨e1, by rw [e2]⟩)

theorem settle_congr' {ob ob' : Nat → Obj Ty} {v : AV Ty} (h : ∀ i ∈ v.shares, ob i = ob' i) : settle T ob v = settle T ob' v := by
  have err : ∀ (t : Nat) (v : AV Ty), (∀ i ∈ (AV.iface t v).shares, ob i = ob' i) → errOf T ob t v = errOf T ob' t v := by
    intro t v h
    unfold errOf
    cases v with
    | ptr o p =>
      have e := h o (by simp [AV.shares])
      cases p with
      | nil => simp only [e]
      | cons _ _ => rfl
    | _ => rfl
  have ifc : ∀ {t : Nat} {v : AV Ty} {i : Nat}, i ∈ v.shares → i ∈ (AV.iface t v).shares := by
    intro t v i h
    cases v with
    | ptr o p => simp [AV.shares] at h
    | _ => exact h
  induction v with
  | row o => simp only [settle]; rw [h o (by simp [AV.shares])]
  | sub o lo len => simp only [settle]; rw [h o (by simp [AV.shares])]
  | view o p t n lo len => simp only [settle]; rw [h o (by simp [AV.shares])]
  | cons a b i1 i2 => simp only [settle]; rw [i1 fun i hi => h i (by simp [AV.shares, hi]), i2 fun i hi => h i (by simp [AV.shares, hi])]
  | tup a i1 => simp only [settle]; rw [i1 fun i hi => h i (by simpa [AV.shares] using hi)]
  | iface t a i1 => simp only [settle]; rw [i1 fun i hi => h i (ifc hi), err t a h]
  | _ => rfl

theorem upd_loc : ∀ (ups : List (Nat × Obj Ty)) (x : Nat) (ob ob' : Nat → Obj Ty), ob x = ob' x → Obj.upd ob ups x = Obj.upd ob' ups x := by
  intro ups x
  induction ups with
  | nil => intro ob ob' h; exact h
  | cons p r ih =>
    intro ob ob' h
    obtain ⟨i, y⟩ := p
    simp only [Obj.upd]
    apply ih
    simp only [h]
theorem all_congrN {l : List Nat} {p q : Nat → Bool} (h : ∀ i ∈ l, p i = q i) : l.all p = l.all q := by
  induction l with
  | nil => rfl
  | cons i r ih => rw [List.all_cons, List.all_cons, h i (by simp), ih fun j hj => h j (by simp [hj])]
theorem roOf_congr {sp : FSpec Ty} {d : Nat} {vs : List (AV Ty)} {ob ob' : Nat → Obj Ty} (h : ∀ i ∈ (roOf T sp d vs ob).reads, ob i = ob' i) : roOf T sp d vs ob = roOf T sp d vs ob' := by
  have h : ∀ i ∈ heapShares sp.raw vs ++ (metIds (roM T sp.raw ob vs) ++ heapFresh d), ob i = ob' i := h
  have hargs : heapArgs T sp.raw ob' vs = heapArgs T sp.raw ob vs := by
    unfold heapArgs
    refine List.map_congr_left fun v hv => ?_
    cases hp : v.isRaw sp.raw with
    | true => rfl
    | false =>
      rw [cond_false, cond_false]
      refine (settle_congr' fun i hi => h i ?_).symm
      refine List.mem_append_left _ (List.mem_flatMap.2 ⟨v, hv, ?_⟩)
      rw [hp]; exact hi
  obtain ⟨e1, e2⟩ := mets_congr (s := roS ob) (s' := roS ob') 64 0 (renumAll (heapArgs T sp.raw ob vs) []).2 (fun p hp => by
    show (ob p).frz = (ob' p).frz
    rw [h p (List.mem_append_right _ (List.mem_append_left _ (by unfold roM; exact mem_metIds.2 hp)))])
  have e1' : roM T sp.raw ob' vs = roM T sp.raw ob vs := by
    unfold roM
    rw [hargs, e1]
  have en : normW [] (heapArgs T sp.raw ob vs) (roS ob') = normW [] (heapArgs T sp.raw ob vs) (roS ob) := by
    unfold normW
    simp only [e2]
  have eall : ((heapFresh d).all fun o => (ob' o).isNone) = ((heapFresh d).all fun o => (ob o).isNone) :=
    all_congrN fun i hi => by rw [h i (List.mem_append_right _ (List.mem_append_right _ hi))]
  unfold roOf
  rw [hargs, en, e1', eall]

theorem heapOf0_congr {sp : FSpec Ty} {d : Nat} {vs : List (AV Ty)} {ob ob' : Nat → Obj Ty} (h : ∀ i ∈ (heapOf0 T sp d vs ob).reads, ob i = ob' i) : heapOf0 T sp d vs ob = heapOf0 T sp d vs ob' := by
  have hr : (heapOf0 T sp d vs ob).reads = heapShares sp.raw vs ++ (rawRows sp.raw vs ++ (metIds (metsOf (heapSt sp.raw ob vs) 64 0 (renumAll (heapArgs T sp.raw ob vs) []).2) ++ (metIds (metsOf (heapSt sp.raw ob vs) 64 0 (renumAll (heapArgs T sp.raw ob vs) ((((metIds (metsOf (heapSt sp.raw ob vs) 64 0 (renumAll (heapArgs T sp.raw ob vs) []).2)).filter fun o => ((heapSt sp.raw ob vs : St Ty).obj o).isVar) ++ ((rawRows sp.raw vs).filter fun o => ((heapSt sp.raw ob vs : St Ty).obj o).isRow)).map .old)).2) ++ heapFresh d))) := rfl
  rw [hr] at h
  have hargs : heapArgs T sp.raw ob' vs = heapArgs T sp.raw ob vs := by
    unfold heapArgs
    refine List.map_congr_left fun v hv => ?_
    cases hp : v.isRaw sp.raw with
    | true => rfl
    | false =>
      rw [cond_false, cond_false]
      refine (settle_congr' fun i hi => h i ?_).symm
      refine List.mem_append_left _ (List.mem_flatMap.2 ⟨v, hv, ?_⟩)
      rw [hp]; exact hi
  have hfz : (heapShares sp.raw vs).map (freeze ob') = (heapShares sp.raw vs).map (freeze ob) := List.map_congr_left fun i hi => by simp only [freeze]; rw [h i (List.mem_append_left _ hi)]
  have hloc : ∀ (ups : List (Nat × Obj Ty)) (x : Nat) (ob ob' : Nat → Obj Ty), ob x = ob' x → Obj.upd ob ups x = Obj.upd ob' ups x := by
    intro ups x
    induction ups with
    | nil => intro ob ob' h; exact h
    | cons p r ih =>
      intro ob ob' h
      obtain ⟨i, y⟩ := p
      simp only [Obj.upd]
      apply ih
      simp only [h]
  have hob : ∀ i, ob i = ob' i → (heapSt sp.raw ob vs : St Ty).obj i = (heapSt sp.raw ob' vs).obj i := by
    intro i hi
    show Obj.upd ob ((heapShares sp.raw vs).map (freeze ob)) i = Obj.upd ob' ((heapShares sp.raw vs).map (freeze ob')) i
    rw [hfz]
    exact hloc _ _ _ _ hi
  generalize hm0 : metsOf (heapSt sp.raw ob vs) 64 0 (renumAll (heapArgs T sp.raw ob vs) []).2 = m0 at h
  generalize hroots : ((metIds m0).filter fun o => ((heapSt sp.raw ob vs : St Ty).obj o).isVar) ++ ((rawRows sp.raw vs).filter fun o => ((heapSt sp.raw ob vs : St Ty).obj o).isRow) = roots at h
  generalize hm1 : metsOf (heapSt sp.raw ob vs) 64 0 (renumAll (heapArgs T sp.raw ob vs) (roots.map .old)).2 = m1 at h
  have e0 := (mets_congr (s := heapSt sp.raw ob vs) (s' := heapSt sp.raw ob' vs) 64 0 (renumAll (heapArgs T sp.raw ob vs) []).2 (by
    rw [hm0]; intro p hp
    exact hob p (h p (List.mem_append_right _ (List.mem_append_right _ (List.mem_append_left _ (mem_metIds.2 hp))))))).1
  rw [hm0] at e0
  have er : ((metIds m0).filter fun o => ((heapSt sp.raw ob' vs : St Ty).obj o).isVar) ++ ((rawRows sp.raw vs).filter fun o => ((heapSt sp.raw ob' vs : St Ty).obj o).isRow) = roots := by
    rw [← hroots]
    congr 1
    · refine List.filter_congr fun p hp => ?_
      rw [hob p (h p (List.mem_append_right _ (List.mem_append_right _ (List.mem_append_left _ hp))))]
    · refine List.filter_congr fun p hp => ?_
      rw [hob p (h p (List.mem_append_right _ (List.mem_append_left _ hp)))]
  obtain ⟨e1, e2⟩ := mets_congr (s := heapSt sp.raw ob vs) (s' := heapSt sp.raw ob' vs) 64 0 (renumAll (heapArgs T sp.raw ob vs) (roots.map .old)).2 (by
    rw [hm1]; intro p hp
    exact hob p (h p (List.mem_append_right _ (List.mem_append_right _ (List.mem_append_right _ (List.mem_append_left _ (mem_metIds.2 hp)))))))
  rw [hm1] at e1
  have ef : ((metIds m1).filter fun o => ((heapSt sp.raw ob' vs : St Ty).obj o).isLive) = ((metIds m1).filter fun o => ((heapSt sp.raw ob vs : St Ty).obj o).isLive) := by
    refine List.filter_congr fun p hp => ?_
    rw [hob p (h p (List.mem_append_right _ (List.mem_append_right _ (List.mem_append_right _ (List.mem_append_left _ hp)))))]
  have eall : ((heapFresh d).all fun o => ((heapSt sp.raw ob' vs : St Ty).obj o).isNone) = ((heapFresh d).all fun o => ((heapSt sp.raw ob vs : St Ty).obj o).isNone) := by
    have : ∀ l : List Nat, (∀ i ∈ l, i ∈ heapFresh d) → (l.all fun o => ((heapSt sp.raw ob' vs : St Ty).obj o).isNone) = (l.all fun o => ((heapSt sp.raw ob vs : St Ty).obj o).isNone) := by
      intro l
      induction l with
      | nil => intro _; rfl
      | cons i r ih =>
        intro hl
        rw [List.all_cons, List.all_cons, ih fun j hj => hl j (List.mem_cons_of_mem _ hj), hob i (h i (List.mem_append_right _ (List.mem_append_right _ (List.mem_append_right _ (List.mem_append_right _ (hl i (by simp)))))))]
    exact this _ fun _ h => h
  have en : normW (roots.map .old) (heapArgs T sp.raw ob vs) (heapSt sp.raw ob' vs) = normW (roots.map .old) (heapArgs T sp.raw ob vs) (heapSt sp.raw ob vs) := by
    unfold normW
    simp only [e2]
  unfold heapOf0
  simp only [hargs, hfz, hm0, e0, er, hroots, hm1, e1, ef, eall, en]
theorem heapOf_congr {sp : FSpec Ty} {d : Nat} {vs : List (AV Ty)} {ob ob' : Nat → Obj Ty} (h : ∀ i ∈ (heapOf T sp d vs ob).reads, ob i = ob' i) : heapOf T sp d vs ob = heapOf T sp d vs ob' := by
  unfold heapOf at h ⊢
  cases hr : sp.ro with
  | true => rw [hr, cond_true] at h; exact roOf_congr h
  | false => rw [hr, cond_false] at h; exact heapOf0_congr h

theorem heap_congr {ev ev' : Operand → AV Ty} {ob ob' : Nat → Obj Ty} (he : ∀ x ∈ o.op.operands, ev x = ev' x) (hb : ∀ hc, heapCall specs T o ev ob = some hc → ∀ i ∈ hc.reads, ob i = ob' i) : heapCall specs T o ev ob = heapCall specs T o ev' ob' := by
  unfold heapCall at hb ⊢
  split
  · rename_i f args tys ho
    simp only [ho, Op.operands, Call.operands] at he
    simp only [ho] at hb
    have hev : ∀ x ∈ args.toList, ev x = ev' x := fun x hx => he x (by simp; exact .inr (by simpa using hx))
    have hf : ev f = ev' f := he f (by simp)
    rw [← hf]
    cases hx : calleeOf (ev f) with
    | none => rfl
    | some y =>
    obtain ⟨fn, first, capt⟩ := y
    rw [hx] at hb
    simp only at hb ⊢
    cases hs : specs fn with
    | none => rfl
    | some sp =>
      rw [hs] at hb
      simp only at hb ⊢
      cases hh : sp.heap with
      | false => rfl
      | true =>
        rw [hh] at hb
        simp only [cond_true, Option.some.injEq, forall_eq'] at hb ⊢
        rw [List.map_congr_left hev] at hb ⊢
        exact heapOf_congr hb
  · rfl

theorem prim_congr {ev ev' : Operand → AV Ty} {ob ob' : Nat → Obj Ty} (he : ∀ x ∈ o.op.operands, ev x = ev' x) (hb : ∀ x rs, primCall specs o ev ob = some (x, rs) → ∀ i ∈ rs, ob i = ob' i) : primCall specs o ev ob = primCall specs o ev' ob' := by
  unfold primCall at hb ⊢
  split
  case h_2 => rfl
  rename_i f args tys ho
  simp only [ho, Op.operands, Call.operands] at he
  simp only [ho] at hb
  have hev : ∀ x ∈ args.toList, ev x = ev' x := fun x hx => he x (by simp; exact .inr (by simpa using hx))
  have hf : ev f = ev' f := he f (by simp)
  rw [← hf, ← List.map_congr_left hev]
  split
  case h_2 => rfl
  rename_i fn hfn
  simp only [hfn] at hb
  cases hs : specs fn with
  | none => rfl
  | some sp =>
    simp only [hs] at hb
    simp only
    cases hp : sp.prim with
    | none => rfl
    | some p =>
      simp only [hp] at hb
      simp only
      rw [p.congr (o.dst.getD 0) (args.toList.map ev) ob ob' fun i hi => hb _ _ rfl i hi]
end
end V
namespace V
open Go
section
variable {Ty : Nat → Type} {T : Tab Ty} {P : Program}
variable {w0 : Base} {D0 : Nat → Prop} {N : Nat} {s : St Ty} {a : Act} {w : World} {D : Nat → Prop} {gv : Nat → Option GObj}
variable {specs : Nat → Option (FSpec Ty)} {o : Oper}

theorem eff_sound (hT : TabOK P T) (hC : CmpOK P T) (h : Inv T w0 D0 N s a w D gv) {d : Nat} {c : Bool} {v : AV Ty} {ups : List (Nat × Obj Ty)} (he : effOp T o d s.eval s.obj = .ok c v ups) (hc : c = true) : Does P T w0 D0 N s a w D o v ups := by
  cases ho : o.op with
  | move x => exact snd_move h (.inl ho) he
  | assign x => exact snd_move h (.inr ho) he
  | pick x y z => exact snd_pick h ho he
  | alloc t => exact snd_alloc hT h ho he
  | box t x => exact snd_box h ho he
  | build t ps => exact snd_build hT h ho he
  | buildSlice t n ps => exact snd_buildSlice hT h ho he
  | load t x => exact snd_load hT h ho he hc
  | store t x y => exact snd_store hT h ho he
  | nilCheck x => exact snd_nilCheck h ho he hc
  | binOp op t x y t2 =>
    cases hns : isNilS y with
    | true => exact snd_nilEq hT h ho hns he hc
    | false =>
      cases hnI : isNilI y with
      | true => exact snd_nilErr hT h ho hns hnI he
      | false =>
        cases hnP : isNilP y with
        | true => exact snd_nilPtr hT h ho hns hnI hnP he
        | false =>
        by_cases hi : ∃ k k' m n, s.eval x = .int k m ∧ s.eval y = .int k' n
        · obtain ⟨k, k', m, n, hx, hy⟩ := hi
          exact snd_binOp_int h ho hx hy hns hnI hnP he hc
        · exact snd_binOp_eq hC h ho hi hns hnI hnP he hc
  | unOp op t x => exact snd_unOp h ho he
  | convert s t x => exact snd_convert hT h ho he
  | makeInterface t x => exact snd_makeInterface hT h ho he
  | makeSlice t l m => exact snd_makeSlice hT h ho he hc
  | slice t x lo hi mx => exact snd_slice hT h ho he hc
  | fieldAddr t x f => exact snd_fieldAddr hT h ho he
  | sliceToArrayPointer t x => exact snd_s2ap hT h ho he hc
  | field t x f => exact snd_field hT h ho he
  | indexAddr t x i => exact snd_indexAddr hT h ho he hc
  | index t x i => exact snd_index hT h ho he hc
  | extract x i => exact snd_extract h ho he
  | makeFunc fn x y => exact snd_makeFunc h ho he
  | makeMap t r => exact snd_makeMap h ho he
  | lookup t m x ok => exact snd_lookup hT h ho he
  | mapUpdate t m x y => exact snd_mapUpdate hT h ho he
  | call cl =>
    obtain ⟨callee, args, tys⟩ := cl
    cases callee with
    | builtin b =>
      cases b with
      | len => exact snd_len hT h ho he
      | min => exact snd_min h ho he
      | max => exact snd_max h ho he
      | append => exact snd_append hT h ho he hc
      | copy => exact snd_copy hT h ho he
      | clear => exact snd_clear hT h ho he
      | _ => unfold effOp at he; rw [ho] at he; simp [builtinAV] at he
    | value f => unfold effOp at he; rw [ho] at he; cases he
    | invoke r m => unfold effOp at he; rw [ho] at he; cases he
  | _ => unfold effOp at he; rw [ho] at he; cases he

theorem callE_op {sp : FSpec Ty} {as : List (AV Ty)} {ups : List (Nat × Obj Ty)} (h : callE specs T o s.eval s.obj = some (sp, as, ups)) : ∃ x args tys, o.op = .call { callee := .value x, args := args, argTypes := tys } := by
  unfold callE at h
  split at h
  · rename_i ho; exact ⟨_, _, _, ho⟩
  · cases h

theorem asE_op {v : AV Ty} {ups : List (Nat × Obj Ty)} (h : asE T o s.eval s.obj = some (v, ups)) : ∃ x args tys, o.op = .call { callee := .value x, args := args, argTypes := tys } := by
  unfold asE at h
  split at h
  · rename_i ho; exact ⟨_, _, _, ho⟩
  · cases h

/-- a call that is told by what it does to the caller's objects -/
theorem snd_prim (hS : SpecsOK P T specs) (h : Inv T w0 D0 N s a w D gv) {v : AV Ty} {ups : List (Nat × Obj Ty)} {rs : List Nat} (he : primCall specs o s.eval s.obj = some (some (true, v, ups), rs))
    {K : Act → World → Prop} {Q : Exit → Act → World → Prop} (hd : ∀ d, o.dst = some d → d < N) (hK : ∀ a' w', Gam T w0 D0 N (s.put o.dst v ups) a' w' → K a' w') : o.wp P a w K Q := by
  unfold primCall at he
  split at he
  case h_2 => cases he
  rename_i x args tys ho
  split at he
  case h_2 => cases he
  rename_i f hx
  split at he
  case h_2 => cases he
  rename_i sp hsp
  split at he
  case h_2 => cases he
  rename_i p hp
  simp only [Option.some.injEq, Prod.mk.injEq] at he
  obtain ⟨he, _⟩ := he
  have hfv := h.eval x
  rw [hx] at hfv
  have hfv := hfv.func_inv
  obtain ⟨⟨_, _, hP⟩, hcall⟩ := hS.fn f sp hsp
  have enter : (execOp a.eval o).run P w = .ok (.enter f (args.toList.map a.eval).toArray) w := by
    simp only [execOp, ho, resolve, hfv, Deferred.ofValue, Sem.run_bind, Sem.run_pure, Result.andThen_ok, invoke]
    have : (#[] ++ args.map a.eval ++ #[] : Array Value) = (args.toList.map a.eval).toArray := by apply Array.ext'; simp
    rw [this]
    exact hcall _ _
  unfold Oper.wp
  rw [enter, Oper.upon_enter]
  refine (hP p hp (o.dst.getD 0) (args.toList.map s.eval) (args.toList.map a.eval) v ups h (by simp) (fun i u hu => ?_) he).mono ?_
  · rw [List.getElem?_map] at hu
    cases hx : args.toList[i]? with
    | none => rw [hx] at hu; cases hu
    | some y =>
      rw [hx] at hu
      simp only [Option.map_some, Option.some.injEq] at hu
      subst hu
      rw [List.getD_eq_getElem?_getD, List.getElem?_map, hx]
      exact h.eval y
  · rintro e w' ⟨y, D', gv', rfl, hv, hinv⟩
    exact hK _ _ ⟨_, _, hinv.put_ups hd hv⟩

/-- one operation -/
theorem op_sound (hT : TabOK P T) (hS : SpecsOK P T specs) (h : Gam T w0 D0 N s a w) {k : Nat} {s' : St Ty} (hd : ∀ d, o.dst = some d → d < N) (hk : opK specs T k o s some = some s')
    {K : Act → World → Prop} {Q : Exit → Act → World → Prop} (hK : ∀ a' w', Gam T w0 D0 N s' a' w' → K a' w') : o.wp P a w K Q := by
  obtain ⟨D, gv, h⟩ := h
  unfold opK at hk
  split at hk
  · rename_i x rs hp
    split at hk
    case h_2 => cases hk
    rename_i c v ups
    cases c with
    | false => cases hk
    | true =>
      simp only [cond_true, Option.some.injEq] at hk
      subst hk
      exact snd_prim hS h hp hd hK
  split at hk
  · rename_i hc he
    cases hok : hc.ok with
    | false => rw [hok] at hk; cases hk
    | true =>
      rw [hok, cond_true, hc.sp.natH] at hk
      cases hr : hc.sp.runH k hc.roots.length hc.n (NSt Ty) some with
      | none => rw [hr] at hk; cases hk
      | some n =>
        rw [hr] at hk
        simp only [Option.bind_some] at hk
        split at hk
        case h_2 => cases hk
        rename_i v ups hb
        simp only [Option.some.injEq] at hk
        subst hk
        exact snd_heap hT hS h he hok hr hb hd hK
  split at hk
  · rename_i sp args ups hc
    obtain ⟨f, as, tys, ho⟩ := callE_op hc
    rw [sp.nat] at hk
    cases hr : sp.runK k args (AV Ty) some with
    | none => rw [hr] at hk; cases hk
    | some r =>
      rw [hr] at hk
      simp only [Option.bind_some, Option.some.injEq] at hk
      subst hk
      exact snd_call hT hS h ho hc hr hd hK
  · split at hk
    · rename_i v ups ha
      simp only [Option.some.injEq] at hk
      subst hk
      obtain ⟨x, as, tys, ho⟩ := asE_op ha
      exact snd_as hS h ho ha hd hK
    split at hk
    · cases hk
    · rename_i c v ups he
      cases c with
      | false => cases hk
      | true =>
        simp only [cond_true, Option.some.injEq] at hk
        subst hk
        obtain ⟨x, w', D', gv', hrun, hv, hinv, _⟩ := eff_sound hT hS.cmp h he rfl
        have := hinv.put_ups hd hv
        rcases hrun with hrun | ⟨hrun, rfl⟩
        · exact wp_value hrun (hK _ _ ⟨_, _, this⟩)
        · exact wp_skip' hrun (hK _ _ ⟨_, _, this⟩)

theorem set_same {t : Nat} {v : AV Ty} (h : s.env t = v) : s.set t v = s := by
  cases s with
  | mk env obj =>
    simp only [St.set, St.mk.injEq, and_true]
    funext i
    by_cases e : i = t
    · subst e; simp only [beq_self_eq_true, cond_true]; exact h.symm
    · have : (i == t) = false := by simpa using e
      simp [this]

/-- whether a guarded operation is carried out -/
theorem guard_sound {R : Type} (h : Gam T w0 D0 N s a w) {ops : List Oper} {yes no : St Ty → Option R} {r : R} (hg : guardK ops o s yes no = some r) :
    (Region.wanted o (yielded ops.toArray a.tmps) = true ∧ yes s = some r) ∨ (Region.wanted o (yielded ops.toArray a.tmps) = false ∧ no s = some r) := by
  obtain ⟨D, gv, h⟩ := h
  unfold guardK at hg
  unfold Region.wanted
  split at hg
  · rename_i e; rw [e]; exact .inl ⟨rfl, hg⟩
  · rename_i g want e
    rw [e]
    simp only
    split at hg
    case h_2 => cases hg
    rename_i t ht
    have hy : ∀ x, a.tmps.getD t Go.undef = x → (∀ b, x = .bool b → yielded ops.toArray a.tmps g = some b) ∧ (x = Go.undef → yielded ops.toArray a.tmps g = none) := by
      intro x hx
      have hb : ((ops.toArray[g]?).bind (·.dst)) = some t := by simpa using ht
      refine ⟨fun b e => ?_, fun e => ?_⟩
      · subst e
        unfold yielded
        rw [hb]
        simp only [Option.bind_some]
        have : a.tmps[t]? = some (.bool b) := by
          cases hq : a.tmps[t]? with
          | none => simp [Array.getD_eq_getD_getElem?, hq, Go.undef] at hx
          | some y => simp [Array.getD_eq_getD_getElem?, hq] at hx; rw [hx]
        rw [this]
      · subst e
        unfold yielded
        rw [hb]
        simp only [Option.bind_some]
        cases hq : a.tmps[t]? with
        | none => rfl
        | some y =>
          simp [Array.getD_eq_getD_getElem?, hq] at hx
          subst hx
          rfl
    have hv := h.env t
    split at hg
    · rename_i b hb
      rw [hb] at hv
      have := (hy _ hv.bool_inv).1 b rfl
      rw [this]
      cases b <;> cases want <;> simp only [cond_true, cond_false] at hg <;> rw [set_same hb] at hg
      · exact .inl ⟨rfl, hg⟩
      · exact .inr ⟨rfl, hg⟩
      · exact .inr ⟨rfl, hg⟩
      · exact .inl ⟨rfl, hg⟩
    · rename_i hb
      rw [hb] at hv
      have hu : a.tmps.getD t Go.undef = Go.undef := by
        cases hv with
        | elem hv => generalize a.tmps.getD t Go.undef = y at hv; cases hv with
          | skp => rfl
          | one _ h => cases h
          | agg h _ => cases h
      have := (hy _ hu).2 rfl
      rw [this]
      exact .inr ⟨rfl, hg⟩
    · cases hg

theorem put_skp (h : Gam T w0 D0 N s a w) (hd : ∀ d, o.dst = some d → d < N) : Gam T w0 D0 N (s.put o.dst .skp []) (a.put o.dst Go.undef) w := by
  obtain ⟨D, gv, h⟩ := h
  exact ⟨D, gv, h.put hd (.elem .skp)⟩

/-- operations, one behind the other -/
theorem ops_sound (hT : TabOK P T) (hS : SpecsOK P T specs) {k : Nat} {ops : List Oper} {Q : Exit → Act → World → Prop} : ∀ (todo : List Oper) {s s' : St Ty} {a : Act} {w : World}, (∀ o ∈ todo, ∀ d, o.dst = some d → d < N) → Gam T w0 D0 N s a w →
    opsK specs T k ops todo s some = some s' → (∀ a' w', Gam T w0 D0 N s' a' w' → Q .normal a' w') → wpList P ops.toArray Q todo a w := by
  intro todo
  induction todo with
  | nil =>
    intro s s' a w _ h hk hQ
    simp only [opsK, Option.some.injEq] at hk
    subst hk
    exact hQ _ _ h
  | cons o r ih =>
    intro s s' a w hd h hk hQ
    simp only [opsK] at hk
    unfold wpList
    have hr : ∀ o ∈ r, ∀ d, o.dst = some d → d < N := fun o ho => hd o (List.mem_cons_of_mem _ ho)
    rcases guard_sound h hk with ⟨hw, hk⟩ | ⟨hw, hk⟩
    · rw [if_pos hw]
      left
      have hnat : opK specs T k o s (fun s => opsK specs T k ops r s some) = (opK specs T k o s some).bind fun s => opsK specs T k ops r s some := by
        unfold opK
        split
        · rename_i x rs _
          cases x with
          | none => rfl
          | some y => obtain ⟨c, v, ups⟩ := y; cases c <;> rfl
        split
        · rename_i hc _
          cases hc.ok with
          | false => rfl
          | true =>
            simp only [cond_true]
            rw [hc.sp.natH k _ _ (St Ty), hc.sp.natH k _ _ (St Ty)]
            cases hc.sp.runH k hc.roots.length hc.n (NSt Ty) some with
            | none => rfl
            | some n =>
              simp only [Option.bind_some]
              split <;> rfl
        split
        · rename_i sp args ups _
          rw [sp.nat k args (St Ty), sp.nat k args (St Ty)]
          cases sp.runK k args (AV Ty) some <;> rfl
        · split
          · rfl
          · split
            · rfl
            · rename_i c _ _ _; cases c <;> rfl
      rw [hnat] at hk
      cases ho : opK specs T k o s some with
      | none => rw [ho] at hk; cases hk
      | some s1 =>
        rw [ho] at hk
        simp only [Option.bind_some] at hk
        exact op_sound hT hS h (hd o (by simp)) ho fun a' w' h' => ih hr h' hk hQ
    · have hw' : ¬ (Region.wanted o (yielded ops.toArray a.tmps) = true) := by rw [hw]; simp
      rw [if_neg hw']
      exact ih hr (put_skp h (hd o (by simp))) hk hQ
end
end V
namespace V
open Go
section
variable {Ty : Nat → Type} {T : Tab Ty} {P : Program}
variable {specs : Nat → Option (FSpec Ty)}

/-! ### an operation hangs on its operands, and on the objects that it looks into -/

theorem mem_shares_iface {t : Nat} {v : AV Ty} {i : Nat} (h : i ∈ v.shares) : i ∈ (AV.iface t v).shares := by
  cases v with
  | ptr o p => simp [AV.shares] at h
  | _ => exact h
theorem errOf_congr {ob ob' : Nat → Obj Ty} {t : Nat} {v : AV Ty} (h : ∀ i ∈ (AV.iface t v).shares, ob i = ob' i) : errOf T ob t v = errOf T ob' t v := by
  unfold errOf
  cases v with
  | ptr o p =>
    have e := h o (by simp [AV.shares])
    cases p with
    | nil => simp only [e]
    | cons _ _ => rfl
  | _ => rfl
theorem settle_congr {ob ob' : Nat → Obj Ty} {v : AV Ty} (h : ∀ i ∈ v.shares, ob i = ob' i) : settle T ob v = settle T ob' v := by
  induction v with
  | row o => simp only [settle]; rw [h o (by simp [AV.shares])]
  | sub o lo len => simp only [settle]; rw [h o (by simp [AV.shares])]
  | view o p t n lo len => simp only [settle]; rw [h o (by simp [AV.shares])]
  | cons a b i1 i2 => simp only [settle]; rw [i1 fun i hi => h i (by simp [AV.shares, hi]), i2 fun i hi => h i (by simp [AV.shares, hi])]
  | tup a i1 => simp only [settle]; rw [i1 fun i hi => h i (by simpa [AV.shares] using hi)]
  | iface t a i1 => simp only [settle]; rw [i1 fun i hi => h i (mem_shares_iface hi), errOf_congr h]
  | _ => rfl

theorem lenOf_congr {ob ob' : Nat → Obj Ty} {v : AV Ty} (h : ∀ i ∈ v.shares, ob i = ob' i) : lenOf ob v = lenOf ob' v := by
  cases v with
  | row o => simp only [lenOf]; rw [h o (by simp [AV.shares])]
  | _ => rfl

theorem freeze_congr {ob ob' : Nat → Obj Ty} {l : List Nat} (h : ∀ i ∈ l, ob i = ob' i) : l.map (freeze ob) = l.map (freeze ob') :=
  List.map_congr_left fun i hi => by simp only [freeze]; rw [h i hi]

theorem mem_shares_ids (v : AV Ty) : ∀ i ∈ v.shares, i ∈ v.ids := by
  induction v with
  | cons a b i1 i2 => intro i hi; simp only [AV.shares, List.mem_append] at hi; simp only [AV.ids, List.mem_append]; exact hi.imp (i1 i) (i2 i)
  | tup a i1 => exact i1
  | iface t a i1 =>
    intro i hi
    cases a with
    | ptr o p => simpa [AV.shares, AV.ids] using hi
    | _ => exact i1 i hi
  | row o => intro i hi; simpa [AV.shares, AV.ids] using hi
  | sub o lo len => intro i hi; simpa [AV.shares, AV.ids] using hi
  | view o p t n lo len => intro i hi; simpa [AV.shares, AV.ids] using hi
  | _ => intro i hi; simp [AV.shares] at hi

theorem evS_congr {t : Nat} {ev ev' : Operand → AV Ty} {x : Operand} (h : ev x = ev' x) : evS T t ev x = evS T t ev' x := by
  unfold evS
  split
  · split
    · rfl
    · exact h
  · rfl
  · exact h
theorem evS_shares {t : Nat} {ev : Operand → AV Ty} {x : Operand} : ∀ i ∈ (evS T t ev x).shares, i ∈ (ev x).shares := by
  intro i hi
  unfold evS at hi
  split at hi
  · split at hi
    · simp [AV.shares] at hi
    · exact hi
  · split at hi
    · simp [AV.shares] at hi
    · simp [AV.shares] at hi
  · exact hi

theorem eff_congr {o : Oper} {d : Nat} {ev ev' : Operand → AV Ty} {ob ob' : Nat → Obj Ty} (he : ∀ x ∈ o.op.operands, ev x = ev' x) (hb : ∀ i ∈ readsOf o d ev, ob i = ob' i) : effOp T o d ev ob = effOp T o d ev' ob' := by
  unfold effOp
  cases ho : o.op <;> simp only [ho, Op.operands, readsOf] at he hb <;> (try simp only)
  case move x => 
    unfold moveE
    split
    · rfl
    · rw [he x (by simp)]
  case assign x =>
    unfold moveE
    split
    · rfl
    · rw [he x (by simp)]
  case pick x y z => rw [he x (by simp), he y (by simp), he z (by simp)]
  case alloc t => rw [hb d (by simp)]
  case box t x => rw [hb d (by simp), he x (by simp)]
  case build t ps =>
    have : (ps.toList.map fun p => (p.1, ev p.2)) = ps.toList.map fun p => (p.1, ev' p.2) := List.map_congr_left fun p hp => by rw [he p.2 (by simp; exact ⟨p.1, by simpa using hp⟩)]
    rw [this]
  case buildSlice t n ps =>
    have hev : ∀ p ∈ ps.toList, ev p.2 = ev' p.2 := fun p hp => he p.2 (by simp; exact ⟨p.1, by simpa using hp⟩)
    have h1 : (ps.toList.map fun p => (p.1, settle T ob (ev p.2))) = ps.toList.map fun p => (p.1, settle T ob' (ev' p.2)) := List.map_congr_left fun p hp => by
      rw [← hev p hp, settle_congr fun i hi => hb i (List.mem_cons_of_mem _ (List.mem_flatMap.2 ⟨p, hp, hi⟩))]
    have h2 : (ps.toList.flatMap fun p => (ev p.2).shares) = ps.toList.flatMap fun p => (ev' p.2).shares := by
      rw [List.flatMap_def, List.flatMap_def, List.map_congr_left fun p hp => by rw [hev p hp]]
    have h3 : (ps.toList.flatMap fun p => (ev' p.2).shares).map (freeze ob) = (ps.toList.flatMap fun p => (ev' p.2).shares).map (freeze ob') := by
      rw [← h2]; exact freeze_congr fun i hi => hb i (List.mem_cons_of_mem _ hi)
    rw [hb d (by simp), h1, h2, h3]
  case load t x =>
    rw [← he x (by simp)]
    cases hx : ev x <;> simp only [hx, AV.ids] at hb <;> simp only
    · rw [hb _ (by simp)]
    · rw [hb _ (by simp)]
  case store t x y =>
    rw [← he x (by simp), ← evS_congr (he y (by simp))]
    have hsh := evS_shares (T := T) (t := t) (ev := ev) (x := y)
    cases hx : ev x <;> simp only [hx, AV.ids] at hb <;> simp only
    · rw [hb _ (by simp)]
    · rw [hb _ (by simp), settle_congr (v := evS T t ev y) fun i hi => hb i (by simp [hsh i hi]), freeze_congr (l := (evS T t ev y).shares) fun i hi => hb i (by simp [hsh i hi])]
  case nilCheck x => rw [he x (by simp)]
  case binOp op t x y t2 => rw [he x (by simp), he y (by simp)]
  case unOp op t x => rw [he x (by simp)]
  case convert a b x =>
    rw [← he x (by simp)]
    have hs : settle T ob (ev x) = settle T ob' (ev x) := settle_congr hb
    clear he hb
    revert hs
    generalize ev x = v
    intro hs
    split
    · rfl
    · rw [hs]
    · rfl
  case makeInterface t x => rw [he x (by simp)]
  case makeSlice t l m => rw [he l (by simp), he m (by simp), hb d (by simp)]
  case slice t x lo hi mx =>
    have h1 : lo.map ev = lo.map ev' := by cases lo with | none => rfl | some y => simp only [Option.map_some]; rw [he y (by simp)]
    have h2 : hi.map ev = hi.map ev' := by cases hi with | none => rfl | some y => simp only [Option.map_some]; rw [he y (by simp)]
    have h3 : mx.map ev = mx.map ev' := by cases mx with | none => rfl | some y => simp only [Option.map_some]; rw [he y (by simp)]
    rw [h1, h2, h3, ← he x (by simp)]
    have hsub : subAV T t ob (ev x) (lo.map ev') (hi.map ev') (mx.map ev') = subAV T t ob' (ev x) (lo.map ev') (hi.map ev') (mx.map ev') := by
      unfold subAV
      cases hx : ev x with
      | row o1 =>
        rw [hx] at hb
        have hbi := hb o1 (by simp [AV.shares])
        simp only [hbi]
      | sub o1 lo1 len1 =>
        rw [hx] at hb
        have hbi := hb o1 (by simp [AV.shares])
        cases lo1 with
        | zero => simp only [hbi]
        | succ _ => rfl
      | _ => rfl
    rw [hsub]
    simp only [sliceAV]
    cases hx : ev x with
    | rptr o1 i1 p1 =>
      rw [hx] at hb
      have hbi := hb o1 (by simp)
      have e1 : settle T ob (.rptr o1 i1 p1 : AV Ty) = settle T ob' (.rptr o1 i1 p1) := rfl
      have e2 : (AV.rptr o1 i1 p1 : AV Ty).shares = [] := rfl
      cases p1 with
      | nil => simp only [e1, e2, List.map_nil, hbi]
      | cons q r => simp only [e1, e2, List.map_nil]
    | _ =>
      rw [hx] at hb
      simp only at hb
      rw [settle_congr hb, freeze_congr hb]
  case makeMap t r =>
    cases r with
    | none => simp only; rw [hb d (by simp)]
    | some x => rfl
  case lookup t m x ok =>
    cases ok with
    | false => rfl
    | true =>
      simp only
      rw [← he m (by simp), ← he x (by simp)]
      cases hm : ev m with
      | mapp i =>
        rw [hm] at hb
        have hbi := hb i (by simp [AV.ids])
        cases T.td t <;> try rfl
        cases ev x <;> try rfl
        rename_i q n
        cases q <;> try rfl
        simp only [hbi]
      | _ => cases T.td t <;> rfl
  case mapUpdate t m x y =>
    rw [← he m (by simp), ← he x (by simp)]
    cases hm : ev m with
    | mapp i =>
      rw [hm] at hb
      have hbi := hb i (by simp [AV.ids])
      cases T.td t <;> try rfl
      cases ev x <;> try rfl
      rename_i q n
      cases q <;> try rfl
      simp only [hbi]
    | _ => cases T.td t <;> rfl
  case fieldAddr t x f => rw [he x (by simp)]
  case sliceToArrayPointer t x => rw [← he x (by simp), settle_congr hb, freeze_congr hb]
  case field t x f => rw [he x (by simp)]
  case indexAddr t x i =>
    rw [← he x (by simp), ← he i (by simp)]
    cases hx : ev x <;> simp only [hx, AV.shares] at hb <;> simp only
    · rw [hb _ (by simp)]
    · rw [hb _ (by simp)]
    · rw [hb _ (by simp)]
  case index t x i => rw [he x (by simp), he i (by simp)]
  case extract x i => rw [he x (by simp)]
  case makeFunc fn x y =>
    cases fn <;> try rfl
    simp only
    have hargs : (x ++ y).toList.map ev = (x ++ y).toList.map ev' := List.map_congr_left fun z hz => he z (by simpa using hz)
    rw [hargs]
  case call c =>
    obtain ⟨callee, args, tys⟩ := c
    cases callee with
    | builtin b =>
      simp only [Call.operands] at he
      simp only
      have hargs : args.toList.map ev = args.toList.map ev' := List.map_congr_left fun x hx => he x (by simpa using hx)
      rw [← hargs]
      have hsh : ∀ x ∈ args.toList, ∀ i ∈ (ev x).shares, (b = .append → ob d = ob' d) ∧ ob i = ob' i := by
        intro x hx i hi
        cases b <;> first | exact ⟨fun e => (by cases e), hb i (List.mem_flatMap.2 ⟨x, hx, hi⟩)⟩ | exact ⟨fun _ => hb d (by simp), hb i (List.mem_cons_of_mem _ (List.mem_flatMap.2 ⟨x, hx, hi⟩))⟩
      have hd : b = .append → ob d = ob' d := fun e => by subst e; exact hb d (by simp)
      obtain ⟨al⟩ := args
      simp only at hsh
      clear hb he hargs
      cases b <;> try rfl
      case len =>
        match al with
        | [x] =>
          simp only [List.map_cons, List.map_nil, builtinAV]
          rw [lenOf_congr fun i hi => (hsh x (by simp) i hi).2]
        | [] => rfl
        | x :: y :: r => rfl
      case clear =>
        match al with
        | [x] =>
          simp only [List.map_cons, List.map_nil, builtinAV]
          generalize tys.toList = tl
          cases hx : ev x with
          | sub o1 lo len =>
            have := (hsh x (by simp) o1 (by simp [hx, AV.shares])).2
            rcases tl with _ | ⟨t, _ | ⟨t2, r⟩⟩
            · rfl
            · simp only [this]
            · rfl
          | _ => rcases tl with _ | ⟨t, _ | ⟨t2, r⟩⟩ <;> rfl
        | [] => rfl
        | x :: y :: r => rfl
      case append =>
        match al with
        | [x, y] =>
          simp only [List.map_cons, List.map_nil, builtinAV]
          rw [settle_congr fun i hi => (hsh y (by simp) i hi).2]
          have key : ∀ {e : Nat} (zs : List (Ty e)) (c : Nat → Bool), appTo (T.frz.contains d) d ob (ev x) zs c = appTo (T.frz.contains d) d ob' (ev x) zs c := by
            intro e zs c
            unfold appTo
            rw [hd rfl]
            cases hx : ev x <;> try rfl
            rename_i o1
            have := (hsh x (by simp) o1 (by simp [hx, AV.shares])).2
            simp only [this]
          have key2 : ∀ {e : Nat} (zs : List (Ty e)) (o1 lo i : Nat), ev x = .sub o1 lo i → subApp ob o1 lo i zs = subApp ob' o1 lo i zs := by
            intro e zs o1 lo i hx
            unfold subApp
            rw [(hsh x (by simp) o1 (by simp [hx, AV.shares])).2]
          cases hx : ev x with
          | sub o1 lo i =>
            rw [hx] at key
            simp only [key, key2 _ _ _ _ hx]
          | _ =>
            rw [hx] at key
            simp only [key]
        | [] => rfl
        | [x] => rfl
        | x :: y :: z :: r => rfl
      case copy =>
        match al with
        | [x, y] =>
          simp only [List.map_cons, List.map_nil, builtinAV]
          rw [settle_congr fun i hi => (hsh y (by simp) i hi).2]
          cases hx : ev x <;> try rfl
          · rename_i o1
            have := (hsh x (by simp) o1 (by simp [hx, AV.shares])).2
            simp only [this]
          · rename_i o1 _ _ _ _ _
            have := (hsh x (by simp) o1 (by simp [hx, AV.shares])).2
            simp only [this]
        | [] => rfl
        | [x] => rfl
        | x :: y :: z :: r => rfl
    | _ => rfl

theorem call_congr {o : Oper} {d : Nat} {ev ev' : Operand → AV Ty} {ob ob' : Nat → Obj Ty} (he : ∀ x ∈ o.op.operands, ev x = ev' x) (hb : ∀ i ∈ readsOf o d ev, ob i = ob' i) : callE specs T o ev ob = callE specs T o ev' ob' := by
  unfold callE
  split
  · rename_i f args tys ho
    simp only [ho, Op.operands, Call.operands] at he
    simp only [ho, readsOf] at hb
    have hev : ∀ x ∈ args.toList, ev x = ev' x := fun x hx => he x (by simp; exact .inr (by simpa using hx))
    have h1 : (args.toList.map fun a => settle T ob (ev a)) = args.toList.map fun a => settle T ob' (ev' a) := List.map_congr_left fun x hx => by
      rw [← hev x hx, settle_congr fun i hi => hb i (List.mem_flatMap.2 ⟨x, hx, hi⟩)]
    have h2 : (args.toList.flatMap fun a => (ev a).shares) = args.toList.flatMap fun a => (ev' a).shares := by
      rw [List.flatMap_def, List.flatMap_def, List.map_congr_left fun p hp => by rw [hev p hp]]
    have h3 : (args.toList.flatMap fun a => (ev' a).shares).map (freeze ob) = (args.toList.flatMap fun a => (ev' a).shares).map (freeze ob') := by
      rw [← h2]; exact freeze_congr fun i hi => hb i hi
    have h4 : (args.toList.all fun a => (settle T ob (ev a)).ids.isEmpty) = args.toList.all fun a => (settle T ob' (ev' a)).ids.isEmpty := by
      have : ∀ (l : List Operand), (l.all fun a => (settle T ob (ev a)).ids.isEmpty) = ((l.map fun a => settle T ob (ev a)).all fun v => v.ids.isEmpty) := fun l => by simp [List.all_map, Function.comp_def]
      rw [this, h1]
      simp [List.all_map, Function.comp_def]
    have hf : ev f = ev' f := he f (by simp)
    rw [hf, h1, h2, h3, h4]
  · rfl
end
end V
namespace V
open Go

/-! ### writes to one place, some of them carried out -/
def foldL {X : Type} : List (X → X) → (Nat → Bool) → X → X
  | [], _, x => x
  | f :: r, L, x => foldL r (fun j => L (j + 1)) (if L 0 = true then f x else x)

theorem foldL_agree {X : Type} : ∀ (fs : List (X → X)) (L M : Nat → Bool) (x : X), (∀ j f, fs[j]? = some f → f ≠ id → L j = M j) → foldL fs L x = foldL fs M x := by
  intro fs
  induction fs with
  | nil => intro L M x _; rfl
  | cons f r ih =>
    intro L M x h
    simp only [foldL]
    have h0 : (if L 0 = true then f x else x) = (if M 0 = true then f x else x) := by
      by_cases hf : f = id
      · subst hf; simp
      · rw [h 0 f rfl hf]
    rw [h0]
    exact ih _ _ _ fun j g hg hne => h (j + 1) g (by simpa using hg) hne

theorem foldL_id {X : Type} : ∀ (fs : List (X → X)) (L : Nat → Bool) (x : X), (∀ j g, fs[j]? = some g → L j = true → g = id) → foldL fs L x = x := by
  intro fs
  induction fs with
  | nil => intro L x _; rfl
  | cons f r ih =>
    intro L x h
    simp only [foldL]
    have h0 : (if L 0 = true then f x else x) = x := by
      by_cases hl : L 0 = true
      · rw [if_pos hl, h 0 f rfl hl]; rfl
      · rw [if_neg hl]
    rw [h0]
    exact ih _ _ fun j g hg hl => h (j + 1) g (by simpa using hg) hl

theorem foldL_insert {X : Type} : ∀ (fs : List (X → X)) (i : Nat) (f : X → X) (L : Nat → Bool) (x : X), fs[i]? = some f → L i = false → (∀ j g, i < j → fs[j]? = some g → L j = true → g = id) →
    foldL fs (fun j => j == i || L j) x = f (foldL fs L x) := by
  intro fs
  induction fs with
  | nil => intro i f L x h; simp at h
  | cons f0 r ih =>
    intro i f L x h hl hid
    cases i with
    | zero =>
      simp only [List.getElem?_cons_zero, Option.some.injEq] at h
      subst h
      simp only [foldL, hl, Bool.false_eq_true, if_false, beq_self_eq_true, Bool.true_or, if_true]
      have e1 : foldL r (fun j => L (j + 1)) x = x := foldL_id r _ x fun j g hg hlj => hid (j + 1) g (by omega) (by simpa using hg) hlj
      rw [e1]
      exact foldL_id r _ _ fun j g hg hlj => hid (j + 1) g (by omega) (by simpa using hg) (by simpa using hlj)
    | succ i =>
      simp only [foldL]
      have h0 : (if ((0 == i + 1 || L 0) : Bool) = true then f0 x else x) = (if L 0 = true then f0 x else x) := by simp
      rw [h0]
      have := ih i f (fun j => L (j + 1)) (if L 0 = true then f0 x else x) (by simpa using h) hl fun j g hj hg hlj => hid (j + 1) g (by omega) (by simpa using hg) hlj
      rw [← this]
      congr 1
      funext j
      simp

section
variable {Ty : Nat → Type} {T : Tab Ty} {P : Program}
variable {specs : Nat → Option (FSpec Ty)} {k : Nat}

structure Rec (Ty : Nat → Type) where
  v : AV Ty
  ups : List (Nat × Obj Ty)

def selGo : List Oper → List (Rec Ty) → (Nat → Bool) → St Ty → St Ty
  | o :: r, c :: cs, L, s => selGo r cs (fun j => L (j + 1)) (if L 0 = true then s.put o.dst c.v c.ups else s)
  | _, _, _, s => s

def envW (t : Nat) (o : Oper) (c : Rec Ty) : AV Ty → AV Ty := if o.dst = some t then fun _ => c.v else id
def objW (x : Nat) (c : Rec Ty) : Obj Ty → Obj Ty := if x ∈ c.ups.map (·.1) then fun y => Obj.upd (fun _ => y) c.ups x else id

theorem put_env (s : St Ty) (o : Oper) (c : Rec Ty) (t : Nat) : (s.put o.dst c.v c.ups).env t = envW t o c (s.env t) := by
  unfold envW St.put
  cases hd : o.dst with
  | none => rfl
  | some d =>
    by_cases h : t = d
    · subst h; simp
    · have : (t == d) = false := by simpa using h
      have h2 : ¬ (some d = some t) := fun e => h (Option.some.inj e).symm
      simp only [this, cond_false, h2, if_false, id]

theorem upd_local (ups : List (Nat × Obj Ty)) (x : Nat) : ∀ (ob ob' : Nat → Obj Ty), ob x = ob' x → Obj.upd ob ups x = Obj.upd ob' ups x := by
  induction ups with
  | nil => intro ob ob' h; exact h
  | cons p r ih =>
    intro ob ob' h
    obtain ⟨i, y⟩ := p
    simp only [Obj.upd]
    apply ih
    simp only [h]
theorem upd_out (ups : List (Nat × Obj Ty)) (x : Nat) (hx : x ∉ ups.map (·.1)) : ∀ (ob : Nat → Obj Ty), Obj.upd ob ups x = ob x := by
  induction ups with
  | nil => intro ob; rfl
  | cons p r ih =>
    intro ob
    obtain ⟨i, y⟩ := p
    simp only [List.map_cons, List.mem_cons, not_or] at hx
    simp only [Obj.upd]
    rw [ih hx.2]
    have : (x == i) = false := by simpa using hx.1
    simp [this]
theorem put_obj (s : St Ty) (o : Oper) (c : Rec Ty) (x : Nat) : (s.put o.dst c.v c.ups).obj x = objW x c (s.obj x) := by
  unfold objW St.put
  simp only
  by_cases hx : x ∈ c.ups.map (·.1)
  · rw [if_pos hx]; exact upd_local _ _ _ _ rfl
  · rw [if_neg hx]; exact upd_out _ _ hx _

theorem sel_env (t : Nat) : ∀ (ops : List Oper) (recs : List (Rec Ty)) (L : Nat → Bool) (s : St Ty), (selGo ops recs L s).env t = foldL (ops.zipWith (envW t) recs) L (s.env t) := by
  intro ops
  induction ops with
  | nil => intro recs L s; cases recs <;> rfl
  | cons o r ih =>
    intro recs L s
    cases recs with
    | nil => rfl
    | cons c cs =>
      simp only [selGo, List.zipWith_cons_cons, foldL, ih]
      congr 1
      split
      · exact put_env s o c t
      · rfl
theorem sel_obj (x : Nat) : ∀ (ops : List Oper) (recs : List (Rec Ty)) (L : Nat → Bool) (s : St Ty), (selGo ops recs L s).obj x = foldL (ops.zipWith (fun _ c => objW x c) recs) L (s.obj x) := by
  intro ops
  induction ops with
  | nil => intro recs L s; cases recs <;> rfl
  | cons o r ih =>
    intro recs L s
    cases recs with
    | nil => rfl
    | cons c cs =>
      simp only [selGo, List.zipWith_cons_cons, foldL, ih]
      congr 1
      split
      · exact put_obj s o c x
      · rfl

theorem sel_insert {ops : List Oper} {recs : List (Rec Ty)} {L : Nat → Bool} {s : St Ty} {i : Nat} {o : Oper} {c : Rec Ty} (ho : ops[i]? = some o) (hc : recs[i]? = some c) (hl : L i = false)
    (hd : ∀ j o', i < j → ops[j]? = some o' → L j = true → o.dst ≠ none → o'.dst ≠ o.dst)
    (hu : ∀ j c', i < j → recs[j]? = some c' → L j = true → ∀ x ∈ c.ups.map (·.1), x ∉ c'.ups.map (·.1)) :
    selGo ops recs (fun j => j == i || L j) s = (selGo ops recs L s).put o.dst c.v c.ups := by
  have he : ∀ t, (selGo ops recs (fun j => j == i || L j) s).env t = ((selGo ops recs L s).put o.dst c.v c.ups).env t := by
    intro t
    rw [sel_env, put_env (selGo ops recs L s) o c t, sel_env]
    by_cases ht : o.dst = some t
    · refine foldL_insert _ i (envW t o c) L _ (by rw [List.getElem?_zipWith, ho, hc]) hl fun j g hj hg hlj => ?_
      rw [List.getElem?_zipWith] at hg
      split at hg
      · rename_i o' c' h1 h2
        cases hg
        have := hd j o' hj h1 hlj (by rw [ht]; simp)
        unfold envW
        rw [if_neg (by rw [← ht]; exact this)]
      · cases hg
    · have hid : envW t o c = id := by unfold envW; rw [if_neg ht]
      rw [hid]
      refine foldL_agree _ _ _ _ fun j g hg hne => ?_
      by_cases hji : j = i
      · subst hji
        rw [List.getElem?_zipWith, ho, hc] at hg
        cases hg
        exact absurd hid hne
      · have : (j == i) = false := by simpa using hji
        simp [this]
  have hb : ∀ x, (selGo ops recs (fun j => j == i || L j) s).obj x = ((selGo ops recs L s).put o.dst c.v c.ups).obj x := by
    intro x
    rw [sel_obj, put_obj (selGo ops recs L s) o c x, sel_obj]
    by_cases hx : x ∈ c.ups.map (·.1)
    · refine foldL_insert _ i (objW x c) L _ (by rw [List.getElem?_zipWith, ho, hc]) hl fun j g hj hg hlj => ?_
      rw [List.getElem?_zipWith] at hg
      split at hg
      · rename_i o' c' h1 h2
        cases hg
        unfold objW
        rw [if_neg (hu j c' hj h2 hlj x hx)]
      · cases hg
    · have hid : objW x c = id := by unfold objW; rw [if_neg hx]
      rw [hid]
      refine foldL_agree _ _ _ _ fun j g hg hne => ?_
      by_cases hji : j = i
      · subst hji
        rw [List.getElem?_zipWith, ho, hc] at hg
        cases hg
        exact absurd hid hne
      · have : (j == i) = false := by simpa using hji
        simp [this]
  cases h1 : selGo ops recs (fun j => j == i || L j) s with
  | mk e1 b1 =>
    cases h2 : (selGo ops recs L s).put o.dst c.v c.ups with
    | mk e2 b2 =>
      rw [h1, h2] at he hb
      congr 1
      · funext t; exact he t
      · funext x; exact hb x

/-- an operation's value, and what becomes of objects -/
def opV (specs : Nat → Option (FSpec Ty)) (T : Tab Ty) (k : Nat) (o : Oper) (s : St Ty) : Option (AV Ty × List (Nat × Obj Ty)) :=
  match primCall specs o s.eval s.obj with
  | some (x, _) => match x with
    | some (c, v, ups) => cond c (some (v, ups)) none
    | none => none
  | none => match heapCall specs T o s.eval s.obj with
  | some h => cond h.ok ((h.sp.runH k h.roots.length h.n (NSt Ty) some).bind fun n => (h.back T (o.dst.getD 0) n).map fun x => (x.1, h.ups ++ x.2)) none
  | none => match callE specs T o s.eval s.obj with
    | some (sp, args, ups) => (sp.runK k args (AV Ty) some).map fun r => (r, ups)
    | none => match asE T o s.eval s.obj with
      | some x => some x
      | none => match effOp T o (o.dst.getD 0) s.eval s.obj with
        | .fail => none
        | .ok c v ups => cond c (some (v, ups)) none

/-- the objects that it looks into -/
def readsV (specs : Nat → Option (FSpec Ty)) (T : Tab Ty) (o : Oper) (s : St Ty) : List Nat :=
  match primCall specs o s.eval s.obj with
  | some (_, rs) => rs
  | none => match heapCall specs T o s.eval s.obj with
  | some h => h.reads
  | none => readsOf o (o.dst.getD 0) s.eval

theorem opK_eq {R : Type} (o : Oper) (s : St Ty) (K : St Ty → Option R) : opK specs T k o s K = (opV specs T k o s).bind fun x => K (s.put o.dst x.1 x.2) := by
  unfold opK opV
  cases hp : primCall specs o s.eval s.obj with
  | some x =>
    obtain ⟨x, rs⟩ := x
    cases x with
    | none => rfl
    | some y => obtain ⟨c, v, ups⟩ := y; cases c <;> rfl
  | none =>
  simp only
  cases hh : heapCall specs T o s.eval s.obj with
  | some hc =>
    simp only
    cases hc.ok with
    | false => rfl
    | true =>
      simp only [cond_true]
      rw [hc.sp.natH]
      cases hc.sp.runH k hc.roots.length hc.n (NSt Ty) some with
      | none => rfl
      | some n =>
        simp only [Option.bind_some]
        cases hc.back T (o.dst.getD 0) n <;> rfl
  | none =>
  simp only
  cases hc : callE specs T o s.eval s.obj with
  | some x =>
    obtain ⟨sp, args, ups⟩ := x
    simp only
    rw [sp.nat]
    cases sp.runK k args (AV Ty) some <;> rfl
  | none =>
    simp only
    cases ha : asE T o s.eval s.obj with
    | some x => rfl
    | none =>
      simp only
      cases he : effOp T o (o.dst.getD 0) s.eval s.obj with
      | fail => rfl
      | ok c v ups => cases c <;> rfl
theorem opD_eq {R : Type} (o : Oper) (i an : Nat) (s : St Ty) (K : Acc → St Ty → Option R) : opD specs T k o i an s K = (opV specs T k o s).bind fun x => K ⟨i, an, readsV specs T o s, x.2.map (·.1)⟩ (s.put o.dst x.1 x.2) := by
  unfold opD opV readsV
  cases hp : primCall specs o s.eval s.obj with
  | some x =>
    obtain ⟨x, rs⟩ := x
    cases x with
    | none => rfl
    | some y => obtain ⟨c, v, ups⟩ := y; cases c <;> rfl
  | none =>
  simp only
  cases hh : heapCall specs T o s.eval s.obj with
  | some hc =>
    simp only
    cases hc.ok with
    | false => rfl
    | true =>
      simp only [cond_true]
      rw [hc.sp.natH]
      cases hc.sp.runH k hc.roots.length hc.n (NSt Ty) some with
      | none => rfl
      | some n =>
        simp only [Option.bind_some]
        cases hc.back T (o.dst.getD 0) n <;> rfl
  | none =>
  simp only
  cases hc : callE specs T o s.eval s.obj with
  | some x =>
    obtain ⟨sp, args, ups⟩ := x
    simp only
    rw [sp.nat]
    cases sp.runK k args (AV Ty) some <;> rfl
  | none =>
    simp only
    cases ha : asE T o s.eval s.obj with
    | some x => rfl
    | none =>
      simp only
      cases he : effOp T o (o.dst.getD 0) s.eval s.obj with
      | fail => rfl
      | ok c v ups => cases c <;> rfl

/-- whether a guarded operation is carried out -/
def wantB (ops : List Oper) (o : Oper) (s : St Ty) : Option Bool :=
  match o.guard with
  | none => some true
  | some (g, want) => match (ops[g]?).bind (·.dst) with
    | some t => match s.env t with
      | .bool b => some (b == want)
      | .skp => some false
      | _ => none
    | none => none

theorem guardK_eq {R : Type} (ops : List Oper) (o : Oper) (s : St Ty) (yes no : St Ty → Option R) : guardK ops o s yes no = match wantB ops o s with
    | some true => yes s
    | some false => no s
    | none => none := by
  unfold guardK wantB
  cases hg : o.guard with
  | none => rfl
  | some gw =>
    obtain ⟨g, want⟩ := gw
    simp only
    cases hb : (ops[g]?).bind (·.dst) with
    | none => rfl
    | some t =>
      simp only
      cases he : s.env t with
      | bool b =>
        simp only
        cases b <;> cases want <;> simp only [cond_true, cond_false] <;> rw [set_same he] <;> rfl
      | _ => rfl

inductive Canon (specs : Nat → Option (FSpec Ty)) (T : Tab Ty) (k : Nat) (ops : List Oper) : List Oper → List Nat → Nat → List Acc → St Ty → List (Rec Ty) → List Acc → St Ty → Prop
  | nil {an i l s} : Canon specs T k ops [] an i l s [] l s
  | run {o r an i l s v ups recs l' s'} : wantB ops o s = some true → opV specs T k o s = some (v, ups) →
      Canon specs T k ops r an.tail (i + 1) (addAcc ⟨i, an.headD 0, readsV specs T o s, ups.map (·.1)⟩ l) (s.put o.dst v ups) recs l' s' → Canon specs T k ops (o :: r) an i l s (⟨v, ups⟩ :: recs) l' s'
  | skip {o r an i l s recs l' s'} : wantB ops o s = some false → Canon specs T k ops r an.tail (i + 1) l (s.put o.dst .skp []) recs l' s' → Canon specs T k ops (o :: r) an i l s (⟨.skp, []⟩ :: recs) l' s'

theorem opsD_canon {R : Type} {ops : List Oper} {K : St Ty → Option R} {r : R} : ∀ (todo : List Oper) (an : List Nat) (i : Nat) (l : List Acc) (s : St Ty), opsD specs T k ops todo an i l s K = some r →
    ∃ recs l' s', Canon specs T k ops todo an i l s recs l' s' ∧ accOk l' = true ∧ K s' = some r := by
  intro todo
  induction todo with
  | nil =>
    intro an i l s h
    simp only [opsD] at h
    cases ha : accOk l with
    | false => rw [ha] at h; cases h
    | true => rw [ha] at h; exact ⟨[], l, s, .nil, ha, h⟩
  | cons o r ih =>
    intro an i l s h
    simp only [opsD, guardK_eq] at h
    split at h
    · rename_i hw
      rw [opD_eq] at h
      cases hv : opV specs T k o s with
      | none => rw [hv] at h; cases h
      | some x =>
        rw [hv] at h
        simp only [Option.bind_some] at h
        obtain ⟨recs, l', s', h1, h2, h3⟩ := ih _ _ _ _ h
        exact ⟨_, l', s', .run hw hv h1, h2, h3⟩
    · rename_i hw
      obtain ⟨recs, l', s', h1, h2, h3⟩ := ih _ _ _ _ h
      exact ⟨_, l', s', .skip hw h1, h2, h3⟩
    · cases h

theorem addAcc_sub (a : Acc) (l : List Acc) : (∀ x ∈ l, x ∈ addAcc a l) ∧ (a ∈ addAcc a l ∨ (a.reads = [] ∧ a.writes = [])) := by
  unfold addAcc
  split
  · rename_i h1 h2; exact ⟨fun x hx => hx, .inr ⟨h1, h2⟩⟩
  · exact ⟨fun x hx => List.mem_cons_of_mem _ hx, .inl (by simp)⟩

/-- what the run in the text's order tells of each operation -/
theorem Canon.spec {ops : List Oper} {todo : List Oper} {an : List Nat} {i : Nat} {l : List Acc} {s : St Ty} {recs : List (Rec Ty)} {l' : List Acc} {s' : St Ty} (h : Canon specs T k ops todo an i l s recs l' s') :
    recs.length = todo.length ∧ (∀ x ∈ l, x ∈ l') ∧ s' = selGo todo recs (fun _ => true) s ∧
    ∀ j o c, todo[j]? = some o → recs[j]? = some c →
      (wantB ops o (selGo todo recs (fun x => decide (x < j)) s) = some true ∧ opV specs T k o (selGo todo recs (fun x => decide (x < j)) s) = some (c.v, c.ups) ∧
        ((⟨i + j, an.getD j 0, readsV specs T o (selGo todo recs (fun x => decide (x < j)) s), c.ups.map (·.1)⟩ : Acc) ∈ l' ∨
          (readsV specs T o (selGo todo recs (fun x => decide (x < j)) s) = [] ∧ c.ups.map (·.1) = []))) ∨
      (wantB ops o (selGo todo recs (fun x => decide (x < j)) s) = some false ∧ c = ⟨.skp, []⟩) := by
  have selz : ∀ (todo : List Oper) (recs : List (Rec Ty)) (s : St Ty), selGo todo recs (fun x => decide (x < 0)) s = s := by
    intro todo
    induction todo with
    | nil => intro recs s; cases recs <;> rfl
    | cons o r ih =>
      intro recs s
      cases recs with
      | nil => rfl
      | cons c cs =>
        have := ih cs s
        simpa [selGo] using this
  have sels : ∀ (o : Oper) (r : List Oper) (c : Rec Ty) (cs : List (Rec Ty)) (s : St Ty) (j : Nat), selGo (o :: r) (c :: cs) (fun x => decide (x < j + 1)) s = selGo r cs (fun x => decide (x < j)) (s.put o.dst c.v c.ups) := by
    intro o r c cs s j
    simp [selGo]
  induction h with
  | nil => exact ⟨rfl, fun x h => h, rfl, fun j o c h => by simp at h⟩
  | @run o r an i l s v ups recs l' s' hw hv hc ih =>
    obtain ⟨i1, i2, i3, i4⟩ := ih
    have hsub := addAcc_sub ⟨i, an.headD 0, readsV specs T o s, ups.map (·.1)⟩ l
    refine ⟨by simp [i1], fun x hx => i2 x (hsub.1 x hx), by rw [i3]; simp [selGo], fun j o' c' h1 h2 => ?_⟩
    cases j with
    | zero =>
      simp only [List.getElem?_cons_zero, Option.some.injEq] at h1 h2
      subst h1; subst h2
      rw [selz]
      refine .inl ⟨hw, hv, ?_⟩
      rcases hsub.2 with h3 | h3
      · left
        have := i2 _ h3
        have e : an.getD 0 0 = an.headD 0 := by cases an <;> rfl
        rw [Nat.add_zero, e]
        exact this
      · exact .inr h3
    | succ j =>
      simp only [List.getElem?_cons_succ] at h1 h2
      rw [sels]
      have := i4 j o' c' h1 h2
      have e : an.getD (j + 1) 0 = an.tail.getD j 0 := by cases an <;> simp
      rw [e, show i + (j + 1) = i + 1 + j by omega]
      exact this
  | @skip o r an i l s recs l' s' hw hc ih =>
    obtain ⟨i1, i2, i3, i4⟩ := ih
    refine ⟨by simp [i1], i2, by rw [i3]; simp [selGo], fun j o' c' h1 h2 => ?_⟩
    cases j with
    | zero =>
      simp only [List.getElem?_cons_zero, Option.some.injEq] at h1 h2
      subst h1; subst h2
      rw [selz]
      exact .inr ⟨hw, rfl⟩
    | succ j =>
      simp only [List.getElem?_cons_succ] at h1 h2
      rw [sels]
      have := i4 j o' c' h1 h2
      have e : an.getD (j + 1) 0 = an.tail.getD j 0 := by cases an <;> simp
      rw [e, show i + (j + 1) = i + 1 + j by omega]
      exact this
end
end V
namespace V
open Go

theorem binds_eq (e : Edge) : Region.binds .any e = Edge.binds e := by
  unfold Region.binds Edge.binds
  cases e.ground <;> rfl

/-! ### who comes ahead of whom -/

theorem ancOne_bit {acc : List Nat} {o : Oper} {j : Nat} (h : (ancOne acc o).testBit j = true) : ∃ e ∈ o.after, Edge.binds e = true ∧ (j = e.on ∨ (acc.getD e.on 0).testBit j = true) := by
  unfold ancOne at h
  have key : ∀ (l : List Edge) (m : Nat), (l.foldl (fun m e => cond (Edge.binds e) (m ||| (1 <<< e.on) ||| acc.getD e.on 0) m) m).testBit j = true →
      m.testBit j = true ∨ ∃ e ∈ l, Edge.binds e = true ∧ (j = e.on ∨ (acc.getD e.on 0).testBit j = true) := by
    intro l
    induction l with
    | nil => intro m h; exact .inl h
    | cons e r ih =>
      intro m h
      simp only [List.foldl_cons] at h
      rcases ih _ h with h | ⟨e', h1, h2⟩
      · cases hb : Edge.binds e with
        | false => rw [hb] at h; exact .inl h
        | true =>
          rw [hb, cond_true, Nat.testBit_or, Nat.testBit_or, Bool.or_eq_true, Bool.or_eq_true] at h
          rcases h with (h | h) | h
          · exact .inl h
          · refine .inr ⟨e, by simp, hb, .inl ?_⟩
            rw [Nat.shiftLeft_eq, Nat.one_mul, Nat.testBit_two_pow] at h
            simpa using (of_decide_eq_true h).symm
          · exact .inr ⟨e, by simp, hb, .inr h⟩
      · exact .inr ⟨e', List.mem_cons_of_mem _ h1, h2⟩
  rcases key _ _ h with h | ⟨e, h1, h2⟩
  · simp at h
  · exact ⟨e, by simpa using h1, h2⟩

theorem ancsGo_spec : ∀ (ops : List Oper) (acc : List Nat), (∀ i, i < acc.length → (ancsGo acc ops)[i]? = acc[i]?) ∧ (ancsGo acc ops).length = acc.length + ops.length ∧
    ∀ i o, ops[i]? = some o → (ancsGo acc ops)[acc.length + i]? = some (ancOne ((ancsGo acc ops).take (acc.length + i)) o) := by
  intro ops
  induction ops with
  | nil => intro acc; exact ⟨fun i _ => rfl, rfl, fun i o h => by simp at h⟩
  | cons o r ih =>
    intro acc
    obtain ⟨i1, i2, i3⟩ := ih (acc ++ [ancOne acc o])
    simp only [ancsGo]
    simp only [List.length_append, List.length_cons, List.length_nil] at i1 i2 i3
    refine ⟨fun i hi => ?_, by rw [i2]; simp; omega, fun i o' h => ?_⟩
    · rw [i1 i (by omega), List.getElem?_append_left hi]
    · cases i with
      | zero =>
        simp only [List.getElem?_cons_zero, Option.some.injEq] at h
        subst h
        rw [Nat.add_zero, i1 acc.length (by omega)]
        have : (ancsGo (acc ++ [ancOne acc o]) r).take acc.length = acc := by
          apply List.ext_getElem?
          intro j
          rw [List.getElem?_take]
          split
          · rename_i hj
            rw [i1 j (by omega), List.getElem?_append_left hj]
          · rename_i hj
            rw [List.getElem?_eq_none (by omega)]
        rw [this]
        simp
      | succ i =>
        have := i3 i o' (by simpa using h)
        rw [show acc.length + (i + 1) = acc.length + (0 + 1) + i by omega]
        exact this

theorem ancs_closed {ops : List Oper} {L : Nat → Bool} (hc : ∀ j o, L j = true → ops[j]? = some o → ∀ e ∈ o.after, Edge.binds e = true → L e.on = true) :
    ∀ (n i : Nat) (o : Oper), i < n → ops[i]? = some o → (∀ e ∈ o.after, Edge.binds e = true → L e.on = true) → ∀ j, ((ancs ops).getD i 0).testBit j = true → L j = true := by
  intro n
  induction n with
  | zero => intro i o h; omega
  | succ n ih =>
    intro i o hi ho hdep j hj
    obtain ⟨_, h2, h3⟩ := ancsGo_spec ops []
    have := h3 i o ho
    simp only [List.length_nil, Nat.zero_add] at this h2
    have hg : (ancs ops).getD i 0 = ancOne ((ancs ops).take i) o := by
      unfold ancs
      rw [List.getD_eq_getElem?_getD, this]; rfl
    rw [hg] at hj
    obtain ⟨e, he, hb, hor⟩ := ancOne_bit hj
    rcases hor with rfl | hor
    · exact hdep e he hb
    · have hlt : e.on < i := by
        apply Decidable.byContradiction
        intro hge
        have : ((ancs ops).take i).getD e.on 0 = 0 := by
          rw [List.getD_eq_getElem?_getD, List.getElem?_eq_none (by rw [List.length_take]; omega)]; rfl
        rw [this] at hor
        simp at hor
      have hget : ((ancs ops).take i).getD e.on 0 = (ancs ops).getD e.on 0 := by
        rw [List.getD_eq_getElem?_getD, List.getElem?_take, if_pos hlt, ← List.getD_eq_getElem?_getD]
      rw [hget] at hor
      have hilt : i < ops.length := (List.getElem?_eq_some_iff.1 ho).1
      have hoe : ∃ o', ops[e.on]? = some o' := ⟨_, List.getElem?_eq_getElem (by omega)⟩
      obtain ⟨o', ho'⟩ := hoe
      exact ih e.on o' (by omega) ho' (hc e.on o' (hdep e he hb) ho') j hor

/-! ### the temporaries -/

theorem rowsOf_get (ops : List Oper) : ∀ (l : List Oper) (as : List Nat) (i : Nat) (o : Oper) (a : Nat), l[i]? = some o → as[i]? = some a → (rowsOf ops l as)[i]? = some ⟨o, a, touchOf ops o⟩ := by
  intro l
  induction l with
  | nil => intro as i o a h; simp at h
  | cons x r ih =>
    intro as i o a h h2
    cases as with
    | nil => simp at h2
    | cons b bs =>
      cases i with
      | zero => simp only [List.getElem?_cons_zero, Option.some.injEq] at h h2; subst h; subst h2; rfl
      | succ i => simpa [rowsOf] using ih bs i o a (by simpa using h) (by simpa using h2)

theorem freeRow_spec {y : Row} : ∀ (l : List Row) (j : Nat), freeRow y j l = true → ∀ i x, l[i]? = some x → y.anc.testBit (j + i) = true ∨ (dstIn x.op y.touch = false ∧ dstIn y.op x.touch = false) := by
  intro l
  induction l with
  | nil => intro j _ i x h; simp at h
  | cons x r ih =>
    intro j h i z hz
    simp only [freeRow, Bool.and_eq_true, Bool.or_eq_true, Bool.not_eq_true'] at h
    cases i with
    | zero => simp only [List.getElem?_cons_zero, Option.some.injEq] at hz; subst hz; exact h.1
    | succ i =>
      have := ih (j + 1) h.2 i z (by simpa using hz)
      rwa [show j + 1 + i = j + (i + 1) by omega] at this

theorem freeRows_spec : ∀ (l seen : List Row), freeRows seen l = true → ∀ i y, l[i]? = some y →
    (∀ j x, j < seen.length + i → (seen ++ l)[j]? = some x → y.anc.testBit j = true ∨ (dstIn x.op y.touch = false ∧ dstIn y.op x.touch = false)) ∧
    (∀ e ∈ y.op.after, Edge.binds e = true → e.on < seen.length + i) := by
  intro l
  induction l with
  | nil => intro seen _ i y h; simp at h
  | cons z r ih =>
    intro seen h i y hy
    simp only [freeRows, Bool.and_eq_true] at h
    obtain ⟨⟨h1, h2⟩, h3⟩ := h
    cases i with
    | zero =>
      simp only [List.getElem?_cons_zero, Option.some.injEq] at hy; subst hy
      refine ⟨fun j x hj hx => ?_, fun e he hb => ?_⟩
      · rw [List.getElem?_append_left (by simpa using hj)] at hx
        have := freeRow_spec seen 0 h1 j x hx
        rwa [Nat.zero_add] at this
      · have := List.all_eq_true.1 h2 e (by simpa using he)
        simp only [hb, Bool.not_true, Bool.false_or] at this
        simpa [Nat.blt_eq] using this
    | succ i =>
      obtain ⟨k1, k2⟩ := ih (seen ++ [z]) h3 i y (by simpa using hy)
      simp only [List.length_append, List.length_cons, List.length_nil, List.append_assoc, List.cons_append, List.nil_append] at k1 k2
      refine ⟨fun j x hj hx => k1 j x (by omega) hx, fun e he hb => by have := k2 e he hb; omega⟩

theorem free_of {ops : List Oper} (h : freeRows [] (rowsOf ops ops (ancs ops)) = true) {i j : Nat} {o o' : Oper} (hji : j < i) (ho : ops[i]? = some o) (ho' : ops[j]? = some o') :
    ((ancs ops).getD i 0).testBit j = true ∨ (dstIn o' (touchOf ops o) = false ∧ dstIn o (touchOf ops o') = false) := by
  have hlen : (ancs ops).length = ops.length := by have := (ancsGo_spec ops []).2.1; simpa [ancs] using this
  have hi : i < ops.length := (List.getElem?_eq_some_iff.1 ho).1
  have e1 : (ancs ops)[i]? = some ((ancs ops).getD i 0) := by rw [List.getD_eq_getElem?_getD, List.getElem?_eq_getElem (by omega)]; rfl
  have e2 : (ancs ops)[j]? = some ((ancs ops).getD j 0) := by rw [List.getD_eq_getElem?_getD, List.getElem?_eq_getElem (by omega)]; rfl
  have := (freeRows_spec _ [] h i _ (rowsOf_get ops ops _ i o _ ho e1)).1 j _ (by simpa using hji) (by simpa using rowsOf_get ops ops _ j o' _ ho' e2)
  exact this

theorem back_of {ops : List Oper} (h : freeRows [] (rowsOf ops ops (ancs ops)) = true) {i : Nat} {o : Oper} (ho : ops[i]? = some o) : ∀ e ∈ o.after, Edge.binds e = true → e.on < i := by
  have hlen : (ancs ops).length = ops.length := by have := (ancsGo_spec ops []).2.1; simpa [ancs] using this
  have hi : i < ops.length := (List.getElem?_eq_some_iff.1 ho).1
  have e1 : (ancs ops)[i]? = some ((ancs ops).getD i 0) := by rw [List.getD_eq_getElem?_getD, List.getElem?_eq_getElem (by omega)]; rfl
  have := (freeRows_spec _ [] h i _ (rowsOf_get ops ops _ i o _ ho e1)).2
  simpa using this

theorem bit_or_one (m t j : Nat) : (m ||| 1 <<< t).testBit j = (m.testBit j || decide (t = j)) := by
  rw [Nat.testBit_or, Nat.shiftLeft_eq, Nat.one_mul, Nat.testBit_two_pow]

theorem touch_ops (ops : List Oper) (o : Oper) {t : Nat} (h : .tmp t ∈ o.op.operands) : (touchOf ops o).testBit t = true := by
  have k1 : ∀ (l : List Operand) (m : Nat), (m.testBit t = true ∨ .tmp t ∈ l) → (l.foldl (fun m x => match x with
    | .tmp t => m ||| (1 <<< t)
    | _ => m) m).testBit t = true := by
    intro l
    induction l with
    | nil => intro m h; exact h.resolve_right (by simp)
    | cons x r ih =>
      intro m h
      simp only [List.foldl_cons]
      apply ih
      rcases h with h | h
      · left
        cases x <;> simp only [bit_or_one, h, Bool.true_or]
      · rcases List.mem_cons.1 h with h | h
        · subst h; left; simp
        · exact .inr h
  unfold touchOf
  have := k1 o.op.operands.toList 0 (.inr (by simpa using h))
  simp only
  generalize (List.foldl _ 0 o.op.operands.toList) = m at this
  have k2 : ∀ m', m'.testBit t = true → (match o.dst with | some t => m' ||| 1 <<< t | none => m').testBit t = true := by
    intro m' h
    cases o.dst with
    | none => exact h
    | some d => simp [h]
  apply k2
  cases hg : o.guard with
  | none => exact this
  | some gw =>
    obtain ⟨g, wt⟩ := gw
    simp only
    cases (ops[g]?).bind (·.dst) with
    | none => exact this
    | some d => simp [this]

theorem touch_guard (ops : List Oper) (o : Oper) {g t : Nat} {want : Bool} (h : o.guard = some (g, want)) (ht : (ops[g]?).bind (·.dst) = some t) : (touchOf ops o).testBit t = true := by
  unfold touchOf
  have k2 : ∀ m', m'.testBit t = true → (match o.dst with | some t => m' ||| 1 <<< t | none => m').testBit t = true := by
    intro m' h
    cases o.dst with
    | none => exact h
    | some d => simp [h]
  apply k2
  rw [h]
  simp only [ht]
  simp

theorem touch_dst (ops : List Oper) (o : Oper) {t : Nat} (h : o.dst = some t) : (touchOf ops o).testBit t = true := by
  unfold touchOf
  simp only [h]
  simp

theorem dstIn_of {o : Oper} {t m : Nat} (h : o.dst = some t) (hm : m.testBit t = true) : dstIn o m = true := by
  unfold dstIn; rw [h]; exact hm

/-! ### the objects -/

theorem apart_spec {a b : List Nat} (h : apart a b = true) {x : Nat} (ha : x ∈ a) (hb : x ∈ b) : False := by
  have := List.all_eq_true.1 h x ha
  simp at this
  exact this hb

theorem accOk_pair : ∀ (l : List Acc), accOk l = true → List.Pairwise (fun y x => x.at_ < y.at_) l → ∀ x ∈ l, ∀ y ∈ l, x.at_ < y.at_ → x.fits y = true := by
  intro l
  induction l with
  | nil => intro _ _ x hx; simp at hx
  | cons z r ih =>
    intro h hp x hx y hy hlt
    simp only [accOk, Bool.and_eq_true] at h
    rw [List.pairwise_cons] at hp
    rcases List.mem_cons.1 hy with rfl | hy'
    · rcases List.mem_cons.1 hx with rfl | hx'
      · omega
      · exact List.all_eq_true.1 h.1 x hx'
    · rcases List.mem_cons.1 hx with rfl | hx'
      · have := hp.1 y hy'; omega
      · exact ih h.2 hp.2 x hx' y hy' hlt

section
variable {Ty : Nat → Type} {T : Tab Ty} {P : Program}
variable {specs : Nat → Option (FSpec Ty)} {k : Nat}

theorem Canon.sorted {ops : List Oper} {todo : List Oper} {an : List Nat} {i : Nat} {l : List Acc} {s : St Ty} {recs : List (Rec Ty)} {l' : List Acc} {s' : St Ty} (h : Canon specs T k ops todo an i l s recs l' s') :
    (∀ x ∈ l, x.at_ < i) → List.Pairwise (fun y x => x.at_ < y.at_) l → List.Pairwise (fun y x => x.at_ < y.at_) l' := by
  induction h with
  | nil => exact fun _ h => h
  | @run o r an i l s v ups recs l' s' hw hv hc ih =>
    intro h1 h2
    apply ih
    · intro x hx
      unfold addAcc at hx
      split at hx
      · have := h1 x hx; omega
      · rcases List.mem_cons.1 hx with rfl | hx
        · simp
        · have := h1 x hx; omega
    · unfold addAcc
      split
      · exact h2
      · exact List.pairwise_cons.2 ⟨fun x hx => h1 x hx, h2⟩
  | skip _ _ ih => intro h1 h2; exact ih (fun x hx => by have := h1 x hx; omega) h2

theorem wantB_congr {ops : List Oper} {o : Oper} {s s' : St Ty} (h : ∀ t, (touchOf ops o).testBit t = true → s.env t = s'.env t) : wantB ops o s = wantB ops o s' := by
  unfold wantB
  cases hg : o.guard with
  | none => rfl
  | some gw =>
    obtain ⟨g, want⟩ := gw
    simp only
    cases hb : (ops[g]?).bind (·.dst) with
    | none => rfl
    | some t => simp only; rw [h t (touch_guard ops o hg hb)]

theorem as_congr {o : Oper} {d : Nat} {ev ev' : Operand → AV Ty} {ob ob' : Nat → Obj Ty} (he : ∀ x ∈ o.op.operands, ev x = ev' x) (hb : ∀ i ∈ readsOf o d ev, ob i = ob' i) : asE T o ev ob = asE T o ev' ob' := by
  unfold asE
  split
  · rename_i f args tys ho
    simp only [ho, Op.operands, Call.operands] at he
    simp only [ho, readsOf] at hb
    have hev : ∀ x ∈ args.toList, ev x = ev' x := fun x hx => he x (by simp; exact .inr (by simpa using hx))
    have hf : ev f = ev' f := he f (by simp)
    rw [← hf]
    obtain ⟨al⟩ := args
    simp only at hev hb ⊢
    match al with
    | [a, t] =>
      have ha := hev a (by simp)
      have ht := hev t (by simp)
      cases ev f <;> try rfl
      simp only [← ha, ← ht]
      have hb' : ∀ i ∈ (ev t).shares, ob i = ob' i := fun i hi => hb i (List.mem_flatMap.2 ⟨t, by simp, hi⟩)
      generalize ev a = va
      generalize ev t = vt at hb'
      cases va <;> try rfl
      cases vt <;> try rfl
      rename_i p v
      cases v <;> try rfl
      rename_i i q
      have := hb' i (by simp [AV.shares])
      cases q with
      | nil => simp only [this]
      | cons _ _ => rfl
    | [] => cases ev f <;> rfl
    | [a] => cases ev f <;> rfl
    | a :: b :: c :: r => cases ev f <;> rfl
  · rfl

theorem opV_congr {ops : List Oper} {o : Oper} {s s' : St Ty} (h : ∀ t, (touchOf ops o).testBit t = true → s.env t = s'.env t) (hb : ∀ i ∈ readsV specs T o s, s.obj i = s'.obj i) : opV specs T k o s = opV specs T k o s' := by
  have he : ∀ x ∈ o.op.operands, s.eval x = s'.eval x := by
    intro x hx
    cases x with
    | tmp t => exact h t (touch_ops ops o hx)
    | _ => rfl
  unfold readsV at hb
  have hpr : primCall specs o s.eval s.obj = primCall specs o s'.eval s'.obj := prim_congr he fun x rs e i hi => hb i (by rw [e]; exact hi)
  unfold opV
  rw [← hpr]
  cases hp : primCall specs o s.eval s.obj with
  | some x => rfl
  | none =>
  rw [hp] at hb
  simp only at hb ⊢
  have hh : heapCall specs T o s.eval s.obj = heapCall specs T o s'.eval s'.obj := heap_congr he fun hc e i hi => hb i (by rw [e]; exact hi)
  rw [← hh]
  cases hx : heapCall specs T o s.eval s.obj with
  | some hc => rfl
  | none =>
    rw [hx] at hb
    simp only at hb ⊢
    rw [call_congr he hb, eff_congr he hb, as_congr he hb]

theorem sel_ext {ops : List Oper} {recs : List (Rec Ty)} {s : St Ty} : ∀ {L M : Nat → Bool}, (∀ j, j < ops.length → L j = M j) → selGo ops recs L s = selGo ops recs M s := by
  induction ops generalizing recs s with
  | nil => intro L M _; cases recs <;> rfl
  | cons o r ih =>
    intro L M h
    cases recs with
    | nil => rfl
    | cons c cs =>
      simp only [selGo]
      rw [h 0 (by simp)]
      exact ih fun j hj => h (j + 1) (by simpa using hj)

structure Ordered (specs : Nat → Option (FSpec Ty)) (T : Tab Ty) (k : Nat) (ops : List Oper) (recs : List (Rec Ty)) (s : St Ty) : Prop where
  len : recs.length = ops.length
  step : ∀ (L : Nat → Bool) i o c, ops[i]? = some o → recs[i]? = some c → L i = false → (∀ j o', L j = true → ops[j]? = some o' → ∀ e ∈ o'.after, Edge.binds e = true → L e.on = true) →
    (∀ e ∈ o.after, Edge.binds e = true → L e.on = true) →
    selGo ops recs (fun j => j == i || L j) s = (selGo ops recs L s).put o.dst c.v c.ups ∧
    ((wantB ops o (selGo ops recs L s) = some true ∧ opV specs T k o (selGo ops recs L s) = some (c.v, c.ups)) ∨ (wantB ops o (selGo ops recs L s) = some false ∧ c = ⟨.skp, []⟩))

theorem ordered {ops : List Oper} {s s' : St Ty} {recs : List (Rec Ty)} {l' : List Acc} (hf : freeRows [] (rowsOf ops ops (ancs ops)) = true) (hc : Canon specs T k ops ops (ancs ops) 0 [] s recs l' s') (ha : accOk l' = true) :
    Ordered specs T k ops recs s := by
  obtain ⟨hlen, _, hs', hspec⟩ := hc.spec
  have hsort := hc.sorted (by simp) .nil
  refine ⟨hlen, ?_⟩
  intro L i o c ho hci hLi hcl hdep
  have hanc : ∀ j, ((ancs ops).getD i 0).testBit j = true → L j = true := ancs_closed hcl (i + 1) i o (by omega) ho hdep
  have hanc' : ∀ j o', L j = true → ops[j]? = some o' → ((ancs ops).getD j 0).testBit i = false := fun j o' hj ho' => by
    cases hb : ((ancs ops).getD j 0).testBit i with
    | false => rfl
    | true =>
      have := ancs_closed hcl (j + 1) j o' (by omega) ho' (hcl j o' hj ho') i hb
      rw [hLi] at this; cases this
  -- an operation's record
  have hacc : ∀ j o' c' x, ops[j]? = some o' → recs[j]? = some c' → x ∈ c'.ups.map (·.1) → ∃ a ∈ l', a.at_ = j ∧ a.anc = (ancs ops).getD j 0 ∧ x ∈ a.writes := by
    intro j o' c' x h1 h2 hx
    rcases hspec j o' c' h1 h2 with ⟨_, _, h3 | h3⟩ | ⟨_, h3⟩
    · exact ⟨_, h3, by simp, rfl, hx⟩
    · rw [h3.2] at hx; simp at hx
    · subst h3; simp at hx
  have henv : ∀ t, (touchOf ops o).testBit t = true → (selGo ops recs (fun x => decide (x < i)) s).env t = (selGo ops recs L s).env t := by
    intro t ht
    rw [sel_env, sel_env]
    refine foldL_agree _ _ _ _ fun j g hg hne => ?_
    rw [List.getElem?_zipWith] at hg
    split at hg
    case h_2 => cases hg
    rename_i o' c' h1 h2
    cases hg
    have hd : o'.dst = some t := by
      apply Decidable.byContradiction
      intro hd
      exact hne (by unfold envW; rw [if_neg hd])
    rcases Nat.lt_trichotomy j i with hji | rfl | hji
    · rcases free_of hf hji ho h1 with hb | ⟨hb, _⟩
      · rw [hanc j hb]; simpa using hji
      · rw [dstIn_of hd ht] at hb; cases hb
    · rw [hLi]; simp
    · have : L j = false := by
        cases hL : L j with
        | false => rfl
        | true =>
          rcases free_of hf hji h1 ho with hb | ⟨_, hb⟩
          · rw [hanc' j o' hL h1] at hb; cases hb
          · rw [dstIn_of hd ht] at hb; cases hb
      rw [this]
      simp; omega
  have hw : wantB ops o (selGo ops recs L s) = wantB ops o (selGo ops recs (fun x => decide (x < i)) s) := wantB_congr fun t ht => (henv t ht).symm
  constructor
  · apply sel_insert ho hci hLi
    · intro j o' hj ho' hL hne he
      cases hd : o.dst with
      | none => exact hne hd
      | some t =>
        rcases free_of hf hj ho' ho with hb | ⟨_, hb⟩
        · rw [hanc' j o' hL ho'] at hb; cases hb
        · rw [dstIn_of (he.trans hd) (touch_dst ops o hd)] at hb; cases hb
    · intro j c' hj hcj hL x hx hx'
      have hjl : j < ops.length := by have := (List.getElem?_eq_some_iff.1 hcj).1; omega
      obtain ⟨a1, m1, p1, q1, r1⟩ := hacc i o c x ho hci hx
      obtain ⟨a2, m2, p2, q2, r2⟩ := hacc j _ c' x (List.getElem?_eq_getElem hjl) hcj hx'
      have := accOk_pair l' ha hsort a1 m1 a2 m2 (by rw [p1, p2]; exact hj)
      unfold Acc.fits at this
      rw [p1, q2, hanc' j _ hL (List.getElem?_eq_getElem hjl)] at this
      simp only [Bool.false_or, Bool.and_eq_true] at this
      exact apart_spec this.1.1 r1 r2
  · rw [hw]
    rcases hspec i o c ho hci with ⟨h1, h2, h3⟩ | ⟨h1, h2⟩
    · refine .inl ⟨h1, ?_⟩
      rw [← h2]
      symm
      refine opV_congr (ops := ops) henv fun x hx => ?_
      rw [sel_obj, sel_obj]
      refine foldL_agree _ _ _ _ fun j g hg hne => ?_
      rw [List.getElem?_zipWith] at hg
      split at hg
      case h_2 => cases hg
      rename_i o' c' k1 k2
      cases hg
      have hu : x ∈ c'.ups.map (·.1) := by
        apply Decidable.byContradiction
        intro hd
        exact hne (by unfold objW; rw [if_neg hd])
      obtain ⟨a2, m2, p2, q2, r2⟩ := hacc j o' c' x k1 k2 hu
      rcases h3 with h3 | h3
      · rcases Nat.lt_trichotomy j i with hji | rfl | hji
        · have := accOk_pair l' ha hsort a2 m2 _ h3 (by rw [p2]; simpa using hji)
          unfold Acc.fits at this
          simp only [Bool.or_eq_true, Bool.and_eq_true] at this
          rcases this with hb | hb
          · rw [p2] at hb
            rw [hanc j hb]; simpa using hji
          · exact absurd (apart_spec hb.1.2 r2 hx) (fun h => h)
        · rw [hLi]; simp
        · have : L j = false := by
            cases hL : L j with
            | false => rfl
            | true =>
              have := accOk_pair l' ha hsort _ h3 a2 m2 (by rw [p2]; simpa using hji)
              unfold Acc.fits at this
              simp only [Nat.zero_add] at this
              rw [q2, hanc' j o' hL k1] at this
              simp only [Bool.false_or, Bool.and_eq_true] at this
              exact absurd (apart_spec this.2 hx r2) (fun h => h)
          rw [this]
          simp; omega
      · rw [h3.1] at hx; simp at hx
    · exact .inr ⟨h1, h2⟩


variable {w0 : Base} {D0 : Nat → Prop} {N : Nat} {s : St Ty} {a : Act} {w : World}

theorem Gam.world (h : Gam T w0 D0 N s a w) {w' : World} (hg : w.grownBy w' none) : Gam T w0 D0 N s a w' := by
  obtain ⟨D, gv, h⟩ := h
  exact ⟨D, gv, h.world hg⟩

theorem Gam.drew (h : Gam T w0 D0 N s a w) : Gam T w0 D0 N s a { w with drawn := w.drawn + 1 } :=
  h.world ⟨rfl, rfl, rfl, Nat.le_refl _, fun _ _ _ => rfl⟩

/-- any order -/
theorem any_sound (hT : TabOK P T) (hS : SpecsOK P T specs) {ops : List Oper} {recs : List (Rec Ty)} {s0 : St Ty} (ho : Ordered specs T k ops recs s0)
    (hback : ∀ i o, ops[i]? = some o → ∀ e ∈ o.after, Edge.binds e = true → e.on < i) (hN : ∀ o ∈ ops, ∀ d, o.dst = some d → d < N) {Q : Exit → Act → World → Prop}
    (hQ : ∀ a w, Gam T w0 D0 N (selGo ops recs (fun _ => true) s0) a w → Q .normal a w) :
    ∀ (fuel : Nat) (listed : Array Bool) (a : Act) (w : World), listed.size = ops.length → listed.toList.count false ≤ fuel →
      (∀ j o', listed.getD j false = true → ops[j]? = some o' → ∀ e ∈ o'.after, Edge.binds e = true → listed.getD e.on false = true) →
      Gam T w0 D0 N (selGo ops recs (fun j => listed.getD j false) s0) a w → wpAny P .any ops.toArray Q fuel listed a w := by
  have all : ∀ (listed : Array Bool) (a : Act) (w : World), listed.size = ops.length → (∀ j, j < listed.size → listed.getD j false = true) → Gam T w0 D0 N (selGo ops recs (fun j => listed.getD j false) s0) a w → Q .normal a w := by
    intro listed a w hs hl hg
    apply hQ
    rwa [sel_ext (M := fun _ => true) fun j hj => hl j (by omega)] at hg
  -- nothing is ready: all are listed
  have done : ∀ (listed : Array Bool), listed.size = ops.length → Region.ready .any ops.toArray listed = [] → ∀ n j, j < n → j < listed.size → listed.getD j false = true := by
    intro listed hs hr n
    induction n with
    | zero => intro j h; omega
    | succ n ih =>
      intro j hj hjl
      apply Decidable.byContradiction
      intro hne
      have hjo : ops[j]? = some (ops[j]'(by omega)) := List.getElem?_eq_getElem (by omega)
      have : j ∈ Region.ready .any ops.toArray listed := by
        rw [mem_ready]
        have hlj : listed[j]? = some (listed[j]'hjl) := Array.getElem?_eq_getElem hjl
        have hb : listed[j]'hjl = false := by
          cases hb : listed[j]'hjl with
          | false => rfl
          | true => rw [Array.getD_eq_getD_getElem?, hlj, hb] at hne; exact absurd rfl hne
        refine ⟨by rw [Array.getD_eq_getD_getElem?, hlj, hb]; rfl, ops[j]'(by omega), (List.getElem?_toArray ▸ hjo : ops.toArray[j]? = some (ops[j]'(by omega))), fun e he hbd => ?_⟩
        rw [binds_eq] at hbd
        have := hback j _ hjo e he hbd
        exact ih e.on (by omega) (by omega)
      rw [hr] at this
      cases this
  intro fuel
  induction fuel with
  | zero =>
    intro listed a w hs hc hcl hg
    have hall : ∀ j, j < listed.size → listed.getD j false = true := by
      intro j hj
      have h0 : listed.toList.count false = 0 := by omega
      rw [List.count_eq_zero] at h0
      cases hb : listed[j]'hj with
      | true => rw [Array.getD_eq_getD_getElem?, Array.getElem?_eq_getElem hj, hb]; rfl
      | false => exact absurd (by rw [← hb]; simp) h0
    refine ⟨?_, all listed a w hs hall hg⟩
    cases hr : Region.ready .any ops.toArray listed with
    | nil => rfl
    | cons j r =>
      have hj : j ∈ Region.ready .any ops.toArray listed := by rw [hr]; simp
      rw [mem_ready] at hj
      obtain ⟨hj, o, ho1, _⟩ := hj
      have hjl : j < ops.length := by
        have := (Array.getElem?_eq_some_iff.1 ho1).1
        simpa using this
      have := hall j (by omega)
      rw [Array.getD_eq_getD_getElem?, Array.getElem?_eq_getElem (by omega)] at this hj
      simp only [Option.getD_some] at this hj
      rw [this] at hj
      cases hj
  | succ fuel ih =>
    intro listed a w hs hc hcl hg
    refine ⟨fun hr => all listed a w hs (fun j hj => done listed hs hr (j + 1) j (by omega) hj) hg, fun i hi => ?_⟩
    have hi' := hi
    rw [mem_ready] at hi
    obtain ⟨hli, o, hoi, hdep⟩ := hi
    have hol : ops[i]? = some o := by simpa using hoi
    have hil : i < ops.length := (List.getElem?_eq_some_iff.1 hol).1
    have hmem : o ∈ ops := List.mem_of_getElem? hol
    have hci : recs[i]? = some (recs[i]'(by rw [ho.len]; exact hil)) := List.getElem?_eq_getElem _
    generalize recs[i]'(by rw [ho.len]; exact hil) = c at hci
    have hli' : listed.getD i false = false := by
      rw [Array.getD_eq_getD_getElem?, Array.getElem?_eq_getElem (by omega)] at hli ⊢
      exact hli
    have hlb : listed[i]'(by omega) = false := by
      rw [Array.getD_eq_getD_getElem?, Array.getElem?_eq_getElem (by omega)] at hli'
      exact hli'
    obtain ⟨hins, hstep⟩ := ho.step (fun j => listed.getD j false) i o c hol hci hli' hcl (fun e he hb => hdep e he (by rw [binds_eq]; exact hb))
    have hnew : (fun j => (listed.setIfInBounds i true).getD j false) = fun j => j == i || listed.getD j false := by
      funext j
      by_cases e : j = i
      · subst e
        rw [Array.getD_eq_getD_getElem?]
        simp [show j < listed.size by omega]
      · have : (j == i) = false := by simpa using e
        rw [getD_set_ne false (Ne.symm e), this, Bool.false_or]
    have next : ∀ a' w', Gam T w0 D0 N ((selGo ops recs (fun j => listed.getD j false) s0).put o.dst c.v c.ups) a' w' → wpAny P .any ops.toArray Q fuel (listed.setIfInBounds i true) a' w' := by
      intro a' w' hg'
      apply ih
      · simpa using hs
      · have : (listed.setIfInBounds i true).toList = listed.toList.set i true := by simp
        rw [this, List.count_set (by simpa using (by omega : i < listed.size))]
        have : listed.toList[i]'(by simpa using (by omega : i < listed.size)) = false := by simpa using hlb
        rw [this]
        have e1 : ((false : Bool) == false) = true := rfl
        have e2 : ((true : Bool) == false) = false := rfl
        rw [e1, e2, if_pos rfl, if_neg (by simp)]
        omega
      · intro j o' hj ho' e he hb
        have hj' : (listed.setIfInBounds i true).getD j false = (j == i || listed.getD j false) := congrFun hnew j
        rw [hj'] at hj
        have he' : (listed.setIfInBounds i true).getD e.on false = (e.on == i || listed.getD e.on false) := congrFun hnew e.on
        rw [he']
        rcases (Bool.or_eq_true _ _).mp hj with h | h
        · have : j = i := by simpa using h
          subst this
          rw [hol] at ho'
          cases ho'
          rw [hdep e he (by rw [binds_eq]; exact hb), Bool.or_true]
        · rw [hcl j o' h ho' e he hb, Bool.or_true]
      · rw [hnew, hins]; exact hg'
    unfold wpOp
    rw [hoi]
    simp only
    have hwant : ∀ b, wantB ops o (selGo ops recs (fun j => listed.getD j false) s0) = some b → Region.wanted o (yielded ops.toArray a.tmps) = b := by
      intro b hb
      have : guardK ops o (selGo ops recs (fun j => listed.getD j false) s0) (fun _ => some true) (fun _ => some false) = some b := by
        rw [guardK_eq, hb]; cases b <;> rfl
      rcases guard_sound hg this with ⟨h1, h2⟩ | ⟨h1, h2⟩
      · rw [h1]; exact Option.some.inj h2
      · rw [h1]; exact Option.some.inj h2
    rcases hstep with ⟨hw, hv⟩ | ⟨hw, hc⟩
    · rw [if_pos (hwant _ hw)]
      left
      have hk : opK specs T k o (selGo ops recs (fun j => listed.getD j false) s0) some = some ((selGo ops recs (fun j => listed.getD j false) s0).put o.dst c.v c.ups) := by
        rw [opK_eq, hv]; rfl
      exact op_sound hT hS hg (hN o hmem) hk next
    · have : ¬ (Region.wanted o (yielded ops.toArray a.tmps) = true) := by rw [hwant _ hw]; simp
      rw [if_neg this]
      apply next
      rw [hc]
      exact put_skp hg (hN o hmem)

theorem region_sound (hT : TabOK P T) (hS : SpecsOK P T specs) {id : Nat} {ops : Array Oper} {draw : Bool} {s' : St Ty} (h : Gam T w0 D0 N s a w) (hN : ∀ o ∈ ops, ∀ d, o.dst = some d → d < N)
    (hr : regionK specs T k ops.toList draw s some = some s') {Q : Exit → Act → World → Prop} (hQ : ∀ a w, Gam T w0 D0 N s' a w → Q .normal a w) : (Code.region id ops draw).wp P Q a w := by
  unfold regionK at hr
  cases draw with
  | false =>
    refine wp_region_list ?_
    have := ops_sound (ops := ops.toList) hT hS ops.toList (fun o ho => hN o (by simpa using ho)) h hr hQ
    simpa using this
  | true =>
    simp only [cond_true] at hr
    cases hf : freeRows [] (rowsOf ops.toList ops.toList (ancs ops.toList)) with
    | false => rw [hf] at hr; cases hr
    | true =>
      rw [hf] at hr
      simp only [cond_true] at hr
      obtain ⟨recs, l', s1, hc, ha, hs1⟩ := opsD_canon _ _ _ _ _ hr
      cases hs1
      have hord := ordered hf hc ha
      apply wp_region_any hT.follow
      have := any_sound (w0 := w0) (D0 := D0) (N := N) hT hS hord (fun i o ho => back_of hf ho) (fun o ho => hN o (by simpa using ho)) (Q := Q) (by
        rw [← hc.spec.2.2.1]; exact hQ) ops.size (Array.replicate ops.size false) a { w with drawn := w.drawn + 1 } (by simp) (by simp) (by
        intro j o' hj
        rw [Array.getD_eq_getD_getElem?, Array.getElem?_replicate] at hj
        split at hj <;> cases hj) (by
        have hz : selGo ops.toList recs (fun j => (Array.replicate ops.size false).getD j false) s = s := by
          rw [sel_ext (M := fun _ => false) (by
            intro j hj
            rw [Array.getD_eq_getD_getElem?, Array.getElem?_replicate]
            split <;> rfl)]
          have : ∀ (l : List Oper) (r : List (Rec Ty)) (s : St Ty), selGo l r (fun _ => false) s = s := by
            intro l
            induction l with
            | nil => intro r s; cases r <;> rfl
            | cons o r ih =>
              intro cs s
              cases cs with
              | nil => rfl
              | cons c cs => simp only [selGo, Bool.false_eq_true, if_false]; exact ih cs s
          exact this _ _ _
        rw [hz]
        exact h.drew)
      simpa using this
end
end V
