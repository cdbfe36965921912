/- The remaining operations that only compute. Conditions: none. -/
import Derived.Test.YtigjhjlkdamncaaSimJ
namespace Go.Sim
open Classical
set_option linter.unusedSimpArgs false
set_option linter.unusedVariables false
noncomputable section
section
variable {P : Program} {cfg : Cfg} {callF : FuncId → List Arg → Option (Res × List Out)} {B : Base} {st st' : St} {a : Act} {w : World} {W : Wit} {o : Oper} {nt : Nat}

theorem vplain {op : UnOp} {x : SV} {u : Value} (h : unop op x = some u) : plain u = true := by
  unfold unop at h
  split at h <;> first | (cases h; rfl) | cases h

theorem ok_unOp (h : Rel B st a w W) (hn : nt = B.nt) {op : UnOp} {t : TypeId} {x : Operand} (ho : o.op = .unOp op t x) (e : evOp P cfg callF nt o st = some st') : Good P B o st' a w := by
  simp only [evOp, ho] at e
  obtain ⟨u, hu, e⟩ := Option.bind_eq_some_iff.1 e
  refine good_put h hn (u := u) ?_ (SR_sc (vplain hu)) e
  have hx := h.get x
  unfold unop at hu
  split at hu
  · rename_i b hb
    rw [hb] at hx
    cases hu
    simp [execOp, ho, (sc_val (v_false hx)).1, Op.unary]
  · rename_i k n hb
    rw [hb] at hx
    cases hu
    simp [execOp, ho, (sc_val (v_false hx)).1, Op.unary, Op.intArith]
  · cases hu

theorem int_plain {op : BinOp} {k : IntKind} {x y : Int} {u : Value} (h : intBin op k x y = some u) : plain u = true := by
  unfold intBin at h
  split at h <;> first | (cases h; rfl) | (split at h <;> first | (cases h; rfl) | (cases h; done)) | (cases h; done)

theorem str_plain {op : BinOp} {x y : ByteArray} {u : Value} (h : strBin op x y = some u) : plain u = true := by
  unfold strBin at h
  split at h <;> first | (cases h; rfl) | (split at h <;> first | (cases h; rfl) | (cases h; done)) | (cases h; done)

theorem int_run {op : BinOp} {k : IntKind} {x y : Int} {u : Value} {t : TypeId} (h : intBin op k x y = some u) : (binOp op t (.int k x) (.int k y)).run P w = .ok u w := by
  unfold intBin at h
  split at h
  all_goals first
    | (cases h; simp [binOp, Op.intArith, Op.intBits, Op.intCmp]; done)
    | (split at h
       · cases h
       · rename_i hne
         cases h
         simp [binOp, Op.intDiv, hne])
    | cases h

theorem str_run {op : BinOp} {x y : ByteArray} {u : Value} {t : TypeId} (h : strBin op x y = some u) : (binOp op t (.string x) (.string y)).run P w = .ok u w := by
  unfold strBin at h
  split at h
  all_goals first
    | (cases h; simp [binOp, Op.stringOp]; done)
    | (split at h
       · cases h
       · rename_i hne
         cases h
         simp only [binOp, Op.stringOp]
         rw [if_neg hne]; rfl)
    | cases h

theorem eqGuard_int {op : BinOp} {t : TypeId} {x y : Operand} {k : IntKind} {n : Int} {v : Value} : (eqGuard op t x y (.int k n) v).run P w = .ok () w := by cases op <;> rfl
theorem eqGuard_str {op : BinOp} {t : TypeId} {x y : Operand} {s : ByteArray} {v : Value} : (eqGuard op t x y (.string s) v).run P w = .ok () w := by cases op <;> rfl
theorem eqGuard_bool {op : BinOp} {t : TypeId} {x y : Operand} {b : Bool} {v : Value} : (eqGuard op t x y (.bool b) v).run P w = .ok () w := by cases op <;> rfl
theorem eqGuard_ptr {op : BinOp} {t : TypeId} {x y : Operand} {p : Option Addr} {v : Value} : (eqGuard op t x y (.pointer p) v).run P w = .ok () w := by cases op <;> rfl

theorem equal_bool {t : TypeId} {x y : Bool} (ht : P.underlying t = some .bool) : (Op.equal t (.bool x) (.bool y)).run P w = .ok (x == y) w := by
  have : ∀ d, (Op.equalIn (d + 1) t (.bool x) (.bool y)).run P w = .ok (x == y) w := fun d => by
    simp only [Op.equalIn, Sem.run_bind, run_under ht, Result.andThen_ok, Sem.run_pure]
  exact this 9999

theorem equal_ptr {t el : TypeId} {p1 p2 : Option Addr} (ht : P.underlying t = some (.pointer el)) (h : (p1.isNone || p2.isNone) = true) : (Op.equal t (.pointer p1) (.pointer p2)).run P w = .ok (p1.isNone && p2.isNone) w := by
  have : ∀ d, (Op.equalIn (d + 1) t (.pointer p1) (.pointer p2)).run P w = .ok (p1.isNone && p2.isNone) w := fun d => by
    cases p1 with
    | none => simp only [Op.equalIn, Sem.run_bind, run_under ht, Result.andThen_ok, Sem.run_pure, Option.isNone_none, Bool.true_and]
    | some p1 =>
      cases p2 with
      | none => simp only [Op.equalIn, Sem.run_bind, run_under ht, Result.andThen_ok, Sem.run_pure, Option.isNone_some, Bool.false_and]
      | some p2 => simp at h
  exact this 9999

theorem eql_run {t : TypeId} {x y : Value} {r : Bool} (he : binOp .eql t x y = (do pure (.bool (← Op.equal t x y)) : Sem Value)) (h : (Op.equal t x y).run P w = .ok r w) : (binOp .eql t x y).run P w = .ok (.bool r) w := by
  rw [he]; simp only [Sem.run_bind, h, Result.andThen_ok, Sem.run_pure]

theorem neq_run {t : TypeId} {x y : Value} {r : Bool} (he : binOp .neq t x y = (do pure (.bool (!(← Op.equal t x y))) : Sem Value)) (h : (Op.equal t x y).run P w = .ok r w) : (binOp .neq t x y).run P w = .ok (.bool !r) w := by
  rw [he]; simp only [Sem.run_bind, h, Result.andThen_ok, Sem.run_pure]

theorem binop_all (h : Rel B st a w W) {op : BinOp} {t : TypeId} {x y : Operand} {u : Value} (hu : binop st (P.underlying t) op (st.get x) (st.get y) = some u) :
    plain u = true ∧ ∃ vx vy, a.eval x = vx ∧ a.eval y = vy ∧ ∀ w' : World, (eqGuard op t x y vx vy).run P w' = .ok () w' ∧ (binOp op t vx vy).run P w' = .ok u w' := by
  have hx := h.get x
  have hy := h.get y
  have main : ∀ (vx vy : Value), a.eval x = vx → a.eval y = vy → (∀ w' : World, (eqGuard op t x y vx vy).run P w' = .ok () w') → (∀ w' : World, (binOp op t vx vy).run P w' = .ok u w') → plain u = true →
      plain u = true ∧ ∃ vx vy, a.eval x = vx ∧ a.eval y = vy ∧ ∀ w' : World, (eqGuard op t x y vx vy).run P w' = .ok () w' ∧ (binOp op t vx vy).run P w' = .ok u w' := by
    intro vx vy h1 h2 h3 h5 h6
    exact ⟨h6, vx, vy, h1, h2, fun w' => ⟨h3 w', h5 w'⟩⟩
  unfold binop at hu
  split at hu
  · rename_i k p k' q hp hq
    rw [hp] at hx
    rw [hq] at hy
    have ex := (sc_val (v_false hx)).1
    have ey := (sc_val (v_false hy)).1
    split at hu
    · split at hu
      · cases hu
      · rename_i hneg
        cases hu
        exact main _ _ ex ey (fun _ => eqGuard_int) (fun _ => (by simp only [binOp, Op.shift]; rw [if_neg hneg]; rfl)) rfl
    · split at hu
      · cases hu
      · rename_i hneg
        cases hu
        exact main _ _ ex ey (fun _ => eqGuard_int) (fun _ => (by simp only [binOp, Op.shift]; rw [if_neg hneg]; rfl)) rfl
    · split at hu
      · rename_i hk
        subst hk
        exact main _ _ ex ey (fun _ => eqGuard_int) (fun _ => (int_run hu)) (int_plain hu)
      · cases hu
  · rename_i p q hp hq
    rw [hp] at hx
    rw [hq] at hy
    exact main _ _ (sc_val (v_false hx)).1 (sc_val (v_false hy)).1 (fun _ => eqGuard_str) (fun _ => (str_run hu)) (str_plain hu)
  · rename_i p q hp hq
    rw [hp] at hx
    rw [hq] at hy
    have ex := (sc_val (v_false hx)).1
    have ey := (sc_val (v_false hy)).1
    split at hu
    · rename_i ht
      cases hu
      exact main _ _ ex ey (fun _ => eqGuard_bool) (fun _ => (eql_run rfl (equal_bool ht))) rfl
    · rename_i ht
      cases hu
      exact main _ _ ex ey (fun _ => eqGuard_bool) (fun _ => (neq_run rfl (equal_bool ht))) rfl
    · cases hu
  · rename_i p q _ _ _ hp hq
    rw [hp] at hx
    rw [hq] at hy
    split at hu
    · rename_i el b1 b2 ht h1 h2
      obtain ⟨p1, e1, e2, _⟩ := ptr_val h h1 (v_false hx)
      obtain ⟨p2, e3, e4, _⟩ := ptr_val h h2 (v_false hy)
      have hrun : ∀ {w : World} (hor : (b1 || b2) = true), (Op.equal t (.pointer p1) (.pointer p2)).run P w = .ok (b1 && b2) w := by
        intro w hor
        rw [← e2, ← e4] at hor ⊢
        exact equal_ptr ht hor
      split at hu
      · have hor : (b1 || b2) = true := by assumption
        cases hu
        exact main _ _ e1 e3 (fun _ => eqGuard_ptr) (fun _ => (eql_run rfl (hrun hor))) rfl
      · have hor : (b1 || b2) = true := by assumption
        cases hu
        exact main _ _ e1 e3 (fun _ => eqGuard_ptr) (fun _ => (neq_run rfl (hrun hor))) rfl
      · cases hu
    · cases hu
  · cases hu

theorem ok_binOp (h : Rel B st a w W) (hn : nt = B.nt) {op : BinOp} {t t2 : TypeId} {x y : Operand} (ho : o.op = .binOp op t x y t2) (e : evOp P cfg callF nt o st = some st') : Good P B o st' a w := by
  simp only [evOp, ho] at e
  obtain ⟨u, hu, e⟩ := Option.bind_eq_some_iff.1 e
  obtain ⟨h6, vx, vy, h1, h2, h3⟩ := binop_all h hu
  refine good_put h hn (u := u) ?_ (SR_sc h6) e
  simp [execOp, ho, h1, h2, (h3 w).1, (h3 w).2]

theorem RRs.take {L : Nat → Option Obj} {rs : List RV} {vs : List Value} (h : RRs w W L rs vs) (n : Nat) : RRs w W L (rs.take n) (vs.take n) := by
  induction h generalizing n with
  | nil => simpa using RRs.nil
  | cons h _ ih =>
    cases n with
    | zero => simpa using RRs.nil
    | succ n => simpa using RRs.cons h (ih n)

theorem RRs.drop {L : Nat → Option Obj} {rs : List RV} {vs : List Value} (h : RRs w W L rs vs) (n : Nat) : RRs w W L (rs.drop n) (vs.drop n) := by
  induction h generalizing n with
  | nil => simpa using RRs.nil
  | cons h h2 ih =>
    cases n with
    | zero => simpa using RRs.cons h h2
    | succ n => simpa using ih n

theorem RRs.append {L : Nat → Option Obj} {rs rs' : List RV} {vs vs' : List Value} (h : RRs w W L rs vs) (h' : RRs w W L rs' vs') : RRs w W L (rs ++ rs') (vs ++ vs') := by
  induction h with
  | nil => exact h'
  | cons h _ ih => exact .cons h ih

theorem RRs.splice {L : Nat → Option Obj} {rs rs' : List RV} {vs vs' : List Value} (h : RRs w W L rs vs) (h' : RRs w W L rs' vs') (off : Nat) : RRs w W L (splice rs off rs') (splice vs off vs') := by
  unfold Sim.splice
  rw [← h'.length]
  exact (h.take off).append (h'.append (h.drop _))

theorem RRs.map {L : Nat → Option Obj} {α : Type} {f : α → Option RV} {g : α → Value} : ∀ {l : List α} {rs : List RV}, l.mapM f = some rs → (∀ x r, f x = some r → RR w W L r (g x)) → RRs w W L rs (l.map g)
  | [], rs, h, _ => by simp at h; subst h; exact .nil
  | x :: l, rs, h, hf => by
    simp only [List.mapM_cons, Option.bind_eq_bind] at h
    obtain ⟨r, hr, h⟩ := Option.bind_eq_some_iff.1 h
    obtain ⟨rs', hrs, h⟩ := Option.bind_eq_some_iff.1 h
    cases h
    exact .cons (hf x r hr) (RRs.map hrs hf)

theorem ok_convert (h : Rel B st a w W) (hn : nt = B.nt) {s t : TypeId} {x : Operand} (ho : o.op = .convert s t x) (e : evOp P cfg callF nt o st = some st') : Good P B o st' a w := by
  simp only [evOp, ho] at e
  have hx := h.get x
  split at e
  · rename_i d k t0 k0 n hs ht hv
    rw [hv] at hx
    have hxv := (sc_val (v_false hx)).1
    refine good_put h hn (u := .int k (k.wrap n)) ?_ (SR_sc rfl) e
    simp [execOp, ho, hxv, convert, run_under hs, run_under ht, Conv.intToInt]
  · rename_i t0 b hs ht hv
    rw [hv] at hx
    have hxv := (sc_val (v_false hx)).1
    refine good_put h hn (u := .string b) ?_ (SR_sc rfl) e
    simp [execOp, ho, hxv, convert, run_under hs, run_under ht]
  · rename_i el r hs ht hv
    rw [hv] at hx
    split at e
    · rename_i hel
      obtain ⟨⟨t1, es⟩, he, e⟩ := Option.bind_eq_some_iff.1 e
      obtain ⟨l, hl, e⟩ := Option.bind_eq_some_iff.1 e
      obtain ⟨us, hc, hs1, hlen, hfirst⟩ := elems_ok (P := P) h (v_false hx) he
      have hbytes : ∀ (es : List AV) (us : List Value) (l : List UInt8) (s : ByteArray), CRi w (W.F (tg t1)) (es.flatMap AV.cells) us → bytesOf es = some l →
          (forIn us s (fun (c : Value) (s : ByteArray) => match c with
            | .int .u8 n => (pure (ForInStep.yield (s.push (UInt8.ofNat n.toNat))) : Sem (ForInStep ByteArray))
            | _ => (fun (_ : PUnit) => ForInStep.yield s) <$> stuck "bytesToString: byte expected")).run P w = .ok ⟨s.data ++ l.toArray⟩ w := by
        intro es
        induction es with
        | nil => intro us l s hc hl; cases hc; cases hl; simp
        | cons x es ih =>
          intro us l s hc hl
          unfold bytesOf at hl
          split at hl
          · rename_i he; cases he
          · rename_i n r he
            cases he
            obtain ⟨l', hl', hll⟩ := Option.map_eq_some_iff.1 hl
            subst hll
            cases hc with
            | sc hp hc =>
              simp only [List.forIn_cons, Sem.run_bind, Sem.run_pure, Result.andThen_ok]
              rw [ih _ _ _ hc hl']
              simp [ByteArray.push]
          · cases hl
      have hstr : ∀ (bs : List UInt8) (es : List AV) (l : List UInt8), CRi w (W.F (tg t1)) (es.flatMap AV.cells) (bs.map fun b => Value.int .u8 b.toNat) → bytesOf es = some l → l = bs := by
        intro bs
        induction bs with
        | nil =>
          intro es l hc hl
          cases es with
          | nil => cases hl; rfl
          | cons x es =>
            unfold bytesOf at hl
            split at hl
            · rename_i he; cases he
            · rename_i n r he
              cases he
              cases hc
            · cases hl
        | cons b bs ih =>
          intro es l hc hl
          cases es with
          | nil => cases hc
          | cons x es =>
            unfold bytesOf at hl
            split at hl
            · rename_i he; cases he
            · rename_i n r he
              cases he
              obtain ⟨l', hl', hll⟩ := Option.map_eq_some_iff.1 hl
              subst hll
              cases hc with
              | sc hp hc =>
                rw [ih _ _ hc hl']
                simp
            · cases hl
      refine good_put h hn (u := .string ⟨l.toArray⟩) ?_ (SR_sc rfl) e
      have hf := hfirst w (fun _ _ h => h)
      have hrun : (convert s t (a.eval x)).run P w = .ok (.string ⟨l.toArray⟩) w := by
        cases hxv : a.eval x with
        | string s =>
          rw [hxv] at hf hlen
          simp [Builtin.lenOf] at hlen
          simp only [Builtin.firstCells, ← hlen] at hf
          have hu : us = s.data.toList.map fun b => Value.int .u8 b.toNat := by
            have := congrArg (fun r : Result (Array Value) => match r with | .ok v _ => v.toList | _ => []) hf
            simpa using this.symm
          rw [hu] at hc
          have := hstr _ _ _ hc hl
          subst this
          simp [convert, run_under hs, run_under ht]
        | slice a0 n cap =>
          rw [hxv] at hf hlen
          simp [Builtin.lenOf] at hlen
          have hb := hbytes es us l ByteArray.empty hc hl
          cases a0 with
          | none =>
            simp only [Builtin.firstCells] at hf
            have hu : us = [] := by
              have := congrArg (fun r : Result (Array Value) => match r with | .ok v _ => v.toList | _ => []) hf
              simpa using this.symm
            subst hu
            have : l = [] := by
              cases es with
              | nil => cases hl; rfl
              | cons x es =>
                unfold bytesOf at hl
                split at hl
                · rename_i he; cases he
                · rename_i n r he
                  cases he
                  cases hc
                · cases hl
            subst this
            simp [convert, run_under hs, run_under ht, run_under hel, Conv.bytesToString]
            rfl
          | some ad =>
            simp only [Builtin.firstCells, Nat.mul_one, ← hlen] at hf
            simp [convert, run_under hs, run_under ht, run_under hel, Conv.bytesToString, hf]
            have hemp : (⟨ByteArray.empty.data ++ l.toArray⟩ : ByteArray) = ⟨l.toArray⟩ := by
              have : ByteArray.empty.data = #[] := rfl
              rw [this]; simp
            rw [hemp] at hb
            exact congrArg (fun r : Result ByteArray => r.andThen fun a w' => .ok (Value.string a) w') hb
        | _ => rw [hxv] at hlen; cases hlen
      simp [execOp, ho, hrun]
    · cases e
  · cases e

theorem ok_extract (h : Rel B st a w W) (hn : nt = B.nt) {x : Operand} {i : Nat} (ho : o.op = .extract x i) (e : evOp P cfg callF nt o st = some st') : Good P B o st' a w := by
  simp only [evOp, ho] at e
  have hx := h.get x
  split at e
  · rename_i vs hv
    rw [hv] at hx
    obtain ⟨us, hu, hc⟩ := hx
    obtain ⟨⟨ag, cs⟩, hi, e⟩ := Option.bind_eq_some_iff.1 e
    have get : ∀ {xs : List (Bool × List RV)} {us : List Value} {i : Nat} {y : Bool × List RV}, CompsR w W st.L xs us → xs[i]? = some y → ∃ u, us[i]? = some u ∧ CompR w W st.L y u := by
      intro xs us i y hc
      induction hc generalizing i with
      | nil => intro h; simp at h
      | cons h1 _ ih =>
        intro h
        cases i with
        | zero => simp at h; subst h; exact ⟨_, rfl, h1⟩
        | succ i => simpa using ih (by simpa using h)
    obtain ⟨u, hu2, hcr⟩ := get hc hi
    refine good_put h hn (u := u) ?_ (show SR w W st.L (.v ag cs) u from hcr) e
    have : us[i]? = some u := by simpa using hu2
    simp [execOp, ho, hu, Instr.extract, this]
  · cases e

theorem ok_makeFunc (h : Rel B st a w W) (hn : nt = B.nt) {f : FuncId} {first caps : Array Operand} (ho : o.op = .makeFunc (.func f) first caps) (e : evOp P cfg callF nt o st = some st') : Good P B o st' a w := by
  simp only [evOp, ho] at e
  split at e
  · rename_i hf
    have hf := beq_eq hf
    obtain ⟨rs, hr, e⟩ := Option.bind_eq_some_iff.1 e
    have : first = #[] := Array.eq_empty_of_size_eq_zero hf
    subst this
    have hrs : RRs w W st.L rs (caps.map a.eval).toList := by
      have := RRs.map (w := w) (W := W) (L := st.L) (g := a.eval) hr fun x r hx => one_rr hx (h.get x)
      simpa using this
    refine good_put h hn (u := .func (.func f) #[] (caps.map a.eval)) ?_ (show SR w W st.L (.fn f rs) _ from ⟨_, rfl, hrs⟩) e
    simp [execOp, ho, Instr.makeFunc]
  · cases e

theorem len_string {t ty : TypeId} {s : ByteArray} (ht : P.underlying t = some .string) : (Builtin.len_ #[t] ty #[.string s]).run P w = .ok (.int .i64 s.size) w := by
  simp [Builtin.len_, run_under ht, goInt]

theorem len_slice {t el ty : TypeId} {a0 : Option Addr} {n cap : Nat} (ht : P.underlying t = some (.slice el)) : (Builtin.len_ #[t] ty #[.slice a0 n cap]).run P w = .ok (.int .i64 n) w := by
  simp [Builtin.len_, run_under ht, goInt]

/-- A call of a builtin function that only computes. -/
theorem run_builtin {c : Call} {b : Builtin} (hc : c.callee = .builtin b) (ho : o.op = .call c) {s : Array TypeId → TypeId → Array Value → Sem Value} (hb : ∀ at' t cs args, builtin b at' t cs args = (do pure (.value (← s at' t args)) : Sem Next))
    {u : Value} {w' : World} (hr : (s c.argTypes o.type (c.args.map a.eval)).run P w = .ok u w') : (execOp a.eval o).run P w = .ok (.value u) w' := by
  unfold execOp
  rw [ho]
  simp only [resolve, hc, Sem.run_bind, Sem.run_pure, Result.andThen_ok, invoke, hb, hr]

theorem ok_len (h : Rel B st a w W) (hn : nt = B.nt) {c : Call} (hc : c.callee = .builtin .len) (ho : o.op = .call c) (e : evOp P cfg callF nt o st = some st') : Good P B o st' a w := by
  simp only [evOp, ho, hc] at e
  split at e
  · rename_i t0 s hs
    split at e
    · rename_i ht
      obtain ⟨t, htt, ht⟩ := Option.bind_eq_some_iff.1 ht
      obtain ⟨x, hx⟩ : ∃ x, c.args = #[x] := by
        have := congrArg List.length hs
        simp at this
        obtain ⟨x, hx⟩ := Array.size_eq_one_iff.1 this
        exact ⟨x, hx⟩
      rw [hx] at hs
      simp at hs
      have hv := h.get x
      rw [hs] at hv
      have hxv := (sc_val (v_false hv)).1
      refine good_put h hn (u := .int .i64 s.size) (run_builtin hc ho (s := Builtin.len_) (fun _ _ _ _ => rfl) ?_) (SR_sc rfl) e
      rw [hx]
      simp [Builtin.len_, htt, hxv, run_under ht, goInt]
    · cases e
  · rename_i r hne hs
    split at e
    · rename_i el ht
      obtain ⟨t, htt, ht⟩ := Option.bind_eq_some_iff.1 ht
      obtain ⟨n, hl, e⟩ := Option.bind_eq_some_iff.1 e
      obtain ⟨x, hx⟩ : ∃ x, c.args = #[x] := by
        have := congrArg List.length hs
        simp at this
        obtain ⟨x, hx⟩ := Array.size_eq_one_iff.1 this
        exact ⟨x, hx⟩
      rw [hx] at hs
      simp at hs
      have hv := h.get x
      rw [hs] at hv
      obtain ⟨a0, cap, hxv, _⟩ := slice_val h hl (v_false hv)
      refine good_put h hn (u := .int .i64 n) (run_builtin hc ho (s := Builtin.len_) (fun _ _ _ _ => rfl) ?_) (SR_sc rfl) e
      rw [hx]
      simp [Builtin.len_, htt, hxv, run_under ht, goInt]
    · cases e
  · cases e

theorem fold_run {f : Int → Int → Int} {g : Value → Value → Sem Value} (hg : ∀ k x k' y, g (.int k x) (.int k' y) = pure (.int k (f x y))) : ∀ (xs : List SV) (vs : List Value) (k : IntKind) (n : Int) {u : Value},
    xs.length = vs.length → (∀ (i : Nat) x v, xs[i]? = some x → vs[i]? = some v → SR w W st.L x v) → foldInt f k n xs = some u → (vs.foldlM g (.int k n)).run P w = .ok u w ∧ plain u = true
  | [], [], k, n, u, _, _, h => by simp [foldInt] at h; subst h; exact ⟨rfl, rfl⟩
  | [], _ :: _, k, n, u, hl, _, _ => by simp at hl
  | _ :: _, [], k, n, u, hl, _, _ => by simp at hl
  | x :: xs, v :: vs, k, n, u, hl, hr, h => by
    have h0 := hr 0 x v rfl rfl
    unfold foldInt at h
    split at h
    · rename_i e; cases e
    · rename_i t k' b r e
      injection e with e1 e2
      subst e1 e2
      have hv := (sc_val (v_false h0)).1
      subst hv
      have ih := fold_run hg xs vs k (f n b) (by simpa using hl) (fun i y u hy hu => hr (i + 1) y u (by simpa using hy) (by simpa using hu)) h
      refine ⟨?_, ih.2⟩
      simp only [List.foldlM_cons, Sem.run_bind, hg, Sem.run_pure, Result.andThen_ok]
      exact ih.1
    · cases h

theorem ok_fold (h : Rel B st a w W) (hn : nt = B.nt) {f : Int → Int → Int} {g : Value → Value → Sem Value} (hg : ∀ k x k' y, g (.int k x) (.int k' y) = pure (.int k (f x y))) {c : Call} {b : Builtin} (hc : c.callee = .builtin b) (ho : o.op = .call c)
    (hb : ∀ at' t cs (args : Array Value) y r, args.toList = y :: r → builtin b at' t cs args = (do pure (.value (← r.foldlM g y)) : Sem Next))
    {u : Value} (e1 : foldInts f (c.args.toList.map st.get) = some u) (e : putD nt o.dst st (.im 0 (.sc u)) = some st') : Good P B o st' a w := by
  unfold foldInts at e1
  split at e1
  · rename_i t k x r hs
    obtain ⟨y, ys, hy, hys⟩ : ∃ y ys, c.args.toList = y :: ys ∧ ys.map st.get = r ∧ st.get y = .v false [.im t (.sc (.int k x))] := by
      cases hl : c.args.toList with
      | nil => rw [hl] at hs; simp at hs
      | cons y ys => rw [hl] at hs; simp at hs; exact ⟨y, ys, rfl, hs.2, hs.1⟩
    obtain ⟨hys, hy1⟩ := hys
    have hv := h.get y
    rw [hy1] at hv
    have hyv := (sc_val (v_false hv)).1
    have hf := fold_run (P := P) (w := w) (W := W) (st := st) hg r (ys.map a.eval) k x (by rw [← hys]; simp) (fun i z u hz hu => by
      rw [← hys] at hz
      simp only [List.getElem?_map] at hz hu
      cases hi : ys[i]? with
      | none => simp [hi] at hz
      | some q => simp [hi] at hz hu; subst hz hu; exact h.get q) e1
    refine good_put h hn (u := u) ?_ (SR_sc hf.2) e
    have hargs : (c.args.map a.eval).toList = .int k x :: ys.map a.eval := by
      rw [Array.toList_map, hy, List.map_cons, hyv]
    unfold execOp
    rw [ho]
    simp only [resolve, hc, Sem.run_bind, Sem.run_pure, Result.andThen_ok, invoke]
    rw [hb _ _ _ _ _ _ hargs]
    simp only [Sem.run_bind, hf.1, Result.andThen_ok, Sem.run_pure]
  · cases e1

theorem ok_min (h : Rel B st a w W) (hn : nt = B.nt) {c : Call} (hc : c.callee = .builtin .min) (ho : o.op = .call c) (e : evOp P cfg callF nt o st = some st') : Good P B o st' a w := by
  simp only [evOp, ho, hc] at e
  obtain ⟨u, hu, e⟩ := Option.bind_eq_some_iff.1 e
  refine ok_fold h hn (f := min2) (g := Builtin.min2) (fun k x k' y => rfl) hc ho (fun at' t cs args y r hl => ?_) hu e
  simp only [builtin, Builtin.min_, hl]

theorem ok_max (h : Rel B st a w W) (hn : nt = B.nt) {c : Call} (hc : c.callee = .builtin .max) (ho : o.op = .call c) (e : evOp P cfg callF nt o st = some st') : Good P B o st' a w := by
  simp only [evOp, ho, hc] at e
  obtain ⟨u, hu, e⟩ := Option.bind_eq_some_iff.1 e
  refine ok_fold h hn (f := max2) (g := Builtin.max2) (fun k x k' y => rfl) hc ho (fun at' t cs args y r hl => ?_) hu e
  simp only [builtin, Builtin.max_, hl]

end
end
end Go.Sim
