import PyProof.Rows.All
import Wide.All
import OpenK.AllK
import Wide.FinOn
import HandS.ForMost
import HandS.Wide
import HandS.Walk
import KE.GoesEnum
import KE.KxText
import PySem.Challenge.RW_ringloads_k53_whole_no_ways_have_less
set_option Elab.async false
set_option linter.all false
set_option maxRecDepth 100000
set_option maxHeartbeats 4000000
set_option exponentiation.threshold 20000
namespace Rg
open PySem PySem.Spec L2 PyProof.Rows
/-! enumerate(t), t a tuple, as something that is walked -/
theorem enum_new1 {v : Value} {ob : Obj} {Hb : Heap → Prop} (hB : Begins v ob Hb) :
    Meets (Builtin.«enumerate.__new__» ⟨[.type "enumerate", v], []⟩) (fun _ R z => Hb z.heap ∧
      R (.ok (.ret (.ref (z.heap.push ob).objs.size))) { z with heap := (z.heap.push ob).push { cls := .type "enumerate", data := .fields #[.none, .bool false, .ref z.heap.objs.size, rawInt 0, .none, .none] } }) :=
  .of_wp fun pr w A R z hz => by
    obtain ⟨hp, gs, dr, tk, os⟩ := z
    obtain ⟨b1, hz⟩ := hz
    have hsub := sub_enumerate
    have go1 : ∀ {A1 : Around} {E1 : Value → Shared → Prop} {Q1 : Value → Shared → Prop}, Q1 (.ref hp.objs.size) ⟨hp.push ob, gs, dr, tk, os⟩ → wpAny (model pr w) A1 (pyIter v) Q1 E1 ⟨hp, gs, dr, tk, os⟩ :=
      fun q => hB.iter pr w _ _ ⟨hp, gs, dr, tk, os⟩ _ b1 q
    wp_walk using go1
    refine wpAny_stack_any fun st => wpAny_pure ?_
    split
    · rename_i cc _ _ _ _ _
      cases (cc == Value.type "enumerate") <;> (wp_walk using go1; exact ⟨_, rfl, hz⟩)
    · (wp_walk using go1); exact ⟨_, rfl, hz⟩
section
variable {prog : Program} {w : World} {A : Around} {E : Value → Shared → Prop} {s : Shared}
theorem call_enum1 {v : Value} {ob : Obj} {Hb : Heap → Prop} {Q : Value → Shared → Prop} (hB : Begins v ob Hb) (b1 : Hb s.heap)
    (k : ∀ h1, IsEnum h1 (s.heap.objs.size + 1) s.heap.objs.size 0 .none → h1.get? s.heap.objs.size = some ob →
      (∀ b u, s.heap.get? b = some u → h1.get? b = some u) → Q (.ref (s.heap.objs.size + 1)) { s with heap := h1 }) :
    wpAny (model prog w) A (call (.type "enumerate") [v]) Q E s := by
  refine callType_new F.called_enumerate (by decide) (F.typeCall_enumerate_1 _) (F.newCall_enumerate_1 _) (fun obj => F.args_object_init_2 obj _) F.entry_enumerate_new (enum_new1 hB) ⟨b1, ?_⟩
  have sz1 : (s.heap.push ob).objs.size = s.heap.objs.size + 1 := Heap.size_push ..
  show _ ∧ _
  rw [sz1]
  have ie : IsEnum ((s.heap.push ob).push { cls := .type "enumerate", data := .fields #[.none, .bool false, .ref s.heap.objs.size, rawInt 0, .none, .none] }) (s.heap.objs.size + 1) s.heap.objs.size 0 .none := by
    have q := Heap.get?_push_size (s.heap.push ob) (o := { cls := .type "enumerate", data := .fields #[.none, .bool false, .ref s.heap.objs.size, rawInt 0, .none, .none] }) rfl
    rw [sz1] at q
    exact q
  exact ⟨⟨_, ie, rfl⟩, k _ ie (Heap.get?_push_of_some _ (Heap.get?_push_size _ hB.free)) fun b u x => Heap.get?_push_of_some _ (Heap.get?_push_of_some _ x)⟩
end
/-- the tuple at a, each item in a new pair -/
def Itet (K : PySem.W.Frag) (a : Addr) : It where
  go := fun i H => ∃ (xs : List V) (x : V), SqT K H a xs ∧ xs[i]? = some x
  yld := fun i H v H' => ∃ T x, v = .ref T ∧ H T = none ∧ H' = upd H T (.tup [.int (i : Nat), x]) ∧ ∀ xs, SqT K H a xs → xs[i]? = some x
  stop := fun i H => ∃ xs : List V, SqT K H a xs ∧ xs.length = i
theorem turn_enumT {P : Program} {w : World} {K : PySem.W.Frag} {elts : List Expr} {kk : Nat} {tpos : Pos} (a e it : Addr) :
    Turn P w K (.Tuple elts kk tpos) (Itet K a) [e, it] e (fun i h => (∃ old, IsEnum h e it ((i : Nat) : Int) old) ∧ h.IsTupleIter it a i ∧ e ≠ it ∧ a ≠ it ∧ e ≠ a) where
  mem := List.mem_cons_self
  obj := fun i h st b hb => by
    obtain ⟨⟨old, he⟩, ⟨o, ho, hc, hd⟩, _⟩ := st
    rcases (show b = e ∨ b = it by simpa using hb) with z | z <;> subst z
    · exact ⟨_, he, fun v q => nomatch q⟩
    · exact ⟨o, ho, fun v q => by rw [hd] at q; cases q⟩
  keep := fun i h h' st k => by
    obtain ⟨⟨old, he⟩, hi, hne⟩ := st
    exact ⟨⟨old, k e (by simp) _ he⟩, hi.at fun o q => k it (by simp) o q, hne⟩
  item := by
    intro X hP hw hK hc i pins s σ H E I hf st hg
    subst hP hw hK
    obtain ⟨⟨old, he⟩, hit, hne, hai, hea⟩ := st
    obtain ⟨xs, x, hq, hx⟩ := hg
    obtain ⟨its, rv, p, hz⟩ := I.tuple hq
    obtain ⟨u, hu, ru⟩ := rv.get hx
    have hel : e < s.heap.objs.size := Heap.lt_size he
    have hil : it < s.heap.objs.size := by
      obtain ⟨_, q, _⟩ := hit
      exact Heap.lt_size q
    have hlen : i < its.toArray.size := by
      have := (List.getElem?_eq_some_iff.mp hu).1
      simpa using this
    refine wpAny_pyNext_enum_itemC (Draws.tuple (A := X.A.in1) (I.ok.hd hc) it a hai its.toArray) he (i := i) ⟨hit, (show s.heap.IsTuple a its.toArray from p)⟩ hlen hne (by simp [hne, hea]) fun y h' tk hy ho hs' hT hsz hk => ?_
    have hyu : y = u := by
      have h1 : its.toArray[i]? = some y := hy
      simp [hu] at h1
      exact h1.symm
    subst hyu
    refine ⟨_, rfl, wpAny_letOwnedTupleGo_enum (s := { s with heap := h', toks := tk + 1 }) ho fun h2 he' sb => ?_⟩
    have hT2 : h2.get? s.heap.objs.size = some { cls := .type "tuple", data := .seq #[.int i tk, y] } := (sb.2 _ (Nat.ne_of_gt hel)).trans hT
    have new : ObjOk X.prog X.w (upd H s.heap.objs.size (.tup [.int (i : Nat), x])) h2 s.heap.objs.size (.tup [.int (i : Nat), x]) :=
      ⟨by show 2 ≤ sizeLine; decide, [.int i tk, y], .cons ⟨_, rfl⟩ (.cons ru .nil), ⟨_, hT2, rfl, _, rfl⟩⟩
    have I1 : L2.Inv X pins σ (upd H s.heap.objs.size (.tup [.int (i : Nat), x])) { s with heap := h2, toks := tk + 1 } :=
      I.turnedNew (ch := [e, it]) (fun b ob hb q => (sb.2 b (fun z => hb (by simp [z]))).trans (hk b ob (fun z => hb (by simp [z])) (fun z => hb (by simp [z])) q)) hf (Nat.le_refl _) new
    refine ⟨.ref s.heap.objs.size, _, I1, rfl, ⟨_, x, rfl, I.hok.fresh (Nat.le_refl _), rfl, fun ys hy => by rw [I.tuple_inj hy hq]; exact hx⟩, ⟨⟨y, ?_⟩, hs'.1.at fun o q => (sb.2 it (Ne.symm hne)).trans q, hne, hai, hea⟩, fun b hb => ?_⟩
    · have e1 : ((i + 1 : Nat) : Int) = (i : Int) + 1 := by omega
      rw [e1]
      exact he'
    · have hb' : b < s.heap.objs.size := by
        rcases (show b = e ∨ b = it by simpa using hb) with z | z <;> subst z <;> assumption
      rw [upd_ne (Nat.ne_of_lt hb')]
      exact (hf b hb).1
  done := by
    intro X hP hw hK hc i pins s σ H E I hf st hg
    subst hP hw hK
    obtain ⟨⟨old, he⟩, hit, hne, hai, hea⟩ := st
    obtain ⟨xs, hq, hx⟩ := hg
    obtain ⟨its, rv, p, hz⟩ := I.tuple hq
    obtain ⟨f0, f1, f2, f3, f4, f5⟩ := hf it (by simp)
    have hl := rv.length
    refine wpAny_pyNext_enum_endD (Draws.tuple (A := X.A.in1) (I.ok.hd hc) it a hai its.toArray) he (n := its.toArray.size) ⟨?_, (show s.heap.IsTuple a its.toArray from p)⟩ fun h' eb => ⟨rfl, I.turned (t' := s.toks) (fun b o hb q => eb b o hb q) f0 f1 f3 f4 f5⟩
    rw [List.size_toArray, ← hl, hx]
    exact hit
  self := fun A i s Q E st k => by
    obtain ⟨⟨_, he⟩, _⟩ := st
    exact wpAny_pyIter_enum he k
def iEnumT (K : PySem.W.Frag) (ta : TA) : TI := fun σ H R => ta σ H fun vs H1 => ∃ a xs, vs = [.ref a] ∧ SqT K H1 a xs ∧ R (Itet K a) H1
theorem pi_enumT {X : Cx} {e : Expr} {ta : TA} {p pos tpos : Pos} {elts : List Expr} {kk : Nat} (hm : X.mg "enumerate" = none) (ha : PA X [e] ta) (hg : Gl X "enumerate" := by rfl) (hs : starEach [e] X.env = [(false, eval e X.env)] := by rfl) :
    PI X (.Tuple elts kk tpos) (.Call (.Name "enumerate" p) [e] [] pos) (iEnumT X.K ta) := by
  refine ⟨fun pins s σ H R I h => ?_⟩
  refine Call_ (ld_blt I hg hm boot_enumerate (PyProof.Rows.callWith_type1 (thn (ha.run pos pins s σ H _ I h) fun us s1 ⟨vs, H1, I1, r1, q1⟩ => ?_) hs rfl))
  obtain ⟨a, xs, ex, hq, q⟩ := q1
  subst ex
  cases r1 with
  | cons r rr =>
    cases rr
    cases r
    obtain ⟨its, rv, tp, hz⟩ := I1.tuple hq
    have al : a < s1.heap.objs.size := tp.lt
    refine call_enum1 (begins_tuple a its.toArray) (show s1.heap.IsTuple a its.toArray from tp) fun h' he ho hk => wpAny_pyIter_enum he ?_
    have I2 : L2.Inv X pins σ H1 { s1 with heap := h' } := I1.kept (t' := s1.toks) hk
    refine ⟨s1.heap.objs.size + 1, [s1.heap.objs.size + 1, s1.heap.objs.size], _, _, H1, rfl, I2, turn_enumT a (s1.heap.objs.size + 1) s1.heap.objs.size, ⟨⟨.none, he⟩, ⟨_, ho, rfl, rfl⟩, Nat.succ_ne_self _, Nat.ne_of_lt al, Nat.ne_of_gt (Nat.lt_succ_of_lt al)⟩, fun b hb => ?_, q⟩
    have hle : s1.heap.objs.size ≤ b := by
      rcases (show b = s1.heap.objs.size + 1 ∨ b = s1.heap.objs.size by simpa using hb) with z | z <;> rw [z]
      · exact Nat.le_add_right _ _
      · exact Nat.le_refl _
    exact I1.fpOk hle (I1.hok.fresh hle)
theorem walk_enumT {K : PySem.W.Frag} {a : Addr} {xs : List V} : Walk (Itet K a) xs.length (fun H => SqT K H a xs) (YPair (fun i => some (.int (i : Nat))) (fun i => xs[i]?)) where
  goes := fun i _ hi q => ⟨xs, xs[i], q, by simp [hi]⟩
  stops := fun _ q => ⟨xs, q, rfl⟩
  yields := fun i H v H' _ q y => by
    obtain ⟨T, x, h1, h2, h3, h4⟩ := y
    exact ⟨T, .int (i : Nat), x, h1, h2, h3, rfl, h4 xs q⟩
/-! ### calls by name, methods, new instances: the callee's address is hidden -/
abbrev Fg := PySem.W.Frag
/-- a def of the text as the module holds it -/
def Df (K : Fg) (mg : Str → Option Value) (x : Str) (st : Stmt) (ps : List Str) : Prop :=
  ∃ (f : Addr) (fd : FuncData), Fun K x x st f fd ∧ mg x = some (.ref f) ∧ Binds K fd ps []
def Mdf (K : Fg) (C : Addr) (m qual : Str) (st : Stmt) (ps : List Str) : Prop :=
  ∃ (f : Addr) (fd : FuncData), Fun K m qual st f fd ∧ Binds K fd ps [] ∧ Meth K C m f
def Idf (K : Fg) (mg : Str → Option Value) (C : Addr) (x qual : Str) (st : Stmt) (ps : List Str) : Prop :=
  ∃ (f : Addr) (fd : FuncData), Fun K "__init__" qual st f fd ∧ Binds K fd ps [] ∧ Mk K C f ∧ mg x = some (.ref C)
structure Cal (P : Program) (w : World) (K : Fg) (mg : Str → Option Value) (base : Heap) (k : Nat) (x : Str) (ps : List Str) (sp : Sp) : Prop where
  ex : ∃ (f : Addr) (fd : FuncData), FnOk P w K mg base CX0 k f fd ps sp ∧ mg x = some (.ref f) ∧ PySem.W.keepIn K (.ref f) = true ∧ Binds K fd ps []
structure MCal (P : Program) (w : World) (K : Fg) (mg : Str → Option Value) (base : Heap) (k : Nat) (C : Addr) (m : Str) (ps : List Str) (sp : Sp) : Prop where
  ex : ∃ (f : Addr) (fd : FuncData), FnOk P w K mg base CX0 k f fd ps sp ∧ Binds K fd ps [] ∧ Meth K C m f
structure NCal (P : Program) (w : World) (K : Fg) (mg : Str → Option Value) (base : Heap) (k : Nat) (C : Addr) (x : Str) (ps : List Str) (sp : Sp) : Prop where
  ex : ∃ (f : Addr) (fd : FuncData), FnOk P w K mg base CX0 k f fd ps sp ∧ Binds K fd ps [] ∧ Mk K C f ∧ mg x = some (.ref C)
/-- what a method's call is, as the machine's tree -/
def metTree (pos apos : Pos) (o : Expr) (es : List Expr) (m : Str) (pl : Sem Bool) (env : Env) : Sem Value := do
  let ov ← eval o env; standAt apos.atName
  let (f, one) ← holding [ov] (getMethod ov m pl); callWith pos f one (backTo pos (starEach es env)) (backToKw pos (keywordEach [] env))
section
variable {X : Cx} {k : Nat} {C : Addr} {ps : List Str} {sp : Sp} {x m : Str} {p pos apos : Pos} {e o : Expr} {es : List Expr} {ta : TE} {t : TA}
theorem pe_c (c : Cal X.prog X.w X.K X.mg X.base k x ps sp) (hr : Room k X.A) (ha : PA X (e :: es) t) (hg : Gl X x := by rfl) (hdb : (x == ("__debug__" : Str)) = false := by decide)
    (he : starEach (e :: es) X.env = (false, eval e X.env) :: starEach es X.env := by rfl) (hpl : (backTo pos (starEach es X.env)).any (·.1) = false := by rfl) :
    PE X (.Call (.Name x p) (e :: es) [] pos) (tCall sp [] E0 t) := by
  obtain ⟨f, fd, F, hm, hk, hb⟩ := c.ex
  exact pe_call F hr hg hm hk hb .nil pass0 ha hdb he hpl
theorem pe_n (c : NCal X.prog X.w X.K X.mg X.base k C x ps sp) (hr : Room (k + 1) X.A) (ha : PA X (e :: es) t) (hg : Gl X x := by rfl) (hdb : (x == ("__debug__" : Str)) = false := by decide)
    (he : starEach (e :: es) X.env = (false, eval e X.env) :: starEach es X.env := by rfl) (hpl : (backTo pos (starEach es X.env)).any (·.1) = false := by rfl) :
    PE X (.Call (.Name x p) (e :: es) [] pos) (tMake C sp [] E0 t) := by
  obtain ⟨f, fd, F, hb, hM, hm⟩ := c.ex
  exact pe_make hM F hr hg hm hb .nil pass0 ha hdb he hpl
theorem pe_m {pl : Sem Bool} (c : MCal X.prog X.w X.K X.mg X.base k C m ps sp) (cl : Cls X.K C) (hr : Room k X.A) (he : PE X o ta) (ha : PA X (e :: es) t)
    (hst : starEach (e :: es) X.env = (false, eval e X.env) :: starEach es X.env := by rfl) (hpl : (backTo pos (starEach es X.env)).any (·.1) = false := by rfl)
    (ht : eval (.Call (.Attribute o m apos) (e :: es) [] pos) X.env = metTree pos apos o (e :: es) m pl X.env := by rfl) : PE X (.Call (.Attribute o m apos) (e :: es) [] pos) (tMeth C m sp [] E0 ta t) := by
  obtain ⟨f, fd, F, hb, hM⟩ := c.ex
  exact pe_meth he cl hM F hr hb .nil pass0 ha hst hpl ht
theorem pe_m0 {pl : Sem Bool} (c : MCal X.prog X.w X.K X.mg X.base k C m ps sp) (cl : Cls X.K C) (hr : Room k X.A) (he : PE X o ta)
    (ht : eval (.Call (.Attribute o m apos) [] [] pos) X.env = metTree pos apos o [] m pl X.env := by rfl) : PE X (.Call (.Attribute o m apos) [] [] pos) (tMeth C m sp [] E0 ta tNil) := by
  obtain ⟨f, fd, F, hb, hM⟩ := c.ex
  exact pe_meth0 he cl hM F hr hb .nil pass0 ht
/-- a global constant -/
theorem pe_k {v : V} (hm : ∃ u, X.mg x = some u ∧ RelV v u) (hg : Gl X x := by rfl) (hd : (x == ("__debug__" : Str)) = false := by decide) : PE X (.Name x pos) (tC v) := by
  obtain ⟨u, h1, h2⟩ := hm
  exact pe_glob hg h1 h2 hd
end

/-! ### a field as one of several targets -/
def gFld (K : Fg) (ta : TE) (f : Str) : TG := fun v σ H Q => ta σ H fun x H2 => ∃ a C dx fs, x = .ref a ∧ H2 a = some (.ins C dx fs) ∧ Cls K C ∧ NoAttr K C f ∧ fs.length < 1000 ∧
  Q σ (upd H2 a (.ins C dx (putF f v fs)))
theorem pg_fld {X : Cx} {o : Expr} {f : Str} {pos : Pos} {ta : TE} (ho : PE X o ta)
    (hs : ∀ v, assign (.Attribute o f pos) X.env v = (do let ov ← holding [v] (eval o X.env); standAt pos.atName; holding [v, ov] (setAttr ov f v); release [v, ov] []) := by intro _; rfl) : PG X (.Attribute o f pos) (gFld X.K ta f) := by
  refine ⟨fun pins s σ H v u Q I r q => ?_⟩
  rw [hs]
  refine wpAny_bind (wpAny_holding (thn (ho.run pins s σ H _ I q) fun ov s1 q1 => ?_))
  obtain ⟨x, H1, I1, r1, a, C, dx, fs, ex, ea, c, n, l, q2⟩ := q1
  subst ex
  obtain rfl : ov = Value.ref a := r1
  refine wpAny_bind (wpAny_standAt (wpAny_bind (wpAny_holding (setattr_ok I1 ea c n l r fun s2 I2 => ?_))))
  exact wpAny_release ⟨σ, _, I2, q2⟩

/-! ### readings by values, with names of their own -/
def rAbs : List V → Hp → VK → Prop := fun xs H Q => ∃ i, xs = [.int i] ∧ Q (.int (if i < 0 then -i else i)) H
def rLen (K : Fg) : List V → Hp → VK → Prop := fun xs H Q => ∃ p ys, xs = [.ref p] ∧ (SqL K H p ys ∨ SqT K H p ys) ∧ Q (.int ys.length) H
def rLenS : List V → Hp → VK → Prop := fun xs H Q => ∃ z, xs = [.str z] ∧ z.length ≤ sizeLine ∧ Q (.int z.length) H
def rCopy (K : Fg) : List V → Hp → VK → Prop := fun xs H Q => ∃ p ys, xs = [.ref p] ∧ (SqL K H p ys ∨ SqT K H p ys) ∧ ∀ l, H l = none → Q (.ref l) (upd H l (.lst ys))
def rMx : List V → Hp → VK → Prop := fun xs H Q => ∃ i j, xs = [.int i, .int j] ∧ Q (.int (if j > i then j else i)) H
def rMn : List V → Hp → VK → Prop := fun xs H Q => ∃ i j, xs = [.int i, .int j] ∧ Q (.int (if j < i then j else i)) H
def rInt : List V → Hp → VK → Prop := fun xs H Q => (∃ i, xs = [.int i] ∧ Q (.int i) H) ∨ ∃ k, xs = [.bl k] ∧ Q (.int (if k then 1 else 0)) H
def rAddS : R2 := fun x y H Q => ∃ i j, x = .str i ∧ y = .str j ∧ i.length + j.length ≤ sizeLine ∧ Q (.str (i ++ j)) H
def rIsN : R2 := fun x y H Q => y = .non ∧ Q (.bl (decide (x = .non))) H
def rNotN : R2 := fun x y H Q => y = .non ∧ Q (.bl (!decide (x = .non))) H
section
variable {X : Cx}
theorem c_abs : CallR X (.builtin "abs") rAbs := call_abs
theorem c_len : CallR X (.builtin "len") (rLen X.K) := call_len_seq
theorem c_lenS : CallR X (.builtin "len") rLenS := call_len_str
theorem c_copy : CallR X (.type "list") (rCopy X.K) := call_list_of
theorem c_mx (hc : X.calm = true) : CallR X (.builtin "max") rMx := call_max2 hc
theorem c_mn (hc : X.calm = true) : CallR X (.builtin "min") rMn := call_min2 hc
theorem c_int : CallR X (.type "int") rInt := call_int1
theorem o_addS : OpR X (binaryOp .Add) rAddS := op_add_str
theorem o_isN : OpR X (compareOp .Is) rIsN := op_isN
theorem o_notN : OpR X (compareOp .IsNot) rNotN := op_notN
end

/-! ### the same rules, the written part by its name -/
section
variable {X : Cx} {a b e o tg value : Expr} {ta tb tv te : TE} {pos pos' p apos cpos tpos : Pos} {f : Str} {elts : List Expr} {kk : Nat} {tA : TA}
theorem ix_tk (K : Fg) (h : X.K = K := by rfl) : IxR X (rIxT K) := h ▸ ix_tup
theorem ix_lk (K : Fg) (h : X.K = K := by rfl) : IxR X (rIxL K) := h ▸ ix_list
theorem sl_lk (K : Fg) (h : X.K = K := by rfl) : SlR X (rSlL K) := h ▸ sl_list
theorem pe_fk (K : Fg) (he : PE X e ta) (h : X.K = K := by rfl) (hb : attributeBase e f X.env (eval e X.env) = eval e X.env := by rfl) : PE X (.Attribute e f pos) (tFld K ta f) := h ▸ pe_fld he hb
theorem ps_fk (K : Fg) (ha : PE X o ta) (hv : PE X value tv) (h : X.K = K := by rfl) (hs : swapsWith value (some (.Attribute o f pos')) pos.line X.env = pure false := by rfl) : PS X (.Assign [.Attribute o f pos'] value pos) (sFld K ta tv f) := h ▸ ps_fld ha hv hs
theorem pg_fk (K : Fg) (ho : PE X o ta) (h : X.K = K := by rfl) (hs : ∀ v, assign (.Attribute o f pos) X.env v = (do let ov ← holding [v] (eval o X.env); standAt pos.atName; holding [v, ov] (setAttr ov f v); release [v, ov] []) := by intro _; rfl) :
    PG X (.Attribute o f pos) (gFld K ta f) := h ▸ pg_fld ho hs
theorem pg_tk (K : Fg) (n : Nat) {es : List Expr} {t : TGs} (h1 : PGs X es t) (h : X.K = K := by rfl) (hc : X.calm = true := by rfl) (hn : (assignEach es X.env).length = n := by rfl) (hst : (assignEach es X.env).findIdx? (·.1) = none := by rfl) :
    PG X (.Tuple es kk pos) (gTup K n t) := h ▸ pg_tup hc h1 hn hst
theorem pi_lk (K : Fg) (hl : PE X e te) (h : X.K = K := by rfl) : PI X tg e (iList K te) := h ▸ pi_list hl
theorem pi_tk (K : Fg) (hl : PE X e te) (h : X.K = K := by rfl) : PI X tg e (iTup K te) := h ▸ pi_tup hl
theorem pi_ek (K : Fg) (hm : X.mg "enumerate" = none) (ha : PA X [e] tA) (h : X.K = K := by rfl) (hg : Gl X "enumerate" := by rfl) (hs : starEach [e] X.env = [(false, eval e X.env)] := by rfl) :
    PI X (.Tuple elts kk tpos) (.Call (.Name "enumerate" p) [e] [] pos) (iEnum K tA) := h ▸ pi_enum hg hm ha hs
theorem pi_etk (K : Fg) (hm : X.mg "enumerate" = none) (ha : PA X [e] tA) (h : X.K = K := by rfl) (hg : Gl X "enumerate" := by rfl) (hs : starEach [e] X.env = [(false, eval e X.env)] := by rfl) :
    PI X (.Tuple elts kk tpos) (.Call (.Name "enumerate" p) [e] [] pos) (iEnumT K tA) := h ▸ pi_enumT hm ha hg hs
theorem c_lenk (K : Fg) (h : X.K = K := by rfl) : CallR X (.builtin "len") (rLen K) := h ▸ c_len
theorem c_copyk (K : Fg) (h : X.K = K := by rfl) : CallR X (.type "list") (rCopy K) := h ▸ c_copy
theorem op_eqDk (K : Fg) (hu : X.A.units + 64 < cLine) (h : X.K = K := by rfl) : OpR X (compareOp .Eq) (rEqD K) := h ▸ op_eqD hu
theorem op_neDk (K : Fg) (hu : X.A.units + 64 < cLine) (h : X.K = K := by rfl) : OpR X (compareOp .NotEq) (rNeD K) := h ▸ op_neD hu
end

theorem sm_new {H : Hp} {p : Addr} (h : H p = none) (o : HO) : Same H (upd H p o) := fun b u q => by rw [upd_ne (ne_of_none q h)]; exact q
/-! ### steps: what a reading asks, by its head -/
section
variable {K : Fg} {σ : L2.St} {H : Hp} {D : Ends} {u t1 t2 tb : TS} {te ta tb' to ti tc : TE} {g : TG} {c t : TT} {v x y : V} {Q : VK} {i : Nat} {tA tr : TA} {tl' tu' : TO} {rs : V → Option Int → Option Int → Hp → VK → Prop}
theorem s_asg (h : te σ H fun x H1 => u D (σ.set i (some x)) H1) : tSeq (tAsg te (gName i)) u D σ H := h
theorem s_asgG (h : te σ H fun x H1 => g x σ H1 (u D)) : tSeq (tAsg te g) u D σ H := h
theorem s_if1 (h : c σ H fun b H1 => if b = true then t1 { D with nx := u D } σ H1 else u D σ H1) : tSeq (tIfS c t1 tNext) u D σ H := h
theorem s_if (h : c σ H fun b H1 => if b = true then t1 { D with nx := u D } σ H1 else t2 { D with nx := u D } σ H1) : tSeq (tIfS c t1 t2) u D σ H := h
theorem s_ret {nx : L2.St → Hp → Prop} {rt : VK} {bk ct : L2.St → Hp → Prop} (h : te σ H rt) : tSeq (tRet te) u ⟨nx, rt, bk, ct⟩ σ H := h
theorem s_retN {nx : L2.St → Hp → Prop} {rt : VK} {bk ct : L2.St → Hp → Prop} (h : rt .non H) : tSeq tRetN u ⟨nx, rt, bk, ct⟩ σ H := h
theorem s_next {nx : L2.St → Hp → Prop} {rt : VK} {bk ct : L2.St → Hp → Prop} (h : nx σ H) : tNext ⟨nx, rt, bk, ct⟩ σ H := h
theorem s_drop (h : te σ H fun _ H1 => u D σ H1) : tSeq (tDrop te) u D σ H := h
theorem s_par {j : Nat} (h : tA σ H fun vs H1 => ∃ v w, vs = [v, w] ∧ u D ((σ.set i (some v)).set j (some w)) H1) : tSeq (tPar i j tA) u D σ H := h
theorem s_fld {f : Str} (h : te σ H fun y H1 => ta σ H1 fun x H2 => ∃ a C dx fs, x = .ref a ∧ H2 a = some (.ins C dx fs) ∧ Cls K C ∧ NoAttr K C f ∧ fs.length < 1000 ∧ u D σ (upd H2 a (.ins C dx (putF f y fs)))) :
    tSeq (sFld K ta te f) u D σ H := h
theorem e_fldS {a C dx : Addr} {fs : List (Str × V)} {f : Str} {W : Addr → Addr → Addr → List (Str × V) → Prop} (h : H a = some (.ins C dx fs)) (cl : Cls K C) (n : NoAttr K C f) (l : fs.length < 1000) (q : W a C dx fs) :
    ∃ a' C' dx' fs', V.ref a = .ref a' ∧ H a' = some (.ins C' dx' fs') ∧ Cls K C' ∧ NoAttr K C' f ∧ fs'.length < 1000 ∧ W a' C' dx' fs' := ⟨a, C, dx, fs, rfl, h, cl, n, l, q⟩
theorem e_gfld {f : Str} {q : L2.St → Hp → Prop} (h : ta σ H fun x H2 => ∃ a C dx fs, x = .ref a ∧ H2 a = some (.ins C dx fs) ∧ Cls K C ∧ NoAttr K C f ∧ fs.length < 1000 ∧ q σ (upd H2 a (.ins C dx (putF f v fs)))) : gFld K ta f v σ H q := h
theorem e_bm {T : String} {r : V → List V → Hp → VK → Prop} (h : to σ H fun x H1 => tyV K T x H1 ∧ tA σ H1 fun xs H2 => r x xs H2 Q) : tBM K T r to tA σ H Q := h
theorem e_tyL {p : Addr} {xs : List V} {W : Prop} (h : H p = some (.lst xs)) (q : W) : tyV K "list" (.ref p) H ∧ W := ⟨.inl ⟨rfl, xs, SqL.of h⟩, q⟩
theorem e_app {p : Addr} {xs : List V} (h : H p = some (.lst xs)) (l : xs.length < sizeLine) (q : Q .non (upd H p (.lst (xs ++ [v])))) : rAppend (.ref p) [v] H Q := ⟨p, xs, v, rfl, rfl, h, l, q⟩
theorem e_mth {a C dx : Addr} {fs : List (Str × V)} {m : Str} {W : Prop} (h : H a = some (.ins C dx fs)) (l : fs.lookup m = none) (q : W) :
    ∃ a' dx' fs', V.ref a = .ref a' ∧ H a' = some (.ins C dx' fs') ∧ fs'.lookup m = none ∧ W := ⟨a, dx, fs, rfl, h, l, q⟩
theorem e_var (h : σ[i]? = some (some v)) (q : Q v H) : tVar i σ H Q := ⟨v, h, q⟩
theorem e_c (q : Q v H) : tC v σ H Q := q
theorem e_op {r : R2} (h : ta σ H fun x H1 => tb' σ H1 fun y H2 => r x y H2 Q) : tOp r ta tb' σ H Q := h
theorem e_un {r : V → Hp → VK → Prop} (h : ta σ H fun x H1 => r x H1 Q) : tUn r ta σ H Q := h
theorem e_neg {n : Int} {f : Int → V} (q : Q (f n) H) : rU f (.int n) H Q := ⟨n, rfl, q⟩
theorem e_I {C : Int → Int → Prop} {f : Int → Int → V} {m n : Int} (hc : C m n) (q : Q (f m n) H) : rI C f (.int m) (.int n) H Q := ⟨m, n, rfl, rfl, hc, q⟩
theorem e_I0 {f : Int → Int → V} {m n : Int} (q : Q (f m n) H) : rI0 f (.int m) (.int n) H Q := ⟨m, n, rfl, rfl, q⟩
theorem e_eq (h : scal x y = true) (q : Q (.bl (decide (x = y))) H) : rEq x y H Q := ⟨h, q⟩
theorem e_ne (h : scal x y = true) (q : Q (.bl (!decide (x = y))) H) : rNe x y H Q := ⟨h, q⟩
theorem e_isN (q : Q (.bl (decide (x = .non))) H) : rIsN x .non H Q := ⟨rfl, q⟩
theorem e_notN (q : Q (.bl (!decide (x = .non))) H) : rNotN x .non H Q := ⟨rfl, q⟩
theorem e_addS {a b : Str} (l : a.length + b.length ≤ sizeLine) (q : Q (.str (a ++ b)) H) : rAddS (.str a) (.str b) H Q := ⟨a, b, rfl, rfl, l, q⟩
theorem e_ixT {p : Addr} {xs : List V} {n : Int} (h : SqT K H p xs) (e : atI xs n = some v) (q : Q v H) : rIxT K (.ref p) (.int n) H Q := ⟨p, xs, n, v, rfl, rfl, h, e, q⟩
theorem e_ixL {p : Addr} {xs : List V} {n : Int} (h : SqL K H p xs) (e : atI xs n = some v) (q : Q v H) : rIxL K (.ref p) (.int n) H Q := ⟨p, xs, n, v, rfl, rfl, h, e, q⟩
theorem e_fld {f : Str} (h : ta σ H fun x H1 => ∃ a C dx fs v, x = .ref a ∧ H1 a = some (.ins C dx fs) ∧ Cls K C ∧ NoAttr K C f ∧ fs.lookup f = some v ∧ Q v H1) : tFld K ta f σ H Q := h
theorem e_fldR {a C dx : Addr} {fs : List (Str × V)} {f : Str} {W : V → Prop} (h : H a = some (.ins C dx fs)) (cl : Cls K C) (n : NoAttr K C f) (l : fs.lookup f = some v) (q : W v) :
    ∃ a' C' dx' fs' v', V.ref a = .ref a' ∧ H a' = some (.ins C' dx' fs') ∧ Cls K C' ∧ NoAttr K C' f ∧ fs'.lookup f = some v' ∧ W v' := ⟨a, C, dx, fs, v, rfl, h, cl, n, l, q⟩
theorem e_nil {q : List V → Hp → Prop} (h : q [] H) : tNil σ H q := h
theorem e_cons {q : List V → Hp → Prop} (h : ta σ H fun x H1 => tr σ H1 fun xs H2 => q (x :: xs) H2) : tCons ta tr σ H q := h
theorem e_cb {r : List V → Hp → VK → Prop} (h : tA σ H fun vs H1 => r vs H1 Q) : tCB r tA σ H Q := h
theorem e_call {sp : Sp} {E : XK} (h : tA σ H fun vs H1 => sp vs H1 Q E) : tCall sp [] E tA σ H Q := by
  unfold tCall
  simpa only [List.append_nil] using h
theorem e_make {sp : Sp} {E : XK} {C : Addr} (h : tA σ H fun vs H1 => ∀ x dx, H1 x = none → H1 dx = none → dx ≠ x → sp (.ref x :: vs) (upd (upd H1 dx (.own x)) x (.ins C dx [])) (fun v H2 => v = .non ∧ Q (.ref x) H2) E) :
    tMake C sp [] E tA σ H Q := by
  unfold tMake
  simpa only [List.append_nil] using h
theorem e_meth {sp : Sp} {E : XK} {C : Addr} {m : Str} (h : ta σ H fun x H1 => ∃ a dx fs, x = .ref a ∧ H1 a = some (.ins C dx fs) ∧ fs.lookup m = none ∧ tA σ H1 fun vs H2 => sp (x :: vs) H2 Q E) :
    tMeth C m sp [] E ta tA σ H Q := by
  unfold tMeth
  simpa only [List.append_nil] using h
def NwT (xs : List V) (H : Hp) (Q : VK) : Prop := xs.length ≤ sizeLine ∧ ∀ p, H p = none → Q (.ref p) (upd H p (.tup xs))
def NwL (xs : List V) (H : Hp) (Q : VK) : Prop := xs.length ≤ sizeLine ∧ ∀ p, H p = none → Q (.ref p) (upd H p (.lst xs))
theorem e_tup (h : tA σ H fun xs H1 => NwT xs H1 Q) : tTup tA σ H Q := h
theorem e_lst (h : tA σ H fun xs H1 => NwL xs H1 Q) : tLst tA σ H Q := h
theorem e_nwT {xs : List V} (l : Nat.ble xs.length sizeLine = true) (k : ∀ p H', Same H H' → H p = none → H' p = some (.tup xs) → Q (.ref p) H') : NwT xs H Q :=
  ⟨Nat.le_of_ble_eq_true l, fun p hp => k p _ (sm_new hp _) hp upd_same⟩
theorem e_nwL {xs : List V} (l : Nat.ble xs.length sizeLine = true) (k : ∀ p H', Same H H' → H p = none → H' p = some (.lst xs) → Q (.ref p) H') : NwL xs H Q :=
  ⟨Nat.le_of_ble_eq_true l, fun p hp => k p _ (sm_new hp _) hp upd_same⟩
theorem e_if (h : t σ H fun b H1 => if b = true then ta σ H1 Q else tc σ H1 Q) : tIf t ta tc σ H Q := h
theorem e_test {q : Bool → Hp → Prop} (h : te σ H fun x H1 => ∃ k, x = .bl k ∧ q k H1) : tTest te σ H q := h
theorem e_B {q : Bool → Hp → Prop} (h : te σ H fun x H1 => ∃ k, x = .bl k ∧ q k H1) : tB te σ H q := h
theorem e_bl {q : Bool → Prop} {b : Bool} (h : q b) : ∃ k, V.bl b = .bl k ∧ q k := ⟨b, rfl, h⟩
theorem e_and {t' : TT} {q : Bool → Hp → Prop} (h : t σ H fun b H1 => if b = true then t' σ H1 q else q false H1) : tAnd t t' σ H q := h
theorem e_or {t' : TT} {q : Bool → Hp → Prop} (h : t σ H fun b H1 => if b = true then q true H1 else t' σ H1 q) : tOr t t' σ H q := h
theorem e_notV (h : ta σ H fun x H1 => ∃ c, x = .bl c ∧ Q (.bl (!c)) H1) : tNotV ta σ H Q := h
theorem e_abs {n : Int} (q : Q (.int (if n < 0 then -n else n)) H) : rAbs [.int n] H Q := ⟨n, rfl, q⟩
theorem e_lenL {p : Addr} {ys : List V} (h : SqL K H p ys) (q : Q (.int ys.length) H) : rLen K [.ref p] H Q := ⟨p, ys, rfl, .inl h, q⟩
theorem e_lenS {z : Str} (h : z.length ≤ sizeLine) (q : Q (.int z.length) H) : rLenS [.str z] H Q := ⟨z, rfl, h, q⟩
theorem e_copy {p : Addr} {ys : List V} (h : SqL K H p ys) (q : ∀ l H', Same H H' → H l = none → H' l = some (.lst ys) → Q (.ref l) H') : rCopy K [.ref p] H Q := ⟨p, ys, rfl, .inl h, fun l hl => q l _ (sm_new hl _) hl upd_same⟩
theorem e_mx {m n : Int} (q : Q (.int (if n > m then n else m)) H) : rMx [.int m, .int n] H Q := ⟨m, n, rfl, q⟩
theorem e_mn {m n : Int} (q : Q (.int (if n < m then n else m)) H) : rMn [.int m, .int n] H Q := ⟨m, n, rfl, q⟩
theorem e_intB {k : Bool} (q : Q (.int (if k then 1 else 0)) H) : rInt [.bl k] H Q := .inr ⟨k, rfl, q⟩
theorem e_cat {l b : Addr} {xs zs : List V} (h1 : H l = some (.lst xs)) (h2 : H b = some (.lst zs)) (hl : xs.length + zs.length ≤ sizeLine) (q : ∀ p H', Same H H' → H p = none → H' p = some (.lst (xs ++ zs)) → Q (.ref p) H') : rCat (.ref l) (.ref b) H Q := ⟨l, b, xs, zs, rfl, rfl, h1, h2, hl, fun p hp => q p _ (sm_new hp _) hp upd_same⟩
theorem e_rep {l : Addr} {xs : List V} {n : Nat} (h1 : H l = some (.lst xs)) (hn : n < 2 ^ 62) (hl : xs.length * n ≤ sizeLine) (q : ∀ p H', Same H H' → H p = none → H' p = some (.lst (List.replicate n xs).flatten) → Q (.ref p) H') : rRep (.ref l) (.int (n : Nat)) H Q :=
  ⟨l, n, xs, rfl, rfl, h1, by omega, by omega, by rw [Int.toNat_natCast]; exact hl, fun p hp => q p _ (sm_new hp _) hp (by rw [Int.toNat_natCast]; exact upd_same)⟩
theorem e_sl (h : te σ H fun x H1 => tl' σ H1 fun l H2 => tu' σ H2 fun u H3 => rs x l u H3 Q) : tSl rs te tl' tu' σ H Q := h
theorem e_noP {q : Option Int → Hp → Prop} (h : q none H) : tNoPart σ H q := h
theorem e_part {q : Option Int → Hp → Prop} (h : te σ H fun x H1 => ∃ i, x = .int i ∧ q (some i) H1) : tPart te σ H q := h
theorem e_int {W : Int → Prop} {n : Int} (h : W n) : ∃ i, V.int n = .int i ∧ W i := ⟨n, rfl, h⟩
theorem e_slL {a : Addr} {xs : List V} {lo hi : Option Int} (h : SqL K H a xs) (q : ∀ p H', Same H H' → H p = none → H' p = some (.lst (cutV xs lo hi)) → Q (.ref p) H') : rSlL K (.ref a) lo hi H Q := ⟨a, xs, rfl, h, fun p hp => q p _ (sm_new hp _) hp upd_same⟩
theorem e_gname {q : L2.St → Hp → Prop} (h : q (σ.set i (some v)) H) : gName i v σ H q := h
theorem e_gtup {n : Nat} {gs : TGs} {q : L2.St → Hp → Prop} {a : Addr} {xs : List V} (h : SqT K H a xs) (hl : xs.length = n) (k : gs xs σ H q) : gTup K n gs (.ref a) σ H q := ⟨a, xs, rfl, h, hl, k⟩
theorem e_gcons {gs : TGs} {q : L2.St → Hp → Prop} {r : List V} (h : g v σ H fun σ' H' => gs r σ' H' q) : gCons g gs (v :: r) σ H q := ⟨v, r, rfl, h⟩
theorem e_gnil {q : L2.St → Hp → Prop} (h : q σ H) : gNil [] σ H q := ⟨rfl, h⟩
theorem e_gsub {st : TSet} {q : L2.St → Hp → Prop} (h : to σ H fun o H1 => ti σ H1 fun i H2 => st o i v H2 fun H3 => q σ H3) : gSub to ti st v σ H q := h
theorem e_setL {p : Addr} {xs : List V} {n : Int} {j : Nat} {q : Hp → Prop} (h : H p = some (.lst xs)) (e : ixN xs.length n = some j) (k : q (upd H p (.lst (xs.set j v)))) : rSetL (.ref p) (.int n) v H q := ⟨p, xs, n, j, rfl, rfl, h, e, k⟩
theorem e_chain {r r' : R2} (h : ta σ H fun x H1 => to σ H1 fun y H2 => r x y H2 fun z H3 => ∃ k, z = .bl k ∧ (if k = true then tc σ H3 fun w' H4 => r' y w' H4 Q else Q (.bl false) H3)) : tChain r r' ta to tc σ H Q := h
theorem e_two {W : V → V → Prop} {a b : V} (h : W a b) : ∃ v w, [a, b] = [v, w] ∧ W v w := ⟨a, b, rfl, h⟩
end
def top (i : Nat) : Stmt := PySem.Challenge.pw_ringloads_k53_whole_no_ways_have_less.main.body.getD i (.Pass ⟨0, 0, 0, 0⟩)
abbrev st_common : Stmt := top 5
abbrev nm_common : List Str := ["one", "other"]
abbrev pr_common : List Str := ["one", "other"]
theorem sc_common : FnScope nm_common pr_common (defScope st_common) := ⟨rfl, rfl, rfl, by decide +kernel, rfl, by decide +kernel, by decide +kernel⟩
abbrev st_lowered : Stmt := top 8
abbrev nm_lowered : List Str := ["top", "bottom", "share"]
abbrev pr_lowered : List Str := ["top", "bottom"]
theorem sc_lowered : FnScope nm_lowered pr_lowered (defScope st_lowered) := ⟨rfl, rfl, rfl, by decide +kernel, rfl, by decide +kernel, by decide +kernel⟩
abbrev st_plus : Stmt := top 9
abbrev nm_plus : List Str := ["one", "other"]
abbrev pr_plus : List Str := ["one", "other"]
theorem sc_plus : FnScope nm_plus pr_plus (defScope st_plus) := ⟨rfl, rfl, rfl, by decide +kernel, rfl, by decide +kernel, by decide +kernel⟩
abbrev st_minus : Stmt := top 10
abbrev nm_minus : List Str := ["one", "other"]
abbrev pr_minus : List Str := ["one", "other"]
theorem sc_minus : FnScope nm_minus pr_minus (defScope st_minus) := ⟨rfl, rfl, rfl, by decide +kernel, rfl, by decide +kernel, by decide +kernel⟩
abbrev st_times : Stmt := top 11
abbrev nm_times : List Str := ["one", "other"]
abbrev pr_times : List Str := ["one", "other"]
theorem sc_times : FnScope nm_times pr_times (defScope st_times) := ⟨rfl, rfl, rfl, by decide +kernel, rfl, by decide +kernel, by decide +kernel⟩
abbrev st_over : Stmt := top 12
abbrev nm_over : List Str := ["one", "other"]
abbrev pr_over : List Str := ["one", "other"]
theorem sc_over : FnScope nm_over pr_over (defScope st_over) := ⟨rfl, rfl, rfl, by decide +kernel, rfl, by decide +kernel, by decide +kernel⟩
abbrev st_under : Stmt := top 13
abbrev nm_under : List Str := ["one", "other"]
abbrev pr_under : List Str := ["one", "other"]
theorem sc_under : FnScope nm_under pr_under (defScope st_under) := ⟨rfl, rfl, rfl, by decide +kernel, rfl, by decide +kernel, by decide +kernel⟩
abbrev st_ties_of : Stmt := top 17
abbrev nm_ties_of : List Str := ["ring", "k", "way", "name", "one", "other", "size", "many", "step"]
abbrev pr_ties_of : List Str := ["ring", "k", "way"]
theorem sc_ties_of : FnScope nm_ties_of pr_ties_of (defScope st_ties_of) := ⟨rfl, rfl, rfl, by decide +kernel, rfl, by decide +kernel, by decide +kernel⟩
abbrev st_is_over : Stmt := top 18
abbrev nm_is_over : List Str := ["ring", "k", "way", "tie", "name", "one", "other", "size", "many", "goes_on"]
abbrev pr_is_over : List Str := ["ring", "k", "way", "tie"]
theorem sc_is_over : FnScope nm_is_over pr_is_over (defScope st_is_over) := ⟨rfl, rfl, rfl, by decide +kernel, rfl, by decide +kernel, by decide +kernel⟩
abbrev st_loads_of : Stmt := top 20
abbrev nm_loads_of : List Str := ["ring", "sending", "loads", "k", "part", "rest", "tie"]
abbrev pr_loads_of : List Str := ["ring", "sending"]
theorem sc_loads_of : FnScope nm_loads_of pr_loads_of (defScope st_loads_of) := ⟨rfl, rfl, rfl, by decide +kernel, rfl, by decide +kernel, by decide +kernel⟩
abbrev st_strains_of : Stmt := top 21
abbrev nm_strains_of : List Str := ["ring", "sending", "load", "room"]
abbrev pr_strains_of : List Str := ["ring", "sending"]
theorem sc_strains_of : FnScope nm_strains_of pr_strains_of (defScope st_strains_of) := ⟨rfl, rfl, rfl, by decide +kernel, rfl, by decide +kernel, by decide +kernel⟩
abbrev st_top_of : Stmt := top 22
abbrev nm_top_of : List Str := ["ring", "sending", "strains", "best", "tie"]
abbrev pr_top_of : List Str := ["ring", "sending"]
theorem sc_top_of : FnScope nm_top_of pr_top_of (defScope st_top_of) := ⟨rfl, rfl, rfl, by decide +kernel, rfl, by decide +kernel, by decide +kernel⟩
abbrev st_is_within : Stmt := top 24
abbrev nm_is_within : List Str := ["cut", "place"]
abbrev pr_is_within : List Str := ["cut", "place"]
theorem sc_is_within : FnScope nm_is_within pr_is_within (defScope st_is_within) := ⟨rfl, rfl, rfl, by decide +kernel, rfl, by decide +kernel, by decide +kernel⟩
abbrev st_is_apart : Stmt := top 25
abbrev nm_is_apart : List Str := ["cut", "one", "other"]
abbrev pr_is_apart : List Str := ["cut", "one", "other"]
theorem sc_is_apart : FnScope nm_is_apart pr_is_apart (defScope st_is_apart) := ⟨rfl, rfl, rfl, by decide +kernel, rfl, by decide +kernel, by decide +kernel⟩
abbrev st_all_cuts : Stmt := top 26
abbrev nm_all_cuts : List Str := ["ring", "found", "first", "last"]
abbrev pr_all_cuts : List Str := ["ring"]
theorem sc_all_cuts : FnScope nm_all_cuts pr_all_cuts (defScope st_all_cuts) := ⟨rfl, rfl, rfl, by decide +kernel, rfl, by decide +kernel, by decide +kernel⟩
abbrev st_common_bottom : Stmt := top 30
abbrev nm_common_bottom : List Str := ["some", "whole", "top", "bottom"]
abbrev pr_common_bottom : List Str := ["some"]
theorem sc_common_bottom : FnScope nm_common_bottom pr_common_bottom (defScope st_common_bottom) := ⟨rfl, rfl, rfl, by decide +kernel, rfl, by decide +kernel, by decide +kernel⟩
abbrev st_whole_sizes : Stmt := top 31
abbrev nm_whole_sizes : List Str := ["ring", "sizes", "bottom", "ask", "size"]
abbrev pr_whole_sizes : List Str := ["ring"]
theorem sc_whole_sizes : FnScope nm_whole_sizes pr_whole_sizes (defScope st_whole_sizes) := ⟨rfl, rfl, rfl, by decide +kernel, rfl, by decide +kernel, by decide +kernel⟩
abbrev st_Loading_init : Stmt := inClass (top 32) 0
abbrev nm_Loading_init : List Str := ["self", "ring", "k", "ask", "way", "at", "cut"]
abbrev pr_Loading_init : List Str := ["self", "ring"]
theorem sc_Loading_init : FnScope nm_Loading_init pr_Loading_init (defScope st_Loading_init) := ⟨rfl, rfl, rfl, by decide +kernel, rfl, by decide +kernel, by decide +kernel⟩
abbrev st_Loading_across : Stmt := inClass (top 32) 1
abbrev nm_Loading_across : List Str := ["self", "found", "k", "size", "cut"]
abbrev pr_Loading_across : List Str := ["self"]
theorem sc_Loading_across : FnScope nm_Loading_across pr_Loading_across (defScope st_Loading_across) := ⟨rfl, rfl, rfl, by decide +kernel, rfl, by decide +kernel, by decide +kernel⟩
abbrev st_Loading_fewer : Stmt := inClass (top 32) 2
abbrev nm_Loading_fewer : List Str := ["self", "across", "k", "size", "found", "at"]
abbrev pr_Loading_fewer : List Str := ["self", "across", "k", "size"]
theorem sc_Loading_fewer : FnScope nm_Loading_fewer pr_Loading_fewer (defScope st_Loading_fewer) := ⟨rfl, rfl, rfl, by decide +kernel, rfl, by decide +kernel, by decide +kernel⟩
abbrev st_Loading_loaded : Stmt := inClass (top 32) 3
abbrev nm_Loading_loaded : List Str := ["self", "loads", "k", "choice", "found", "tie"]
abbrev pr_Loading_loaded : List Str := ["self", "loads", "k", "choice"]
theorem sc_Loading_loaded : FnScope nm_Loading_loaded pr_Loading_loaded (defScope st_Loading_loaded) := ⟨rfl, rfl, rfl, by decide +kernel, rfl, by decide +kernel, by decide +kernel⟩
abbrev st_Search_init : Stmt := inClass (top 33) 0
abbrev nm_Search_init : List Str := ["self", "ring", "wish", "g", "h", "top", "bottom"]
abbrev pr_Search_init : List Str := ["self", "ring", "wish"]
theorem sc_Search_init : FnScope nm_Search_init pr_Search_init (defScope st_Search_init) := ⟨rfl, rfl, rfl, by decide +kernel, rfl, by decide +kernel, by decide +kernel⟩
abbrev st_Search_shown : Stmt := inClass (top 33) 1
abbrev nm_Search_shown : List Str := ["self", "loads", "across", "at", "g", "h", "load"]
abbrev pr_Search_shown : List Str := ["self", "loads", "across"]
theorem sc_Search_shown : FnScope nm_Search_shown pr_Search_shown (defScope st_Search_shown) := ⟨rfl, rfl, rfl, by decide +kernel, rfl, by decide +kernel, by decide +kernel⟩
abbrev st_Search_turned_more : Stmt := inClass (top 33) 2
abbrev nm_Search_turned_more : List Str := ["self", "ways", "elder", "turned", "k"]
abbrev pr_Search_turned_more : List Str := ["self", "ways"]
theorem sc_Search_turned_more : FnScope nm_Search_turned_more pr_Search_turned_more (defScope st_Search_turned_more) := ⟨rfl, rfl, rfl, by decide +kernel, rfl, by decide +kernel, by decide +kernel⟩
abbrev st_Search_found : Stmt := inClass (top 33) 3
abbrev nm_Search_found : List Str := ["self", "ways", "loads", "across", "leaf", "k", "trees", "choice", "way", "less", "told"]
abbrev pr_Search_found : List Str := ["self", "ways", "loads", "across"]
theorem sc_Search_found : FnScope nm_Search_found pr_Search_found (defScope st_Search_found) := ⟨rfl, rfl, rfl, by decide +kernel, rfl, by decide +kernel, by decide +kernel⟩
abbrev st_ways_for : Stmt := top 34
abbrev nm_ways_for : List Str := ["ring", "wish", "search", "room"]
abbrev pr_ways_for : List Str := ["ring", "wish"]
theorem sc_ways_for : FnScope nm_ways_for pr_ways_for (defScope st_ways_for) := ⟨rfl, rfl, rfl, by decide +kernel, rfl, by decide +kernel, by decide +kernel⟩
abbrev st_sent_by : Stmt := top 36
abbrev nm_sent_by : List Str := ["ring", "ways", "ask", "way"]
abbrev pr_sent_by : List Str := ["ring", "ways"]
theorem sc_sent_by : FnScope nm_sent_by pr_sent_by (defScope st_sent_by) := ⟨rfl, rfl, rfl, by decide +kernel, rfl, by decide +kernel, by decide +kernel⟩
abbrev st_wish_for_less : Stmt := top 38
abbrev nm_wish_for_less : List Str := ["ring", "top", "ask"]
abbrev pr_wish_for_less : List Str := ["ring", "top"]
theorem sc_wish_for_less : FnScope nm_wish_for_less pr_wish_for_less (defScope st_wish_for_less) := ⟨rfl, rfl, rfl, by decide +kernel, rfl, by decide +kernel, by decide +kernel⟩
abbrev st_Least_init : Stmt := inClass (top 39) 0
abbrev nm_Least_init : List Str := ["self", "ring", "bottom", "room"]
abbrev pr_Least_init : List Str := ["self", "ring"]
theorem sc_Least_init : FnScope nm_Least_init pr_Least_init (defScope st_Least_init) := ⟨rfl, rfl, rfl, by decide +kernel, rfl, by decide +kernel, by decide +kernel⟩
abbrev st_Least_strain : Stmt := inClass (top 39) 1
abbrev nm_Least_strain : List Str := ["self", "loads", "load", "room", "tie", "other"]
abbrev pr_Least_strain : List Str := ["self", "loads"]
theorem sc_Least_strain : FnScope nm_Least_strain pr_Least_strain (defScope st_Least_strain) := ⟨rfl, rfl, rfl, by decide +kernel, rfl, by decide +kernel, by decide +kernel⟩
abbrev st_Least_go : Stmt := inClass (top 39) 2
abbrev nm_Least_go : List Str := ["self", "ways", "loads", "k", "choice", "way", "load", "room"]
abbrev pr_Least_go : List Str := ["self", "ways", "loads"]
theorem sc_Least_go : FnScope nm_Least_go pr_Least_go (defScope st_Least_go) := ⟨rfl, rfl, rfl, by decide +kernel, rfl, by decide +kernel, by decide +kernel⟩
abbrev st_best_ways : Stmt := top 40
abbrev nm_best_ways : List Str := ["ring", "least", "ways", "top", "room"]
abbrev pr_best_ways : List Str := ["ring"]
theorem sc_best_ways : FnScope nm_best_ways pr_best_ways (defScope st_best_ways) := ⟨rfl, rfl, rfl, by decide +kernel, rfl, by decide +kernel, by decide +kernel⟩
abbrev st__law_begun : Stmt := top 42
abbrev nm__law_begun : List Str := ["_law_script", "_law_k", "_law_cell"]
abbrev pr__law_begun : List Str := ["_law_script", "_law_k"]
theorem sc__law_begun : FnScope nm__law_begun pr__law_begun (defScope st__law_begun) := ⟨rfl, rfl, rfl, by decide +kernel, rfl, by decide +kernel, by decide +kernel⟩
abbrev st__law_take : Stmt := top 43
abbrev nm__law_take : List Str := ["_law_state", "_law_many", "_law_digit", "_law_drawn", "_law_turn"]
abbrev pr__law_take : List Str := ["_law_state", "_law_many"]
theorem sc__law_take : FnScope nm__law_take pr__law_take (defScope st__law_take) := ⟨rfl, rfl, rfl, by decide +kernel, rfl, by decide +kernel, by decide +kernel⟩
abbrev st__law_low : Stmt := top 44
abbrev nm__law_low : List Str := ["_law_top", "_law_bottom", "_law_one", "_law_share"]
abbrev pr__law_low : List Str := ["_law_top", "_law_bottom"]
theorem sc__law_low : FnScope nm__law_low pr__law_low (defScope st__law_low) := ⟨rfl, rfl, rfl, by decide +kernel, rfl, by decide +kernel, by decide +kernel⟩
abbrev st__law_amount : Stmt := top 45
abbrev nm__law_amount : List Str := ["_law_state", "_law_least", "_law_kind", "_law_bottom", "_law_top"]
abbrev pr__law_amount : List Str := ["_law_state", "_law_least", "_law_kind"]
theorem sc__law_amount : FnScope nm__law_amount pr__law_amount (defScope st__law_amount) := ⟨rfl, rfl, rfl, by decide +kernel, rfl, by decide +kernel, by decide +kernel⟩
abbrev st__law_names : Stmt := top 46
abbrev nm__law_names : List Str := ["_law_state", "_law_many", "_law_letters", "_law_base", "_law_at", "_law_turn", "_law_k"]
abbrev pr__law_names : List Str := ["_law_state", "_law_many"]
theorem sc__law_names : FnScope nm__law_names pr__law_names (defScope st__law_names) := ⟨rfl, rfl, rfl, by decide +kernel, rfl, by decide +kernel, by decide +kernel⟩
abbrev st__law_rooms : Stmt := top 47
abbrev nm__law_rooms : List Str := ["_law_state", "_law_ties", "_law_kind", "_law_alike", "_law_one", "_law_rooms_here", "_law_more"]
abbrev pr__law_rooms : List Str := ["_law_state", "_law_ties", "_law_kind"]
theorem sc__law_rooms : FnScope nm__law_rooms pr__law_rooms (defScope st__law_rooms) := ⟨rfl, rfl, rfl, by decide +kernel, rfl, by decide +kernel, by decide +kernel⟩
abbrev st__law_ends : Stmt := top 48
abbrev nm__law_ends : List Str := ["_law_state", "_law_shape", "_law_places", "_law_k", "_law_one", "_law_other"]
abbrev pr__law_ends : List Str := ["_law_state", "_law_shape", "_law_places", "_law_k"]
theorem sc__law_ends : FnScope nm__law_ends pr__law_ends (defScope st__law_ends) := ⟨rfl, rfl, rfl, by decide +kernel, rfl, by decide +kernel, by decide +kernel⟩
abbrev st__law_ring : Stmt := top 49
abbrev nm__law_ring : List Str := ["_law_script", "_law_at", "_law_most", "_law_count", "_law_state", "_law_places", "_law_many", "_law_kinds", "_law_shape", "_law_names_here", "_law_rooms_here", "_law_asks", "_law_k", "_law_one", "_law_other"]
abbrev pr__law_ring : List Str := ["_law_script", "_law_at", "_law_most", "_law_count"]
theorem sc__law_ring : FnScope nm__law_ring pr__law_ring (defScope st__law_ring) := ⟨rfl, rfl, rfl, by decide +kernel, rfl, by decide +kernel, by decide +kernel⟩
abbrev st__law_ways : Stmt := top 50
abbrev nm__law_ways : List Str := ["_law_state", "_law_many", "_law_k"]
abbrev pr__law_ways : List Str := ["_law_state", "_law_many"]
theorem sc__law_ways : FnScope nm__law_ways pr__law_ways (defScope st__law_ways) := ⟨rfl, rfl, rfl, by decide +kernel, rfl, by decide +kernel, by decide +kernel⟩
abbrev st__law_under : Stmt := top 51
abbrev nm__law_under : List Str := ["_law_one", "_law_other"]
abbrev pr__law_under : List Str := ["_law_one", "_law_other"]
theorem sc__law_under : FnScope nm__law_under pr__law_under (defScope st__law_under) := ⟨rfl, rfl, rfl, by decide +kernel, rfl, by decide +kernel, by decide +kernel⟩
abbrev st__law_next : Stmt := top 52
abbrev nm__law_next : List Str := ["_law_ring_here", "_law_many", "_law_asks", "_law_name", "_law_one", "_law_other", "_law_size"]
abbrev pr__law_next : List Str := ["_law_ring_here"]
theorem sc__law_next : FnScope nm__law_next pr__law_next (defScope st__law_next) := ⟨rfl, rfl, rfl, by decide +kernel, rfl, by decide +kernel, by decide +kernel⟩
abbrev st__law_twice : Stmt := top 53
abbrev nm__law_twice : List Str := ["_law_ring_here", "_law_asks", "_law_name", "_law_one", "_law_other", "_law_size"]
abbrev pr__law_twice : List Str := ["_law_ring_here"]
theorem sc__law_twice : FnScope nm__law_twice pr__law_twice (defScope st__law_twice) := ⟨rfl, rfl, rfl, by decide +kernel, rfl, by decide +kernel, by decide +kernel⟩
abbrev st__law_others : Stmt := top 54
abbrev nm__law_others : List Str := ["_law_state", "_law_ring_here", "_law_top", "_law_ways_here", "_law_there", "_law_at"]
abbrev pr__law_others : List Str := ["_law_state", "_law_ring_here", "_law_top", "_law_ways_here"]
theorem sc__law_others : FnScope nm__law_others pr__law_others (defScope st__law_others) := ⟨rfl, rfl, rfl, by decide +kernel, rfl, by decide +kernel, by decide +kernel⟩
abbrev st_law : Stmt := top 55
abbrev nm_law : List Str := ["_law_script", "_law_ring_here", "_law_top", "_law_ways_here", "_law_tree", "_law_k", "_law_other"]
abbrev pr_law : List Str := ["_law_script"]
theorem sc_law : FnScope nm_law pr_law (defScope st_law) := ⟨rfl, rfl, rfl, by decide +kernel, rfl, by decide +kernel, by decide +kernel⟩
/-- addresses of the module's own things -/
structure Ad where
  aN : Addr
  aC : Addr
  CL : Addr
  CS : Addr
  CB : Addr
/-- what the module holds behind the top -/
structure Txt (K : Fg) (mg : Str → Option Value) (A : Ad) : Prop where
  d_common : Df K mg "common" st_common pr_common
  d_lowered : Df K mg "lowered" st_lowered pr_lowered
  d_plus : Df K mg "plus" st_plus pr_plus
  d_minus : Df K mg "minus" st_minus pr_minus
  d_times : Df K mg "times" st_times pr_times
  d_over : Df K mg "over" st_over pr_over
  d_under : Df K mg "under" st_under pr_under
  d_ties_of : Df K mg "ties_of" st_ties_of pr_ties_of
  d_is_over : Df K mg "is_over" st_is_over pr_is_over
  d_loads_of : Df K mg "loads_of" st_loads_of pr_loads_of
  d_strains_of : Df K mg "strains_of" st_strains_of pr_strains_of
  d_top_of : Df K mg "top_of" st_top_of pr_top_of
  d_is_within : Df K mg "is_within" st_is_within pr_is_within
  d_is_apart : Df K mg "is_apart" st_is_apart pr_is_apart
  d_all_cuts : Df K mg "all_cuts" st_all_cuts pr_all_cuts
  d_common_bottom : Df K mg "common_bottom" st_common_bottom pr_common_bottom
  d_whole_sizes : Df K mg "whole_sizes" st_whole_sizes pr_whole_sizes
  d_Loading_init : Idf K mg A.CL "Loading" "Loading.__init__" st_Loading_init pr_Loading_init
  d_Loading_across : Mdf K A.CL "across" "Loading.across" st_Loading_across pr_Loading_across
  d_Loading_fewer : Mdf K A.CL "fewer" "Loading.fewer" st_Loading_fewer pr_Loading_fewer
  d_Loading_loaded : Mdf K A.CL "loaded" "Loading.loaded" st_Loading_loaded pr_Loading_loaded
  d_Search_init : Idf K mg A.CS "Search" "Search.__init__" st_Search_init pr_Search_init
  d_Search_shown : Mdf K A.CS "shown" "Search.shown" st_Search_shown pr_Search_shown
  d_Search_turned_more : Mdf K A.CS "turned_more" "Search.turned_more" st_Search_turned_more pr_Search_turned_more
  d_Search_found : Mdf K A.CS "found" "Search.found" st_Search_found pr_Search_found
  d_ways_for : Df K mg "ways_for" st_ways_for pr_ways_for
  d_sent_by : Df K mg "sent_by" st_sent_by pr_sent_by
  d_wish_for_less : Df K mg "wish_for_less" st_wish_for_less pr_wish_for_less
  d_Least_init : Idf K mg A.CB "Least" "Least.__init__" st_Least_init pr_Least_init
  d_Least_strain : Mdf K A.CB "strain" "Least.strain" st_Least_strain pr_Least_strain
  d_Least_go : Mdf K A.CB "go" "Least.go" st_Least_go pr_Least_go
  d_best_ways : Df K mg "best_ways" st_best_ways pr_best_ways
  d__law_begun : Df K mg "_law_begun" st__law_begun pr__law_begun
  d__law_take : Df K mg "_law_take" st__law_take pr__law_take
  d__law_low : Df K mg "_law_low" st__law_low pr__law_low
  d__law_amount : Df K mg "_law_amount" st__law_amount pr__law_amount
  d__law_names : Df K mg "_law_names" st__law_names pr__law_names
  d__law_rooms : Df K mg "_law_rooms" st__law_rooms pr__law_rooms
  d__law_ends : Df K mg "_law_ends" st__law_ends pr__law_ends
  d__law_ring : Df K mg "_law_ring" st__law_ring pr__law_ring
  d__law_ways : Df K mg "_law_ways" st__law_ways pr__law_ways
  d__law_under : Df K mg "_law_under" st__law_under pr__law_under
  d__law_next : Df K mg "_law_next" st__law_next pr__law_next
  d__law_twice : Df K mg "_law_twice" st__law_twice pr__law_twice
  d__law_others : Df K mg "_law_others" st__law_others pr__law_others
  d_law : Df K mg "law" st_law pr_law
  clLoading : Cls K A.CL
  clSearch : Cls K A.CS
  clLeast : Cls K A.CB
  aL_sizes : NoAttr K A.CL "sizes"
  aL_bottom : NoAttr K A.CL "bottom"
  aL_cuts : NoAttr K A.CL "cuts"
  aL_ties : NoAttr K A.CL "ties"
  aL_crossed : NoAttr K A.CL "crossed"
  aS_ring : NoAttr K A.CS "whole_ring"
  aS_wish : NoAttr K A.CS "wish"
  aS_loading : NoAttr K A.CS "loading"
  aS_limits : NoAttr K A.CS "limits"
  aB_loading : NoAttr K A.CB "loading"
  aB_many : NoAttr K A.CB "many"
  aB_rooms : NoAttr K A.CB "rooms"
  aB_best : NoAttr K A.CB "best"
  kNOUGHT : ∃ u, mg "NOUGHT" = some u ∧ RelV (.ref A.aN) u
  tNOUGHT : ∀ H, SqT K H A.aN [.int 0, .int 1]
  kCHOICES : ∃ u, mg "CHOICES" = some u ∧ RelV (.ref A.aC) u
  tCHOICES : ∀ H, SqT K H A.aC [.str "on", .str "back"]
  kON : ∃ u, mg "ON" = some u ∧ RelV (.str "on") u
  kBACK : ∃ u, mg "BACK" = some u ∧ RelV (.str "back") u
  kMOST : ∃ u, mg "MOST_ASKS" = some u ∧ RelV (.int 7) u
  n_len : mg "len" = none
  n_abs : mg "abs" = none
  n_max : mg "max" = none
  n_min : mg "min" = none
  n_list : mg "list" = none
  n_int : mg "int" = none
  n_range : mg "range" = none
  n_zip : mg "zip" = none
  n_enumerate : mg "enumerate" = none
/-! ### heaps -/
/-- an object that G does not know may change -/
theorem sm_mut {G H : Hp} {p : Addr} {o : HO} (e : Same G H) (h : G p = none) : Same G (upd H p o) := fun b u q => by rw [upd_ne (ne_of_none q h)]; exact e b u q
theorem sm_t {K : Fg} {H H' : Hp} {a : Addr} {xs : List V} (e : Same H H') (h : SqT K H a xs) : SqT K H' a xs := by
  rcases h with (h | ⟨o, h⟩) | h
  · exact .inl (.inl (e _ _ h))
  · exact .inl (.inr ⟨o, e _ _ h⟩)
  · exact .inr h
/-- the heap without what stands at a -/
def hid (a : Addr) (H : Hp) : Hp := fun b => if b = a then none else H b
theorem hid_at {a : Addr} {H : Hp} : hid a H a = none := if_pos rfl
theorem hid_ne {a b : Addr} {H : Hp} (h : b ≠ a) : hid a H b = H b := if_neg h
theorem hid_sm {a : Addr} {H : Hp} : Same (hid a H) H := fun b o e => by
  by_cases h : b = a
  · subst h; rw [hid_at] at e; cases e
  · rwa [hid_ne h] at e
theorem hid_upd {a : Addr} {H : Hp} {o : HO} : hid a (upd H a o) = hid a H := by
  funext b
  by_cases h : b = a
  · subst h; rw [hid_at, hid_at]
  · rw [hid_ne h, hid_ne h, upd_ne h]
theorem hid_mono {a : Addr} {H H' : Hp} (h : Same H H') : Same (hid a H) (hid a H') := fun b o e => by
  by_cases q : b = a
  · subst q; rw [hid_at] at e; cases e
  · rw [hid_ne q] at e ⊢; exact h b o e
theorem hid_same {a : Addr} {G H : Hp} (n : G a = none) (h : Same G H) : Same G (hid a H) := fun b o e => by
  rw [hid_ne (ne_of_none e n)]; exact h b o e

/-! ### what a value stands for -/
abbrev Rp (α : Type) := Hp → V → α → Prop
class Mo {α : Type} (R : Rp α) : Prop where
  mo : ∀ {H H' : Hp} {v : V} {x : α}, Same H H' → R H v x → R H' v x
theorem mv {α : Type} {R : Rp α} [Mo R] {H H' : Hp} {v : V} {x : α} (s : Same H H') (h : R H v x) : R H' v x := Mo.mo s h
/-- a fraction -/
def Fr (K : Fg) : Rp Rat := fun H v q => ∃ a, v = .ref a ∧ SqT K H a [.int q.num, .int (q.den : Nat)]
instance {K : Fg} : Mo (Fr K) := ⟨fun s ⟨a, e, h⟩ => ⟨a, e, sm_t s h⟩⟩
/-- item by item -/
inductive Al {α : Type} (R : V → α → Prop) : List V → List α → Prop
  | nil : Al R [] []
  | cons {v : V} {x : α} {vs : List V} {xs : List α} : R v x → Al R vs xs → Al R (v :: vs) (x :: xs)
section
variable {α : Type} {R S : V → α → Prop}
theorem Al.len {vs : List V} {xs : List α} (h : Al R vs xs) : vs.length = xs.length := by
  induction h with
  | nil => rfl
  | cons _ _ ih => rw [List.length_cons, List.length_cons, ih]
theorem Al.imp {vs : List V} {xs : List α} (h : Al R vs xs) (f : ∀ v x, R v x → S v x) : Al S vs xs := by
  induction h with
  | nil => exact .nil
  | cons r _ ih => exact .cons (f _ _ r) ih
theorem Al.at {vs : List V} {xs : List α} (h : Al R vs xs) : ∀ {i : Nat} {x : α}, xs[i]? = some x → ∃ v, vs[i]? = some v ∧ R v x := by
  induction h with
  | nil => intro i x e; simp at e
  | cons r _ ih =>
    intro i x e
    cases i with
    | zero => simp at e; subst e; exact ⟨_, rfl, r⟩
    | succ i => simpa using ih (by simpa using e)
theorem Al.at' {vs : List V} {xs : List α} (h : Al R vs xs) : ∀ {i : Nat} {v : V}, vs[i]? = some v → ∃ x, xs[i]? = some x ∧ R v x := by
  induction h with
  | nil => intro i x e; simp at e
  | cons r _ ih =>
    intro i x e
    cases i with
    | zero => simp at e; subst e; exact ⟨_, rfl, r⟩
    | succ i => simpa using ih (by simpa using e)
theorem Al.app {vs ws : List V} {xs ys : List α} (h : Al R vs xs) (k : Al R ws ys) : Al R (vs ++ ws) (xs ++ ys) := by
  induction h with
  | nil => exact k
  | cons r _ ih => exact .cons r ih
theorem Al.set {vs : List V} {xs : List α} {v : V} {x : α} (h : Al R vs xs) (r : R v x) : ∀ i : Nat, Al R (vs.set i v) (xs.set i x) := by
  induction h with
  | nil => intro i; exact .nil
  | cons q t ih =>
    intro i
    cases i with
    | zero => exact .cons r t
    | succ i => exact .cons q (ih i)
theorem Al.take {vs : List V} {xs : List α} (h : Al R vs xs) : ∀ i : Nat, Al R (vs.take i) (xs.take i) := by
  induction h with
  | nil => intro i; simp; exact .nil
  | cons q t ih =>
    intro i
    cases i with
    | zero => exact .nil
    | succ i => exact .cons q (ih i)
theorem Al.drop {vs : List V} {xs : List α} (h : Al R vs xs) : ∀ i : Nat, Al R (vs.drop i) (xs.drop i) := by
  induction h with
  | nil => intro i; simp; exact .nil
  | cons q t ih =>
    intro i
    cases i with
    | zero => exact .cons q t
    | succ i => exact ih i
theorem Al.one {v : V} {x : α} (r : R v x) : Al R [v] [x] := .cons r .nil
end
/-- a list of such, an object of its own -/
def Ls {α : Type} (R : Rp α) : Rp (List α) := fun H v xs => ∃ a vs, v = .ref a ∧ H a = some (.lst vs) ∧ Al (R H) vs xs
instance {α : Type} {R : Rp α} [Mo R] : Mo (Ls R) := ⟨fun s ⟨a, vs, e, h, r⟩ => ⟨a, vs, e, s _ _ h, r.imp fun _ _ q => mv s q⟩⟩
theorem Al.mv {α : Type} {R : Rp α} [Mo R] {H H' : Hp} {vs : List V} {xs : List α} (s : Same H H') (h : Al (R H) vs xs) : Al (R H') vs xs := h.imp fun _ _ q => Rg.mv s q
def In : Rp Int := fun _ v n => v = .int n
instance : Mo In := ⟨fun _ h => h⟩
/-- a way: on or back -/
def wayS (b : Bool) : Str := if b then "on" else "back"
def Wy : Rp Bool := fun _ v b => v = .str (wayS b)
instance : Mo Wy := ⟨fun _ h => h⟩
structure Ask where
  nm : Str
  one : Nat
  other : Nat
  size : Rat
structure Ring where
  rooms : List Rat
  asks : List Ask
def Ak (K : Fg) : Rp Ask := fun H v a => ∃ p f, v = .ref p ∧ SqT K H p [.str a.nm, .int a.one, .int a.other, f] ∧ Fr K H f a.size
instance {K : Fg} : Mo (Ak K) := ⟨fun s ⟨p, f, e, h, r⟩ => ⟨p, f, e, sm_t s h, mv s r⟩⟩
def Rn (K : Fg) : Rp Ring := fun H v r => ∃ p x y, v = .ref p ∧ SqT K H p [x, y] ∧ Ls (Fr K) H x r.rooms ∧ Ls (Ak K) H y r.asks
instance {K : Fg} : Mo (Rn K) := ⟨fun s ⟨p, x, y, e, h, r, q⟩ => ⟨p, x, y, e, sm_t s h, mv s r, mv s q⟩⟩
/-- ints -/
abbrev Li : Rp (List Int) := Ls In
theorem al_ints {H : Hp} : ∀ {vs : List V} {ns : List Int}, Al (In H) vs ns → vs = ns.map V.int
  | _, _, .nil => rfl
  | _, _, .cons r t => by rw [List.map_cons, ← al_ints t]; rw [show _ = V.int _ from r]
theorem ints_al {H : Hp} : ∀ (ns : List Int), Al (In H) (ns.map V.int) ns
  | [] => .nil
  | _ :: r => .cons rfl (ints_al r)
theorem li_of {H : Hp} {a : Addr} {ns : List Int} (h : H a = some (.lst (ns.map V.int))) : Li H (.ref a) ns := ⟨a, _, rfl, h, ints_al ns⟩
theorem li_to {H : Hp} {v : V} {ns : List Int} (h : Li H v ns) : ∃ a, v = .ref a ∧ H a = some (.lst (ns.map V.int)) := by
  obtain ⟨a, vs, e, q, r⟩ := h
  exact ⟨a, e, by rw [← al_ints r]; exact q⟩
theorem atI_of {vs : List V} {v : V} {i : Nat} {n : Int} (e : n = (i : Int)) (h : vs[i]? = some v) : atI vs n = some v := by subst e; exact atI_nat h
theorem ixN_of {m i : Nat} {n : Int} (e : n = (i : Int)) (h : i < m) : ixN m n = some i := by
  subst e
  unfold ixN
  rw [if_pos (by omega), if_pos (by omega)]; simp
theorem lz {n : Nat} (h : Nat.ble n sizeLine = true) : n ≤ sizeLine := Nat.le_of_ble_eq_true h
theorem szL {n : Nat} (h : n ≤ 100000) : n ≤ sizeLine := Nat.le_trans h (by decide)
theorem szLt {n : Nat} (h : n < 100000) : n < sizeLine := Nat.lt_of_lt_of_le h (by decide)
theorem range_getD {α : Type} (xs : List α) (d : α) {n : Nat} (h : xs.length = n) : ((List.range n).map fun i => xs.getD i d) = xs := by
  subst h
  apply List.ext_getElem?
  intro i
  by_cases q : i < xs.length
  · simp [q]
  · simp [q]
theorem range_map_congr {α : Type} {f g : Nat → α} {n : Nat} (h : ∀ i, i < n → f i = g i) : (List.range n).map f = (List.range n).map g :=
  List.map_congr_left fun i hi => h i (List.mem_range.mp hi)
/-- a new pair of a walk -/
theorem yget {xs ys : Nat → Option V} {i : Nat} {H H' : Hp} {v : V} (y : YPair xs ys i H v H') : ∃ T x z, v = .ref T ∧ xs i = some x ∧ ys i = some z ∧ Same H H' ∧ H T = none ∧ H' T = some (.tup [x, z]) := by
  obtain ⟨T, x, z, e1, e2, e3, e4, e5⟩ := y
  subst e3
  exact ⟨T, x, z, e1, e4, e5, sm_new e2 _, e2, upd_same⟩
/-! ### loops and comprehensions, each told by one invariant -/
section
variable {K : Fg} {σ : L2.St} {H : Hp} {D : Ends} {u tb : TS} {ta te tl : TE} {g : TG} {tc tt : TT} {Q : VK} {tA : TA} {vs : List Nat} {nx : L2.St → Hp → Prop} {wi : TI} {R : It → Hp → Prop}
theorem s_while (Pv : Nat → L2.St → Hp → Prop) (m0 : Nat) (h0 : Pv m0 σ H)
    (hs : ∀ m σ H, Pv m σ H → tc σ H fun b H1 => if b = true then ∃ N : L2.St → Hp → Prop, (∀ σ' H', N σ' H' → ∃ m', m' < m ∧ Pv m' σ' H') ∧ tb ⟨N, D.rt, u D, N⟩ σ H1 else u D σ H1) : tSeq (tWhile tc tb) u D σ H :=
  ⟨Pv, ⟨m0, h0⟩, hs⟩
theorem e_N {Pv : Nat → L2.St → Hp → Prop} {m : Nat} {rt : VK} (h : tb ⟨fun σ' H' => ∃ m', m' < m ∧ Pv m' σ' H', rt, nx, fun σ' H' => ∃ m', m' < m ∧ Pv m' σ' H'⟩ σ H) :
    ∃ N : L2.St → Hp → Prop, (∀ σ' H', N σ' H' → ∃ m', m' < m ∧ Pv m' σ' H') ∧ tb ⟨N, rt, nx, N⟩ σ H := ⟨_, fun _ _ h => h, h⟩
/-- a for, its iterator made -/
def LP (g : TG) (tb : TS) (D : Ends) (nx : L2.St → Hp → Prop) (σ : L2.St) : It → Hp → Prop := fun J H1 => ∃ W : Nat → Nat → L2.St → Hp → Prop, (∃ m, W 0 m σ H1) ∧ ∀ i m σ H, W i m σ H →
  (J.stop i H ∧ nx σ H) ∨ (J.go i H ∧ ∃ N : L2.St → Hp → Prop, (∀ σ' H', N σ' H' → ∃ m', m' < m ∧ W (i + 1) m' σ' H') ∧ ∀ x H', J.yld i H x H' → g x σ H' fun σ2 H2 => tb ⟨N, D.rt, nx, N⟩ σ2 H2)
/-- what is asked of its turns -/
def FB (n : Nat) (G : Hp → Prop) (Y : Nat → Hp → V → Hp → Prop) (g : TG) (tb : TS) (D : Ends) (nx : L2.St → Hp → Prop) (σ : L2.St) (H : Hp) : Prop :=
  ∃ Pv : Nat → L2.St → Hp → Prop, Pv 0 σ H ∧ (∀ i σ H, i ≤ n → Pv i σ H → G H) ∧ (∀ i x σ H H', i < n → Pv i σ H → Y i H x H' → g x σ H' fun σ2 H2 => tb ⟨Pv (i + 1), D.rt, nx, Pv (i + 1)⟩ σ2 H2) ∧ ∀ σ H, Pv n σ H → nx σ H
theorem s_for (h : wi σ H (LP g tb D (u D) σ)) : tSeq (tFor wi g tb) u D σ H := h
theorem lp_of {J : It} {n : Nat} {G : Hp → Prop} {Y : Nat → Hp → V → Hp → Prop} (w : Walk J n G Y) (b : FB n G Y g tb D nx σ H) : LP g tb D nx σ J H := by
  obtain ⟨Pv, h0, hG, hs, hd⟩ := b
  exact for_it w (D := ⟨nx, D.rt, D.bk, D.ct⟩) Pv h0 hG hs hd
/-- a list comprehension, its iterator made -/
def CP (g : TG) (tt : TT) (te : TE) (vs : List Nat) (σ : L2.St) (Q : VK) : It → Hp → Prop := fun J H1 => ∀ D, H1 D = none → ∃ W : Nat → Nat → Hp → Prop, (∃ m, W 0 m (upd H1 D (.lst []))) ∧ ∀ i m H, W i m H →
  (J.stop i H ∧ Q (.ref D) H) ∨ (J.go i H ∧ ∃ Nx : Hp → Prop, (∀ H', Nx H' → ∃ m', m' < m ∧ W (i + 1) m' H') ∧ ∀ x H', J.yld i H x H' → g x (wipe σ vs) H' fun σ2 H2 => wipe σ2 vs = wipe σ vs ∧ tt σ2 H2 fun b H3 =>
    if b = true then te σ2 H3 fun y H4 => ∃ acc, H4 D = some (.lst acc) ∧ acc.length < sizeLine ∧ Nx (upd H4 D (.lst (acc ++ [y]))) else Nx H3)
def CB (n : Nat) (G : Hp → Prop) (Y : Nat → Hp → V → Hp → Prop) (g : TG) (tt : TT) (te : TE) (vs : List Nat) (σ : L2.St) (Q : VK) (H1 : Hp) : Prop :=
  ∀ D, H1 D = none → ∃ Pv : Nat → Hp → Prop, Pv 0 (upd H1 D (.lst [])) ∧ (∀ i H, i ≤ n → Pv i H → G H) ∧ (∀ i x H H', i < n → Pv i H → Y i H x H' → g x (wipe σ vs) H' fun σ2 H2 => wipe σ2 vs = wipe σ vs ∧ tt σ2 H2 fun b H3 =>
      if b = true then te σ2 H3 fun y H4 => ∃ acc, H4 D = some (.lst acc) ∧ acc.length < sizeLine ∧ Pv (i + 1) (upd H4 D (.lst (acc ++ [y]))) else Pv (i + 1) H3) ∧ ∀ H, Pv n H → Q (.ref D) H
theorem e_lc (h : wi σ H (CP g tt te vs σ Q)) : tLc wi g tt te vs σ H Q := h
theorem cp_of {J : It} {n : Nat} {G : Hp → Prop} {Y : Nat → Hp → V → Hp → Prop} (w : Walk J n G Y) (b : CB n G Y g tt te vs σ Q H) : CP g tt te vs σ Q J H := fun D hD => by
  obtain ⟨Pv, h0, hG, hs, hd⟩ := b D hD
  exact lc_it w Pv h0 hG hs hd
theorem walk_rg {n : Nat} : Walk (Itr 0 n) n (fun _ => True) (YFn fun i => .int (i : Nat)) :=
  walk_range.mono (fun _ h => h) fun i H x H' _ _ y => ⟨y.1, by rw [y.2]; show V.int (0 + _) = _; rw [Int.zero_add]⟩
theorem walk_rgf {n lo : Nat} {z : Int} (e : z = (lo : Nat)) : Walk (Itr z n) n (fun _ => True) (YFn fun i => .int ((lo + i : Nat) : Int)) := by
  subst e
  exact walk_range.mono (fun _ h => h) fun i H x H' _ _ y => ⟨y.1, by rw [y.2]; show V.int _ = V.int _; rw [Int.natCast_add]⟩
/-! the iterators' own readings -/
theorem i_list (h : tl σ H fun x H1 => ∃ a, x = .ref a ∧ (∃ xs, SqL K H1 a xs) ∧ R (Itl K a) H1) : iList K tl σ H R := h
theorem i_tup (h : tl σ H fun x H1 => ∃ a, x = .ref a ∧ (∃ xs, SqT K H1 a xs) ∧ R (Itt K a) H1) : iTup K tl σ H R := h
theorem i_enum (h : tA σ H fun vs H1 => ∃ a xs, vs = [.ref a] ∧ SqL K H1 a xs ∧ R (Ite K a) H1) : iEnum K tA σ H R := h
theorem i_enumT (h : tA σ H fun vs H1 => ∃ a xs, vs = [.ref a] ∧ SqT K H1 a xs ∧ R (Itet K a) H1) : iEnumT K tA σ H R := h
theorem i_zip (h : tA σ H fun vs H1 => ∃ a b xs ys, vs = [.ref a, .ref b] ∧ SqL K H1 a xs ∧ SqL K H1 b ys ∧ R (Itz K a b) H1) : iZip K tA σ H R := h
theorem i_rng1 (h : tA σ H fun vs H1 => ∃ j : Int, vs = [.int j] ∧ -(2 ^ 62) ≤ j ∧ j < 2 ^ 62 ∧ R (Itr 0 j.toNat) H1) : iRng1 tA σ H R := h
theorem i_rng2 (h : tA σ H fun vs H1 => ∃ i j : Int, vs = [.int i, .int j] ∧ (-(2 ^ 62) ≤ i ∧ i < 2 ^ 62 ∧ -(2 ^ 62) ≤ j ∧ j < 2 ^ 62) ∧ R (Itr i (j - i).toNat) H1) : iRng2 tA σ H R := h
section
variable {a b : Addr} {xs ys : List V}
theorem r_list (h : SqL K H a xs) (q : R (Itl K a) H) : ∃ a', V.ref a = .ref a' ∧ (∃ xs, SqL K H a' xs) ∧ R (Itl K a') H := ⟨a, rfl, ⟨xs, h⟩, q⟩
theorem r_tup (h : SqT K H a xs) (q : R (Itt K a) H) : ∃ a', V.ref a = .ref a' ∧ (∃ xs, SqT K H a' xs) ∧ R (Itt K a') H := ⟨a, rfl, ⟨xs, h⟩, q⟩
theorem r_enum (h : SqL K H a xs) (q : R (Ite K a) H) : ∃ a' xs', [V.ref a] = [.ref a'] ∧ SqL K H a' xs' ∧ R (Ite K a') H := ⟨a, xs, rfl, h, q⟩
theorem r_enumT (h : SqT K H a xs) (q : R (Itet K a) H) : ∃ a' xs', [V.ref a] = [.ref a'] ∧ SqT K H a' xs' ∧ R (Itet K a') H := ⟨a, xs, rfl, h, q⟩
theorem r_zip (h : SqL K H a xs) (k : SqL K H b ys) (q : R (Itz K a b) H) : ∃ a' b' xs' ys', [V.ref a, V.ref b] = [.ref a', .ref b'] ∧ SqL K H a' xs' ∧ SqL K H b' ys' ∧ R (Itz K a' b') H := ⟨a, b, xs, ys, rfl, h, k, q⟩
theorem r_rng1 {n : Nat} {z : Int} (e : z = (n : Int)) (hn : n < 2 ^ 62) (q : R (Itr 0 n) H) : ∃ j : Int, [V.int z] = [.int j] ∧ -(2 ^ 62) ≤ j ∧ j < 2 ^ 62 ∧ R (Itr 0 j.toNat) H := by
  subst e
  exact ⟨_, rfl, by omega, by omega, by rw [Int.toNat_natCast]; exact q⟩
theorem r_rng2 {lo hi : Int} {n : Nat} (e : n = (hi - lo).toNat) (h : -(2 ^ 62) ≤ lo ∧ lo < 2 ^ 62 ∧ -(2 ^ 62) ≤ hi ∧ hi < 2 ^ 62) (q : R (Itr lo n) H) : ∃ i j : Int, [V.int lo, V.int hi] = [.int i, .int j] ∧ (-(2 ^ 62) ≤ i ∧ i < 2 ^ 62 ∧ -(2 ^ 62) ≤ j ∧ j < 2 ^ 62) ∧ R (Itr i (j - i).toNat) H := by
  subst e
  exact ⟨_, _, rfl, h, q⟩
end
theorem e_yes {P : VK} {Z : Hp → Prop} (h : te σ H P) : tYes σ H (fun b H3 => if b = true then te σ H3 P else Z H3) := by
  show (if true = true then te σ H P else Z H)
  rw [if_pos rfl]
  exact h
/-- what does not lie at D where a list stands -/
class Hd {α : Type} (R : Rp α) : Prop where
  hd : ∀ {H : Hp} {D : Addr} {acc : List V} {v : V} {x : α}, H D = some (.lst acc) → R H v x → R (hid D H) v x
theorem hd_t {H : Hp} {D a : Addr} {acc xs : List V} (h : H D = some (.lst acc)) (q : SqT K H a xs) : SqT K (hid D H) a xs := by
  rcases q with (q | ⟨o, q⟩) | q
  · exact .inl (.inl (by rw [hid_ne (ne_of q h (by intro z; cases z))]; exact q))
  · exact .inl (.inr ⟨o, by rw [hid_ne (ne_of q h (by intro z; cases z))]; exact q⟩)
  · exact .inr q
instance : Hd (Fr K) := ⟨fun h ⟨a, e, q⟩ => ⟨a, e, hd_t h q⟩⟩
instance : Hd In := ⟨fun _ h => h⟩
instance : Hd Wy := ⟨fun _ h => h⟩
instance : Hd (Ak K) := ⟨fun h ⟨p, f, e, q, r⟩ => ⟨p, f, e, hd_t h q, Hd.hd h r⟩⟩
/-- a comprehension whose turns only make new things: out tells its items -/
theorem cb_map {α : Type} {n : Nat} {G : Hp → Prop} {Y : Nat → Hp → V → Hp → Prop} {H1 : Hp} (Rk : Rp α) [Mo Rk] [Hd Rk] (out : Nat → α) (hn : n < 100000) (hG : ∀ H, Same H1 H → G H)
    (hs : ∀ i x H H' (P : VK) (Z : Hp → Prop), i < n → Same H1 H → Y i H x H' → (∀ y H4, Same H H4 → Rk H4 y (out i) → P y H4) →
      g x (wipe σ vs) H' fun σ2 H2 => wipe σ2 vs = wipe σ vs ∧ tYes σ2 H2 fun b H3 => if b = true then te σ2 H3 P else Z H3)
    (hd : ∀ D acc H', H1 D = none → Same H1 H' → H' D = some (.lst acc) → Al (Rk (hid D H')) acc ((List.range n).map out) → Q (.ref D) H') : CB n G Y g tYes te vs σ Q H1 := fun D hD => by
  refine ⟨fun i H => Same H1 H ∧ ∃ acc, H D = some (.lst acc) ∧ Al (Rk (hid D H)) acc ((List.range i).map out), ⟨sm_new hD _, [], upd_same, .nil⟩, fun i H _ p => hG H p.1, ?_, ?_⟩
  · rintro i x H H' hi ⟨s1, acc, ha, al⟩ y
    refine hs i x H H' _ _ hi s1 y fun v H4 s4 r => ?_
    have l : acc.length = i := by rw [al.len]; simp
    have h4 := s4 _ _ ha
    refine ⟨acc, h4, szLt (by omega), sm_mut (s1.trans s4) hD, _, upd_same, ?_⟩
    rw [hid_upd, List.range_succ, List.map_append]
    exact (al.mv (hid_mono s4)).app (.one (Hd.hd h4 r))
  · rintro H ⟨s1, acc, ha, al⟩
    exact hd D acc H hD s1 ha al
/-- what is new in H' -/
def nwp (H H' : Hp) : Hp := fun b => if H b = none then H' b else none
theorem nwp_sm {H H' : Hp} : Same (nwp H H') H' := fun b o e => by
  unfold nwp at e
  split at e
  · exact e
  · cases e
theorem nwp_mono {H H' H2 : Hp} (s : Same H' H2) : Same (nwp H H') (nwp H H2) := fun b o e => by
  unfold nwp at e ⊢
  split at e
  · rename_i h; rw [if_pos h]; exact s _ _ e
  · cases e
theorem nwp_at {H H' : Hp} {p : Addr} {o : HO} (h : H p = none) (e : H' p = some o) : nwp H H' p = some o := by
  unfold nwp
  rw [if_pos h]; exact e
theorem nwp_old {H H' : Hp} {p : Addr} {o : HO} (h : H p = some o) : nwp H H' p = none := by
  unfold nwp
  rw [if_neg (by rw [h]; simp)]
theorem nwp_le {H G H' : Hp} (s : Same H G) : Same (nwp G H') (nwp H H') := fun b o e => by
  unfold nwp at e ⊢
  split at e
  · rename_i h; rw [if_pos (s.free h)]; exact e
  · cases e
theorem nwp_hid {H1 H H4 : Hp} {D : Addr} {o : HO} (s : Same H1 H) (h : H D = some o) : Same (nwp H H4) (hid D (nwp H1 H4)) := fun b u e => by
  have hb : b ≠ D := fun z => by
    subst z
    rw [nwp_old h] at e
    cases e
  rw [hid_ne hb]
  exact nwp_le s b u e
/-- .. where each item is new itself -/
theorem cb_mapN {α : Type} {n : Nat} {G : Hp → Prop} {Y : Nat → Hp → V → Hp → Prop} {H1 : Hp} (Rk : Rp α) [Mo Rk] (out : Nat → α) (hn : n < 100000) (hG : ∀ H, Same H1 H → G H)
    (hs : ∀ i x H H' (P : VK) (Z : Hp → Prop), i < n → Same H1 H → Y i H x H' → (∀ y H4, Same H H4 → Rk (nwp H H4) y (out i) → P y H4) →
      g x (wipe σ vs) H' fun σ2 H2 => wipe σ2 vs = wipe σ vs ∧ tYes σ2 H2 fun b H3 => if b = true then te σ2 H3 P else Z H3)
    (hd : ∀ D acc H', H1 D = none → Same H1 H' → H' D = some (.lst acc) → Al (Rk (hid D (nwp H1 H'))) acc ((List.range n).map out) → Q (.ref D) H') : CB n G Y g tYes te vs σ Q H1 := fun D hD => by
  refine ⟨fun i H => Same H1 H ∧ ∃ acc, H D = some (.lst acc) ∧ Al (Rk (hid D (nwp H1 H))) acc ((List.range i).map out), ⟨sm_new hD _, [], upd_same, .nil⟩, fun i H _ p => hG H p.1, ?_, ?_⟩
  · rintro i x H H' hi ⟨s1, acc, ha, al⟩ y
    refine hs i x H H' _ _ hi s1 y fun v H4 s4 r => ?_
    have l : acc.length = i := by rw [al.len]; simp
    have h4 := s4 _ _ ha
    have e : hid D (nwp H1 (upd H4 D (.lst (acc ++ [v])))) = hid D (nwp H1 H4) := by
      funext b
      by_cases q : b = D
      · subst q; rw [hid_at, hid_at]
      · rw [hid_ne q, hid_ne q]
        unfold nwp
        rw [upd_ne q]
    refine ⟨acc, h4, szLt (by omega), sm_mut (s1.trans s4) hD, _, upd_same, ?_⟩
    rw [e, List.range_succ, List.map_append]
    exact (al.mv (hid_mono (nwp_mono s4))).app (.one (mv (nwp_hid s1 ha) r))
  · rintro H ⟨s1, acc, ha, al⟩
    exact hd D acc H hD s1 ha al
/-- a comprehension of ints with a test -/
theorem cb_ints {n : Nat} {G : Hp → Prop} {Y : Nat → Hp → V → Hp → Prop} {H1 : Hp} (PZ : Int → Prop) (hn : n < 100000) (hG : ∀ H, Same H1 H → G H)
    (hs : ∀ i x H H' (P : VK) (Z : Hp → Prop), i < n → Same H1 H → Y i H x H' → (∀ z H4, Same H H4 → PZ z → P (.int z) H4) → (∀ H4, Same H H4 → Z H4) →
      g x (wipe σ vs) H' fun σ2 H2 => wipe σ2 vs = wipe σ vs ∧ tt σ2 H2 fun b H3 => if b = true then te σ2 H3 P else Z H3)
    (hd : ∀ (D : Addr) (zs : List Int) (H' : Hp), H1 D = none → Same H1 H' → H' D = some (.lst (zs.map V.int)) → zs.length ≤ n → (∀ z ∈ zs, PZ z) → Q (.ref D) H') : CB n G Y g tt te vs σ Q H1 := fun D hD => by
  refine ⟨fun i H => Same H1 H ∧ ∃ zs : List Int, H D = some (.lst (zs.map V.int)) ∧ zs.length ≤ i ∧ ∀ z ∈ zs, PZ z, ⟨sm_new hD _, [], upd_same, Nat.le_refl _, fun z hz => by simp at hz⟩, fun i H _ p => hG H p.1, ?_, ?_⟩
  · rintro i x H H' hi ⟨s1, zs, ha, l, hz⟩ y
    refine hs i x H H' _ _ hi s1 y (fun z H4 s4 pz => ?_) fun H4 s4 => ?_
    · refine ⟨_, s4 _ _ ha, szLt (by rw [List.length_map]; omega), sm_mut (s1.trans s4) hD, zs ++ [z], ?_, by rw [List.length_append]; simp; omega, fun y hy => ?_⟩
      · rw [upd_same, List.map_append]; rfl
      · rcases List.mem_append.mp hy with h | h
        · exact hz y h
        · rw [List.mem_singleton.mp h]; exact pz
    · exact ⟨s1.trans s4, zs, s4 _ _ ha, by omega, hz⟩
  · rintro H ⟨s1, zs, ha, l, hz⟩
    exact hd D zs H hD s1 ha l hz
/-- what does not lie at p where an instance stands -/
class Hi {α : Type} (R : Rp α) : Prop where
  hi : ∀ {H : Hp} {p C dx : Addr} {fs : List (Str × V)} {v : V} {x : α}, H p = some (.ins C dx fs) → R H v x → R (hid p H) v x
theorem hi_t {H : Hp} {p C dx a : Addr} {fs : List (Str × V)} {xs : List V} (h : H p = some (.ins C dx fs)) (q : SqT K H a xs) : SqT K (hid p H) a xs := by
  rcases q with (q | ⟨o, q⟩) | q
  · exact .inl (.inl (by rw [hid_ne (ne_of q h (by intro z; cases z))]; exact q))
  · exact .inl (.inr ⟨o, by rw [hid_ne (ne_of q h (by intro z; cases z))]; exact q⟩)
  · exact .inr q
instance : Hi (Fr K) := ⟨fun h ⟨a, e, q⟩ => ⟨a, e, hi_t h q⟩⟩
instance : Hi In := ⟨fun _ h => h⟩
instance : Hi Wy := ⟨fun _ h => h⟩
instance : Hi (Ak K) := ⟨fun h ⟨p, f, e, q, r⟩ => ⟨p, f, e, hi_t h q, Hi.hi h r⟩⟩
instance {α : Type} {R : Rp α} [Hi R] : Hi (Ls R) := ⟨fun h ⟨a, vs, e, q, r⟩ => ⟨a, vs, e, by rw [hid_ne (ne_of q h (by intro z; cases z))]; exact q, r.imp fun _ _ z => Hi.hi h z⟩⟩
instance : Hi (Rn K) := ⟨fun h ⟨p, x, y, e, q, r, s⟩ => ⟨p, x, y, e, hi_t h q, Hi.hi h r, Hi.hi h s⟩⟩
end
local macro_rules | `(tactic| walk_at "rg1") => `(tactic| first
  | with_reducible refine s_asg ?_
  | with_reducible refine s_ret ?_
  | ((with_reducible refine e_var (v := ?vv) ?hh ?qq); (case hh => exact rfl))
  | with_reducible refine e_c ?_
  | with_reducible refine e_op ?_
  | with_reducible refine e_cons ?_
  | with_reducible refine e_nil ?_
  | with_reducible refine e_I0 ?_
  | ((with_reducible refine e_ixT (xs := ?xx) (v := ?vv) ?hh ?ee ?qq); (case hh => assumption); (case ee => first | exact rfl | assumption))
  | with_reducible refine e_call ?_
  | with_reducible refine e_cb ?_
  | with_reducible refine e_test ?_
  | with_reducible refine e_B ?_
  | with_reducible refine e_bl ?_
  | ((with_reducible refine e_eq ?hh ?qq); (case hh => exact rfl))
  | ((with_reducible refine e_ne ?hh ?qq); (case hh => exact rfl))
  | with_reducible refine e_tup ?_
  | with_reducible refine e_sl ?_
  | with_reducible refine e_noP ?_
  | with_reducible refine e_part ?_
  | with_reducible refine e_int ?_
  | with_reducible refine e_lst ?_
  | with_reducible refine s_if1 ?_
  | with_reducible refine s_asgG ?_
  | with_reducible refine s_next ?_
  | with_reducible refine s_drop ?_
  | with_reducible refine s_par ?_
  | with_reducible refine e_two ?_
  | with_reducible refine e_abs ?_
  | ((with_reducible refine e_lenL (ys := ?xx) ?hh ?qq); (case hh => first | assumption | exact SqL.of (by assumption)))
  | with_reducible refine e_gname ?_
  | with_reducible refine e_gcons ?_
  | with_reducible refine e_gnil ?_
  | with_reducible refine e_gsub ?_
  | ((with_reducible refine e_gtup (xs := ?xx) ?hh ?ee ?qq); (case hh => assumption); (case ee => exact rfl))
  | with_reducible refine e_un ?_
  | with_reducible refine e_neg ?_
  | with_reducible refine e_isN ?_
  | with_reducible refine e_notN ?_
  | with_reducible refine e_if ?_
  | with_reducible refine e_and ?_
  | with_reducible refine e_or ?_
  | with_reducible refine e_notV ?_
  | with_reducible refine e_meth ?_
  | with_reducible refine e_make ?_
  | with_reducible refine e_fld ?_
  | ((with_reducible refine e_fldR (C := ?cc) (dx := ?dd) (fs := ?ff) (v := ?vv) ?hh ?cl ?nn ?ll ?qq); (case hh => assumption); (case cl => assumption); (case nn => assumption); (case ll => exact rfl))
  | ((with_reducible refine e_fldS (C := ?cc) (dx := ?dd) (fs := ?ff) ?hh ?cl ?nn ?ll ?qq); (case hh => assumption); (case cl => assumption); (case nn => assumption); (case ll => exact Nat.le_of_ble_eq_true rfl))
  | with_reducible refine e_gfld ?_
  | with_reducible refine e_bm ?_
  | ((with_reducible refine e_tyL (xs := ?xx) ?hh ?qq); (case hh => assumption))
  | ((with_reducible refine e_mth (dx := ?dd) (fs := ?ff) ?hh ?ll ?qq); (case hh => assumption); (case ll => exact rfl))
  | with_reducible refine s_fld ?_
  | with_reducible refine s_retN ?_
  | with_reducible refine e_chain ?_
  | with_reducible refine e_intB ?_
  | with_reducible refine e_mx ?_
  | with_reducible refine e_mn ?_
  | with_reducible refine s_for ?_
  | with_reducible refine e_lc ?_
  | with_reducible refine i_list ?_
  | with_reducible refine i_tup ?_
  | with_reducible refine i_enum ?_
  | with_reducible refine i_enumT ?_
  | with_reducible refine i_zip ?_
  | with_reducible refine i_rng1 ?_
  | with_reducible refine i_rng2 ?_
  | with_reducible refine e_yes ?_
  | with_reducible refine s_if ?_)
local macro_rules | `(tactic| walk_at "rg") => `(tactic| repeat walk_at "rg1")
/-! Rat facts -/
theorem rat_num (m n : Nat) (h : 0 < n) : (mkRat (m : Int) n).num = (m : Int) / ((Nat.gcd m n : Nat) : Int) := by
  rw [Rat.num_mkRat, if_neg (by omega), Int.natAbs_natCast, Nat.gcd_comm]
theorem rat_den (m n : Nat) (h : 0 < n) : (((mkRat (m : Int) n).den : Nat) : Int) = (n : Int) / ((Nat.gcd m n : Nat) : Int) := by
  rw [Rat.den_mkRat, if_neg (by omega), Int.natAbs_natCast, Nat.gcd_comm]
  exact Int.natCast_ediv _ _
theorem nn_num {q : Rat} (h : 0 ≤ q) : 0 ≤ q.num := Rat.num_nonneg.mpr h
/-- a non-negative fraction whose top and bottom are below 2 ^ n -/
structure Bd (n : Nat) (q : Rat) : Prop where
  nn : 0 ≤ q
  top : q.num < 2 ^ n
  bot : q.den < 2 ^ n
theorem Bd.mono {m n : Nat} {q : Rat} (h : Bd m q) (l : m ≤ n) : Bd n q := by
  have e : (2 : Nat) ^ m ≤ 2 ^ n := Nat.pow_le_pow_right (by decide) l
  have e' : (2 : Int) ^ m ≤ 2 ^ n := by exact_mod_cast e
  exact ⟨h.nn, by have := h.top; omega, by have := h.bot; omega⟩
theorem Bd.natAbs {n : Nat} {q : Rat} (h : Bd n q) : q.num.natAbs < 2 ^ n := by
  have h1 := nn_num h.nn
  have h2 := h.top
  have e : ((2 ^ n : Nat) : Int) = (2 : Int) ^ n := by norm_cast
  omega
theorem mk_bd {m n k : Nat} (hn : 0 < n) (h1 : m < 2 ^ k) (h2 : n < 2 ^ k) : Bd k (mkRat (m : Int) n) := by
  have hg : 0 < Nat.gcd m n := Nat.gcd_pos_of_pos_right _ hn
  have e : ((2 ^ k : Nat) : Int) = (2 : Int) ^ k := by norm_cast
  refine ⟨?_, ?_, ?_⟩
  · rw [← Rat.num_nonneg, rat_num m n hn]
    exact Int.ediv_nonneg (by omega) (by omega)
  · rw [rat_num m n hn]
    have : (m : Int) / ((Nat.gcd m n : Nat) : Int) ≤ m := Int.ediv_le_self _ (by omega)
    omega
  · have := rat_den m n hn
    have h3 : (n : Int) / ((Nat.gcd m n : Nat) : Int) ≤ n := Int.ediv_le_self _ (by omega)
    omega
theorem num_pos {q : Rat} (h : 0 < q) : 0 < q.num := by
  have h1 : 0 ≤ q.num := nn_num (Rat.le_of_lt h)
  have h2 : q.num ≠ 0 := fun e => by
    rw [Rat.num_eq_zero] at e
    subst e
    exact absurd h Rat.lt_irrefl
  omega
theorem toNat_eq {a : Int} (h : 0 ≤ a) : ∃ n : Nat, a = n := ⟨a.toNat, by omega⟩
theorem num_nat {q : Rat} (h : 0 ≤ q) : ∃ n : Nat, q.num = n := toNat_eq (nn_num h)
/-- sum, product, difference as the program reckons them -/
theorem add_mk (p q : Rat) : p + q = mkRat (p.num * q.den + q.num * p.den) (p.den * q.den) := Rat.add_def' p q
theorem sub_mk (p q : Rat) : p - q = mkRat (p.num * q.den - q.num * p.den) (p.den * q.den) := Rat.sub_def' p q
theorem mul_mk (p q : Rat) : p * q = mkRat (p.num * q.num) (p.den * q.den) := Rat.mul_def' p q
theorem div_mk {p q : Rat} (h : 0 < q) (hp : 0 ≤ p) : p / q = mkRat (p.num * q.den) (p.den * q.num.toNat) := by
  have h0 : 0 < q.num := num_pos h
  have e1 : q⁻¹ = mkRat q.den q.num.toNat := by
    rw [Rat.inv_def]
    conv => lhs; rw [show q.num = ((q.num.toNat : Nat) : Int) by omega]
    exact Rat.divInt_ofNat _ _
  rw [Rat.div_def, e1]
  conv => lhs; rw [← Rat.mkRat_self p]
  rw [Rat.mkRat_mul_mkRat]
theorem lt_mul {a b : Nat} {m n : Nat} (h : a < 2 ^ m) (k : b < 2 ^ n) : a * b < 2 ^ (m + n) := by
  rw [Nat.pow_add]
  exact Nat.mul_lt_mul'' h k
theorem cast_lt {a m : Nat} {z : Int} (e : z = (a : Int)) (h : z < 2 ^ m) : a < 2 ^ m := by
  have : ((2 ^ m : Nat) : Int) = (2 : Int) ^ m := by norm_cast
  omega
theorem Bd.add {m n : Nat} {p q : Rat} (h : Bd m p) (k : Bd n q) : Bd (m + n + 1) (p + q) := by
  obtain ⟨a, ea⟩ := num_nat h.nn
  obtain ⟨b, eb⟩ := num_nat k.nn
  rw [add_mk, ea, eb]
  have e : ((a : Int) * (q.den : Int) + (b : Int) * (p.den : Int)) = ((a * q.den + b * p.den : Nat) : Int) := by norm_cast
  rw [e]
  have h1 := lt_mul (cast_lt ea h.top) k.bot
  have h2 := lt_mul (cast_lt eb k.top) h.bot
  have h3 := lt_mul h.bot k.bot
  rw [Nat.add_comm n m] at h2
  refine mk_bd (Nat.mul_pos p.den_pos q.den_pos) ?_ ?_ <;> rw [Nat.pow_succ] <;> omega
theorem Bd.mul {m n : Nat} {p q : Rat} (h : Bd m p) (k : Bd n q) : Bd (m + n) (p * q) := by
  obtain ⟨a, ea⟩ := num_nat h.nn
  obtain ⟨b, eb⟩ := num_nat k.nn
  rw [mul_mk, ea, eb]
  have e : ((a : Int) * (b : Int)) = ((a * b : Nat) : Int) := by norm_cast
  rw [e]
  exact mk_bd (Nat.mul_pos p.den_pos q.den_pos) (lt_mul (cast_lt ea h.top) (cast_lt eb k.top)) (lt_mul h.bot k.bot)
theorem Bd.div {m n : Nat} {p q : Rat} (h : Bd m p) (k : Bd n q) (h0 : 0 < q) : Bd (m + n) (p / q) := by
  obtain ⟨a, ea⟩ := num_nat h.nn
  obtain ⟨b, eb⟩ := num_nat k.nn
  have hb : 0 < b := by
    have := num_pos h0
    omega
  rw [div_mk h0 h.nn, ea, eb]
  have e : ((a : Int) * (q.den : Int)) = ((a * q.den : Nat) : Int) := by norm_cast
  rw [e, Int.toNat_natCast]
  exact mk_bd (Nat.mul_pos p.den_pos hb) (lt_mul (cast_lt ea h.top) k.bot) (lt_mul h.bot (cast_lt eb k.top))
theorem Bd.sub {m n : Nat} {p q : Rat} (h : Bd m p) (k : Bd n q) (l : q ≤ p) : Bd (m + n) (p - q) := by
  obtain ⟨a, ea⟩ := num_nat h.nn
  obtain ⟨b, eb⟩ := num_nat k.nn
  have l' := (Rat.le_iff q p).mp l
  rw [sub_mk, ea, eb]
  rw [ea, eb] at l'
  have l2 : b * p.den ≤ a * q.den := by exact_mod_cast l'
  have e : ((a : Int) * (q.den : Int) - (b : Int) * (p.den : Int)) = ((a * q.den - b * p.den : Nat) : Int) := by
    rw [Int.ofNat_sub l2]; norm_cast
  rw [e]
  have h1 := lt_mul (cast_lt ea h.top) k.bot
  exact mk_bd (Nat.mul_pos p.den_pos q.den_pos) (by omega) (lt_mul h.bot k.bot)
theorem bd0 {n : Nat} (h : 0 < n) : Bd n 0 := by
  have e1 : (1 : Nat) < 2 ^ n := Nat.one_lt_two_pow (by omega)
  have e2 : ((2 ^ n : Nat) : Int) = (2 : Int) ^ n := by norm_cast
  exact ⟨Rat.le_refl, by show (0 : Int) < 2 ^ n; omega, by show (1 : Nat) < 2 ^ n; omega⟩
theorem num_eq (q : Rat) : (q.num : Rat) = q * ((q.den : Nat) : Rat) := by
  have h : (((q.den : Nat) : Rat)) ≠ 0 := fun e => by
    have : 0 < ((q.den : Nat) : Rat) := Rat.natCast_pos.mpr q.den_pos
    rw [e] at this
    exact Rat.lt_irrefl this
  have e : q = (q.num : Rat) / ((q.den : Nat) : Rat) := (Rat.mkRat_self q).symm.trans (Rat.mkRat_eq_div _ _)
  have e2 : (q.num : Rat) / ((q.den : Nat) : Rat) * ((q.den : Nat) : Rat) = (q.num : Rat) := Rat.div_mul_cancel h
  rw [← e] at e2
  exact e2.symm
theorem scale_int {q : Rat} {W : Nat} (h : q.den ∣ W) : ((q.num * ((W : Int) / (q.den : Nat)) : Int) : Rat) = q * (W : Rat) := by
  obtain ⟨c, rfl⟩ := h
  have e : (((q.den * c : Nat) : Int) / ((q.den : Nat) : Int)) = (c : Int) := by
    rw [Int.natCast_mul]
    exact Int.mul_ediv_cancel_left _ (by have := q.den_pos; omega)
  rw [e, Rat.intCast_mul, num_eq, Rat.natCast_mul, Rat.intCast_natCast, Rat.mul_assoc]
/-! a ring, plainly -/
/-- whether tie t lies on the way on from one to other -/
def ov (n one other t : Nat) : Bool := decide (((t : Int) - one) % n < ((other : Int) - one) % n)
/-- the ties of a way -/
def tiesL (n one other : Nat) (b : Bool) : List Int :=
  if b then (List.range (((other : Int) - one) % n).toNat).map fun s => ((one : Int) + (s : Nat)) % n
  else (List.range (((one : Int) - other) % n).toNat).map fun s => ((one : Int) - 1 - (s : Nat)) % n
def tiesOk (n one other : Nat) (b : Bool) : Bool :=
  ((tiesL n one other b).all fun z => decide (0 ≤ z) && decide (z < (n : Int))) && (List.range n).all fun t => decide ((tiesL n one other b).count ((t : Nat) : Int) = if ov n one other t = b then 1 else 0)
theorem ties_fin0 : ∀ n, n < 9 → ∀ one, one < n → ∀ other, other < n → one ≠ other → (tiesOk n one other true && tiesOk n one other false) = true := by decide +kernel
theorem ties_fin {n one other : Nat} (b : Bool) (hn : n < 9) (h1 : one < n) (h2 : other < n) (h : one ≠ other) :
    (∀ z ∈ tiesL n one other b, 0 ≤ z ∧ z < n) ∧ ∀ t, t < n → ((tiesL n one other b).count ((t : Nat) : Int)) = if ov n one other t = b then 1 else 0 := by
  have q := ties_fin0 n hn one h1 other h2 h
  rw [Bool.and_eq_true] at q
  have q2 : tiesOk n one other b = true := by cases b; exact q.2; exact q.1
  unfold tiesOk at q2
  simp only [Bool.and_eq_true, List.all_eq_true, decide_eq_true_eq, List.mem_range] at q2
  exact q2
structure Good (r : Ring) : Prop where
  n2 : 2 ≤ r.rooms.length
  n8 : r.rooms.length ≤ 8
  m5 : r.asks.length ≤ 5
  room : ∀ q ∈ r.rooms, 0 < q ∧ Bd 60 q
  ask : ∀ a ∈ r.asks, a.one < r.rooms.length ∧ a.other < r.rooms.length ∧ a.one ≠ a.other ∧ Bd 60 a.size
/-- what ask k lays on tie i, going by ways -/
def ct (r : Ring) (ws : List Bool) (k i : Nat) : Rat :=
  match r.asks[k]?, ws[k]? with
  | some a, some w => if ov r.rooms.length a.one a.other i = w then a.size else 0
  | _, _ => 0
def ld (r : Ring) (ws : List Bool) : Nat → Nat → Rat
  | 0, _ => 0
  | k + 1, i => ld r ws k i + ct r ws k i
def room (r : Ring) (i : Nat) : Rat := r.rooms.getD i 1
def strain (r : Ring) (ws : List Bool) (i : Nat) : Rat := ld r ws r.asks.length i / room r i
/-- q is the greatest strain -/
def IsTop (r : Ring) (ws : List Bool) (q : Rat) : Prop := (∃ i, i < r.rooms.length ∧ strain r ws i = q) ∧ ∀ i, i < r.rooms.length → strain r ws i ≤ q
def part (a : Ask) (w : Bool) : Rat := if w then a.size else 0
def sent (r : Ring) (ws : List Bool) : List Rat := List.zipWith part r.asks ws
theorem ct_eq {r : Ring} {ws : List Bool} {k i : Nat} {a : Ask} {w : Bool} (ha : r.asks[k]? = some a) (hw : ws[k]? = some w) : ct r ws k i = if ov r.rooms.length a.one a.other i = w then a.size else 0 := by
  unfold ct
  rw [ha, hw]
theorem ct_bd {r : Ring} (g : Good r) {ws : List Bool} {k i : Nat} : Bd 60 (ct r ws k i) := by
  unfold ct
  split
  · rename_i a w ha hw
    split
    · exact (g.ask a (List.mem_of_getElem? ha)).2.2.2
    · exact bd0 (by decide)
  · exact bd0 (by decide)
theorem ld_bd {r : Ring} (g : Good r) {ws : List Bool} : ∀ {k i : Nat}, Bd (61 * k + 1) (ld r ws k i)
  | 0, i => bd0 (by decide)
  | k + 1, i => ((ld_bd g (k := k) (i := i)).add (ct_bd g (ws := ws) (k := k) (i := i))).mono (by omega)
theorem room_bd {r : Ring} (g : Good r) {i : Nat} (h : i < r.rooms.length) : 0 < room r i ∧ Bd 60 (room r i) := by
  unfold room
  rw [List.getD_eq_getElem?_getD, List.getElem?_eq_getElem h]
  exact g.room _ (List.getElem_mem h)
theorem room_at {r : Ring} {i : Nat} (h : i < r.rooms.length) : r.rooms[i]? = some (room r i) := by
  unfold room
  rw [List.getD_eq_getElem?_getD, List.getElem?_eq_getElem h]
  rfl
theorem strain_bd {r : Ring} (g : Good r) {ws : List Bool} {i : Nat} (h : i < r.rooms.length) : Bd 500 (strain r ws i) := by
  have := g.m5
  exact ((ld_bd g).div (room_bd g h).2 (room_bd g h).1).mono (by omega)
theorem sent_at {r : Ring} {ws : List Bool} {k : Nat} {a : Ask} {w : Bool} (ha : r.asks[k]? = some a) (hw : ws[k]? = some w) : (sent r ws)[k]? = some (part a w) := by
  unfold sent
  rw [List.getElem?_zipWith, ha, hw]
theorem sent_len {r : Ring} {ws : List Bool} (h : ws.length = r.asks.length) : (sent r ws).length = r.asks.length := by
  unfold sent
  rw [List.length_zipWith]
  omega
theorem part_bd {r : Ring} (g : Good r) {a : Ask} (h : a ∈ r.asks) (w : Bool) : Bd 60 (part a w) ∧ part a w ≤ a.size := by
  unfold part
  have b := (g.ask a h).2.2.2
  cases w
  · exact ⟨bd0 (by decide), b.nn⟩
  · exact ⟨b, Rat.le_refl⟩
theorem part_ct (a : Ask) (w o : Bool) : (if o = true then part a w else a.size - part a w) = if o = w then a.size else 0 := by
  unfold part
  cases o <;> cases w <;> simp <;> grind
theorem IsTop.uniq {r : Ring} {ws : List Bool} {p q : Rat} (h : IsTop r ws p) (k : IsTop r ws q) : p = q := by
  obtain ⟨⟨i, hi, e⟩, h2⟩ := h
  obtain ⟨⟨j, hj, e'⟩, k2⟩ := k
  have a := k2 i hi
  have b := h2 j hj
  rw [e] at a
  rw [e'] at b
  exact Rat.le_antisymm a b
theorem map_set {α : Type} (f : Nat → α) (n t : Nat) (x : α) : ((List.range n).map f).set t x = (List.range n).map fun j => if j = t then x else f j := by
  apply List.ext_getElem?
  intro i
  rw [List.getElem?_set]
  by_cases h : t = i
  · subst h
    by_cases hn : t < n
    · simp [hn]
    · simp [hn]
  · rw [if_neg h]
    by_cases hn : i < n
    · simp [hn, Ne.symm h]
    · simp [hn]
section
variable {P : Program} {w : World} {K : Fg} {mg : Str → Option Value} {base : Heap} {A : Ad}
/-! ### common, lowered and the reckoning with fractions -/
def spCommon : Sp := fun vs H Q _ => ∃ m n : Nat, vs = [.int m, .int n] ∧ Q (.int (Nat.gcd m n : Nat)) H
theorem ok_common (T : Txt K mg A) : Cal P w K mg base 1 "common" pr_common spCommon := by
  obtain ⟨f, fd, F, hm, hb⟩ := T.d_common
  refine ⟨f, fd, F.ok sc_common (fun vs H Q E h => ?_) (fun cdv A' outer s H vs Q E hr h => ?_), hm, F.kp, hb⟩
  · obtain ⟨m, n, rfl, _⟩ := h; rfl
  obtain ⟨m, n, rfl, q⟩ := h
  refine ⟨_, (pss_cons (ps_while PassesOwn.never (pt_cmpR op_ne (pv 1) pe_int (nomark _)) (pss_cons (ps_par (i := 0) (j := 1) rfl sc_common.nd rfl rfl (by decide) rfl rfl (pa_cons (pv 1) (pa_cons (pe_op op_mod (pv 0) (pv 1)) pa_nil)) (by rfl))
  pss_nil))
  (pss_cons (ps_ret (pe_callB c_abs (by rfl) T.n_abs (by decide +kernel) (pa_cons (pv 0) pa_nil)))
  pss_nil)), ?_⟩
  refine s_while (fun k σ H' => ∃ a : Nat, σ = [some (.int a), some (.int k)] ∧ Nat.gcd a k = Nat.gcd m n ∧ H' = H) n ⟨m, rfl, rfl, rfl⟩ ?_
  rintro k σ _ ⟨a, rfl, e, rfl⟩
  walk_at "rg"
  by_cases hk : k = 0
  · subst hk
    refine iteF ?_
    walk_at "rg"
    rw [if_neg (by omega), ← Nat.gcd_zero_right a, e]
    exact q
  · have : (!decide ((V.int (k : Nat)) = .int 0)) = true := by simp; omega
    rw [this]
    refine iteT (e_N ?_)
    walk_at "rg"
    refine e_I (by show (0 : Int) < k; omega) ?_
    walk_at "rg"
    refine ⟨a % k, Nat.mod_lt _ (by omega), k, ?_, ?_, rfl⟩
    · rfl
    · rw [← e, Nat.gcd_comm, ← Nat.gcd_rec, Nat.gcd_comm]
def spLow (K : Fg) : Sp := fun vs H Q _ => ∃ m n : Nat, vs = [.int m, .int n] ∧ 0 < n ∧ n < 2 ^ 8000 ∧ ∀ v H', Same H H' → Fr K H' v (mkRat m n) → Q v H'
theorem ok_lowered (T : Txt K mg A) : Cal P w K mg base 2 "lowered" pr_lowered (spLow K) := by
  obtain ⟨f, fd, F, hm, hb⟩ := T.d_lowered
  refine ⟨f, fd, F.ok sc_lowered (fun vs H Q E h => ?_) (fun cdv A' outer s H vs Q E hr h => ?_), hm, F.kp, hb⟩
  · obtain ⟨m, n, rfl, _⟩ := h; rfl
  obtain ⟨m, n, rfl, hn, hl, q⟩ := h
  refine ⟨_, (pss_cons (ps_set (i := 2) sc_lowered.nd rfl (Or.inl rfl) (pe_c (ok_common T) (hr.mono (by decide)) (pa_cons (pv 0) (pa_cons (pv 1) pa_nil))))
  (pss_cons (ps_if (pt_cmpR op_lt (pv 1) pe_int (nomark _)) (pss_cons (ps_set (i := 2) sc_lowered.nd rfl (Or.inl rfl) (pe_op op_sub pe_int (pv 2)))
  pss_nil) pss_nil)
  (pss_cons (ps_ret (pe_tup (pa_cons (pe_op op_fdivW (pv 0) (pv 2)) (pa_cons (pe_op op_fdivW (pv 1) (pv 2)) pa_nil))))
  pss_nil))), ?_⟩
  walk_at "rg"
  refine ⟨m, n, rfl, ?_⟩
  walk_at "rg"
  rw [decide_eq_false (by omega)]
  refine iteF ?_
  have hg : 0 < Nat.gcd m n := Nat.gcd_pos_of_pos_right _ hn
  have hg2 : Nat.gcd m n ≤ n := Nat.gcd_le_right _ hn
  have cd : ∀ z : Int, CDivW z (Nat.gcd m n : Nat) := fun z => wide_div (b := 8000) (by omega) (by rw [Int.natAbs_natCast]; omega) (by decide) (by decide)
  walk_at "rg"
  refine e_I (cd _) ?_
  walk_at "rg"
  refine e_I (cd _) ?_
  walk_at "rg"
  refine e_nwT rfl fun p H' s1 hp hp' => q _ _ s1 ⟨p, rfl, ?_⟩
  rw [rat_num m n hn, rat_den m n hn]
  exact SqT.of hp'
/-- two fractions in, one out -/
def spF2 (K : Fg) (pre : Rat → Rat → Prop) (op : Rat → Rat → Rat) : Sp := fun vs H Q _ => ∃ x y p q, vs = [x, y] ∧ Fr K H x p ∧ Fr K H y q ∧ pre p q ∧ ∀ v H', Same H H' → Fr K H' v (op p q) → Q v H'
theorem cmw {i j : Int} (ha : i.natAbs < 2 ^ 3000) (hb : j.natAbs < 2 ^ 3000) : CMulW i j := wide_mul ha hb (by decide) (by decide) (by decide)
theorem nat3 {n : Nat} (h : n < 2 ^ 3000) : ((n : Nat) : Int).natAbs < 2 ^ 3000 := by rw [Int.natAbs_natCast]; exact h
theorem fr_nat {H : Hp} {x : V} {p : Rat} (h : Fr K H x p) (b : Bd 3000 p) : ∃ (a : Addr) (m : Nat), x = .ref a ∧ p.num = m ∧ m < 2 ^ 3000 ∧ SqT K H a [.int m, .int (p.den : Nat)] := by
  obtain ⟨a, e, q⟩ := h
  obtain ⟨m, em⟩ := num_nat b.nn
  exact ⟨a, m, e, em, cast_lt em b.top, by rw [← em]; exact q⟩
theorem ok_plus (T : Txt K mg A) : Cal P w K mg base 3 "plus" pr_plus (spF2 K (fun p q => Bd 3000 p ∧ Bd 3000 q) (· + ·)) := by
  obtain ⟨f, fd, F, hm, hb⟩ := T.d_plus
  refine ⟨f, fd, F.ok sc_plus (fun vs H Q E h => ?_) (fun cdv A' outer s H vs Q E hr h => ?_), hm, F.kp, hb⟩
  · obtain ⟨x, y, p, q, rfl, _⟩ := h; rfl
  obtain ⟨x, y, p, q, rfl, hx, hy, ⟨bp, bq⟩, k⟩ := h
  obtain ⟨a, m, rfl, em, lm, ta⟩ := fr_nat hx bp
  obtain ⟨b, n, rfl, en, ln, tb⟩ := fr_nat hy bq
  refine ⟨_, (pss_cons (ps_ret (pe_c (ok_lowered T) (hr.mono (by decide)) (pa_cons (pe_op op_add (pe_op op_mulW (pe_ix (ix_tk K) (pv 0) pe_int (fun _ _ => rfl)) (pe_ix (ix_tk K) (pv 1) pe_int (fun _ _ => rfl))) (pe_op op_mulW (pe_ix (ix_tk K) (pv 1) pe_int (fun _ _ => rfl)) (pe_ix (ix_tk K) (pv 0) pe_int (fun _ _ => rfl)))) (pa_cons (pe_op op_mulW (pe_ix (ix_tk K) (pv 0) pe_int (fun _ _ => rfl)) (pe_ix (ix_tk K) (pv 1) pe_int (fun _ _ => rfl))) pa_nil))))
  pss_nil), ?_⟩
  walk_at "rg"
  refine e_I (cmw (nat3 lm) (nat3 bq.bot)) ?_
  walk_at "rg"
  refine e_I (cmw (nat3 ln) (nat3 bp.bot)) ?_
  walk_at "rg"
  refine e_I (cmw (nat3 bp.bot) (nat3 bq.bot)) ?_
  walk_at "rg"
  refine ⟨m * q.den + n * p.den, p.den * q.den, rfl, Nat.mul_pos p.den_pos q.den_pos, Nat.lt_of_lt_of_le (lt_mul bp.bot bq.bot) (Nat.pow_le_pow_right (by decide) (by decide)), fun v H' s1 r => k v H' s1 ?_⟩
  show Fr K H' v (p + q)
  rw [add_mk, em, en]
  exact r
theorem ok_minus (T : Txt K mg A) : Cal P w K mg base 3 "minus" pr_minus (spF2 K (fun p q => Bd 3000 p ∧ Bd 3000 q ∧ q ≤ p) (· - ·)) := by
  obtain ⟨f, fd, F, hm, hb⟩ := T.d_minus
  refine ⟨f, fd, F.ok sc_minus (fun vs H Q E h => ?_) (fun cdv A' outer s H vs Q E hr h => ?_), hm, F.kp, hb⟩
  · obtain ⟨x, y, p, q, rfl, _⟩ := h; rfl
  obtain ⟨x, y, p, q, rfl, hx, hy, ⟨bp, bq, le⟩, k⟩ := h
  obtain ⟨a, m, rfl, em, lm, ta⟩ := fr_nat hx bp
  obtain ⟨b, n, rfl, en, ln, tb⟩ := fr_nat hy bq
  have l' := (Rat.le_iff q p).mp le
  rw [em, en] at l'
  have l2 : n * p.den ≤ m * q.den := by exact_mod_cast l'
  refine ⟨_, (pss_cons (ps_ret (pe_c (ok_lowered T) (hr.mono (by decide)) (pa_cons (pe_op op_sub (pe_op op_mulW (pe_ix (ix_tk K) (pv 0) pe_int (fun _ _ => rfl)) (pe_ix (ix_tk K) (pv 1) pe_int (fun _ _ => rfl))) (pe_op op_mulW (pe_ix (ix_tk K) (pv 1) pe_int (fun _ _ => rfl)) (pe_ix (ix_tk K) (pv 0) pe_int (fun _ _ => rfl)))) (pa_cons (pe_op op_mulW (pe_ix (ix_tk K) (pv 0) pe_int (fun _ _ => rfl)) (pe_ix (ix_tk K) (pv 1) pe_int (fun _ _ => rfl))) pa_nil))))
  pss_nil), ?_⟩
  walk_at "rg"
  refine e_I (cmw (nat3 lm) (nat3 bq.bot)) ?_
  walk_at "rg"
  refine e_I (cmw (nat3 ln) (nat3 bp.bot)) ?_
  walk_at "rg"
  refine e_I (cmw (nat3 bp.bot) (nat3 bq.bot)) ?_
  walk_at "rg"
  have e1 : ((m : Int) * (q.den : Int) - (n : Int) * (p.den : Int)) = ((m * q.den - n * p.den : Nat) : Int) := by rw [Int.ofNat_sub l2]; norm_cast
  refine ⟨m * q.den - n * p.den, p.den * q.den, by rw [e1]; rfl, Nat.mul_pos p.den_pos q.den_pos, Nat.lt_of_lt_of_le (lt_mul bp.bot bq.bot) (Nat.pow_le_pow_right (by decide) (by decide)), fun v H' s1 r => k v H' s1 ?_⟩
  show Fr K H' v (p - q)
  rw [sub_mk, em, en, e1]
  exact r
theorem ok_times (T : Txt K mg A) : Cal P w K mg base 3 "times" pr_times (spF2 K (fun p q => Bd 3000 p ∧ Bd 3000 q) (· * ·)) := by
  obtain ⟨f, fd, F, hm, hb⟩ := T.d_times
  refine ⟨f, fd, F.ok sc_times (fun vs H Q E h => ?_) (fun cdv A' outer s H vs Q E hr h => ?_), hm, F.kp, hb⟩
  · obtain ⟨x, y, p, q, rfl, _⟩ := h; rfl
  obtain ⟨x, y, p, q, rfl, hx, hy, ⟨bp, bq⟩, k⟩ := h
  obtain ⟨a, m, rfl, em, lm, ta⟩ := fr_nat hx bp
  obtain ⟨b, n, rfl, en, ln, tb⟩ := fr_nat hy bq
  refine ⟨_, (pss_cons (ps_ret (pe_c (ok_lowered T) (hr.mono (by decide)) (pa_cons (pe_op op_mulW (pe_ix (ix_tk K) (pv 0) pe_int (fun _ _ => rfl)) (pe_ix (ix_tk K) (pv 1) pe_int (fun _ _ => rfl))) (pa_cons (pe_op op_mulW (pe_ix (ix_tk K) (pv 0) pe_int (fun _ _ => rfl)) (pe_ix (ix_tk K) (pv 1) pe_int (fun _ _ => rfl))) pa_nil))))
  pss_nil), ?_⟩
  walk_at "rg"
  refine e_I (cmw (nat3 lm) (nat3 ln)) ?_
  walk_at "rg"
  refine e_I (cmw (nat3 bp.bot) (nat3 bq.bot)) ?_
  walk_at "rg"
  refine ⟨m * n, p.den * q.den, rfl, Nat.mul_pos p.den_pos q.den_pos, Nat.lt_of_lt_of_le (lt_mul bp.bot bq.bot) (Nat.pow_le_pow_right (by decide) (by decide)), fun v H' s1 r => k v H' s1 ?_⟩
  show Fr K H' v (p * q)
  rw [mul_mk, em, en]
  exact r
theorem ok_over (T : Txt K mg A) : Cal P w K mg base 3 "over" pr_over (spF2 K (fun p q => Bd 3000 p ∧ Bd 3000 q ∧ 0 < q) (· / ·)) := by
  obtain ⟨f, fd, F, hm, hb⟩ := T.d_over
  refine ⟨f, fd, F.ok sc_over (fun vs H Q E h => ?_) (fun cdv A' outer s H vs Q E hr h => ?_), hm, F.kp, hb⟩
  · obtain ⟨x, y, p, q, rfl, _⟩ := h; rfl
  obtain ⟨x, y, p, q, rfl, hx, hy, ⟨bp, bq, hq⟩, k⟩ := h
  obtain ⟨a, m, rfl, em, lm, ta⟩ := fr_nat hx bp
  obtain ⟨b, n, rfl, en, ln, tb⟩ := fr_nat hy bq
  have hn : 0 < n := by
    have := num_pos hq
    omega
  refine ⟨_, (pss_cons (ps_if (pt_cmpR op_eq (pe_ix (ix_tk K) (pv 1) pe_int (fun _ _ => rfl)) pe_int (nomark _)) (pss_cons ps_never
  pss_nil) pss_nil)
  (pss_cons (ps_ret (pe_c (ok_lowered T) (hr.mono (by decide)) (pa_cons (pe_op op_mulW (pe_ix (ix_tk K) (pv 0) pe_int (fun _ _ => rfl)) (pe_ix (ix_tk K) (pv 1) pe_int (fun _ _ => rfl))) (pa_cons (pe_op op_mulW (pe_ix (ix_tk K) (pv 0) pe_int (fun _ _ => rfl)) (pe_ix (ix_tk K) (pv 1) pe_int (fun _ _ => rfl))) pa_nil))))
  pss_nil)), ?_⟩
  walk_at "rg"
  rw [show decide (V.int (n : Nat) = V.int 0) = false from decide_eq_false (by simp; omega)]
  refine iteF ?_
  walk_at "rg"
  refine e_I (cmw (nat3 lm) (nat3 bq.bot)) ?_
  walk_at "rg"
  refine e_I (cmw (nat3 bp.bot) (nat3 ln)) ?_
  walk_at "rg"
  refine ⟨m * q.den, p.den * n, rfl, Nat.mul_pos p.den_pos hn, Nat.lt_of_lt_of_le (lt_mul bp.bot ln) (Nat.pow_le_pow_right (by decide) (by decide)), fun v H' s1 r => k v H' s1 ?_⟩
  show Fr K H' v (p / q)
  rw [div_mk hq bp.nn, em, en]
  exact r
def spUnder (K : Fg) : Sp := fun vs H Q _ => ∃ x y p q, vs = [x, y] ∧ Fr K H x p ∧ Fr K H y q ∧ Bd 3000 p ∧ Bd 3000 q ∧ Q (.bl (decide (p < q))) H
theorem ok_under (T : Txt K mg A) : Cal P w K mg base 3 "under" pr_under (spUnder K) := by
  obtain ⟨f, fd, F, hm, hb⟩ := T.d_under
  refine ⟨f, fd, F.ok sc_under (fun vs H Q E h => ?_) (fun cdv A' outer s H vs Q E hr h => ?_), hm, F.kp, hb⟩
  · obtain ⟨x, y, p, q, rfl, _⟩ := h; rfl
  obtain ⟨x, y, p, q, rfl, hx, hy, bp, bq, k⟩ := h
  obtain ⟨a, m, rfl, em, lm, ta⟩ := fr_nat hx bp
  obtain ⟨b, n, rfl, en, ln, tb⟩ := fr_nat hy bq
  refine ⟨_, (pss_cons (ps_ret (pe_cmpR op_lt (pe_op op_mulW (pe_ix (ix_tk K) (pv 0) pe_int (fun _ _ => rfl)) (pe_ix (ix_tk K) (pv 1) pe_int (fun _ _ => rfl))) (pe_op op_mulW (pe_ix (ix_tk K) (pv 1) pe_int (fun _ _ => rfl)) (pe_ix (ix_tk K) (pv 0) pe_int (fun _ _ => rfl))) (nomark _)))
  pss_nil), ?_⟩
  walk_at "rg"
  refine e_I (cmw (nat3 lm) (nat3 bq.bot)) ?_
  walk_at "rg"
  refine e_I (cmw (nat3 ln) (nat3 bp.bot)) ?_
  walk_at "rg"
  rw [← em, ← en, show decide (p.num * (q.den : Int) < q.num * (p.den : Int)) = decide (p < q) from decide_eq_decide.mpr (Rat.lt_iff p q).symm]
  exact k
theorem ok__law_under (T : Txt K mg A) : Cal P w K mg base 3 "_law_under" pr__law_under (spUnder K) := by
  obtain ⟨f, fd, F, hm, hb⟩ := T.d__law_under
  refine ⟨f, fd, F.ok sc__law_under (fun vs H Q E h => ?_) (fun cdv A' outer s H vs Q E hr h => ?_), hm, F.kp, hb⟩
  · obtain ⟨x, y, p, q, rfl, _⟩ := h; rfl
  obtain ⟨x, y, p, q, rfl, hx, hy, bp, bq, k⟩ := h
  obtain ⟨a, m, rfl, em, lm, ta⟩ := fr_nat hx bp
  obtain ⟨b, n, rfl, en, ln, tb⟩ := fr_nat hy bq
  refine ⟨_, (pss_cons (ps_ret (pe_cmpR op_lt (pe_op op_mulW (pe_ix (ix_tk K) (pv 0) pe_int (fun _ _ => rfl)) (pe_ix (ix_tk K) (pv 1) pe_int (fun _ _ => rfl))) (pe_op op_mulW (pe_ix (ix_tk K) (pv 1) pe_int (fun _ _ => rfl)) (pe_ix (ix_tk K) (pv 0) pe_int (fun _ _ => rfl))) (nomark _)))
  pss_nil), ?_⟩
  walk_at "rg"
  refine e_I (cmw (nat3 lm) (nat3 bq.bot)) ?_
  walk_at "rg"
  refine e_I (cmw (nat3 ln) (nat3 bp.bot)) ?_
  walk_at "rg"
  rw [← em, ← en, show decide (p.num * (q.den : Int) < q.num * (p.den : Int)) = decide (p < q) from decide_eq_decide.mpr (Rat.lt_iff p q).symm]
  exact k
end
section
variable {P : Program} {w : World} {K : Fg} {mg : Str → Option Value} {base : Heap} {A : Ad}
/-- a ring in hand: its rooms' list, its asks' list -/
theorem rn_get {H : Hp} {v : V} {r : Ring} (h : Rn K H v r) : ∃ p ra aa rv av, v = .ref p ∧ SqT K H p [.ref ra, .ref aa] ∧ H ra = some (.lst rv) ∧ Al (Fr K H) rv r.rooms ∧ H aa = some (.lst av) ∧ Al (Ak K H) av r.asks := by
  obtain ⟨p, x, y, e, h1, ⟨ra, rv, rfl, h2, a2⟩, ⟨aa, av, rfl, h3, a3⟩⟩ := h
  exact ⟨p, ra, aa, rv, av, e, h1, h2, a2, h3, a3⟩
theorem ask_at {H : Hp} {av : List V} {as : List Ask} {k : Nat} {a : Ask} (h : Al (Ak K H) av as) (e : as[k]? = some a) :
    ∃ q f g, atI av (k : Int) = some (.ref q) ∧ SqT K H q [.str a.nm, .int a.one, .int a.other, .ref f] ∧ SqT K H f g ∧ Fr K H (.ref f) a.size := by
  obtain ⟨v, hv, q, f, rfl, h1, ⟨fa, rfl, h2⟩⟩ := h.at e
  exact ⟨q, fa, _, atI_nat hv, h1, h2, fa, rfl, h2⟩
def spOver (K : Fg) : Sp := fun vs H Q _ => ∃ v r k a b t, vs = [v, .int (k : Nat), .str (wayS b), .int (t : Nat)] ∧ Rn K H v r ∧ 2 ≤ r.rooms.length ∧ r.asks[k]? = some a ∧ Q (.bl (decide (ov r.rooms.length a.one a.other t = b))) H
theorem on_iff (b : Bool) : decide (V.str (wayS b) = V.str "on") = b := by
  cases b
  · exact decide_eq_false (fun e => absurd (V.str.inj e) (by decide +kernel))
  · exact decide_eq_true rfl
theorem ok_is_over (T : Txt K mg A) : Cal P w K mg base 3 "is_over" pr_is_over (spOver K) := by
  obtain ⟨f, fd, F, hm, hb⟩ := T.d_is_over
  refine ⟨f, fd, F.ok sc_is_over (fun vs H Q E h => ?_) (fun cdv A' outer s H vs Q E hr h => ?_), hm, F.kp, hb⟩
  · obtain ⟨v, r, k, a, b, t, rfl, _⟩ := h; rfl
  obtain ⟨v, r, k, a, b, t, rfl, hR, n2, ha, q⟩ := h
  obtain ⟨p, ra, aa, rv, av, rfl, tp, hra, alr, haa, ala⟩ := rn_get hR
  obtain ⟨qa, fa, g, hat, ta, tf, hfr⟩ := ask_at ala ha
  have hl := alr.len
  refine ⟨_, (pss_cons (ps_asg (pe_ix (ix_lk K) (pe_ix (ix_tk K) (pv 0) pe_int (fun _ _ => rfl)) (pv 1) (fun _ _ => rfl)) (pg_tk K 4 (pgs_cons (pg_name (i := 4) sc_is_over.nd rfl (Or.inl rfl)) (pgs_cons (pg_name (i := 5) sc_is_over.nd rfl (Or.inl rfl)) (pgs_cons (pg_name (i := 6) sc_is_over.nd rfl (Or.inl rfl)) (pgs_cons (pg_name (i := 7) sc_is_over.nd rfl (Or.inl rfl)) pgs_nil))))))
  (pss_cons (ps_set (i := 8) sc_is_over.nd rfl (Or.inl rfl) (pe_callB (c_lenk K) (by rfl) T.n_len PySem.boot_len (pa_cons (pe_ix (ix_tk K) (pv 0) pe_int (fun _ _ => rfl)) pa_nil)))
  (pss_cons (ps_set (i := 9) sc_is_over.nd rfl (Or.inl rfl) (pe_cmpR op_lt (pe_op op_mod (pe_op op_sub (pv 3) (pv 5)) (pv 8)) (pe_op op_mod (pe_op op_sub (pv 6) (pv 5)) (pv 8)) (nomark _)))
  (pss_cons (ps_ret (pe_cmpR op_eq (pv 9) (pe_cmpR op_eq (pv 2) (pe_k T.kON) (nomark _)) (nomark _)))
  pss_nil)))), ?_⟩
  walk_at "rg"
  refine e_ixL (SqL.of haa) hat ?_
  walk_at "rg"
  rw [hl]
  refine e_I (by show (0 : Int) < _; omega) ?_
  walk_at "rg"
  refine e_I (by show (0 : Int) < _; omega) ?_
  walk_at "rg"
  have hon := T.kON
  rw [on_iff]
  have e : decide (V.bl (decide (((t : Int) - (a.one : Nat)) % (r.rooms.length : Nat) < ((a.other : Int) - (a.one : Nat)) % (r.rooms.length : Nat))) = V.bl b) = decide (ov r.rooms.length a.one a.other t = b) :=
    decide_eq_decide.mpr ⟨fun h => V.bl.inj h, fun h => congrArg V.bl h⟩
  rw [e]
  exact q
def spTies (K : Fg) : Sp := fun vs H Q _ => ∃ v r k a b, vs = [v, .int (k : Nat), .str (wayS b)] ∧ Rn K H v r ∧ 2 ≤ r.rooms.length ∧ r.rooms.length ≤ 8 ∧ r.asks[k]? = some a ∧
  ∀ p H', Same H H' → H p = none → H' p = some (.lst ((tiesL r.rooms.length a.one a.other b).map V.int)) → Q (.ref p) H'
theorem ok_ties_of (T : Txt K mg A) : Cal P w K mg base 3 "ties_of" pr_ties_of (spTies K) := by
  obtain ⟨f, fd, F, hm, hb⟩ := T.d_ties_of
  refine ⟨f, fd, F.ok sc_ties_of (fun vs H Q E h => ?_) (fun cdv A' outer s H vs Q E hr h => ?_), hm, F.kp, hb⟩
  · obtain ⟨v, r, k, a, b, rfl, _⟩ := h; rfl
  obtain ⟨v, r, k, a, b, rfl, hR, n2, n8, ha, q⟩ := h
  obtain ⟨p, ra, aa, rv, av, rfl, tp, hra, alr, haa, ala⟩ := rn_get hR
  obtain ⟨qa, fa, g, hat, ta, tf, hfr⟩ := ask_at ala ha
  have hl := alr.len
  refine ⟨_, (pss_cons (ps_asg (pe_ix (ix_lk K) (pe_ix (ix_tk K) (pv 0) pe_int (fun _ _ => rfl)) (pv 1) (fun _ _ => rfl)) (pg_tk K 4 (pgs_cons (pg_name (i := 3) sc_ties_of.nd rfl (Or.inl rfl)) (pgs_cons (pg_name (i := 4) sc_ties_of.nd rfl (Or.inr rfl)) (pgs_cons (pg_name (i := 5) sc_ties_of.nd rfl (Or.inl rfl)) (pgs_cons (pg_name (i := 6) sc_ties_of.nd rfl (Or.inl rfl)) pgs_nil))))))
  (pss_cons (ps_set (i := 7) sc_ties_of.nd rfl (Or.inr rfl) (pe_callB (c_lenk K) (by rfl) T.n_len PySem.boot_len (pa_cons (pe_ix (ix_tk K) (pv 0) pe_int (fun _ _ => rfl)) pa_nil)))
  (pss_cons (ps_if (pt_cmpR op_eq (pv 2) (pe_k T.kON) (nomark _)) (pss_cons (ps_ret (pe_lc (own := [("step", 8)]) (g := (gName 8)) (tt := tYes) rfl sc_ties_of.nd (pi_range1 rfl T.n_range (pa_cons (pe_op op_mod (pe_op op_sub (pv 5) (pv 4)) (pv 7)) pa_nil)) (blkOk_by (N := nm_ties_of) (sc := defScope st_ties_of) (by decide +kernel)) (fun _ _ _ _ _ => (pg_name (i := 8) sc_ties_of.nd rfl (Or.inl rfl))) (fun _ _ _ _ _ => pts_nil) (fun _ _ _ _ _ => (pe_op op_mod (pe_op op_add (pv 4) (pv 8)) (pv 7)))))
  pss_nil) pss_nil)
  (pss_cons (ps_ret (pe_lc (own := [("step", 8)]) (g := (gName 8)) (tt := tYes) rfl sc_ties_of.nd (pi_range1 rfl T.n_range (pa_cons (pe_op op_mod (pe_op op_sub (pv 4) (pv 5)) (pv 7)) pa_nil)) (blkOk_by (N := nm_ties_of) (sc := defScope st_ties_of) (by decide +kernel)) (fun _ _ _ _ _ => (pg_name (i := 8) sc_ties_of.nd rfl (Or.inl rfl))) (fun _ _ _ _ _ => pts_nil) (fun _ _ _ _ _ => (pe_op op_mod (pe_op op_sub (pe_op op_sub (pv 4) pe_int) (pv 8)) (pv 7)))))
  pss_nil)))), ?_⟩
  walk_at "rg"
  refine e_ixL (SqL.of haa) hat ?_
  walk_at "rg"
  rw [hl, on_iff]
  have n0 : (0 : Int) < (r.rooms.length : Nat) := by omega
  cases b
  · refine iteF ?_
    walk_at "rg"
    refine e_I n0 ?_
    walk_at "rg"
    have m0 := Int.emod_nonneg ((a.one : Int) - (a.other : Nat)) (b := (r.rooms.length : Nat)) (by omega)
    have m1 := Int.emod_lt_of_pos ((a.one : Int) - (a.other : Nat)) n0
    refine r_rng1 (n := (((a.one : Int) - (a.other : Nat)) % (r.rooms.length : Nat)).toNat) (by omega) (by omega) (cp_of walk_rg (cb_map In (fun s => ((a.one : Int) - 1 - (s : Nat)) % (r.rooms.length : Nat)) (by omega) (fun _ _ => trivial) ?_ ?_))
    · rintro i x H1 _ Pq Z hi s1 ⟨rfl, rfl⟩ kk
      walk_at "rg"
      refine ⟨rfl, ?_⟩
      walk_at "rg"
      exact e_I n0 (kk _ _ (Same.refl _) rfl)
    · intro D acc H' hD s1 hacc al
      rw [al_ints al] at hacc
      exact q D H' s1 hD hacc
  · refine iteT ?_
    walk_at "rg"
    refine e_I n0 ?_
    walk_at "rg"
    have m0 := Int.emod_nonneg ((a.other : Int) - (a.one : Nat)) (b := (r.rooms.length : Nat)) (by omega)
    have m1 := Int.emod_lt_of_pos ((a.other : Int) - (a.one : Nat)) n0
    refine r_rng1 (n := (((a.other : Int) - (a.one : Nat)) % (r.rooms.length : Nat)).toNat) (by omega) (by omega) (cp_of walk_rg (cb_map In (fun s => ((a.one : Int) + (s : Nat)) % (r.rooms.length : Nat)) (by omega) (fun _ _ => trivial) ?_ ?_))
    · rintro i x H1 _ Pq Z hi s1 ⟨rfl, rfl⟩ kk
      walk_at "rg"
      refine ⟨rfl, ?_⟩
      walk_at "rg"
      exact e_I n0 (kk _ _ (Same.refl _) rfl)
    · intro D acc H' hD s1 hacc al
      rw [al_ints al] at hacc
      exact q D H' s1 hD hacc
end
section
variable {P : Program} {w : World} {K : Fg} {mg : Str → Option Value} {base : Heap} {A : Ad}
theorem fr0 (T : Txt K mg A) (H : Hp) : Fr K H (.ref A.aN) 0 := ⟨_, rfl, T.tNOUGHT H⟩
theorem al_rep {R : V → Rat → Prop} {v : V} {x : Rat} (h : R v x) : ∀ n : Nat, Al R (List.replicate n [v]).flatten ((List.range n).map fun _ => x)
  | 0 => .nil
  | n + 1 => by
    rw [List.replicate_succ, List.flatten_cons, List.range_succ_eq_map, List.map_cons, List.map_map]
    exact .cons h (al_rep h n)
theorem al_congr {α : Type} {R : V → α → Prop} {vs : List V} {xs ys : List α} (h : Al R vs xs) (e : xs = ys) : Al R vs ys := e ▸ h
def spSent (K : Fg) : Sp := fun vs H Q _ => ∃ v r wv ws, vs = [v, wv] ∧ Rn K H v r ∧ Good r ∧ Ls Wy H wv ws ∧ ws.length = r.asks.length ∧ ∀ v' H', Same H H' → Ls (Fr K) H' v' (sent r ws) → Q v' H'
theorem ok_sent_by (T : Txt K mg A) : Cal P w K mg base 3 "sent_by" pr_sent_by (spSent K) := by
  obtain ⟨f, fd, F, hm, hb⟩ := T.d_sent_by
  refine ⟨f, fd, F.ok sc_sent_by (fun vs H Q E h => ?_) (fun cdv A' outer s H vs Q E hr h => ?_), hm, F.kp, hb⟩
  · obtain ⟨v, r, wv, ws, rfl, _⟩ := h; rfl
  obtain ⟨v, r, wv, ws, rfl, hR, hG, ⟨wa, wl, rfl, hwa, alw⟩, hlen, q⟩ := h
  obtain ⟨p, ra, aa, rv, av, rfl, tp, hra, alr, haa, ala⟩ := rn_get hR
  have m5 := hG.m5
  refine ⟨_, (pss_cons (ps_ret (pe_lc (own := [("ask", 2), ("way", 3)]) (g := (gTup K 2 (gCons (gName 2) (gCons (gName 3) gNil)))) (tt := tYes) rfl sc_sent_by.nd (pi_zip (by rfl) T.n_zip (pa_cons (pe_ix (ix_tk K) (pv 0) pe_int (fun _ _ => rfl)) (pa_cons (pv 1) pa_nil))) (blkOk_by (N := nm_sent_by) (sc := defScope st_sent_by) (by decide +kernel)) (fun _ _ _ _ _ => (pg_tk K 2 (pgs_cons (pg_name (i := 2) sc_sent_by.nd rfl (Or.inl rfl)) (pgs_cons (pg_name (i := 3) sc_sent_by.nd rfl (Or.inl rfl)) pgs_nil)))) (fun _ _ _ _ _ => pts_nil) (fun _ _ _ _ _ => (pe_ifExp (pt_cmpR op_eq (pv 3) (pe_k T.kON) (nomark _)) (pe_ix (ix_tk K) (pv 2) pe_int (fun _ _ => rfl)) (pe_k T.kNOUGHT)))))
  pss_nil), ?_⟩
  walk_at "rg"
  have e1 := ala.len
  have e2 := alw.len
  refine r_zip (SqL.of haa) (SqL.of hwa) (cp_of (walk_zip (n := r.asks.length) (by omega)) (cb_map (Fr K) (fun i => (sent r ws).getD i 0) (by omega) (fun H1 s1 => ⟨SqL.of (s1 _ _ haa), SqL.of (s1 _ _ hwa)⟩) ?_ ?_))
  · intro i x H1 H2 Pq Z hi s1 y kk
    obtain ⟨T', x1, x2, rfl, g1, g2, s2, nT, hT⟩ := yget y
    obtain ⟨a, ha, q1, f1, rfl, t1, fr1⟩ := ala.at' g1
    obtain ⟨b, hb', rfl⟩ := alw.at' g2
    have s12 := s1.trans s2
    have tT := SqT.of (K := K) hT
    have t1' := sm_t s12 t1
    walk_at "rg"
    refine ⟨rfl, ?_⟩
    walk_at "rg"
    rw [on_iff]
    have es : (sent r ws).getD i 0 = part a b := by rw [List.getD_eq_getElem?_getD, sent_at ha hb']; rfl
    have hon := T.kON
    cases b
    · refine iteF ?_
      walk_at "rg"
      refine kk _ _ s2 ?_
      rw [es]
      exact fr0 T _
    · refine iteT ?_
      walk_at "rg"
      refine kk _ _ s2 ?_
      rw [es]
      exact mv s12 fr1
  · intro D acc H' hD s1 hacc al
    rw [range_getD _ _ (sent_len hlen)] at al
    exact q _ H' s1 ⟨D, acc, rfl, hacc, al.mv hid_sm⟩
theorem ld_step (r : Ring) (ws : List Bool) (k t : Nat) : (((List.range r.rooms.length).map fun j => if j < t then ld r ws (k + 1) j else ld r ws k j).set t (ld r ws k t + ct r ws k t)) =
    (List.range r.rooms.length).map fun j => if j < t + 1 then ld r ws (k + 1) j else ld r ws k j := by
  rw [map_set]
  refine range_map_congr fun j _ => ?_
  by_cases h1 : j = t
  · subst h1; rw [if_pos rfl, if_pos (Nat.lt_succ_self _)]; rfl
  · rw [if_neg h1]
    by_cases h2 : j < t
    · rw [if_pos h2, if_pos (by omega)]
    · rw [if_neg h2, if_neg (by omega)]
def spLoads (K : Fg) : Sp := fun vs H Q _ => ∃ v r sv ws, vs = [v, sv] ∧ Rn K H v r ∧ Good r ∧ Ls (Fr K) H sv (sent r ws) ∧ ws.length = r.asks.length ∧ ∀ v' H', Same H H' → Ls (Fr K) H' v' ((List.range r.rooms.length).map (ld r ws r.asks.length)) → Q v' H'
theorem ok_loads_of (T : Txt K mg A) : Cal P w K mg base 4 "loads_of" pr_loads_of (spLoads K) := by
  obtain ⟨f, fd, F, hm, hb⟩ := T.d_loads_of
  refine ⟨f, fd, F.ok sc_loads_of (fun vs H Q E h => ?_) (fun cdv A' outer s H vs Q E hr h => ?_), hm, F.kp, hb⟩
  · obtain ⟨v, r, sv, ws, rfl, _⟩ := h; rfl
  obtain ⟨v, r, sv, ws, rfl, hR, hG, hS, hlen, q⟩ := h
  obtain ⟨sa, sl, rfl, hsa, als⟩ := hS
  obtain ⟨p, ra, aa, rv, av, rfl, tp, hra, alr, haa, ala⟩ := rn_get hR
  have m5 := hG.m5
  have n8 := hG.n8
  have e1 := ala.len
  have e2 := als.len
  have e3 := alr.len
  have sl' := sent_len hlen
  refine ⟨_, (pss_cons (ps_set (i := 2) sc_loads_of.nd rfl (Or.inl rfl) (pe_op op_rep (pe_lst (pa_cons (pe_k T.kNOUGHT) pa_nil)) (pe_callB (c_lenk K) (by rfl) T.n_len PySem.boot_len (pa_cons (pe_ix (ix_tk K) (pv 0) pe_int (fun _ _ => rfl)) pa_nil))))
  (pss_cons (ps_for PassesOwn.never rfl (pi_ek K T.n_enumerate (pa_cons (pv 1) pa_nil)) (pg_tk K 2 (pgs_cons (pg_name (i := 3) sc_loads_of.nd rfl (Or.inl rfl)) (pgs_cons (pg_name (i := 4) sc_loads_of.nd rfl (Or.inl rfl)) pgs_nil))) (pss_cons (ps_set (i := 5) sc_loads_of.nd rfl (Or.inl rfl) (pe_c (ok_minus T) (hr.mono (by decide)) (pa_cons (pe_ix (ix_tk K) (pe_ix (ix_lk K) (pe_ix (ix_tk K) (pv 0) pe_int (fun _ _ => rfl)) (pv 3) (fun _ _ => rfl)) pe_int (fun _ _ => rfl)) (pa_cons (pv 4) pa_nil))))
  (pss_cons (ps_for PassesOwn.never rfl (pi_range1 rfl T.n_range (pa_cons (pe_callB (c_lenk K) (by rfl) T.n_len PySem.boot_len (pa_cons (pv 2) pa_nil)) pa_nil)) (pg_name (i := 6) sc_loads_of.nd rfl (Or.inl rfl)) (pss_cons (ps_asg (pe_c (ok_plus T) (hr.mono (by decide)) (pa_cons (pe_ix (ix_lk K) (pv 2) (pv 6) (fun _ _ => rfl)) (pa_cons (pe_ifExp (pt_val (pe_c (ok_is_over T) (hr.mono (by decide)) (pa_cons (pv 0) (pa_cons (pv 3) (pa_cons (pe_k T.kON) (pa_cons (pv 6) pa_nil)))))) (pv 4) (pv 5)) pa_nil))) (pg_sub (pv 2) (pv 6) set_list))
  pss_nil))
  pss_nil)))
  (pss_cons (ps_ret (pv 2))
  pss_nil))), ?_⟩
  walk_at "rg"
  refine e_nwL rfl fun l0 H0 s0 nl0 hl0 => ?_
  have tp0 := sm_t s0 tp
  have hra0 := s0 _ _ hra
  walk_at "rg"
  rw [e3]
  refine e_rep hl0 (by omega) (szL (by simp; omega)) fun L HL sL nL hL => ?_
  have nL' : H L = none := s0.free nL
  have s1 := s0.trans sL
  walk_at "rg"
  refine r_enum (SqL.of (s1 _ _ hsa)) (lp_of (walk_enum (xs := sl)) ?_)
  refine ⟨fun k σ H1 => ∃ y3 y4 y5 y6 acc, σ = [some (.ref p), some (.ref sa), some (.ref L), y3, y4, y5, y6] ∧ Same H H1 ∧ H1 L = some (.lst acc) ∧ Al (Fr K (hid L H1)) acc ((List.range r.rooms.length).map (ld r ws k)),
    ⟨none, none, none, none, _, rfl, s1, hL, al_rep (fr0 T _) _⟩, fun k σ H1 _ ⟨_, _, _, _, _, _, s, _⟩ => SqL.of (s _ _ hsa), ?_, ?_⟩
  · rintro k x σ H1 H2 hk ⟨y3, y4, y5, y6, acc, rfl, s2, hacc, alc⟩ y
    obtain ⟨T', x1, x2, rfl, g1, g2, s3, nT, hT⟩ := yget y
    obtain rfl : V.int (k : Nat) = x1 := Option.some.inj g1
    have hk' : k < r.asks.length := by omega
    obtain ⟨a, ha⟩ : ∃ a, r.asks[k]? = some a := ⟨_, List.getElem?_eq_getElem hk'⟩
    obtain ⟨b, hb'⟩ : ∃ b, ws[k]? = some b := ⟨_, List.getElem?_eq_getElem (by omega)⟩
    obtain ⟨q2, hq2, fr2⟩ := als.at' g2
    rw [sent_at ha hb'] at hq2
    obtain rfl := Option.some.inj hq2
    obtain ⟨qa, fa, gg, hat, ta, tf, hfr⟩ := ask_at ala ha
    have mem := List.mem_of_getElem? ha
    have pb := part_bd hG mem b
    have ab := (hG.ask a mem).2.2.2
    have s23 := s2.trans s3
    have tT := SqT.of (K := K) hT
    have tp2 := sm_t s23 tp
    have ta2 := sm_t s23 ta
    walk_at "rg"
    refine e_ixL (SqL.of (s23 _ _ haa)) hat ?_
    walk_at "rg"
    refine ⟨_, _, _, _, rfl, mv s23 hfr, mv s23 fr2, ⟨ab.mono (by decide), pb.1.mono (by decide), pb.2⟩, fun v3 H3 s4 fr3 => ?_⟩
    have s24 := s23.trans s4
    have hacc3 : H3 L = some (.lst acc) := s4 _ _ (s3 _ _ hacc)
    have lacc : acc.length = r.rooms.length := by rw [alc.len]; simp
    have pl : (a.size - part a b).num < 2 ^ 120 := (ab.sub pb.1 pb.2).top
    have rb := (ab.sub pb.1 pb.2)
    have fr3' := Hd.hd hacc3 fr3
    have fr2' : Fr K (hid L H3) x2 (part a b) := Hd.hd hacc3 (mv s24 fr2)
    walk_at "rg"
    rw [lacc]
    refine r_rng1 (n := r.rooms.length) rfl (by omega) (lp_of walk_rg ?_)
    refine ⟨fun t σ H4 => ∃ y6 acc, σ = [some (.ref p), some (.ref sa), some (.ref L), some (.int (k : Nat)), some x2, some v3, y6] ∧ Same (hid L H3) (hid L H4) ∧ H4 L = some (.lst acc) ∧
        Al (Fr K (hid L H4)) acc ((List.range r.rooms.length).map fun j => if j < t then ld r ws (k + 1) j else ld r ws k j),
      ⟨y6, acc, rfl, Same.refl _, hacc3, ?_⟩, fun _ _ _ _ _ => trivial, ?_, ?_⟩
    · refine al_congr (alc.mv (hid_mono (s3.trans s4))) (range_map_congr fun i _ => ?_)
      rw [if_neg (Nat.not_lt_zero i)]
    · rintro t x σ _ H4 ht ⟨z6, acc4, rfl, s5, hacc4, al4⟩ ⟨rfl, rfl⟩
      have l4 : acc4.length = r.rooms.length := by rw [al4.len]; simp
      have base4 : Same H H4 := ((hid_same nL' s24).trans s5).trans hid_sm
      obtain ⟨vt, hvt, frt⟩ := al4.at (i := t) (x := ld r ws k t) (by simp [ht])
      walk_at "rg"
      refine e_ixL (SqL.of hacc4) (atI_of (by omega) hvt) ?_
      walk_at "rg"
      refine ⟨.ref p, r, k, a, true, t, rfl, mv base4 hR, hG.n2, ha, ?_⟩
      have pct := part_ct a b (ov r.rooms.length a.one a.other t)
      walk_at "rg"
      by_cases ho : ov r.rooms.length a.one a.other t = true
      · rw [decide_eq_true ho]
        refine iteT ?_
        walk_at "rg"
        have fv : Fr K H4 x2 (if ov r.rooms.length a.one a.other t = true then part a b else a.size - part a b) := by rw [if_pos ho]; exact mv hid_sm (mv s5 fr2')
        refine ⟨_, _, _, _, rfl, mv hid_sm frt, fv, ⟨(ld_bd hG).mono (by omega), by rw [pct, ← ct_eq ha hb']; exact (ct_bd hG).mono (by decide)⟩, fun v6 H6 s6 fr6 => ?_⟩
        rw [pct, ← ct_eq ha hb'] at fr6
        have hacc6 := s6 _ _ hacc4
        walk_at "rg"
        refine e_setL (j := t) hacc6 (ixN_of rfl (by omega)) ?_
        walk_at "rg"
        exact ⟨_, _, rfl, by rw [hid_upd]; exact s5.trans (hid_mono s6), upd_same, by rw [hid_upd]; exact al_congr ((al4.mv (hid_mono s6)).set (Hd.hd hacc6 fr6) t) (ld_step r ws k t)⟩
      · rw [decide_eq_false ho]
        refine iteF ?_
        walk_at "rg"
        have fv : Fr K H4 v3 (if ov r.rooms.length a.one a.other t = true then part a b else a.size - part a b) := by rw [if_neg ho]; exact mv hid_sm (mv s5 fr3')
        refine ⟨_, _, _, _, rfl, mv hid_sm frt, fv, ⟨(ld_bd hG).mono (by omega), by rw [pct, ← ct_eq ha hb']; exact (ct_bd hG).mono (by decide)⟩, fun v6 H6 s6 fr6 => ?_⟩
        rw [pct, ← ct_eq ha hb'] at fr6
        have hacc6 := s6 _ _ hacc4
        walk_at "rg"
        refine e_setL (j := t) hacc6 (ixN_of rfl (by omega)) ?_
        walk_at "rg"
        exact ⟨_, _, rfl, by rw [hid_upd]; exact s5.trans (hid_mono s6), upd_same, by rw [hid_upd]; exact al_congr ((al4.mv (hid_mono s6)).set (Hd.hd hacc6 fr6) t) (ld_step r ws k t)⟩
    · rintro σ H4 ⟨z6, acc4, rfl, s5, hacc4, al4⟩
      walk_at "rg"
      refine ⟨_, _, _, _, acc4, rfl, ((hid_same nL' s24).trans s5).trans hid_sm, hacc4, al_congr al4 (range_map_congr fun j hj => ?_)⟩
      rw [if_pos hj]
  · rintro σ H1 ⟨y3, y4, y5, y6, acc, rfl, s2, hacc, alc⟩
    rw [e2, sl'] at alc
    walk_at "rg"
    exact q _ _ s2 ⟨L, acc, rfl, hacc, alc.mv hid_sm⟩
end
section
variable {P : Program} {w : World} {K : Fg} {mg : Str → Option Value} {base : Heap} {A : Ad}
def spStrains (K : Fg) : Sp := fun vs H Q _ => ∃ v r sv ws, vs = [v, sv] ∧ Rn K H v r ∧ Good r ∧ Ls (Fr K) H sv (sent r ws) ∧ ws.length = r.asks.length ∧ ∀ v' H', Same H H' → Ls (Fr K) H' v' ((List.range r.rooms.length).map (strain r ws)) → Q v' H'
theorem ok_strains_of (T : Txt K mg A) : Cal P w K mg base 5 "strains_of" pr_strains_of (spStrains K) := by
  obtain ⟨f, fd, F, hm, hb⟩ := T.d_strains_of
  refine ⟨f, fd, F.ok sc_strains_of (fun vs H Q E h => ?_) (fun cdv A' outer s H vs Q E hr h => ?_), hm, F.kp, hb⟩
  · obtain ⟨v, r, sv, ws, rfl, _⟩ := h; rfl
  obtain ⟨v, r, sv, ws, rfl, hR, hG, hS, hlen, q⟩ := h
  obtain ⟨p, ra, aa, rv, av, rfl, tp, hra, alr, haa, ala⟩ := rn_get hR
  have m5 := hG.m5
  have n8 := hG.n8
  have e3 := alr.len
  refine ⟨_, (pss_cons (ps_ret (pe_lc (own := [("load", 2), ("room", 3)]) (g := (gTup K 2 (gCons (gName 2) (gCons (gName 3) gNil)))) (tt := tYes) rfl sc_strains_of.nd (pi_zip (by rfl) T.n_zip (pa_cons (pe_c (ok_loads_of T) (hr.mono (by decide)) (pa_cons (pv 0) (pa_cons (pv 1) pa_nil))) (pa_cons (pe_ix (ix_tk K) (pv 0) pe_int (fun _ _ => rfl)) pa_nil))) (blkOk_by (N := nm_strains_of) (sc := defScope st_strains_of) (by decide +kernel)) (fun _ _ _ _ _ => (pg_tk K 2 (pgs_cons (pg_name (i := 2) sc_strains_of.nd rfl (Or.inl rfl)) (pgs_cons (pg_name (i := 3) sc_strains_of.nd rfl (Or.inl rfl)) pgs_nil)))) (fun _ _ _ _ _ => pts_nil) (fun _ _ _ _ _ => (pe_c (ok_over T) (hr.mono (by decide)) (pa_cons (pv 2) (pa_cons (pv 3) pa_nil))))))
  pss_nil), ?_⟩
  walk_at "rg"
  refine ⟨_, r, _, ws, rfl, hR, hG, hS, hlen, fun vl H1 s1 hL => ?_⟩
  obtain ⟨la, ll, rfl, hla, all⟩ := hL
  have tp1 := sm_t s1 tp
  walk_at "rg"
  have e4 := all.len
  rw [List.length_map, List.length_range] at e4
  refine r_zip (SqL.of hla) (SqL.of (s1 _ _ hra)) (cp_of (walk_zip (n := r.rooms.length) (by omega)) (cb_map (Fr K) (strain r ws) (by omega) (fun H2 s2 => ⟨SqL.of (s2 _ _ hla), SqL.of (s2 _ _ (s1 _ _ hra))⟩) ?_ ?_))
  · intro i x H2 H3 Pq Z hi s2 y kk
    obtain ⟨T', x1, x2, rfl, g1, g2, s3, nT, hT⟩ := yget y
    obtain ⟨q1, hq1, fr1⟩ := all.at' g1
    obtain ⟨q2, hq2, fr2⟩ := alr.at' g2
    rw [room_at hi] at hq2
    obtain rfl := Option.some.inj hq2
    obtain rfl : ld r ws r.asks.length i = q1 := by simpa [hi] using hq1
    have s23 := s2.trans s3
    have tT := SqT.of (K := K) hT
    have rb := room_bd hG hi
    walk_at "rg"
    refine ⟨rfl, ?_⟩
    walk_at "rg"
    refine ⟨_, _, _, _, rfl, mv s23 fr1, mv (s1.trans s23) fr2, ⟨(ld_bd hG).mono (by omega), rb.2.mono (by decide), rb.1⟩, fun v4 H4 s4 fr4 => ?_⟩
    exact kk _ _ (s3.trans s4) fr4
  · intro D acc H' hD s2 hacc al
    exact q _ H' (s1.trans s2) ⟨D, acc, rfl, hacc, al.mv hid_sm⟩
def spTop (K : Fg) : Sp := fun vs H Q _ => ∃ v r sv ws, vs = [v, sv] ∧ Rn K H v r ∧ Good r ∧ Ls (Fr K) H sv (sent r ws) ∧ ws.length = r.asks.length ∧
  ∀ p f i H' q, Same H H' → SqT K H' p [f, .int i] → Fr K H' f q → IsTop r ws q → Bd 500 q → Q (.ref p) H'
theorem ok_top_of (T : Txt K mg A) : Cal P w K mg base 6 "top_of" pr_top_of (spTop K) := by
  obtain ⟨f, fd, F, hm, hb⟩ := T.d_top_of
  refine ⟨f, fd, F.ok sc_top_of (fun vs H Q E h => ?_) (fun cdv A' outer s H vs Q E hr h => ?_), hm, F.kp, hb⟩
  · obtain ⟨v, r, sv, ws, rfl, _⟩ := h; rfl
  obtain ⟨v, r, sv, ws, rfl, hR, hG, hS, hlen, q⟩ := h
  have n8 := hG.n8
  have n2 := hG.n2
  refine ⟨_, (pss_cons (ps_set (i := 2) sc_top_of.nd rfl (Or.inl rfl) (pe_c (ok_strains_of T) (hr.mono (by decide)) (pa_cons (pv 0) (pa_cons (pv 1) pa_nil))))
  (pss_cons (ps_set (i := 3) sc_top_of.nd rfl (Or.inl rfl) pe_int)
  (pss_cons (ps_for PassesOwn.never rfl (pi_range2 rfl T.n_range (pa_cons pe_int (pa_cons (pe_callB (c_lenk K) (by rfl) T.n_len PySem.boot_len (pa_cons (pv 2) pa_nil)) pa_nil))) (pg_name (i := 4) sc_top_of.nd rfl (Or.inl rfl)) (pss_cons (ps_if (pt_val (pe_c (ok_under T) (hr.mono (by decide)) (pa_cons (pe_ix (ix_lk K) (pv 2) (pv 3) (fun _ _ => rfl)) (pa_cons (pe_ix (ix_lk K) (pv 2) (pv 4) (fun _ _ => rfl)) pa_nil)))) (pss_cons (ps_set (i := 3) sc_top_of.nd rfl (Or.inl rfl) (pv 4))
  pss_nil) pss_nil)
  pss_nil))
  (pss_cons (ps_ret (pe_tup (pa_cons (pe_ix (ix_lk K) (pv 2) (pv 3) (fun _ _ => rfl)) (pa_cons (pv 3) pa_nil))))
  pss_nil)))), ?_⟩
  walk_at "rg"
  refine ⟨_, r, _, ws, rfl, hR, hG, hS, hlen, fun vl H1 s1 hL => ?_⟩
  obtain ⟨la, ll, rfl, hla, all⟩ := hL
  have e4 := all.len
  rw [List.length_map, List.length_range] at e4
  have at_ : ∀ i, i < r.rooms.length → ∃ v, ll[i]? = some v ∧ Fr K H1 v (strain r ws i) := fun i hi => all.at (by simp [hi])
  walk_at "rg"
  rw [e4]
  refine r_rng2 (n := r.rooms.length - 1) (by omega) (by omega) (lp_of (walk_rgf (lo := 1) rfl) ?_)
  refine ⟨fun t σ H2 => ∃ (b : Nat) (y4 : Option V), σ = [some v, some sv, some (.ref la), some (.int b), y4] ∧ H2 = H1 ∧ b < r.rooms.length ∧ ∀ j, j < t + 1 → strain r ws j ≤ strain r ws b,
    ⟨0, none, rfl, rfl, by omega, fun j hj => ((show j = 0 by omega) ▸ Rat.le_refl)⟩, fun _ _ _ _ _ => trivial, ?_, ?_⟩
  · rintro t x σ _ H2 ht ⟨b, y4, rfl, rfl, hbn, hmax⟩ ⟨rfl, rfl⟩
    obtain ⟨v1, g1, f1⟩ := at_ b hbn
    obtain ⟨v2, g2, f2⟩ := at_ (1 + t) (by omega)
    walk_at "rg"
    refine e_ixL (SqL.of hla) (atI_nat g1) ?_
    walk_at "rg"
    refine e_ixL (SqL.of hla) (atI_nat g2) ?_
    walk_at "rg"
    refine ⟨_, _, _, _, rfl, f1, f2, (strain_bd hG hbn).mono (by decide), (strain_bd hG (by omega)).mono (by decide), ?_⟩
    walk_at "rg"
    by_cases hlt : strain r ws b < strain r ws (1 + t)
    · rw [decide_eq_true hlt]
      refine iteT ?_
      walk_at "rg"
      refine ⟨1 + t, _, rfl, rfl, by omega, fun j hj => ?_⟩
      by_cases hj2 : j = 1 + t
      · subst hj2; exact Rat.le_refl
      · exact Rat.le_trans (hmax j (by omega)) (Rat.le_of_lt hlt)
    · rw [decide_eq_false hlt]
      refine iteF ?_
      walk_at "rg"
      refine ⟨b, _, rfl, rfl, hbn, fun j hj => ?_⟩
      by_cases hj2 : j = 1 + t
      · subst hj2; exact Rat.not_lt.mp hlt
      · exact hmax j (by omega)
  · rintro σ H2 ⟨b, y4, rfl, rfl, hbn, hmax⟩
    obtain ⟨v1, g1, f1⟩ := at_ b hbn
    walk_at "rg"
    refine e_ixL (SqL.of hla) (atI_nat g1) ?_
    walk_at "rg"
    refine e_nwT rfl fun p H3 s3 np hp => ?_
    exact q p v1 b H3 _ (s1.trans s3) (SqT.of hp) (mv s3 f1) ⟨⟨b, hbn, rfl⟩, fun i hi => hmax i (by omega)⟩ (strain_bd hG hbn)
/-! ### cuts -/
def spWithin (K : Fg) : Sp := fun vs H Q _ => ∃ c g h p : Int, ∃ a : Addr, vs = [.ref a, .int p] ∧ SqT K H a [.int g, .int h] ∧ ∀ b, Q (.bl b) H
theorem ok_is_within (T : Txt K mg A) : Cal P w K mg base 1 "is_within" pr_is_within (spWithin K) := by
  obtain ⟨f, fd, F, hm, hb⟩ := T.d_is_within
  refine ⟨f, fd, F.ok sc_is_within (fun vs H Q E h => ?_) (fun cdv A' outer s H vs Q E hr h => ?_), hm, F.kp, hb⟩
  · obtain ⟨c, g, h, p, a, rfl, _⟩ := h; rfl
  obtain ⟨c, g, h, p, a, rfl, ta, q⟩ := h
  refine ⟨_, (pss_cons (ps_ret (pe_chain op_lt op_le (pe_ix (ix_tk K) (pv 0) pe_int (fun _ _ => rfl)) (pv 1) (pe_ix (ix_tk K) (pv 0) pe_int (fun _ _ => rfl))))
  pss_nil), ?_⟩
  walk_at "rg"
  refine ite2 (fun _ => ?_) (fun _ => q _)
  walk_at "rg"
  exact q _
def spApart (K : Fg) : Sp := fun vs H Q _ => ∃ g h p o : Int, ∃ a : Addr, vs = [.ref a, .int p, .int o] ∧ SqT K H a [.int g, .int h] ∧ ∀ b, Q (.bl b) H
theorem ok_is_apart (T : Txt K mg A) : Cal P w K mg base 2 "is_apart" pr_is_apart (spApart K) := by
  obtain ⟨f, fd, F, hm, hb⟩ := T.d_is_apart
  refine ⟨f, fd, F.ok sc_is_apart (fun vs H Q E h => ?_) (fun cdv A' outer s H vs Q E hr h => ?_), hm, F.kp, hb⟩
  · obtain ⟨g, h, p, o, a, rfl, _⟩ := h; rfl
  obtain ⟨g, h, p, o, a, rfl, ta, q⟩ := h
  refine ⟨_, (pss_cons (ps_ret (pe_cmpR op_ne (pe_c (ok_is_within T) (hr.mono (by decide)) (pa_cons (pv 0) (pa_cons (pv 1) pa_nil))) (pe_c (ok_is_within T) (hr.mono (by decide)) (pa_cons (pv 0) (pa_cons (pv 2) pa_nil))) (nomark _)))
  pss_nil), ?_⟩
  walk_at "rg"
  refine ⟨0, g, h, p, a, rfl, ta, fun b1 => ?_⟩
  walk_at "rg"
  refine ⟨0, g, h, o, a, rfl, ta, fun b2 => ?_⟩
  walk_at "rg"
  exact q _
/-- a cut: two ties -/
def Ct (K : Fg) : Rp (Nat × Nat) := fun H v c => ∃ a, v = .ref a ∧ SqT K H a [.int c.1, .int c.2]
instance : Mo (Ct K) := ⟨fun s ⟨a, e, h⟩ => ⟨a, e, sm_t s h⟩⟩
instance : Hd (Ct K) := ⟨fun h ⟨a, e, q⟩ => ⟨a, e, hd_t h q⟩⟩
def CutsOk (n : Nat) (cs : List (Nat × Nat)) : Prop := (∀ c ∈ cs, c.1 < n ∧ c.2 < n) ∧ cs.length ≤ 64
def spCuts (K : Fg) : Sp := fun vs H Q _ => ∃ v r, vs = [v] ∧ Rn K H v r ∧ r.rooms.length ≤ 8 ∧ ∀ v' H' cs, Same H H' → Ls (Ct K) H' v' cs → CutsOk r.rooms.length cs → Q v' H'
theorem ok_all_cuts (T : Txt K mg A) : Cal P w K mg base 1 "all_cuts" pr_all_cuts (spCuts K) := by
  obtain ⟨f, fd, F, hm, hb⟩ := T.d_all_cuts
  refine ⟨f, fd, F.ok sc_all_cuts (fun vs H Q E h => ?_) (fun cdv A' outer s H vs Q E hr h => ?_), hm, F.kp, hb⟩
  · obtain ⟨v, r, rfl, _⟩ := h; rfl
  obtain ⟨v, r, rfl, hR, n8, q⟩ := h
  obtain ⟨p, ra, aa, rv, av, rfl, tp, hra, alr, haa, ala⟩ := rn_get hR
  have e3 := alr.len
  refine ⟨_, (pss_cons (ps_set (i := 1) sc_all_cuts.nd rfl (Or.inl rfl) (pe_lst pa_nil))
  (pss_cons (ps_for PassesOwn.never rfl (pi_range1 rfl T.n_range (pa_cons (pe_callB (c_lenk K) (by rfl) T.n_len PySem.boot_len (pa_cons (pe_ix (ix_tk K) (pv 0) pe_int (fun _ _ => rfl)) pa_nil)) pa_nil)) (pg_name (i := 2) sc_all_cuts.nd rfl (Or.inr rfl)) (pss_cons (ps_set (i := 1) sc_all_cuts.nd rfl (Or.inl rfl) (pe_op op_cat (pv 1) (pe_lc (own := [("last", 3)]) (g := (gName 3)) (tt := tYes) rfl sc_all_cuts.nd (pi_range2 rfl T.n_range (pa_cons (pv 2) (pa_cons (pe_callB (c_lenk K) (by rfl) T.n_len PySem.boot_len (pa_cons (pe_ix (ix_tk K) (pv 0) pe_int (fun _ _ => rfl)) pa_nil)) pa_nil))) (blkOk_by (N := nm_all_cuts) (sc := defScope st_all_cuts) (by decide +kernel)) (fun _ _ _ _ _ => (pg_name (i := 3) sc_all_cuts.nd rfl (Or.inl rfl))) (fun _ _ _ _ _ => pts_nil) (fun _ _ _ _ _ => (pe_tup (pa_cons (pv 2) (pa_cons (pv 3) pa_nil)))))))
  pss_nil))
  (pss_cons (ps_ret (pv 1))
  pss_nil))), ?_⟩
  walk_at "rg"
  refine e_nwL rfl fun l0 H0 s0 nl0 hl0 => ?_
  have tp0 := sm_t s0 tp
  have hra0 := s0 _ _ hra
  walk_at "rg"
  rw [e3]
  refine r_rng1 (n := r.rooms.length) rfl (by omega) (lp_of walk_rg ?_)
  refine ⟨fun t σ H1 => ∃ (l : Addr) (acc : List V) (cs : List (Nat × Nat)) (y2 y3 : Option V), σ = [some (.ref p), some (.ref l), y2, y3] ∧ Same H H1 ∧ H1 l = some (.lst acc) ∧ Al (Ct K H1) acc cs ∧ (∀ c ∈ cs, c.1 < r.rooms.length ∧ c.2 < r.rooms.length) ∧ cs.length ≤ 8 * t,
    ⟨l0, [], [], none, none, rfl, s0, hl0, .nil, (fun c hc => by simp at hc), by simp⟩, fun _ _ _ _ _ => trivial, ?_, ?_⟩
  · rintro t x σ _ H1 ht ⟨l, acc, cs, y2, y3, rfl, s1, hl, al, hcs, hlen⟩ ⟨rfl, rfl⟩
    have tp1 := sm_t s1 tp
    have hra1 := s1 _ _ hra
    walk_at "rg"
    rw [e3]
    refine r_rng2 (n := r.rooms.length - t) (by omega) (by omega) (cp_of (walk_rgf (lo := t) rfl) (cb_map (Ct K) (fun i => (t, t + i)) (by omega) (fun _ _ => trivial) ?_ ?_))
    · rintro i x _ H2 Pq Z hi s2 ⟨rfl, rfl⟩ kk
      walk_at "rg"
      refine ⟨rfl, ?_⟩
      walk_at "rg"
      refine e_nwT rfl fun c H3 s3 nc hc => kk _ _ s3 ⟨c, rfl, SqT.of hc⟩
    · intro D acc2 H2 hD s2 hacc2 al2
      have l2 := al2.len
      have l1 := al.len
      rw [List.length_map, List.length_range] at l2
      refine e_cat (s2 _ _ hl) hacc2 (szL (by omega)) fun c H3 s3 nc hc => ?_
      walk_at "rg"
      refine ⟨c, _, cs ++ (List.range (r.rooms.length - t)).map (fun i => (t, t + i)), _, _, rfl, s1.trans (s2.trans s3), hc, (al.mv (s2.trans s3)).app ((al2.mv hid_sm).mv s3), fun c hc => ?_, ?_⟩
      · rcases List.mem_append.mp hc with h | h
        · exact hcs c h
        · obtain ⟨i, hi, rfl⟩ := List.mem_map.mp h
          have := List.mem_range.mp hi
          exact ⟨ht, by show t + i < _; omega⟩
      · rw [List.length_append, List.length_map, List.length_range]
        omega
  · rintro σ H1 ⟨l, acc, cs, y2, y3, rfl, s1, hl, al, hcs, hlen⟩
    walk_at "rg"
    exact q _ _ cs s1 ⟨l, acc, rfl, hl, al⟩ ⟨hcs, by omega⟩
end
section
variable {P : Program} {w : World} {K : Fg} {mg : Str → Option Value} {base : Heap} {A : Ad}
def spBottom (K : Fg) : Sp := fun vs H Q _ => ∃ v qs, vs = [v] ∧ Ls (Fr K) H v qs ∧ (∀ q ∈ qs, Bd 60 q) ∧ qs.length ≤ 8 ∧ ∀ W : Nat, 0 < W → W < 2 ^ 500 → (∀ q ∈ qs, q.den ∣ W) → Q (.int W) H
theorem bot_step {W d : Nat} (h : 0 < W) (hd : 0 < d) : 0 < W / Nat.gcd W d * d ∧ d ∣ W / Nat.gcd W d * d ∧ W ∣ W / Nat.gcd W d * d ∧ W / Nat.gcd W d * d ≤ W * d := by
  have g0 : 0 < Nat.gcd W d := Nat.gcd_pos_of_pos_left _ h
  refine ⟨Nat.mul_pos (Nat.div_pos (Nat.gcd_le_left _ h) g0) hd, Nat.dvd_mul_left _ _, ?_, Nat.mul_le_mul_right _ (Nat.div_le_self _ _)⟩
  obtain ⟨c, hc⟩ := Nat.gcd_dvd_right W d
  have e : W / Nat.gcd W d * d = W * c := by
    have h1 := Nat.div_mul_cancel (Nat.gcd_dvd_left W d)
    generalize Nat.gcd W d = g at h1 hc
    rw [hc, ← Nat.mul_assoc, h1]
  rw [e]
  exact Nat.dvd_mul_right _ _
theorem ok_common_bottom (T : Txt K mg A) : Cal P w K mg base 2 "common_bottom" pr_common_bottom (spBottom K) := by
  obtain ⟨f, fd, F, hm, hb⟩ := T.d_common_bottom
  refine ⟨f, fd, F.ok sc_common_bottom (fun vs H Q E h => ?_) (fun cdv A' outer s H vs Q E hr h => ?_), hm, F.kp, hb⟩
  · obtain ⟨v, qs, rfl, _⟩ := h; rfl
  obtain ⟨v, qs, rfl, ⟨a, vl, rfl, ha, al⟩, hbd, h8, q⟩ := h
  have el := al.len
  refine ⟨_, (pss_cons (ps_set (i := 1) sc_common_bottom.nd rfl (Or.inl rfl) pe_int)
  (pss_cons (ps_for PassesOwn.never rfl (pi_lk K (pv 0)) (pg_tk K 2 (pgs_cons (pg_name (i := 2) sc_common_bottom.nd rfl (Or.inl rfl)) (pgs_cons (pg_name (i := 3) sc_common_bottom.nd rfl (Or.inl rfl)) pgs_nil))) (pss_cons (ps_set (i := 1) sc_common_bottom.nd rfl (Or.inl rfl) (pe_op op_mulW (pe_op op_fdivW (pv 1) (pe_c (ok_common T) (hr.mono (by decide)) (pa_cons (pv 1) (pa_cons (pv 3) pa_nil)))) (pv 3)))
  pss_nil))
  (pss_cons (ps_ret (pv 1))
  pss_nil))), ?_⟩
  walk_at "rg"
  refine r_list (SqL.of ha) (lp_of (walk_list (xs := vl)) ?_)
  refine ⟨fun i σ H1 => ∃ (W : Nat) (y2 y3 : Option V), σ = [some (.ref a), some (.int W), y2, y3] ∧ H1 = H ∧ 0 < W ∧ W < 2 ^ (60 * i + 1) ∧ ∀ j, j < i → ∀ q, qs[j]? = some q → q.den ∣ W,
    ⟨1, none, none, rfl, rfl, by decide, by decide, fun j hj => absurd hj (Nat.not_lt_zero j)⟩, fun i σ H1 _ ⟨_, _, _, _, e, _⟩ => e ▸ SqL.of ha, ?_, ?_⟩
  · rintro i x σ _ H1 hi ⟨W, y2, y3, rfl, rfl, hW, hW2, hdv⟩ ⟨rfl, hx⟩
    obtain ⟨q0, hq0, ⟨fa, rfl, tf⟩⟩ := al.at' hx
    have bq := hbd q0 (List.mem_of_getElem? hq0)
    have dp := q0.den_pos
    obtain ⟨z0, z1, z2, z3⟩ := bot_step hW dp
    have lt1 := lt_mul hW2 bq.bot
    have le8 : (2 : Nat) ^ (60 * i + 1 + 60) ≤ 2 ^ 600 := Nat.pow_le_pow_right (by decide) (by omega)
    have g0 : 0 < Nat.gcd W q0.den := Nat.gcd_pos_of_pos_left _ hW
    have g1 : Nat.gcd W q0.den ≤ q0.den := Nat.gcd_le_right _ dp
    have g2 := bq.bot
    walk_at "rg"
    refine ⟨W, q0.den, rfl, ?_⟩
    walk_at "rg"
    refine e_I (wide_div (b := 60) (by omega) (by rw [Int.natAbs_natCast]; omega) (by decide) (by decide)) ?_
    walk_at "rg"
    have w600 : W < 2 ^ 600 := Nat.lt_of_lt_of_le hW2 (Nat.pow_le_pow_right (by decide) (by omega))
    have e1 : ((W : Int) / ((Nat.gcd W q0.den : Nat) : Int)) = ((W / Nat.gcd W q0.den : Nat) : Int) := rfl
    rw [e1]
    refine e_I (wide_mul (a := 600) (b := 60) (by rw [Int.natAbs_natCast]; exact Nat.lt_of_le_of_lt (Nat.div_le_self _ _) w600) (by rw [Int.natAbs_natCast]; exact g2) (by decide) (by decide) (by decide)) ?_
    walk_at "rg"
    refine ⟨W / Nat.gcd W q0.den * q0.den, _, _, rfl, rfl, z0, ?_, fun j hj q hq => ?_⟩
    · exact Nat.lt_of_le_of_lt z3 (by rw [show 60 * (i + 1) + 1 = 60 * i + 1 + 60 by omega]; exact lt1)
    · by_cases e : j = i
      · subst e
        rw [hq0] at hq
        obtain rfl := Option.some.inj hq
        exact z1
      · exact Nat.dvd_trans (hdv j (by omega) q hq) z2
  · rintro σ H1 ⟨W, y2, y3, rfl, rfl, hW, hW2, hdv⟩
    walk_at "rg"
    refine q W hW (Nat.lt_of_lt_of_le hW2 (Nat.pow_le_pow_right (by decide) (by omega))) fun q hq => ?_
    obtain ⟨j, hj⟩ := List.getElem?_of_mem hq
    have := (List.getElem?_eq_some_iff.mp hj).1
    exact hdv j (by omega) q hj
/-- sizes as whole numbers ns over W -/
structure SzOk (r : Ring) (ns : List Int) (W : Nat) : Prop where
  w0 : 0 < W
  wl : W < 2 ^ 500
  len : ns.length = r.asks.length
  val : ∀ (k : Nat) (a : Ask) (z : Int), r.asks[k]? = some a → ns[k]? = some z → (z : Rat) = a.size * (W : Rat)
  bd : ∀ z ∈ ns, 0 ≤ z ∧ z.natAbs < 2 ^ 600
def spSizes (K : Fg) : Sp := fun vs H Q _ => ∃ v r, vs = [v] ∧ Rn K H v r ∧ Good r ∧ ∀ p l ns W H', Same H H' → SqT K H' p [.ref l, .int (W : Nat)] → H l = none → H' l = some (.lst (ns.map V.int)) → SzOk r ns W → Q (.ref p) H'
theorem ok_whole_sizes (T : Txt K mg A) : Cal P w K mg base 3 "whole_sizes" pr_whole_sizes (spSizes K) := by
  obtain ⟨f, fd, F, hm, hb⟩ := T.d_whole_sizes
  refine ⟨f, fd, F.ok sc_whole_sizes (fun vs H Q E h => ?_) (fun cdv A' outer s H vs Q E hr h => ?_), hm, F.kp, hb⟩
  · obtain ⟨v, r, rfl, _⟩ := h; rfl
  obtain ⟨v, r, rfl, hR, hG, q⟩ := h
  obtain ⟨p, ra, aa, rv, av, rfl, tp, hra, alr, haa, ala⟩ := rn_get hR
  have m5 := hG.m5
  have ea := ala.len
  refine ⟨_, (pss_cons (ps_setLc (i := 1) (own := [("ask", 3)]) (g := (gName 3)) (tt := tYes) rfl sc_whole_sizes.nd rfl rfl (sw_true rfl rfl rfl (by decide +kernel)) (pi_lk K (pe_ix (ix_tk K) (pv 0) pe_int (fun _ _ => rfl))) (blkOk_by (N := nm_whole_sizes) (sc := defScope st_whole_sizes) (by decide +kernel)) (fun _ _ _ _ _ => (pg_name (i := 3) sc_whole_sizes.nd rfl (Or.inl rfl))) (fun _ _ _ _ _ => pts_nil) (fun _ _ _ _ _ => (pe_ix (ix_tk K) (pv 3) pe_int (fun _ _ => rfl))))
  (pss_cons (ps_set (i := 2) sc_whole_sizes.nd rfl (Or.inr rfl) (pe_c (ok_common_bottom T) (hr.mono (by decide)) (pa_cons (pv 1) pa_nil)))
  (pss_cons (ps_ret (pe_tup (pa_cons (pe_lc (own := [("size", 4)]) (g := (gName 4)) (tt := tYes) rfl sc_whole_sizes.nd (pi_lk K (pv 1)) (blkOk_by (N := nm_whole_sizes) (sc := defScope st_whole_sizes) (by decide +kernel)) (fun _ _ _ _ _ => (pg_name (i := 4) sc_whole_sizes.nd rfl (Or.inl rfl))) (fun _ _ _ _ _ => pts_nil) (fun _ _ _ _ _ => (pe_op op_mulW (pe_ix (ix_tk K) (pv 4) pe_int (fun _ _ => rfl)) (pe_op op_fdivW (pv 2) (pe_ix (ix_tk K) (pv 4) pe_int (fun _ _ => rfl)))))) (pa_cons (pv 2) pa_nil))))
  pss_nil))), ?_⟩
  walk_at "rg"
  have szs : ∀ i, (r.asks.map Ask.size).getD i 0 = (r.asks[i]?.map Ask.size).getD 0 := fun i => by rw [List.getD_eq_getElem?_getD, List.getElem?_map]
  refine r_list (SqL.of haa) (cp_of (walk_list (xs := av)) (cb_map (Fr K) (fun i => (r.asks.map Ask.size).getD i 0) (by omega) (fun H1 s1 => SqL.of (s1 _ _ haa)) ?_ ?_))
  · rintro i x _ H1 Pq Z hi s1 ⟨rfl, hx⟩ kk
    obtain ⟨a, hai, q1, f1, rfl, t1, fr1⟩ := ala.at' hx
    have t1' := sm_t s1 t1
    walk_at "rg"
    refine ⟨rfl, ?_⟩
    walk_at "rg"
    refine kk _ _ (Same.refl _) ?_
    rw [szs, hai]
    exact mv s1 fr1
  · intro D acc H1 hD s1 hacc al
    rw [range_getD _ _ (by rw [List.length_map, ← ea])] at al
    have al1 := al.mv hid_sm
    have lacc := al1.len
    rw [List.length_map] at lacc
    have hbd : ∀ q ∈ r.asks.map Ask.size, Bd 60 q := fun q hq => by
      obtain ⟨a, ha, rfl⟩ := List.mem_map.mp hq
      exact (hG.ask a ha).2.2.2
    walk_at "rg"
    refine ⟨_, r.asks.map Ask.size, rfl, ⟨D, acc, rfl, hacc, al1⟩, hbd, by rw [List.length_map]; omega, fun W w0 wl wd => ?_⟩
    walk_at "rg"
    have nsD : ∀ i, ((r.asks.map fun a => a.size.num * ((W : Int) / (a.size.den : Nat))).getD i 0) = ((r.asks[i]?).map fun a => a.size.num * ((W : Int) / (a.size.den : Nat))).getD 0 := fun i => by rw [List.getD_eq_getElem?_getD, List.getElem?_map]
    refine r_list (SqL.of hacc) (cp_of (walk_list (xs := acc)) (cb_map In (fun i => (r.asks.map fun a => a.size.num * ((W : Int) / (a.size.den : Nat))).getD i 0) (by omega) (fun H2 s2 => SqL.of (s2 _ _ hacc)) ?_ ?_))
    · rintro i x _ H2 Pq Z hi s2 ⟨rfl, hx⟩ kk
      obtain ⟨q1, hq1, ⟨fa, rfl, tf⟩⟩ := al1.at' hx
      have tf' := sm_t s2 tf
      have bq := hbd q1 (List.mem_of_getElem? hq1)
      have dp := q1.den_pos
      have g2 := bq.bot
      rw [List.getElem?_map] at hq1
      walk_at "rg"
      refine ⟨rfl, ?_⟩
      walk_at "rg"
      refine e_I (wide_div (b := 60) (by omega) (by rw [Int.natAbs_natCast]; omega) (by decide) (by decide)) ?_
      walk_at "rg"
      have e1 : ((W : Int) / ((q1.den : Nat) : Int)) = ((W / q1.den : Nat) : Int) := rfl
      refine e_I (wide_mul (a := 60) (b := 500) bq.natAbs (by rw [e1, Int.natAbs_natCast]; exact Nat.lt_of_le_of_lt (Nat.div_le_self _ _) wl) (by decide) (by decide) (by decide)) ?_
      refine kk _ _ (Same.refl _) ?_
      show _ = V.int _
      rw [nsD]
      cases hai : r.asks[i]? with
      | none => rw [hai] at hq1; cases hq1
      | some a =>
        rw [hai] at hq1
        obtain rfl : a.size = q1 := Option.some.inj hq1
        rfl
    · intro D2 acc2 H2 hD2 s2 hacc2 al2
      rw [range_getD _ _ (by rw [List.length_map, lacc])] at al2
      rw [al_ints al2] at hacc2
      walk_at "rg"
      refine e_nwT rfl fun p3 H3 s3 np hp => ?_
      refine q p3 D2 _ W H3 (s1.trans (s2.trans s3)) (SqT.of hp) (s1.free hD2) (s3 _ _ hacc2) ⟨w0, wl, by rw [List.length_map], fun k a z hk hz => ?_, fun z hz => ?_⟩
      · rw [List.getElem?_map, hk] at hz
        obtain rfl := Option.some.inj hz
        exact scale_int (wd _ (List.mem_map.mpr ⟨a, List.mem_of_getElem? hk, rfl⟩))
      · obtain ⟨a, ha, rfl⟩ := List.mem_map.mp hz
        have bq := (hG.ask a ha).2.2.2
        obtain ⟨m, hm'⟩ := num_nat bq.nn
        have e1 : ((W : Int) / ((a.size.den : Nat) : Int)) = ((W / a.size.den : Nat) : Int) := rfl
        rw [e1, hm', ← Int.natCast_mul, Int.natAbs_natCast]
        refine ⟨by omega, ?_⟩
        have := lt_mul (cast_lt hm' bq.top) (Nat.lt_of_le_of_lt (Nat.div_le_self W a.size.den) wl)
        exact Nat.lt_of_lt_of_le this (Nat.pow_le_pow_right (by decide) (by decide))
end
section
variable {P : Program} {w : World} {K : Fg} {mg : Str → Option Value} {base : Heap} {A : Ad}
instance : Hi (Ct K) := ⟨fun h ⟨a, e, q⟩ => ⟨a, e, hi_t h q⟩⟩
structure LD where
  ns : List Int
  W : Nat
  cs : List (Nat × Nat)
  xs : List (List Int)
def LdF (s c t x : V) (W : Nat) : List (Str × V) := [("sizes", s), ("bottom", .int W), ("cuts", c), ("ties", t), ("crossed", x)]
def Xok (m : Nat) (l : List Int) : Prop := l.length ≤ 64 ∧ ∀ z ∈ l, 0 ≤ z ∧ z < (m : Int)
structure LdOk (r : Ring) (d : LD) : Prop where
  sz : SzOk r d.ns d.W
  cuts : CutsOk r.rooms.length d.cs
  xl : d.xs.length = r.asks.length
  xb : ∀ l ∈ d.xs, Xok d.cs.length l
def tiesP (n : Nat) (a : Ask) : List (List Int) := [tiesL n a.one a.other true, tiesL n a.one a.other false]
def tieLs (r : Ring) : List (List (List Int)) := r.asks.map (tiesP r.rooms.length)
def Lo (K : Fg) (A : Ad) (r : Ring) : Rp LD := fun H v d => ∃ p dx s c t x, v = .ref p ∧ H p = some (.ins A.CL dx (LdF s c t x d.W)) ∧ Li H s d.ns ∧ Ls (Ct K) H c d.cs ∧ Ls (Ls Li) H t (tieLs r) ∧ Ls Li H x d.xs
instance {r : Ring} : Mo (Lo K A r) := ⟨fun s ⟨p, dx, a, c, t, x, e, h, h1, h2, h3, h4⟩ => ⟨p, dx, a, c, t, x, e, s _ _ h, mv s h1, mv s h2, mv s h3, mv s h4⟩⟩
def hid3 (p L M : Addr) (H : Hp) : Hp := hid p (hid L (hid M H))
theorem hid3_le {p L M : Addr} {H : Hp} : Same (hid3 p L M H) H := hid_sm.trans (hid_sm.trans hid_sm)
theorem hid3_same {p L M : Addr} {G H : Hp} (hp : G p = none) (hL : G L = none) (hM : G M = none) (s : Same G H) : Same G (hid3 p L M H) := hid_same hp (hid_same hL (hid_same hM s))
theorem hid3_p {p L M : Addr} {H : Hp} : hid3 p L M H p = none := hid_at
theorem hid3_L {p L M : Addr} {H : Hp} : hid3 p L M H L = none := by
  by_cases h : L = p
  · subst h; exact hid_at
  · show hid p _ L = none
    rw [hid_ne h, hid_at]
theorem hid3_M {p L M : Addr} {H : Hp} : hid3 p L M H M = none := by
  show hid p _ M = none
  by_cases h : M = p
  · subst h; exact hid_at
  · rw [hid_ne h]
    by_cases h2 : M = L
    · subst h2; exact hid_at
    · rw [hid_ne h2, hid_at]
theorem nwp3 {p L M : Addr} {H H' : Hp} {o1 o2 o3 : HO} (h1 : H p = some o1) (h2 : H L = some o2) (h3 : H M = some o3) : Same (nwp H H') (hid3 p L M H') :=
  hid3_same (nwp_old h1) (nwp_old h2) (nwp_old h3) nwp_sm
theorem tieLs_at {r : Ring} {k : Nat} {a : Ask} (h : r.asks[k]? = some a) : (tieLs r).getD k [] = tiesP r.rooms.length a := by
  unfold tieLs
  rw [List.getD_eq_getElem?_getD, List.getElem?_map, h]; rfl
def spLInit (K : Fg) (A : Ad) : Sp := fun vs H Q _ => ∃ G p dx rv r, vs = [.ref p, rv] ∧ H p = some (.ins A.CL dx []) ∧ G p = none ∧ Same G H ∧ Rn K G rv r ∧ Good r ∧ ∀ H' d, Same G H' → Lo K A r H' (.ref p) d → LdOk r d → Q .non H'
theorem ok_Loading_init (T : Txt K mg A) : NCal P w K mg base 4 A.CL "Loading" pr_Loading_init (spLInit K A) := by
  obtain ⟨f, fd, F, hb, hM, hm⟩ := T.d_Loading_init
  refine ⟨f, fd, F.ok sc_Loading_init (fun vs H Q E h => ?_) (fun cdv A' outer s H vs Q E hr h => ?_), hb, hM, hm⟩
  · obtain ⟨G, p, dx, rv, r, rfl, _⟩ := h; rfl
  obtain ⟨G, p, dx, rv, r, rfl, hp, hGp, sG, hR, hG, q⟩ := h
  have cl := T.clLoading
  have a1 := T.aL_sizes
  have a2 := T.aL_bottom
  have a3 := T.aL_cuts
  have a4 := T.aL_ties
  have a5 := T.aL_crossed
  have n8 := hG.n8
  have n2 := hG.n2
  have m5 := hG.m5
  obtain ⟨pr, ra, aa, rl, al, rfl, tp, hra, alr, haa, ala⟩ := rn_get hR
  refine ⟨_, (pss_cons (ps_asg (pe_c (ok_whole_sizes T) (hr.mono (by decide)) (pa_cons (pv 1) pa_nil)) (pg_tk K 2 (pgs_cons (pg_fk K (pv 0)) (pgs_cons (pg_fk K (pv 0)) pgs_nil))))
  (pss_cons (ps_fk K (pv 0) (pe_c (ok_all_cuts T) (hr.mono (by decide)) (pa_cons (pv 1) pa_nil)))
  (pss_cons (ps_fk K (pv 0) (pe_lst pa_nil))
  (pss_cons (ps_fk K (pv 0) (pe_lst pa_nil))
  (pss_cons (ps_for PassesOwn.never rfl (pi_ek K T.n_enumerate (pa_cons (pe_ix (ix_tk K) (pv 1) pe_int (fun _ _ => rfl)) pa_nil)) (pg_tk K 2 (pgs_cons (pg_name (i := 2) sc_Loading_init.nd rfl (Or.inr rfl)) (pgs_cons (pg_name (i := 3) sc_Loading_init.nd rfl (Or.inr rfl)) pgs_nil))) (pss_cons (ps_expr (pe_bm PySem.F.plainAttrs_list PySem.F.slot_list_append PySem.F.type_list_append mt_append (pe_fk K (pv 0)) (pa_cons (pe_lc (own := [("way", 4)]) (g := (gName 4)) (tt := tYes) rfl sc_Loading_init.nd (pi_tk K (pe_k T.kCHOICES)) (blkOk_by (N := nm_Loading_init) (sc := defScope st_Loading_init) (by decide +kernel)) (fun _ _ _ _ _ => (pg_name (i := 4) sc_Loading_init.nd rfl (Or.inl rfl))) (fun _ _ _ _ _ => pts_nil) (fun _ _ _ _ _ => (pe_c (ok_ties_of T) (hr.mono (by decide)) (pa_cons (pv 1) (pa_cons (pv 2) (pa_cons (pv 4) pa_nil)))))) pa_nil)))
  (pss_cons (ps_expr (pe_bm PySem.F.plainAttrs_list PySem.F.slot_list_append PySem.F.type_list_append mt_append (pe_fk K (pv 0)) (pa_cons (pe_lc (own := [("at", 5), ("cut", 6)]) (g := (gTup K 2 (gCons (gName 5) (gCons (gName 6) gNil)))) rfl sc_Loading_init.nd (pi_ek K T.n_enumerate (pa_cons (pe_fk K (pv 0)) pa_nil)) (blkOk_by (N := nm_Loading_init) (sc := defScope st_Loading_init) (by decide +kernel)) (fun _ _ _ _ _ => (pg_tk K 2 (pgs_cons (pg_name (i := 5) sc_Loading_init.nd rfl (Or.inl rfl)) (pgs_cons (pg_name (i := 6) sc_Loading_init.nd rfl (Or.inl rfl)) pgs_nil)))) (fun _ _ _ _ _ => (pts_one (pt_val (pe_c (ok_is_apart T) (hr.mono (by decide)) (pa_cons (pv 6) (pa_cons (pe_ix (ix_tk K) (pv 3) pe_int (fun _ _ => rfl)) (pa_cons (pe_ix (ix_tk K) (pv 3) pe_int (fun _ _ => rfl)) pa_nil))))))) (fun _ _ _ _ _ => (pv 5))) pa_nil)))
  pss_nil)))
  pss_nil))))), ?_⟩
  walk_at "rg"
  refine ⟨.ref pr, r, rfl, mv sG hR, hG, fun q1 l ns W H1 s1 tq nl hl sz => ?_⟩
  have i1 := s1 _ _ hp
  walk_at "rg"
  refine e_fldS upd_same cl a2 (Nat.le_of_ble_eq_true rfl) ?_
  obtain ⟨H2, e2, i2, v2⟩ : ∃ H2, upd (upd H1 p (.ins A.CL dx (putF "sizes" (.ref l) []))) p (.ins A.CL dx (putF "bottom" (.int (W : Nat)) (putF "sizes" (.ref l) []))) = H2 ∧
      H2 p = some (.ins A.CL dx [("sizes", .ref l), ("bottom", .int (W : Nat))]) ∧ hid p H2 = hid p H1 := ⟨_, rfl, upd_same, by rw [hid_upd, hid_upd]⟩
  rw [e2]
  clear e2
  have sG1 : Same G (hid p H1) := hid_same hGp (sG.trans s1)
  have s2 : Same (hid p H1) H2 := v2 ▸ hid_sm
  have l1 : hid p H1 l = some (.lst (ns.map V.int)) := by rw [hid_ne (ne_of hl i1 (by intro z; cases z))]; exact hl
  have li2 : Li (hid p H2) (.ref l) ns := v2 ▸ li_of l1
  have sG2 : Same G (hid p H2) := v2 ▸ sG1
  clear s2 l1 v2 tq hl i1 sG1
  walk_at "rg"
  refine ⟨.ref pr, r, rfl, mv (sG2.trans hid_sm) hR, n8, fun cv H3 cs s3 hcs cok => ?_⟩
  have i3 := s3 _ _ i2
  walk_at "rg"
  obtain ⟨H4, e4, i4, v4⟩ : ∃ H4, upd H3 p (.ins A.CL dx (putF "cuts" cv [("sizes", .ref l), ("bottom", .int (W : Nat))])) = H4 ∧
      H4 p = some (.ins A.CL dx [("sizes", .ref l), ("bottom", .int (W : Nat)), ("cuts", cv)]) ∧ hid p H4 = hid p H3 := ⟨_, rfl, upd_same, by rw [hid_upd]⟩
  rw [e4]
  clear e4
  have sG4 : Same G (hid p H4) := v4 ▸ sG2.trans (hid_mono s3)
  have li4 : Li (hid p H4) (.ref l) ns := v4 ▸ mv (hid_mono s3) li2
  have ct4 : Ls (Ct K) (hid p H4) cv cs := v4 ▸ Hi.hi i3 hcs
  clear v4 li2 hcs
  walk_at "rg"
  refine e_nwL rfl fun L H5 s5 nL hL => ?_
  have i5 := s5 _ _ i4
  walk_at "rg"
  obtain ⟨H6, e6, i6, v6⟩ : ∃ H6, upd H5 p (.ins A.CL dx (putF "ties" (.ref L) [("sizes", .ref l), ("bottom", .int (W : Nat)), ("cuts", cv)])) = H6 ∧
      H6 p = some (.ins A.CL dx [("sizes", .ref l), ("bottom", .int (W : Nat)), ("cuts", cv), ("ties", .ref L)]) ∧ hid p H6 = hid p H5 := ⟨_, rfl, upd_same, by rw [hid_upd]⟩
  have hL6 : H6 L = some (.lst []) := by rw [← e6, upd_ne (ne_of hL i5 (by intro z; cases z))]; exact hL
  rw [e6]
  clear e6
  refine e_nwL rfl fun M H7 s7 nM hM => ?_
  have i7 := s7 _ _ i6
  have hL7 := s7 _ _ hL6
  walk_at "rg"
  obtain ⟨H8, e8, i8, v8⟩ : ∃ H8, upd H7 p (.ins A.CL dx (putF "crossed" (.ref M) [("sizes", .ref l), ("bottom", .int (W : Nat)), ("cuts", cv), ("ties", .ref L)])) = H8 ∧
      H8 p = some (.ins A.CL dx (LdF (.ref l) cv (.ref L) (.ref M) W)) ∧ hid p H8 = hid p H7 := ⟨_, rfl, upd_same, by rw [hid_upd]⟩
  have hL8 : H8 L = some (.lst []) := by rw [← e8, upd_ne (ne_of hL7 i7 (by intro z; cases z))]; exact hL7
  have hM8 : H8 M = some (.lst []) := by rw [← e8, upd_ne (ne_of hM i7 (by intro z; cases z))]; exact hM
  rw [e8]
  clear e8
  have sb5 : Same (hid p H4) (hid p H6) := v6 ▸ hid_mono s5
  have sb8 : Same (hid p H4) H8 := (sb5.trans (v8 ▸ hid_mono s7)).trans hid_sm
  have nbL : hid p H4 L = none := by
    by_cases e : L = p
    · rw [e, hid_at]
    · rw [hid_ne e]; exact nL
  have nbM : hid p H4 M = none := sb5.free (by
    by_cases e : M = p
    · rw [e, hid_at]
    · rw [hid_ne e]; exact nM)
  have nbp : hid p H4 p = none := hid_at
  generalize hGb : hid p H4 = Gb at *
  have nLM : M ≠ L := (ne_of_none hL6 nM).symm
  clear hL hM hL6 hL7 i5 i6 i7 v6 v8 s5 s7 sb5 hGb nM
  obtain ⟨c, cvl, rfl, hc, alc⟩ := ct4
  have lcv := alc.len
  have lal := ala.len
  have cs64 := cok.2
  have sG8 := sG4.trans sb8
  have tp8 := sm_t sG8 tp
  walk_at "rg"
  refine r_enum (SqL.of (sG8 _ _ haa)) (lp_of (walk_enum (xs := al)) ?_)
  refine ⟨fun k σ Hk => ∃ y2 y3 y4 y5 y6 Gv acc ac2 xs, σ = [some (.ref p), some (.ref pr), y2, y3, y4, y5, y6] ∧ Same Gb Gv ∧ Same Gv Hk ∧ Gv p = none ∧ Gv L = none ∧ Gv M = none ∧
      Hk p = some (.ins A.CL dx (LdF (.ref l) (.ref c) (.ref L) (.ref M) W)) ∧ Hk L = some (.lst acc) ∧ Hk M = some (.lst ac2) ∧ Al (Ls Li Gv) acc ((List.range k).map fun i => (tieLs r).getD i []) ∧ Al (Li Gv) ac2 xs ∧ xs.length = k ∧ ∀ l ∈ xs, Xok cs.length l,
    ⟨none, none, none, none, none, Gb, [], [], [], rfl, Same.refl _, sb8, nbp, nbL, nbM, i8, hL8, hM8, .nil, .nil, rfl, fun l hl => by simp at hl⟩,
    fun k σ Hk _ ⟨_, _, _, _, _, Gv, _, _, _, _, s1, s2, _⟩ => SqL.of (s2 _ _ (s1 _ _ (sG4 _ _ haa))), ?_, ?_⟩
  · rintro k x σ Hk H2 hk ⟨y2, y3, y4, y5, y6, Gv, acc, ac2, xs, rfl, sbv, svk, nvp, nvL, nvM, ik, hLk, hMk, alt, alx, lxs, xok⟩ y
    obtain ⟨T', x1, x2, rfl, g1, g2, s3, nT, hT⟩ := yget y
    obtain rfl : V.int (k : Nat) = x1 := Option.some.inj g1
    obtain ⟨a, ha, qa, fa, rfl, ta, fra⟩ := ala.at' g2
    have tT := SqT.of (K := K) hT
    have sG2 : Same G H2 := sG4.trans (sbv.trans (svk.trans s3))
    have ta2 := sm_t sG2 ta
    have i2' := s3 _ _ ik
    have hL2 := s3 _ _ hLk
    have hM2 := s3 _ _ hMk
    have lacc := alt.len
    rw [List.length_map, List.length_range] at lacc
    have lac2 := alx.len
    walk_at "rg"
    refine r_tup (T.tCHOICES _) (cp_of (walk_tup (xs := [.str "on", .str "back"])) (cb_mapN Li (fun i => (tiesP r.rooms.length a).getD i []) (by decide) (fun H3 _ => T.tCHOICES H3) ?_ ?_))
    · rintro i x _ H3 Pq Z hi s4 ⟨rfl, hx⟩ kk
      have ex : x = .str (wayS (decide (i = 0))) ∧ (tiesP r.rooms.length a).getD i [] = tiesL r.rooms.length a.one a.other (decide (i = 0)) := by
        match i, hi, hx with
        | 0, _, hx => exact ⟨(Option.some.inj hx).symm, rfl⟩
        | 1, _, hx => exact ⟨(Option.some.inj hx).symm, rfl⟩
      obtain ⟨rfl, et⟩ := ex
      walk_at "rg"
      refine ⟨rfl, ?_⟩
      walk_at "rg"
      refine ⟨.ref pr, r, k, a, _, rfl, mv (sG2.trans s4) hR, n2, n8, ha, fun D H4 s5 nD hD => kk _ _ s5 ?_⟩
      rw [et]
      exact li_of (nwp_at nD hD)
    · intro D acc3 H4 hD s4 hacc3 al3
      have hL4 := s4 _ _ hL2
      have hM4 := s4 _ _ hM2
      have i4' := s4 _ _ i2'
      walk_at "rg"
      refine e_app hL4 (szLt (by omega)) ?_
      have nLp : p ≠ L := ne_of i4' hL4 (by intro z; cases z)
      have al3' : Ls Li (hid3 p L M H4) (.ref D) (tiesP r.rooms.length a) :=
        mv (nwp3 i2' hL2 hM2) ⟨D, acc3, rfl, nwp_at hD hacc3, al_congr (al3.mv hid_sm) (range_getD (tiesP r.rooms.length a) [] rfl)⟩
      have sv4 : Same Gv (hid3 p L M H4) := hid3_same nvp nvL nvM (svk.trans (s3.trans s4))
      obtain ⟨H5, e5, hL5, s5⟩ : ∃ H5, upd H4 L (.lst (acc ++ [.ref D])) = H5 ∧ H5 L = some (.lst (acc ++ [.ref D])) ∧ Same (hid3 p L M H4) H5 := ⟨_, rfl, upd_same, sm_mut hid3_le hid3_L⟩
      have i5 : H5 p = some (.ins A.CL dx (LdF (.ref l) (.ref c) (.ref L) (.ref M) W)) := by rw [← e5, upd_ne nLp]; exact i4'
      have hM5 : H5 M = some (.lst ac2) := by rw [← e5, upd_ne nLM]; exact hM4
      rw [e5]
      clear e5
      have alt5 := (alt.mv sv4).app (.one al3')
      have alx5 := alx.mv sv4
      have sG5 : Same G H5 := sG4.trans (sbv.trans (sv4.trans s5))
      have hc5 : H5 c = some (.lst cvl) := s5 _ _ (sv4 _ _ (sbv _ _ hc))
      have ta5 := sm_t sG5 ta
      have sb5 : Same Gb H5 := sbv.trans (sv4.trans s5)
      walk_at "rg"
      refine r_enum (SqL.of hc5) (cp_of (walk_enum (xs := cvl)) (cb_ints (fun z => 0 ≤ z ∧ z < (cs.length : Int)) (by omega) (fun H6 s6 => SqL.of (s6 _ _ hc5)) ?_ ?_))
      · rintro i x H6 H7 Pq Z hi s6 y k1 k2
        obtain ⟨T2, z1, z2, rfl, g3, g4, s7, nT2, hT2⟩ := yget y
        obtain rfl : V.int (i : Nat) = z1 := Option.some.inj g3
        obtain ⟨cu, hcu, cr, rfl, tcr⟩ := alc.at' g4
        have tT2 := SqT.of (K := K) hT2
        have ta7 := sm_t (s6.trans s7) ta5
        have tc7 := sm_t (sb5.trans (s6.trans s7)) tcr
        walk_at "rg"
        refine ⟨rfl, ?_⟩
        walk_at "rg"
        refine ⟨_, _, _, _, _, rfl, tc7, fun b => ?_⟩
        walk_at "rg"
        cases b
        · exact iteF (k2 _ s7)
        · refine iteT ?_
          walk_at "rg"
          exact k1 _ _ s7 ⟨by omega, by omega⟩
      · intro D2 zs H6 hD2 s6 hzs lzs pzs
        have hL6 := s6 _ _ hL5
        have hM6 := s6 _ _ hM5
        have i6 := s6 _ _ i5
        walk_at "rg"
        refine e_app hM6 (szLt (by omega)) ?_
        walk_at "rg"
        have sv6 : Same (hid3 p L M H4) (hid3 p L M H6) := hid3_same hid3_p hid3_L hid3_M (s5.trans s6)
        refine ⟨_, _, _, _, _, hid3 p L M H6, acc ++ [.ref D], ac2 ++ [.ref D2], xs ++ [zs], rfl, sbv.trans (sv4.trans sv6), sm_mut hid3_le hid3_M, hid3_p, hid3_L, hid3_M, ?_, ?_, upd_same, ?_, ?_, ?_, ?_⟩
        · rw [upd_ne (ne_of i6 hM6 (by intro z; cases z))]; exact i6
        · rw [upd_ne nLM.symm]; exact hL6
        · refine al_congr (alt5.mv sv6) ?_
          rw [List.range_succ, List.map_append, ← tieLs_at ha]
          rfl
        · exact (alx5.mv sv6).app (.one (mv (nwp3 i5 hL5 hM5) (li_of (nwp_at hD2 hzs))))
        · rw [List.length_append, lxs]; rfl
        · intro z hz
          rcases List.mem_append.mp hz with h | h
          · exact xok z h
          · rw [List.mem_singleton.mp h]
            exact ⟨by omega, pzs⟩
  · rintro σ Hk ⟨y2, y3, y4, y5, y6, Gv, acc, ac2, xs, rfl, sbv, svk, nvp, nvL, nvM, ik, hLk, hMk, alt, alx, lxs, xok⟩
    rw [lal, range_getD _ _ (by unfold tieLs; rw [List.length_map])] at alt
    walk_at "rg"
    exact q Hk ⟨ns, W, cs, xs⟩ (sG4.trans (sbv.trans svk)) ⟨p, dx, _, _, _, _, rfl, ik, mv (sbv.trans svk) li4, ⟨c, cvl, rfl, svk _ _ (sbv _ _ hc), alc.mv (sbv.trans svk)⟩, ⟨L, acc, rfl, hLk, alt.mv svk⟩, ⟨M, ac2, rfl, hMk, alx.mv svk⟩⟩
      ⟨sz, cok, by rw [lxs, lal], xok⟩
end
section
variable {P : Program} {w : World} {K : Fg} {mg : Str → Option Value} {base : Heap} {A : Ad}
/-- z more at each of the places ts -/
def addT (ts : List Int) (z : Int) (ls : List Int) : List Int := ts.foldl (fun l t => l.set t.toNat (l.getD t.toNat 0 + z)) ls
theorem addT_len (z : Int) : ∀ (ts ls : List Int), (addT ts z ls).length = ls.length
  | [], ls => rfl
  | t :: ts, ls => by
    show (addT ts z (ls.set t.toNat _)).length = _
    rw [addT_len z ts, List.length_set]
theorem addT_succ {ts ls : List Int} {z t : Int} {i : Nat} (h : ts[i]? = some t) : addT (ts.take (i + 1)) z ls = (addT (ts.take i) z ls).set t.toNat ((addT (ts.take i) z ls).getD t.toNat 0 + z) := by
  rw [List.take_add_one, h]
  show (ts.take i ++ [t]).foldl _ ls = _
  rw [List.foldl_append]
  rfl
theorem addT_all (ts ls : List Int) (z : Int) : addT (ts.take ts.length) z ls = addT ts z ls := by rw [List.take_length]
theorem natAbs_add (a b : Int) : (a + b).natAbs ≤ a.natAbs + b.natAbs := by omega
theorem addT_bd {z : Int} : ∀ (ts ls : List Int) (B : Nat), (∀ y ∈ ls, y.natAbs ≤ B) → ∀ y ∈ addT ts z ls, y.natAbs ≤ B + ts.length * z.natAbs
  | [], ls, B, h, y, hy => by
    have := h y hy
    omega
  | t :: ts, ls, B, h, y, hy => by
    have h2 : ∀ y ∈ ls.set t.toNat (ls.getD t.toNat 0 + z), y.natAbs ≤ B + z.natAbs := fun y hy => by
      rcases List.mem_or_eq_of_mem_set hy with q | q
      · have := h y q
        omega
      · subst q
        have h3 : (ls.getD t.toNat 0).natAbs ≤ B := by
          rw [List.getD_eq_getElem?_getD]
          cases e : ls[t.toNat]? with
          | none => show (0 : Int).natAbs ≤ B; omega
          | some u => exact h u (List.mem_of_getElem? e)
        have := natAbs_add (ls.getD t.toNat 0) z
        omega
    have := addT_bd ts _ _ h2 y hy
    rw [List.length_cons, Nat.succ_mul]
    omega
theorem getD_at {l : List Int} {t : Int} (h0 : 0 ≤ t) (h : t < l.length) : atI (l.map V.int) t = some (.int (l.getD t.toNat 0)) := by
  have hn : t.toNat < l.length := by omega
  refine atI_of (i := t.toNat) (by omega) ?_
  rw [List.getElem?_map, List.getElem?_eq_getElem hn, List.getD_eq_getElem?_getD, List.getElem?_eq_getElem hn]; rfl
theorem ixN_int {m : Nat} {t : Int} (h0 : 0 ≤ t) (h : t < m) : ixN m t = some t.toNat := ixN_of (by omega) (by omega)
theorem map_setI (l : List Int) (i : Nat) (z : Int) : (l.map V.int).set i (.int z) = (l.set i z).map V.int := by rw [List.map_set]
theorem ints_at {l : List Int} {i : Nat} {v : V} (h : (l.map V.int)[i]? = some v) : ∃ z, l[i]? = some z ∧ v = .int z := by
  rw [List.getElem?_map] at h
  cases e : l[i]? with
  | none => rw [e] at h; cases h
  | some z => rw [e] at h; exact ⟨z, rfl, (Option.some.inj h).symm⟩
theorem lo_get {r : Ring} {H : Hp} {v : V} {d : LD} (h : Lo K A r H v d) : ∃ p dx s c t x cv tv xv, v = .ref p ∧ H p = some (.ins A.CL dx (LdF (.ref s) (.ref c) (.ref t) (.ref x) d.W)) ∧ H s = some (.lst (d.ns.map V.int)) ∧
    H c = some (.lst cv) ∧ Al (Ct K H) cv d.cs ∧ H t = some (.lst tv) ∧ Al (Ls Li H) tv (tieLs r) ∧ H x = some (.lst xv) ∧ Al (Li H) xv d.xs := by
  obtain ⟨p, dx, s, c, t, x, rfl, h0, h1, ⟨ca, cv, rfl, h2, h3⟩, ⟨ta, tv, rfl, h4, h5⟩, ⟨xa, xv, rfl, h6, h7⟩⟩ := h
  obtain ⟨sa, rfl, h8⟩ := li_to h1
  exact ⟨p, dx, sa, ca, ta, xa, cv, tv, xv, rfl, h0, h8, h2, h3, h4, h5, h6, h7⟩
def spLoaded (K : Fg) (A : Ad) : Sp := fun vs H Q _ => ∃ v r d lv ls k a z c, vs = [v, lv, .int (k : Nat), .int (c : Nat)] ∧ Lo K A r H v d ∧ LdOk r d ∧ Good r ∧ Li H lv ls ∧ ls.length = r.rooms.length ∧ r.asks[k]? = some a ∧ d.ns[k]? = some z ∧ c < 2 ∧
  ∀ p H', Same H H' → H p = none → H' p = some (.lst ((addT (tiesL r.rooms.length a.one a.other (decide (c = 0))) z ls).map V.int)) → Q (.ref p) H'
theorem ok_Loading_loaded (T : Txt K mg A) : MCal P w K mg base 1 A.CL "loaded" pr_Loading_loaded (spLoaded K A) := by
  obtain ⟨f, fd, F, hb, hM⟩ := T.d_Loading_loaded
  refine ⟨f, fd, F.ok sc_Loading_loaded (fun vs H Q E h => ?_) (fun cdv A' outer s H vs Q E hr h => ?_), hb, hM⟩
  · obtain ⟨v, r, d, lv, ls, k, a, z, c, rfl, _⟩ := h; rfl
  obtain ⟨v, r, d, lv, ls, k, a, z, c, rfl, hLo, hok, hG, hls, hlen, ha, hz, hc, q⟩ := h
  have cl := T.clLoading
  have a1 := T.aL_sizes
  have a4 := T.aL_ties
  obtain ⟨p, dx, sa, ca, ta, xa, cv, tv, xv, rfl, hp, hs, hc', alc, ht, alt, hx, alx⟩ := lo_get hLo
  obtain ⟨la, rfl, hla⟩ := li_to hls
  have n8 := hG.n8
  have hask := hG.ask a (List.mem_of_getElem? ha)
  have fin := ties_fin (decide (c = 0)) (Nat.lt_succ_of_le n8) hask.1 hask.2.1 hask.2.2.1
  have tk : (tieLs r)[k]? = some (tiesP r.rooms.length a) := by unfold tieLs; rw [List.getElem?_map, ha]; rfl
  obtain ⟨vk, hvk, tka, tkv, rfl, htk, altk⟩ := alt.at tk
  have tc : (tiesP r.rooms.length a)[c]? = some (tiesL r.rooms.length a.one a.other (decide (c = 0))) := by
    match c, hc with
    | 0, _ => rfl
    | 1, _ => rfl
  obtain ⟨vc, hvc, hli⟩ := altk.at tc
  obtain ⟨tca, rfl, htc⟩ := li_to hli
  generalize hts : tiesL r.rooms.length a.one a.other (decide (c = 0)) = ts at *
  have lts : ts.length ≤ 8 := by
    rw [← hts]
    unfold tiesL
    have m1 := Int.emod_lt_of_pos ((a.other : Int) - (a.one : Nat)) (b := (r.rooms.length : Nat)) (by have := hG.n2; omega)
    have m2 := Int.emod_lt_of_pos ((a.one : Int) - (a.other : Nat)) (b := (r.rooms.length : Nat)) (by have := hG.n2; omega)
    split <;> rw [List.length_map, List.length_range] <;> omega
  refine ⟨_, (pss_cons (ps_set (i := 4) sc_Loading_loaded.nd rfl (Or.inl rfl) (pe_callTy (c_copyk K) (by rfl) T.n_list (by decide +kernel) (pa_cons (pv 1) pa_nil)))
  (pss_cons (ps_for PassesOwn.never rfl (pi_lk K (pe_ix (ix_lk K) (pe_ix (ix_lk K) (pe_fk K (pv 0)) (pv 2) (fun _ _ => rfl)) (pv 3) (fun _ _ => rfl))) (pg_name (i := 5) sc_Loading_loaded.nd rfl (Or.inl rfl)) (pss_cons (ps_asg (pe_op op_add (pe_ix (ix_lk K) (pv 4) (pv 5) (fun _ _ => rfl)) (pe_ix (ix_lk K) (pe_fk K (pv 0)) (pv 2) (fun _ _ => rfl))) (pg_sub (pv 4) (pv 5) set_list))
  pss_nil))
  (pss_cons (ps_ret (pv 4))
  pss_nil))), ?_⟩
  walk_at "rg"
  refine e_copy (SqL.of hla) fun D H1 s1 nD hD => ?_
  have hp1 := s1 _ _ hp
  walk_at "rg"
  refine e_ixL (SqL.of (s1 _ _ ht)) (atI_nat hvk) ?_
  walk_at "rg"
  refine e_ixL (SqL.of (s1 _ _ htk)) (atI_nat hvc) ?_
  refine r_list (SqL.of (s1 _ _ htc)) (lp_of (walk_list (xs := ts.map V.int)) ?_)
  refine ⟨fun i σ H2 => ∃ y5, σ = [some (.ref p), some (.ref la), some (.int (k : Nat)), some (.int (c : Nat)), some (.ref D), y5] ∧ Same H H2 ∧ H2 D = some (.lst ((addT (ts.take i) z ls).map V.int)),
    ⟨none, rfl, s1, hD⟩, fun i σ H2 _ ⟨_, _, s2, _⟩ => SqL.of (s2 _ _ htc), ?_, ?_⟩
  · rintro i x σ _ H2 hi ⟨y5, rfl, s2, hD2⟩ ⟨rfl, hxi⟩
    obtain ⟨t, ht', rfl⟩ := ints_at hxi
    obtain ⟨t0, t1⟩ := fin.1 t (List.mem_of_getElem? ht')
    have hp2 := s2 _ _ hp
    have lt' : t < (addT (ts.take i) z ls).length := by rw [addT_len]; omega
    walk_at "rg"
    refine e_ixL (SqL.of hD2) (getD_at t0 lt') ?_
    walk_at "rg"
    refine e_ixL (SqL.of (s2 _ _ hs)) (atI_nat (j := k) (v := .int z) (by rw [List.getElem?_map, hz]; rfl)) ?_
    walk_at "rg"
    refine e_setL (j := t.toNat) hD2 (ixN_int t0 (by rw [List.length_map]; exact lt')) ?_
    walk_at "rg"
    refine ⟨_, rfl, sm_mut s2 nD, ?_⟩
    rw [upd_same, map_setI, addT_succ ht']
  · rintro σ H2 ⟨y5, rfl, s2, hD2⟩
    rw [List.length_map, addT_all] at hD2
    walk_at "rg"
    exact q D H2 s2 nD hD2
def spFewer (K : Fg) (A : Ad) : Sp := fun vs H Q _ => ∃ v r d av as k size B, vs = [v, av, .int (k : Nat), .int size] ∧ Lo K A r H v d ∧ LdOk r d ∧ Li H av as ∧ as.length = d.cs.length ∧ k < r.asks.length ∧ (∀ y ∈ as, y.natAbs ≤ B) ∧
  ∀ (p : Addr) (H' : Hp) (as' : List Int), Same H H' → H p = none → H' p = some (.lst (as'.map V.int)) → as'.length = d.cs.length → (∀ y ∈ as', y.natAbs ≤ B + 64 * size.natAbs) → Q (.ref p) H'
theorem ok_Loading_fewer (T : Txt K mg A) : MCal P w K mg base 1 A.CL "fewer" pr_Loading_fewer (spFewer K A) := by
  obtain ⟨f, fd, F, hb, hM⟩ := T.d_Loading_fewer
  refine ⟨f, fd, F.ok sc_Loading_fewer (fun vs H Q E h => ?_) (fun cdv A' outer s H vs Q E hr h => ?_), hb, hM⟩
  · obtain ⟨v, r, d, av, as, k, size, B, rfl, _⟩ := h; rfl
  obtain ⟨v, r, d, av, as, k, size, B, rfl, hLo, hok, has, hlen, hk, hB, q⟩ := h
  have cl := T.clLoading
  have a5 := T.aL_crossed
  obtain ⟨p, dx, sa, ca, ta, xa, cv, tv, xv, rfl, hp, hs, hc', alc, ht, alt, hx, alx⟩ := lo_get hLo
  obtain ⟨la, rfl, hla⟩ := li_to has
  obtain ⟨ts, hts⟩ : ∃ ts, d.xs[k]? = some ts := ⟨_, List.getElem?_eq_getElem (by rw [hok.xl]; exact hk)⟩
  have xok := hok.xb ts (List.mem_of_getElem? hts)
  obtain ⟨vk, hvk, hli⟩ := alx.at hts
  obtain ⟨tca, rfl, htc⟩ := li_to hli
  refine ⟨_, (pss_cons (ps_set (i := 4) sc_Loading_fewer.nd rfl (Or.inl rfl) (pe_callTy (c_copyk K) (by rfl) T.n_list (by decide +kernel) (pa_cons (pv 1) pa_nil)))
  (pss_cons (ps_for PassesOwn.never rfl (pi_lk K (pe_ix (ix_lk K) (pe_fk K (pv 0)) (pv 2) (fun _ _ => rfl))) (pg_name (i := 5) sc_Loading_fewer.nd rfl (Or.inl rfl)) (pss_cons (ps_asg (pe_op op_sub (pe_ix (ix_lk K) (pv 4) (pv 5) (fun _ _ => rfl)) (pv 3)) (pg_sub (pv 4) (pv 5) set_list))
  pss_nil))
  (pss_cons (ps_ret (pv 4))
  pss_nil))), ?_⟩
  walk_at "rg"
  refine e_copy (SqL.of hla) fun D H1 s1 nD hD => ?_
  have hp1 := s1 _ _ hp
  walk_at "rg"
  refine e_ixL (SqL.of (s1 _ _ hx)) (atI_nat hvk) ?_
  refine r_list (SqL.of (s1 _ _ htc)) (lp_of (walk_list (xs := ts.map V.int)) ?_)
  refine ⟨fun i σ H2 => ∃ y5, σ = [some (.ref p), some (.ref la), some (.int (k : Nat)), some (.int size), some (.ref D), y5] ∧ Same H H2 ∧ H2 D = some (.lst ((addT (ts.take i) (-size) as).map V.int)),
    ⟨none, rfl, s1, hD⟩, fun i σ H2 _ ⟨_, _, s2, _⟩ => SqL.of (s2 _ _ htc), ?_, ?_⟩
  · rintro i x σ _ H2 hi ⟨y5, rfl, s2, hD2⟩ ⟨rfl, hxi⟩
    obtain ⟨t, ht', rfl⟩ := ints_at hxi
    obtain ⟨t0, t1⟩ := xok.2 t (List.mem_of_getElem? ht')
    have hp2 := s2 _ _ hp
    have lt' : t < (addT (ts.take i) (-size) as).length := by rw [addT_len]; omega
    walk_at "rg"
    refine e_ixL (SqL.of hD2) (getD_at t0 lt') ?_
    walk_at "rg"
    refine e_setL (j := t.toNat) hD2 (ixN_int t0 (by rw [List.length_map]; exact lt')) ?_
    walk_at "rg"
    refine ⟨_, rfl, sm_mut s2 nD, ?_⟩
    rw [upd_same, map_setI, addT_succ ht', Int.sub_eq_add_neg]
  · rintro σ H2 ⟨y5, rfl, s2, hD2⟩
    rw [List.length_map, addT_all] at hD2
    walk_at "rg"
    refine q D H2 _ s2 nD hD2 (by rw [addT_len, hlen]) fun y hy => ?_
    have := addT_bd ts as B hB y hy
    rw [Int.natAbs_neg] at this
    have l64 := Nat.mul_le_mul_right size.natAbs xok.1
    omega
def spAcross (K : Fg) (A : Ad) : Sp := fun vs H Q _ => ∃ v r d, vs = [v] ∧ Lo K A r H v d ∧ LdOk r d ∧ Good r ∧
  ∀ (p : Addr) (H' : Hp) (as : List Int), Same H H' → H' p = some (.lst (as.map V.int)) → as.length = d.cs.length → (∀ y ∈ as, y.natAbs ≤ 5 * (64 * 2 ^ 600)) → Q (.ref p) H'
theorem ok_Loading_across (T : Txt K mg A) : MCal P w K mg base 2 A.CL "across" pr_Loading_across (spAcross K A) := by
  obtain ⟨f, fd, F, hb, hM⟩ := T.d_Loading_across
  refine ⟨f, fd, F.ok sc_Loading_across (fun vs H Q E h => ?_) (fun cdv A' outer s H vs Q E hr h => ?_), hb, hM⟩
  · obtain ⟨v, r, d, rfl, _⟩ := h; rfl
  obtain ⟨v, r, d, rfl, hLo, hok, hG, q⟩ := h
  have cl := T.clLoading
  have a1 := T.aL_sizes
  have a3 := T.aL_cuts
  have m5 := hG.m5
  obtain ⟨p, dx, sa, ca, ta, xa, cv, tv, xv, rfl, hp, hs, hc', alc, ht, alt, hx, alx⟩ := lo_get hLo
  have lcv := alc.len
  have cs64 := hok.cuts.2
  have lns := hok.sz.len
  refine ⟨_, (pss_cons (ps_setLc (i := 1) (own := [("cut", 4)]) (g := (gName 4)) (tt := tYes) rfl sc_Loading_across.nd rfl rfl (sw_true rfl rfl rfl (by decide +kernel)) (pi_lk K (pe_fk K (pv 0))) (blkOk_by (N := nm_Loading_across) (sc := defScope st_Loading_across) (by decide +kernel)) (fun _ _ _ _ _ => (pg_name (i := 4) sc_Loading_across.nd rfl (Or.inl rfl))) (fun _ _ _ _ _ => pts_nil) (fun _ _ _ _ _ => pe_int))
  (pss_cons (ps_for PassesOwn.never rfl (pi_ek K T.n_enumerate (pa_cons (pe_fk K (pv 0)) pa_nil)) (pg_tk K 2 (pgs_cons (pg_name (i := 2) sc_Loading_across.nd rfl (Or.inl rfl)) (pgs_cons (pg_name (i := 3) sc_Loading_across.nd rfl (Or.inl rfl)) pgs_nil))) (pss_cons (ps_set (i := 1) sc_Loading_across.nd rfl (Or.inl rfl) (pe_m (ok_Loading_fewer T) T.clLoading (hr.mono (by decide)) (pv 0) (pa_cons (pv 1) (pa_cons (pv 2) (pa_cons (pe_op op_sub pe_int (pv 3)) pa_nil)))))
  pss_nil))
  (pss_cons (ps_ret (pv 1))
  pss_nil))), ?_⟩
  walk_at "rg"
  refine r_list (SqL.of hc') (cp_of (walk_list (xs := cv)) (cb_map In (fun _ => 0) (by omega) (fun H1 s1 => SqL.of (s1 _ _ hc')) ?_ ?_))
  · rintro i x _ H1 Pq Z hi s1 ⟨rfl, hx⟩ kk
    walk_at "rg"
    refine ⟨rfl, ?_⟩
    walk_at "rg"
    exact kk _ _ (Same.refl _) rfl
  · intro D acc H1 hD s1 hacc al
    rw [al_ints al] at hacc
    have hp1 := s1 _ _ hp
    walk_at "rg"
    refine r_enum (SqL.of (s1 _ _ hs)) (lp_of (walk_enum (xs := d.ns.map V.int)) ?_)
    refine ⟨fun k σ H2 => ∃ (fa : Addr) (as : List Int) (y2 y3 y4 : Option V), σ = [some (.ref p), some (.ref fa), y2, y3, y4] ∧ Same H H2 ∧ H2 fa = some (.lst (as.map V.int)) ∧ as.length = d.cs.length ∧ ∀ y ∈ as, y.natAbs ≤ k * (64 * 2 ^ 600),
      ⟨D, _, none, none, none, rfl, s1, hacc, by simp [lcv], fun y hy => ?_⟩, fun k σ H2 _ ⟨_, _, _, _, _, _, s2, _⟩ => SqL.of (s2 _ _ hs), ?_, ?_⟩
    · obtain ⟨_, _, rfl⟩ := List.mem_map.mp hy
      exact Nat.zero_le _
    · rintro k x σ H2 H3 hk ⟨fa, as, y2, y3, y4, rfl, s2, hfa, las, hB⟩ y
      obtain ⟨T', x1, x2, rfl, g1, g2, s3, nT, hT⟩ := yget y
      obtain rfl : V.int (k : Nat) = x1 := Option.some.inj g1
      obtain ⟨z, hz, rfl⟩ := ints_at g2
      have tT := SqT.of (K := K) hT
      have hp3 := (s2.trans s3) _ _ hp
      have hzb := (hok.sz.bd z (List.mem_of_getElem? hz)).2
      walk_at "rg"
      rw [List.length_map] at hk
      refine ⟨_, r, d, _, as, k, _, _, rfl, mv (s2.trans s3) hLo, hok, li_of (s3 _ _ hfa), las, by omega, hB, fun p4 H4 as' s4 np4 h4 l4 b4 => ?_⟩
      walk_at "rg"
      refine ⟨p4, as', _, _, _, rfl, s2.trans (s3.trans s4), h4, l4, fun y hy => ?_⟩
      have := b4 y hy
      have e : (0 - z).natAbs = z.natAbs := by omega
      rw [e] at this
      rw [Nat.succ_mul]
      omega
    · rintro σ H2 ⟨fa, as, y2, y3, y4, rfl, s2, hfa, las, hB⟩
      rw [List.length_map] at hB
      walk_at "rg"
      refine q fa H2 as s2 hfa las fun y hy => Nat.le_trans (hB y hy) (Nat.mul_le_mul_right _ (by omega))
end
section
variable {P : Program} {w : World} {K : Fg} {mg : Str → Option Value} {base : Heap} {A : Ad}
/-- a wish: the top, strict, no elder ways, none turned -/
def Wi (K : Fg) (m : Nat) : Rp Rat := fun H v q => ∃ a f n, v = .ref a ∧ SqT K H a [f, .bl true, .ref n, .int 0] ∧ Fr K H f q ∧ H n = some (.lst (List.replicate m .non))
instance {m : Nat} : Mo (Wi K m) := ⟨fun s ⟨a, f, n, e, h, r, q⟩ => ⟨a, f, n, e, sm_t s h, mv s r, s _ _ q⟩⟩
instance {m : Nat} : Hi (Wi K m) := ⟨fun h ⟨a, f, n, e, q, r, s⟩ => ⟨a, f, n, e, hi_t h q, Hi.hi h r, by rw [hid_ne (ne_of s h (by intro z; cases z))]; exact s⟩⟩
def Lm (K : Fg) : Rp (Int × Int) := fun H v c => ∃ a, v = .ref a ∧ SqT K H a [.int c.1, .int c.2]
instance : Mo (Lm K) := ⟨fun s ⟨a, e, h⟩ => ⟨a, e, sm_t s h⟩⟩
instance : Hd (Lm K) := ⟨fun h ⟨a, e, q⟩ => ⟨a, e, hd_t h q⟩⟩
def SeF (rv wv lv mv : V) : List (Str × V) := [("whole_ring", rv), ("wish", wv), ("loading", lv), ("limits", mv)]
def LimOk (l : List (Int × Int)) : Prop := ∀ c ∈ l, c.1.natAbs < 2 ^ 1200 ∧ c.2.natAbs < 2 ^ 1200
def So (K : Fg) (A : Ad) (r : Ring) (q : Rat) (d : LD) : Rp (List (Int × Int)) := fun H v lims => ∃ p dx rv wv lv mv, v = .ref p ∧ H p = some (.ins A.CS dx (SeF rv wv lv mv)) ∧ Rn K H rv r ∧ Wi K r.asks.length H wv q ∧ Lo K A r H lv d ∧ Ls (Lm K) H mv lims
instance {r : Ring} {q : Rat} {d : LD} : Mo (So K A r q d) := ⟨fun s ⟨p, dx, rv, wv, lv, m, e, h, h1, h2, h3, h4⟩ => ⟨p, dx, rv, wv, lv, m, e, s _ _ h, mv s h1, mv s h2, mv s h3, mv s h4⟩⟩
theorem lo_hi {r : Ring} {H : Hp} {v : V} {d : LD} {p C dx : Addr} {fs : List (Str × V)} (h : H p = some (.ins C dx fs)) (hl : fs.length ≠ 5) (k : Lo K A r H v d) : Lo K A r (hid p H) v d := by
  obtain ⟨p', dx', s, c, t, x, e, h0, h1, h2, h3, h4⟩ := k
  refine ⟨p', dx', s, c, t, x, e, ?_, Hi.hi h h1, Hi.hi h h2, Hi.hi h h3, Hi.hi h h4⟩
  rw [hid_ne (ne_of h0 h (fun z => hl ?_))]
  · exact h0
  · injection z with _ _ z3
    rw [← z3]; rfl
theorem sm_made {H : Hp} {x dx C : Addr} (nx : H x = none) (nd : H dx = none) : Same H (upd (upd H dx (.own x)) x (.ins C dx [])) := fun b o e => by
  rw [upd_ne (ne_of_none e nx), upd_ne (ne_of_none e nd)]
  exact e
def NonR : Rp Unit := fun _ v _ => v = .non
instance : Mo NonR := ⟨fun _ h => h⟩
instance : Hd NonR := ⟨fun _ h => h⟩
def spWish (K : Fg) : Sp := fun vs H Q _ => ∃ v r t q, vs = [v, t] ∧ Rn K H v r ∧ r.asks.length ≤ 5 ∧ Fr K H t q ∧ ∀ v' H', Same H H' → Wi K r.asks.length H' v' q → Q v' H'
theorem ok_wish_for_less (T : Txt K mg A) : Cal P w K mg base 1 "wish_for_less" pr_wish_for_less (spWish K) := by
  obtain ⟨f, fd, F, hm, hb⟩ := T.d_wish_for_less
  refine ⟨f, fd, F.ok sc_wish_for_less (fun vs H Q E h => ?_) (fun cdv A' outer s H vs Q E hr h => ?_), hm, F.kp, hb⟩
  · obtain ⟨v, r, t, q, rfl, _⟩ := h; rfl
  obtain ⟨v, r, t, q, rfl, hR, m5, hq, k⟩ := h
  obtain ⟨p, ra, aa, rv, av, rfl, tp, hra, alr, haa, ala⟩ := rn_get hR
  have lav := ala.len
  refine ⟨_, (pss_cons (ps_ret (pe_tup (pa_cons (pv 1) (pa_cons pe_bl (pa_cons (pe_lc (own := [("ask", 2)]) (g := (gName 2)) (tt := tYes) rfl sc_wish_for_less.nd (pi_lk K (pe_ix (ix_tk K) (pv 0) pe_int (fun _ _ => rfl))) (blkOk_by (N := nm_wish_for_less) (sc := defScope st_wish_for_less) (by decide +kernel)) (fun _ _ _ _ _ => (pg_name (i := 2) sc_wish_for_less.nd rfl (Or.inl rfl))) (fun _ _ _ _ _ => pts_nil) (fun _ _ _ _ _ => pe_non)) (pa_cons pe_int pa_nil))))))
  pss_nil), ?_⟩
  walk_at "rg"
  refine r_list (SqL.of haa) (cp_of (walk_list (xs := av)) (cb_map NonR (fun _ => ()) (by omega) (fun H1 s1 => SqL.of (s1 _ _ haa)) ?_ ?_))
  · rintro i x _ H1 Pq Z hi s1 ⟨rfl, hx⟩ kk
    walk_at "rg"
    refine ⟨rfl, ?_⟩
    walk_at "rg"
    exact kk _ _ (Same.refl _) rfl
  · intro D acc H1 hD s1 hacc al
    have e : acc = List.replicate r.asks.length V.non := by
      have l := al.len
      rw [List.length_map, List.length_range, lav] at l
      rw [← l]
      exact List.eq_replicate_of_mem fun b hb => by
        obtain ⟨i, hi⟩ := List.getElem?_of_mem hb
        obtain ⟨_, _, e⟩ := al.at' hi
        exact e
    rw [e] at hacc
    walk_at "rg"
    refine e_nwT rfl fun p3 H3 s3 np hp => ?_
    exact k _ H3 (s1.trans s3) ⟨p3, t, D, rfl, SqT.of hp, mv (s1.trans s3) hq, s3 _ _ hacc⟩
def spSInit (K : Fg) (A : Ad) : Sp := fun vs H Q _ => ∃ G p dx rv wv r q, vs = [.ref p, rv, wv] ∧ H p = some (.ins A.CS dx []) ∧ G p = none ∧ Same G H ∧ Rn K G rv r ∧ Good r ∧ Wi K r.asks.length G wv q ∧ Bd 500 q ∧
  ∀ H' d lims, Same G H' → So K A r q d H' (.ref p) lims → LdOk r d → LimOk lims → lims.length = d.cs.length → Q .non H'
theorem ok_Search_init (T : Txt K mg A) : NCal P w K mg base 6 A.CS "Search" pr_Search_init (spSInit K A) := by
  obtain ⟨f, fd, F, hb, hM, hm⟩ := T.d_Search_init
  refine ⟨f, fd, F.ok sc_Search_init (fun vs H Q E h => ?_) (fun cdv A' outer s H vs Q E hr h => ?_), hb, hM, hm⟩
  · obtain ⟨G, p, dx, rv, wv, r, q, rfl, _⟩ := h; rfl
  obtain ⟨G, p, dx, rv, wv, r, q, rfl, hp, hGp, sG, hR, hG, hW, bq, k⟩ := h
  have cl := T.clSearch
  have cl2 := T.clLoading
  have a1 := T.aS_ring
  have a2 := T.aS_wish
  have a3 := T.aS_loading
  have a4 := T.aS_limits
  have b2 := T.aL_bottom
  have b3 := T.aL_cuts
  obtain ⟨pr, ra, aa, rl, al, rfl, tp, hra, alr, haa, ala⟩ := rn_get hR
  obtain ⟨wa, wf, wn, rfl, tw, fw, hwn⟩ := id hW
  refine ⟨_, (pss_cons (ps_fk K (pv 0) (pv 1))
  (pss_cons (ps_fk K (pv 0) (pv 2))
  (pss_cons (ps_fk K (pv 0) (pe_n (ok_Loading_init T) (hr.mono (by decide)) (pa_cons (pv 1) pa_nil)))
  (pss_cons (ps_fk K (pv 0) (pe_lst pa_nil))
  (pss_cons (ps_for PassesOwn.never rfl (pi_lk K (pe_fk K (pe_fk K (pv 0)))) (pg_tk K 2 (pgs_cons (pg_name (i := 3) sc_Search_init.nd rfl (Or.inl rfl)) (pgs_cons (pg_name (i := 4) sc_Search_init.nd rfl (Or.inl rfl)) pgs_nil))) (pss_cons (ps_asg (pe_c (ok_times T) (hr.mono (by decide)) (pa_cons (pe_ix (ix_tk K) (pv 2) pe_int (fun _ _ => rfl)) (pa_cons (pe_c (ok_plus T) (hr.mono (by decide)) (pa_cons (pe_ix (ix_lk K) (pe_ix (ix_tk K) (pv 1) pe_int (fun _ _ => rfl)) (pv 3) (fun _ _ => rfl)) (pa_cons (pe_ix (ix_lk K) (pe_ix (ix_tk K) (pv 1) pe_int (fun _ _ => rfl)) (pv 4) (fun _ _ => rfl)) pa_nil))) pa_nil))) (pg_tk K 2 (pgs_cons (pg_name (i := 5) sc_Search_init.nd rfl (Or.inl rfl)) (pgs_cons (pg_name (i := 6) sc_Search_init.nd rfl (Or.inl rfl)) pgs_nil))))
  (pss_cons (ps_expr (pe_bm PySem.F.plainAttrs_list PySem.F.slot_list_append PySem.F.type_list_append mt_append (pe_fk K (pv 0)) (pa_cons (pe_tup (pa_cons (pe_op op_mulW (pv 5) (pe_fk K (pe_fk K (pv 0)))) (pa_cons (pv 6) pa_nil))) pa_nil)))
  pss_nil)))
  pss_nil))))), ?_⟩
  walk_at "rg"
  refine e_fldS upd_same cl a2 (Nat.le_of_ble_eq_true rfl) ?_
  obtain ⟨H2, e2, i2, v2⟩ : ∃ H2, upd (upd H p (.ins A.CS dx (putF "whole_ring" (.ref pr) []))) p (.ins A.CS dx (putF "wish" (.ref wa) (putF "whole_ring" (.ref pr) []))) = H2 ∧
      H2 p = some (.ins A.CS dx [("whole_ring", .ref pr), ("wish", .ref wa)]) ∧ hid p H2 = hid p H := ⟨_, rfl, upd_same, by rw [hid_upd, hid_upd]⟩
  rw [e2]
  clear e2
  have sG2 : Same G H2 := (v2 ▸ hid_same hGp sG : Same G (hid p H2)).trans hid_sm
  walk_at "rg"
  intro x xd nx nxd nex
  refine ⟨H2, x, xd, .ref pr, r, rfl, upd_same, nx, sm_made nx nxd, mv sG2 hR, hG, fun H3 d s3 hLo hok => ⟨rfl, ?_⟩⟩
  have i3 := s3 _ _ i2
  walk_at "rg"
  obtain ⟨H4, e4, i4, v4⟩ : ∃ H4, upd H3 p (.ins A.CS dx (putF "loading" (.ref x) [("whole_ring", .ref pr), ("wish", .ref wa)])) = H4 ∧
      H4 p = some (.ins A.CS dx [("whole_ring", .ref pr), ("wish", .ref wa), ("loading", .ref x)]) ∧ hid p H4 = hid p H3 := ⟨_, rfl, upd_same, by rw [hid_upd]⟩
  rw [e4]
  clear e4
  have sG4 : Same G (hid p H4) := v4 ▸ hid_same hGp (sG2.trans s3)
  have lo4 : Lo K A r (hid p H4) (.ref x) d := v4 ▸ lo_hi i3 (by show 2 ≠ 5; decide) hLo
  clear v4 v2 i3
  refine e_nwL rfl fun M H5 s5 nM hM5 => ?_
  have i5 := s5 _ _ i4
  walk_at "rg"
  obtain ⟨H6, e6, i6, v6⟩ : ∃ H6, upd H5 p (.ins A.CS dx (putF "limits" (.ref M) [("whole_ring", .ref pr), ("wish", .ref wa), ("loading", .ref x)])) = H6 ∧
      H6 p = some (.ins A.CS dx (SeF (.ref pr) (.ref wa) (.ref x) (.ref M))) ∧ hid p H6 = hid p H5 := ⟨_, rfl, upd_same, by rw [hid_upd]⟩
  have hM6 : H6 M = some (.lst []) := by rw [← e6, upd_ne (ne_of hM5 i5 (by intro z; cases z))]; exact hM5
  rw [e6]
  clear e6
  have sb6 : Same (hid p H4) H6 := (v6 ▸ hid_mono s5 : Same (hid p H4) (hid p H6)).trans hid_sm
  have nbM : hid p H4 M = none := by
    by_cases e : M = p
    · rw [e, hid_at]
    · rw [hid_ne e]; exact nM
  generalize hGb : hid p H4 = Gb at *
  clear v6 i5 hM5 hGb nM s5
  obtain ⟨px, dxl, sa, ca, ta, xa, cv, tv, xv, ex, hpx, hs, hc', alc, ht, alt, hx, alx⟩ := lo_get lo4
  obtain rfl : x = px := V.ref.inj ex
  have lcv := alc.len
  have cs64 := hok.cuts.2
  have hpx6 := sb6 _ _ hpx
  walk_at "rg"
  refine r_list (SqL.of (sb6 _ _ hc')) (lp_of (walk_list (xs := cv)) ?_)
  refine ⟨fun i σ Hk => ∃ acc lims y3 y4 y5 y6, σ = [some (.ref p), some (.ref pr), some (.ref wa), y3, y4, y5, y6] ∧ Same Gb Hk ∧ Hk p = some (.ins A.CS dx (SeF (.ref pr) (.ref wa) (.ref x) (.ref M))) ∧ Hk M = some (.lst acc) ∧
      Al (Lm K (hid M Hk)) acc lims ∧ LimOk lims ∧ lims.length = i,
    ⟨[], [], none, none, none, none, rfl, sb6, i6, hM6, .nil, (fun c hc => by simp at hc), rfl⟩, fun i σ Hk _ ⟨_, _, _, _, _, _, _, s, _⟩ => SqL.of (s _ _ hc'), ?_, ?_⟩
  · rintro i xx σ _ Hk hi ⟨acc, lims, y3, y4, y5, y6, rfl, sk, ik, hMk, alm, lok, llen⟩ ⟨rfl, hxx⟩
    obtain ⟨c, hc, cr, rfl, tcr⟩ := alc.at' hxx
    obtain ⟨cb1, cb2⟩ := hok.cuts.1 c (List.mem_of_getElem? hc)
    have tc := sm_t sk tcr
    have tpk := sm_t (sG4.trans sk) tp
    have twk := sm_t (sG4.trans sk) tw
    have hxk := sk _ _ hpx
    have lacc := alm.len
    obtain ⟨v1, g1, f1⟩ := alr.at (room_at cb1)
    obtain ⟨v2, g2, f2⟩ := alr.at (room_at cb2)
    have hrk := (sG4.trans sk) _ _ hra
    have rb1 := room_bd hG cb1
    have rb2 := room_bd hG cb2
    walk_at "rg"
    refine e_ixL (SqL.of hrk) (atI_nat g1) ?_
    walk_at "rg"
    refine e_ixL (SqL.of hrk) (atI_nat g2) ?_
    walk_at "rg"
    refine ⟨_, _, _, _, rfl, mv (sG4.trans sk) f1, mv (sG4.trans sk) f2, ⟨rb1.2.mono (by decide), rb2.2.mono (by decide)⟩, fun v7 H7 s7 fr7 => ?_⟩
    have b7 := rb1.2.add rb2.2
    walk_at "rg"
    refine ⟨_, _, _, _, rfl, mv ((sG4.trans sk).trans s7) fw, fr7, ⟨bq.mono (by decide), b7.mono (by decide)⟩, fun v8 H8 s8 fr8 => ?_⟩
    have b8 := bq.mul b7
    obtain ⟨fa, rfl, tf8⟩ := fr8
    have i8 := s8 _ _ (s7 _ _ ik)
    have hx8 := s8 _ _ (s7 _ _ hxk)
    have hM8 := s8 _ _ (s7 _ _ hMk)
    have n8 := b8.natAbs
    have d8 := b8.bot
    have W8 := hok.sz.wl
    walk_at "rg"
    refine e_I (wide_mul (a := 621) (b := 500) (Nat.lt_of_lt_of_le n8 (Nat.pow_le_pow_right (by decide) (by decide))) (by rw [Int.natAbs_natCast]; exact W8) (by decide) (by decide) (by decide)) ?_
    walk_at "rg"
    refine e_nwT rfl fun p9 H9 s9 np9 hp9 => ?_
    have hM9 := s9 _ _ hM8
    walk_at "rg"
    refine e_app hM9 (szLt (by omega)) ?_
    walk_at "rg"
    have s79 := s7.trans (s8.trans s9)
    refine ⟨_, lims ++ [((q * (room r c.1 + room r c.2)).num * (d.W : Nat), (((q * (room r c.1 + room r c.2)).den : Nat) : Int))], _, _, _, _, rfl, sm_mut (sk.trans s79) nbM, ?_, upd_same, ?_, ?_, ?_⟩
    · rw [upd_ne (ne_of (s9 _ _ i8) hM9 (by intro z; cases z))]; exact s9 _ _ i8
    · rw [hid_upd]
      exact (alm.mv (hid_mono s79)).app (.one (Hd.hd hM9 ⟨p9, rfl, SqT.of hp9⟩))
    · intro c' hc'
      rcases List.mem_append.mp hc' with h | h
      · exact lok c' h
      · rw [List.mem_singleton.mp h]
        refine ⟨?_, ?_⟩
        · show ((q * (room r c.1 + room r c.2)).num * (d.W : Nat) : Int).natAbs < _
          exact Nat.lt_of_lt_of_le (wide_lt n8 (by rw [Int.natAbs_natCast]; exact W8)) (Nat.pow_le_pow_right (by decide) (by decide))
        · show (((q * (room r c.1 + room r c.2)).den : Nat) : Int).natAbs < _
          rw [Int.natAbs_natCast]
          exact Nat.lt_of_lt_of_le d8 (Nat.pow_le_pow_right (by decide) (by decide))
    · rw [List.length_append, llen]; rfl
  · rintro σ Hk ⟨acc, lims, y3, y4, y5, y6, rfl, sk, ik, hMk, alm, lok, llen⟩
    walk_at "rg"
    exact k Hk d lims (sG4.trans sk) ⟨p, dx, _, _, _, _, rfl, ik, mv (sG4.trans sk) hR, mv (sG4.trans sk) hW, mv sk lo4, ⟨M, acc, rfl, hMk, alm.mv hid_sm⟩⟩ hok lok (by rw [llen, lcv])
end
section
variable {P : Program} {w : World} {K : Fg} {mg : Str → Option Value} {base : Heap} {A : Ad}
theorem li_at {ls : List Int} {j : Nat} (h : j < ls.length) : ∃ z, ls[j]? = some z ∧ atI (ls.map V.int) (j : Int) = some (.int z) :=
  ⟨ls[j], List.getElem?_eq_getElem h, atI_nat (by rw [List.getElem?_map, List.getElem?_eq_getElem h]; rfl)⟩
/-- what stands in a search -/
structure SoGet (K : Fg) (A : Ad) (r : Ring) (q : Rat) (d : LD) (H : Hp) (v : V) (lims : List (Int × Int)) (p dx pr ra aa wa wn lo la : Addr) (rl al ll : List V) (wf : V) : Prop where
  ev : v = .ref p
  hp : H p = some (.ins A.CS dx (SeF (.ref pr) (.ref wa) (.ref lo) (.ref la)))
  tp : SqT K H pr [.ref ra, .ref aa]
  hra : H ra = some (.lst rl)
  alr : Al (Fr K H) rl r.rooms
  haa : H aa = some (.lst al)
  ala : Al (Ak K H) al r.asks
  tw : SqT K H wa [wf, .bl true, .ref wn, .int 0]
  hwn : H wn = some (.lst (List.replicate r.asks.length .non))
  hLo : Lo K A r H (.ref lo) d
  hla : H la = some (.lst ll)
  all : Al (Lm K H) ll lims
theorem so_get {r : Ring} {q : Rat} {d : LD} {H : Hp} {v : V} {lims : List (Int × Int)} (h : So K A r q d H v lims) : ∃ p dx pr ra aa wa wn lo la rl al ll wf, SoGet K A r q d H v lims p dx pr ra aa wa wn lo la rl al ll wf := by
  obtain ⟨p, dx, rv, wv, lv, mv', e, hp, h1, ⟨wa, wf, wn, rfl, tw, fw, hwn⟩, h3, ⟨la, ll, rfl, h4, h5⟩⟩ := h
  obtain ⟨pr, ra, aa, rl, al, rfl, tp, hra, alr, haa, ala⟩ := rn_get h1
  obtain ⟨lo, _, _, _, _, _, rfl, _⟩ := id h3
  exact ⟨p, dx, pr, ra, aa, wa, wn, lo, la, rl, al, ll, wf, ⟨e, hp, tp, hra, alr, haa, ala, tw, hwn, h3, h4, h5⟩⟩
def spShown (K : Fg) (A : Ad) : Sp := fun vs H Q _ => ∃ v r q d lims lv ls av as, vs = [v, lv, av] ∧ So K A r q d H v lims ∧ LdOk r d ∧ LimOk lims ∧ lims.length = d.cs.length ∧ Li H lv ls ∧ ls.length = r.rooms.length ∧ (∀ y ∈ ls, y.natAbs < 2 ^ 700) ∧
  Li H av as ∧ as.length = d.cs.length ∧ (∀ y ∈ as, y.natAbs < 2 ^ 700) ∧ ∀ v' H', Same H H' → Q v' H'
theorem ok_Search_shown (T : Txt K mg A) : MCal P w K mg base 1 A.CS "shown" pr_Search_shown (spShown K A) := by
  obtain ⟨f, fd, F, hb, hM⟩ := T.d_Search_shown
  refine ⟨f, fd, F.ok sc_Search_shown (fun vs H Q E h => ?_) (fun cdv A' outer s H vs Q E hr h => ?_), hb, hM⟩
  · obtain ⟨v, r, q, d, lims, lv, ls, av, as, rfl, _⟩ := h; rfl
  obtain ⟨v, r, q, d, lims, lv, ls, av, as, rfl, hSo, hok, lok, llen, hls, lls, bls, has, las, bas, k⟩ := h
  have cl := T.clSearch
  have cl2 := T.clLoading
  have a2 := T.aS_wish
  have a3 := T.aS_loading
  have a4 := T.aS_limits
  have b3 := T.aL_cuts
  obtain ⟨p, dx, pr, ra, aa, wa, wn, lo, la, rl, al, ll, wf, rfl, hp, tp, hra, alr, haa, ala, tw, hwn, hLo, hla, all⟩ := so_get hSo
  obtain ⟨px, dxl, sa, ca, ta, xa, cv, tv, xv, ex, hpx, hs, hc', alc, ht, alt, hx, alx⟩ := lo_get hLo
  obtain rfl : lo = px := V.ref.inj ex
  obtain ⟨ea, rfl, hea⟩ := li_to hls
  obtain ⟨ua, rfl, hua⟩ := li_to has
  have lcv := alc.len
  refine ⟨_, (pss_cons (ps_for PassesOwn.never rfl (pi_ek K T.n_enumerate (pa_cons (pe_fk K (pe_fk K (pv 0))) pa_nil)) (pg_tk K 2 (pgs_cons (pg_name (i := 3) sc_Search_shown.nd rfl (Or.inl rfl)) (pgs_cons (pg_tk K 2 (pgs_cons (pg_name (i := 4) sc_Search_shown.nd rfl (Or.inl rfl)) (pgs_cons (pg_name (i := 5) sc_Search_shown.nd rfl (Or.inl rfl)) pgs_nil))) pgs_nil))) (pss_cons (ps_set (i := 6) sc_Search_shown.nd rfl (Or.inl rfl) (pe_op op_mulW (pe_op op_add (pe_op op_add (pe_ix (ix_lk K) (pv 1) (pv 4) (fun _ _ => rfl)) (pe_ix (ix_lk K) (pv 1) (pv 5) (fun _ _ => rfl))) (pe_ix (ix_lk K) (pv 2) (pv 3) (fun _ _ => rfl))) (pe_ix (ix_tk K) (pe_ix (ix_lk K) (pe_fk K (pv 0)) (pv 3) (fun _ _ => rfl)) pe_int (fun _ _ => rfl))))
  (pss_cons (ps_if (PW.pt (pw_or (pt_cmpR op_gt (pv 6) (pe_ix (ix_tk K) (pe_ix (ix_lk K) (pe_fk K (pv 0)) (pv 3) (fun _ _ => rfl)) pe_int (fun _ _ => rfl)) (nomark _)) (pw_or1 (PW.pt (pw_and (pt_val (pe_ix (ix_tk K) (pe_fk K (pv 0)) pe_int (fun _ _ => rfl))) (pw_and1 (pt_cmpR op_eq (pv 6) (pe_ix (ix_tk K) (pe_ix (ix_lk K) (pe_fk K (pv 0)) (pv 3) (fun _ _ => rfl)) pe_int (fun _ _ => rfl)) (nomark _)))))))) (pss_cons (ps_ret (pe_tup (pa_cons pe_str (pa_cons (pv 4) (pa_cons (pv 5) pa_nil)))))
  pss_nil) pss_nil)
  pss_nil)))
  (pss_cons (ps_ret pe_non)
  pss_nil)), ?_⟩
  walk_at "rg"
  refine r_enum (SqL.of hc') (lp_of (walk_enum (xs := cv)) ?_)
  refine ⟨fun i σ Hk => ∃ y3 y4 y5 y6, σ = [some (.ref p), some (.ref ea), some (.ref ua), y3, y4, y5, y6] ∧ Same H Hk, ⟨none, none, none, none, rfl, Same.refl _⟩, fun i σ Hk _ ⟨_, _, _, _, _, s⟩ => SqL.of (s _ _ hc'), ?_, ?_⟩
  · rintro i xx σ Hk H2 hi ⟨y3, y4, y5, y6, rfl, sk⟩ y
    obtain ⟨T', x1, x2, rfl, g1, g2, s3, nT, hT⟩ := yget y
    obtain rfl : V.int (i : Nat) = x1 := Option.some.inj g1
    obtain ⟨c, hc, cr, rfl, tcr⟩ := alc.at' g2
    obtain ⟨cb1, cb2⟩ := hok.cuts.1 c (List.mem_of_getElem? hc)
    have s2 := sk.trans s3
    have tT := SqT.of (K := K) hT
    have tc2 := sm_t s2 tcr
    have hp2 := s2 _ _ hp
    have tw2 := sm_t s2 tw
    obtain ⟨z1, e1, i1⟩ := li_at (j := c.1) (by rw [lls]; exact cb1)
    obtain ⟨z2, e2, i2⟩ := li_at (j := c.2) (by rw [lls]; exact cb2)
    obtain ⟨z3, e3, i3⟩ := li_at (ls := as) (j := i) (by omega)
    obtain ⟨lm, hlm⟩ : ∃ lm, lims[i]? = some lm := ⟨_, List.getElem?_eq_getElem (by omega)⟩
    obtain ⟨lb1, lb2⟩ := lok lm (List.mem_of_getElem? hlm)
    obtain ⟨lv, hlv, lr, rfl, tlr⟩ := all.at hlm
    have tl2 := sm_t s2 tlr
    have bz1 := bls _ (List.mem_of_getElem? e1)
    have bz2 := bls _ (List.mem_of_getElem? e2)
    have bz3 := bas _ (List.mem_of_getElem? e3)
    have hpx2 := s2 _ _ hpx
    walk_at "rg"
    refine e_ixL (SqL.of (s2 _ _ hea)) i1 ?_
    walk_at "rg"
    refine e_ixL (SqL.of (s2 _ _ hea)) i2 ?_
    walk_at "rg"
    refine e_ixL (SqL.of (s2 _ _ hua)) i3 ?_
    walk_at "rg"
    refine e_ixL (SqL.of (s2 _ _ hla)) (atI_nat hlv) ?_
    walk_at "rg"
    have bs : (z1 + z2 + z3).natAbs < 2 ^ 702 := by
      have := natAbs_add (z1 + z2) z3
      have := natAbs_add z1 z2
      have e : (2 : Nat) ^ 702 = 2 ^ 700 * 4 := by rw [show (702 : Nat) = 700 + 2 by rfl, Nat.pow_add]
      omega
    refine e_I (wide_mul (a := 702) (b := 1200) bs lb2 (by decide) (by decide) (by decide)) ?_
    walk_at "rg"
    refine e_ixL (SqL.of (s2 _ _ hla)) (atI_nat hlv) ?_
    walk_at "rg"
    refine ite2 (fun _ => iteT ?_) (fun _ => ?_)
    · walk_at "rg"
      refine e_nwT rfl fun p4 H4 s4 np hp4 => ?_
      exact k _ _ (s2.trans s4)
    · walk_at "rg"
      refine iteT ?_
      walk_at "rg"
      refine e_ixL (SqL.of (s2 _ _ hla)) (atI_nat hlv) ?_
      walk_at "rg"
      refine ite2 (fun _ => ?_) (fun _ => ?_)
      · walk_at "rg"
        refine e_nwT rfl fun p4 H4 s4 np hp4 => ?_
        exact k _ _ (s2.trans s4)
      · walk_at "rg"
        exact ⟨_, _, _, _, rfl, s2⟩
  · rintro σ Hk ⟨y3, y4, y5, y6, rfl, sk⟩
    walk_at "rg"
    exact k _ _ sk
def spTM (K : Fg) (A : Ad) : Sp := fun vs H Q _ => ∃ v r q d lims wv ws, vs = [v, wv] ∧ So K A r q d H v lims ∧ Ls Wy H wv ws ∧ ws.length ≤ r.asks.length ∧ r.asks.length ≤ 5 ∧ ∀ b H', Same H H' → Q (.bl b) H'
theorem ok_Search_turned_more (T : Txt K mg A) : MCal P w K mg base 1 A.CS "turned_more" pr_Search_turned_more (spTM K A) := by
  obtain ⟨f, fd, F, hb, hM⟩ := T.d_Search_turned_more
  refine ⟨f, fd, F.ok sc_Search_turned_more (fun vs H Q E h => ?_) (fun cdv A' outer s H vs Q E hr h => ?_), hb, hM⟩
  · obtain ⟨v, r, q, d, lims, wv, ws, rfl, _⟩ := h; rfl
  obtain ⟨v, r, q, d, lims, wv, ws, rfl, hSo, ⟨wya, wyl, rfl, hwy, alw⟩, hle, m5, k⟩ := h
  have cl := T.clSearch
  have a2 := T.aS_wish
  obtain ⟨p, dx, pr, ra, aa, wa, wn, lo, la, rl, al, ll, wf, rfl, hp, tp, hra, alr, haa, ala, tw, hwn, hLo, hla, all⟩ := so_get hSo
  have lw := alw.len
  refine ⟨_, (pss_cons (ps_set (i := 2) sc_Search_turned_more.nd rfl (Or.inr rfl) (pe_ix (ix_tk K) (pe_fk K (pv 0)) pe_int (fun _ _ => rfl)))
  (pss_cons (ps_setLc (i := 3) (own := [("k", 4)]) (g := (gName 4)) rfl sc_Search_turned_more.nd rfl rfl (sw_true rfl rfl rfl (by decide +kernel)) (pi_range1 rfl T.n_range (pa_cons (pe_callB (c_lenk K) (by rfl) T.n_len PySem.boot_len (pa_cons (pv 1) pa_nil)) pa_nil)) (blkOk_by (N := nm_Search_turned_more) (sc := defScope st_Search_turned_more) (by decide +kernel)) (fun _ _ _ _ _ => (pg_name (i := 4) sc_Search_turned_more.nd rfl (Or.inl rfl))) (fun _ _ _ _ _ => (pts_one (PW.pt (pw_and (pt_cmpR o_notN (pe_ix (ix_lk K) (pv 2) (pv 4) (fun _ _ => rfl)) pe_non (nomark _)) (pw_and1 (pt_cmpR op_ne (pe_ix (ix_lk K) (pv 2) (pv 4) (fun _ _ => rfl)) (pe_ix (ix_lk K) (pv 1) (pv 4) (fun _ _ => rfl)) (nomark _))))))) (fun _ _ _ _ _ => (pv 4)))
  (pss_cons (ps_ret (pe_cmpR op_gt (pe_callB (c_lenk K) (by rfl) T.n_len PySem.boot_len (pa_cons (pv 3) pa_nil)) (pe_ix (ix_tk K) (pe_fk K (pv 0)) pe_int (fun _ _ => rfl)) (nomark _)))
  pss_nil))), ?_⟩
  walk_at "rg"
  refine r_rng1 (n := wyl.length) rfl (by omega) (cp_of walk_rg (cb_ints (fun _ => True) (by omega) (fun _ _ => trivial) ?_ ?_))
  · rintro i x _ H1 Pq Z hi s1 ⟨rfl, rfl⟩ k1 k2
    walk_at "rg"
    refine ⟨rfl, ?_⟩
    walk_at "rg"
    refine e_ixL (SqL.of (s1 _ _ hwn)) (atI_nat (j := i) (v := .non) (by rw [List.getElem?_replicate, if_pos (by omega)])) ?_
    walk_at "rg"
    rw [show (!decide (V.non = V.non)) = false from rfl]
    refine iteF (iteF (k2 _ (Same.refl _)))
  · intro D zs H1 hD s1 hzs lzs pz
    have hp1 := s1 _ _ hp
    have tw1 := sm_t s1 tw
    walk_at "rg"
    exact k _ _ s1
end
section
variable {P : Program} {w : World} {K : Fg} {mg : Str → Option Value} {base : Heap} {A : Ad}
def BL (j : Nat) (ls : List Int) : Prop := ∀ y ∈ ls, y.natAbs ≤ j * (64 * 2 ^ 600)
theorem BL.lt {j : Nat} {ls : List Int} (h : BL j ls) (hj : j ≤ 20) : ∀ y ∈ ls, y.natAbs < 2 ^ 700 := fun y hy => by
  have a := h y hy
  have b : j * (64 * 2 ^ 600) ≤ 20 * (64 * 2 ^ 600) := Nat.mul_le_mul_right _ hj
  have c : 20 * (64 * 2 ^ 600) < 2 ^ 700 := by decide +kernel
  omega
theorem BL.more {j : Nat} {ls : List Int} {ts : List Int} {z : Int} (h : BL j ls) (ht : ts.length ≤ 64) (hz : z.natAbs < 2 ^ 600) : BL (j + 1) (addT ts z ls) := fun y hy => by
  have a := addT_bd ts ls _ h y hy
  have b : ts.length * z.natAbs ≤ 64 * 2 ^ 600 := Nat.mul_le_mul ht (Nat.le_of_lt hz)
  rw [Nat.succ_mul]
  omega
def spFound (K : Fg) (A : Ad) (n : Nat) : Sp := fun vs H Q _ => ∃ v r q d lims wv ws lv ls av as, vs = [v, wv, lv, av] ∧ So K A r q d H v lims ∧ Good r ∧ LdOk r d ∧ LimOk lims ∧ lims.length = d.cs.length ∧ Ls Wy H wv ws ∧ r.asks.length + 1 ≤ ws.length + n ∧ ws.length ≤ r.asks.length ∧
  Li H lv ls ∧ ls.length = r.rooms.length ∧ BL ws.length ls ∧ Li H av as ∧ as.length = d.cs.length ∧ BL (5 + ws.length) as ∧ ∀ p s x H', Same H H' → SqT K H' p [.str s, x] → Q (.ref p) H'
theorem ties_len {n : Nat} (h2 : 2 ≤ n) (h8 : n ≤ 8) (one other : Nat) (b : Bool) : (tiesL n one other b).length ≤ 8 := by
  unfold tiesL
  have m1 := Int.emod_lt_of_pos ((other : Int) - (one : Nat)) (b := (n : Nat)) (by omega)
  have m2 := Int.emod_lt_of_pos ((one : Int) - (other : Nat)) (b := (n : Nat)) (by omega)
  split <;> rw [List.length_map, List.length_range] <;> omega
theorem ok_Search_found_n (T : Txt K mg A) : ∀ n : Nat, MCal P w K mg base (n + 2) A.CS "found" pr_Search_found (spFound K A n)
  | 0 => by
    obtain ⟨f, fd, F, hb, hM⟩ := T.d_Search_found
    have no : ∀ vs H Q E, ¬ spFound K A 0 vs H Q E := fun vs H Q E h => by
      obtain ⟨v, r, q, d, lims, wv, ws, lv, ls, av, as, _, _, _, _, _, _, _, h1, h2, _⟩ := h
      omega
    exact ⟨f, fd, ⟨fun vs H Q E h => absurd h (no vs H Q E), fun A outer s H args us vs Q E _ _ _ _ h => absurd h (no vs H Q E)⟩, hb, hM⟩
  | n + 1 => by
    have cM := ok_Search_found_n T n
    obtain ⟨f, fd, F, hb, hM⟩ := T.d_Search_found
    refine ⟨f, fd, F.ok sc_Search_found (fun vs H Q E h => ?_) (fun cdv A' outer s H vs Q E hr h => ?_), hb, hM⟩
    · obtain ⟨v, r, q, d, lims, wv, ws, lv, ls, av, as, rfl, _⟩ := h; rfl
    obtain ⟨v, r, q, d, lims, wv, ws, lv, ls, av, as, rfl, hSo, hG, hok, lok, llen, hws, hn, hle, hls, lls, bls, has, las, bas, k⟩ := h
    have hrM := hr
    have cl := T.clSearch
    have cl2 := T.clLoading
    have a1 := T.aS_ring
    have a3 := T.aS_loading
    have b1 := T.aL_sizes
    have m5 := hG.m5
    obtain ⟨p, dx, pr, ra, aa, wa, wn, lo, la, rl, al, ll, wf, rfl, hp, tp, hra, alr, haa, ala, tw, hwn, hLo, hla, all⟩ := so_get hSo
    obtain ⟨px, dxl, sa, ca, ta, xa, cv, tv, xv, ex, hpx, hs, hc', alc, ht, alt, hx, alx⟩ := lo_get hLo
    obtain rfl : lo = px := V.ref.inj ex
    obtain ⟨wya, wyl, rfl, hwy, alw⟩ := id hws
    have lw := alw.len
    have lal := ala.len
    have lns := hok.sz.len
    refine ⟨_, (pss_cons (ps_if (pt_val (pe_m (ok_Search_turned_more T) T.clSearch (hr.mono (by omega)) (pv 0) (pa_cons (pv 1) pa_nil))) (pss_cons (ps_ret (pe_tup (pa_cons pe_str (pa_cons (pe_tup (pa_cons pe_str pa_nil)) pa_nil))))
  pss_nil) pss_nil)
  (pss_cons (ps_set (i := 4) sc_Search_found.nd rfl (Or.inl rfl) (pe_m (ok_Search_shown T) T.clSearch (hr.mono (by omega)) (pv 0) (pa_cons (pv 2) (pa_cons (pv 3) pa_nil))))
  (pss_cons (ps_if (pt_cmpR o_notN (pv 4) pe_non (nomark _)) (pss_cons (ps_ret (pe_tup (pa_cons pe_str (pa_cons (pv 4) pa_nil))))
  pss_nil) pss_nil)
  (pss_cons (ps_set (i := 5) sc_Search_found.nd rfl (Or.inl rfl) (pe_callB (c_lenk K) (by rfl) T.n_len PySem.boot_len (pa_cons (pv 1) pa_nil)))
  (pss_cons (ps_if (pt_cmpR op_eq (pv 5) (pe_callB (c_lenk K) (by rfl) T.n_len PySem.boot_len (pa_cons (pe_ix (ix_tk K) (pe_fk K (pv 0)) pe_int (fun _ _ => rfl)) pa_nil)) (nomark _)) (pss_cons (ps_ret (pe_tup (pa_cons pe_str (pa_cons (pv 1) pa_nil))))
  pss_nil) pss_nil)
  (pss_cons (ps_set (i := 6) sc_Search_found.nd rfl (Or.inl rfl) (pe_lst pa_nil))
  (pss_cons (ps_for PassesOwn.never rfl (pi_etk K T.n_enumerate (pa_cons (pe_k T.kCHOICES) pa_nil)) (pg_tk K 2 (pgs_cons (pg_name (i := 7) sc_Search_found.nd rfl (Or.inl rfl)) (pgs_cons (pg_name (i := 8) sc_Search_found.nd rfl (Or.inl rfl)) pgs_nil))) (pss_cons (ps_set (i := 9) sc_Search_found.nd rfl (Or.inl rfl) (pe_m (ok_Loading_fewer T) T.clLoading (hr.mono (by omega)) (pe_fk K (pv 0)) (pa_cons (pv 3) (pa_cons (pv 5) (pa_cons (pe_ix (ix_lk K) (pe_fk K (pe_fk K (pv 0))) (pv 5) (fun _ _ => rfl)) pa_nil)))))
  (pss_cons (ps_set (i := 10) sc_Search_found.nd rfl (Or.inl rfl) (pe_m cM T.clSearch hrM (pv 0) (pa_cons (pe_op op_cat (pv 1) (pe_lst (pa_cons (pv 8) pa_nil))) (pa_cons (pe_m (ok_Loading_loaded T) T.clLoading (hr.mono (by omega)) (pe_fk K (pv 0)) (pa_cons (pv 2) (pa_cons (pv 5) (pa_cons (pv 7) pa_nil)))) (pa_cons (pv 9) pa_nil)))))
  (pss_cons (ps_if (pt_cmpR op_eq (pe_ix (ix_tk K) (pv 10) pe_int (fun _ _ => rfl)) pe_str (nomark _)) (pss_cons (ps_ret (pv 10))
  pss_nil) pss_nil)
  (pss_cons (ps_expr (pe_bm PySem.F.plainAttrs_list PySem.F.slot_list_append PySem.F.type_list_append mt_append (pv 6) (pa_cons (pe_ix (ix_tk K) (pv 10) pe_int (fun _ _ => rfl)) pa_nil)))
  pss_nil)))))
  (pss_cons (ps_ret (pe_tup (pa_cons pe_str (pa_cons (pe_tup (pa_cons pe_str (pa_cons (pv 5) (pa_cons (pe_ix (ix_lk K) (pv 6) pe_int (fun _ _ => rfl)) (pa_cons (pe_ix (ix_lk K) (pv 6) pe_int (fun _ _ => rfl)) pa_nil))))) pa_nil))))
  pss_nil)))))))), ?_⟩
    walk_at "rg"
    refine ⟨_, r, q, d, lims, _, ws, rfl, hSo, hws, hle, m5, fun b H1 s1 => ?_⟩
    have hp1 := s1 _ _ hp
    walk_at "rg"
    refine ite2 (fun _ => ?_) (fun _ => ?_)
    · walk_at "rg"
      refine e_nwT rfl fun p2 H2 s2 np2 hp2 => ?_
      walk_at "rg"
      refine e_nwT rfl fun p3 H3 s3 np3 hp3 => ?_
      exact k _ _ _ _ (s1.trans (s2.trans s3)) (SqT.of hp3)
    · walk_at "rg"
      refine ⟨_, r, q, d, lims, _, ls, _, as, rfl, mv s1 hSo, hok, lok, llen, mv s1 hls, lls, bls.lt (by omega), mv s1 has, las, bas.lt (by omega), fun leaf H2 s2 => ?_⟩
      have s12 := s1.trans s2
      have hp2 := s12 _ _ hp
      walk_at "rg"
      refine ite2 (fun _ => ?_) (fun _ => ?_)
      · walk_at "rg"
        refine e_nwT rfl fun p3 H3 s3 np3 hp3 => ?_
        exact k _ _ _ _ (s12.trans s3) (SqT.of hp3)
      · have hwy2 := s12 _ _ hwy
        have tp2 := sm_t s12 tp
        have haa2 := s12 _ _ haa
        walk_at "rg"
        by_cases hlast : ws.length = r.asks.length
        · rw [decide_eq_true (by rw [lw, lal, hlast])]
          refine iteT ?_
          walk_at "rg"
          refine e_nwT rfl fun p3 H3 s3 np3 hp3 => ?_
          exact k _ _ _ _ (s12.trans s3) (SqT.of hp3)
        · rw [decide_eq_false (fun e => hlast (by have := V.int.inj e; omega))]
          refine iteF ?_
          have hlt : ws.length < r.asks.length := by omega
          obtain ⟨a, ha⟩ : ∃ a, r.asks[ws.length]? = some a := ⟨_, List.getElem?_eq_getElem hlt⟩
          obtain ⟨z, hz⟩ : ∃ z, d.ns[ws.length]? = some z := ⟨_, List.getElem?_eq_getElem (by omega)⟩
          have zb := (hok.sz.bd z (List.mem_of_getElem? hz)).2
          walk_at "rg"
          refine e_nwL rfl fun tr H3 s3 ntr htr => ?_
          walk_at "rg"
          have s13 := s12.trans s3
          have nt : H tr = none := s12.free ntr
          refine r_enumT (T.tCHOICES _) (lp_of (walk_enumT (xs := [.str "on", .str "back"])) ?_)
          refine ⟨fun i σ Hk => ∃ acc y7 y8 y9 y10, σ = [some (.ref p), some (.ref wya), some lv, some av, some leaf, some (.int (wyl.length : Nat)), some (.ref tr), y7, y8, y9, y10] ∧ Same H Hk ∧ Hk tr = some (.lst acc) ∧ acc.length = i,
            ⟨[], none, none, none, none, rfl, s13, htr, rfl⟩, fun i σ Hk _ _ => T.tCHOICES _, ?_, ?_⟩
          · rintro i xx σ Hk H4 hi ⟨acc, y7, y8, y9, y10, rfl, sk, hacc, lacc⟩ y
            obtain ⟨T', x1, x2, rfl, g1, g2, s4, nT, hT⟩ := yget y
            obtain rfl : V.int (i : Nat) = x1 := Option.some.inj g1
            have hi2 : i < 2 := hi
            have hx2 : x2 = .str (wayS (decide (i = 0))) := by
              match i, hi2, g2 with
              | 0, _, hx => exact (Option.some.inj hx).symm
              | 1, _, hx => exact (Option.some.inj hx).symm
            subst hx2
            have tT := SqT.of (K := K) hT
            have sk4 := sk.trans s4
            have hp4 := sk4 _ _ hp
            have hpx4 := sk4 _ _ hpx
            walk_at "rg"
            refine e_ixL (SqL.of (sk4 _ _ hs)) (atI_of (i := ws.length) (v := .int z) (by omega) (by rw [List.getElem?_map, hz]; rfl)) ?_
            walk_at "rg"
            refine ⟨_, r, d, _, as, ws.length, z, _, by rw [lw], mv sk4 hLo, hok, mv sk4 has, las, hlt, bas, fun pl H5 as5 s5 np5 h5 l5 b5 => ?_⟩
            have sk5 := sk4.trans s5
            have hp5 := sk5 _ _ hp
            have hpx5 := sk5 _ _ hpx
            walk_at "rg"
            refine e_nwL rfl fun w1 H6 s6 nw1 hw1 => ?_
            refine e_cat ((sk5.trans s6) _ _ hwy) hw1 (szL (by simp; omega)) fun w2 H7 s7 nw2 hw2 => ?_
            have sk7 := sk5.trans (s6.trans s7)
            have hp7 := sk7 _ _ hp
            have hpx7 := sk7 _ _ hpx
            walk_at "rg"
            refine ⟨_, r, d, _, ls, ws.length, a, z, i, by rw [lw], mv sk7 hLo, hok, hG, mv sk7 hls, lls, ha, hz, hi2, fun pm H8 s8 np8 h8 => ?_⟩
            have sk8 := sk7.trans s8
            walk_at "rg"
            refine ⟨_, r, q, d, lims, _, ws ++ [decide (i = 0)], _, addT (tiesL r.rooms.length a.one a.other (decide (i = 0))) z ls, _, as5, rfl, mv sk8 hSo, hG, hok, lok, llen,
              ⟨w2, _, rfl, s8 _ _ hw2, (alw.mv sk8).app (.one rfl)⟩, by rw [List.length_append, List.length_singleton]; omega, by rw [List.length_append, List.length_singleton]; omega,
              li_of h8, by rw [addT_len, lls], ?_, li_of ((s6.trans (s7.trans s8)) _ _ h5), l5, ?_, fun pq ss xq H9 s9 t9 => ?_⟩
            · rw [List.length_append, List.length_singleton]
              exact bls.more (Nat.le_trans (ties_len hG.n2 hG.n8 _ _ _) (by decide)) zb
            · rw [List.length_append, List.length_singleton]
              intro y hy
              have := b5 y hy
              rw [show 5 + (ws.length + 1) = (5 + ws.length) + 1 by omega, Nat.succ_mul]
              omega
            · have hacc9 := (s4.trans (s5.trans (s6.trans (s7.trans (s8.trans s9))))) _ _ hacc
              walk_at "rg"
              refine ite2 (fun _ => ?_) (fun _ => ?_)
              · walk_at "rg"
                exact k _ _ _ _ (sk8.trans s9) t9
              · walk_at "rg"
                refine e_app hacc9 (szLt (by omega)) ?_
                walk_at "rg"
                exact ⟨_, _, _, _, _, rfl, sm_mut (sk8.trans s9) nt, upd_same, by rw [List.length_append, lacc]; rfl⟩
          · rintro σ Hk ⟨acc, y7, y8, y9, y10, rfl, sk, hacc, lacc⟩
            obtain ⟨t0, t1, rfl⟩ : ∃ t0 t1, acc = [t0, t1] := by
              match acc, lacc with
              | [t0, t1], _ => exact ⟨t0, t1, rfl⟩
            walk_at "rg"
            refine e_ixL (SqL.of hacc) rfl ?_
            walk_at "rg"
            refine e_ixL (SqL.of hacc) rfl ?_
            walk_at "rg"
            refine e_nwT rfl fun p5 H5 s5 np5 hp5 => ?_
            walk_at "rg"
            refine e_nwT rfl fun p6 H6 s6 np6 hp6 => ?_
            exact k _ _ _ _ (sk.trans (s5.trans s6)) (SqT.of hp6)
theorem ok_Search_found (T : Txt K mg A) : MCal P w K mg base 8 A.CS "found" pr_Search_found (spFound K A 6) := ok_Search_found_n T 6
def spWaysFor (K : Fg) : Sp := fun vs H Q _ => ∃ rv r wv q, vs = [rv, wv] ∧ Rn K H rv r ∧ Good r ∧ Wi K r.asks.length H wv q ∧ Bd 500 q ∧ ∀ p s x H', Same H H' → SqT K H' p [.str s, x] → Q (.ref p) H'
theorem ok_ways_for (T : Txt K mg A) : Cal P w K mg base 10 "ways_for" pr_ways_for (spWaysFor K) := by
  obtain ⟨f, fd, F, hm, hb⟩ := T.d_ways_for
  refine ⟨f, fd, F.ok sc_ways_for (fun vs H Q E h => ?_) (fun cdv A' outer s H vs Q E hr h => ?_), hm, F.kp, hb⟩
  · obtain ⟨rv, r, wv, q, rfl, _⟩ := h; rfl
  obtain ⟨rv, r, wv, q, rfl, hR, hG, hW, bq, k⟩ := h
  have cl := T.clSearch
  have a3 := T.aS_loading
  have cl2 := T.clLoading
  have m5 := hG.m5
  obtain ⟨pr, ra, aa, rl, al, rfl, tp, hra, alr, haa, ala⟩ := rn_get hR
  have lal := ala.len
  have lrl := alr.len
  refine ⟨_, (pss_cons (ps_if (pt_cmpR op_gt (pe_callB (c_lenk K) (by rfl) T.n_len PySem.boot_len (pa_cons (pe_ix (ix_tk K) (pv 0) pe_int (fun _ _ => rfl)) pa_nil)) (pe_k T.kMOST) (nomark _)) (pss_cons ps_never
  pss_nil) pss_nil)
  (pss_cons (ps_set (i := 2) sc_ways_for.nd rfl (Or.inl rfl) (pe_n (ok_Search_init T) (hr.mono (by decide)) (pa_cons (pv 0) (pa_cons (pv 1) pa_nil))))
  (pss_cons (ps_ret (pe_m (ok_Search_found T) T.clSearch (hr.mono (by decide)) (pv 2) (pa_cons (pe_lst pa_nil) (pa_cons (pe_lc (own := [("room", 3)]) (g := (gName 3)) (tt := tYes) rfl sc_ways_for.nd (pi_lk K (pe_ix (ix_tk K) (pv 0) pe_int (fun _ _ => rfl))) (blkOk_by (N := nm_ways_for) (sc := defScope st_ways_for) (by decide +kernel)) (fun _ _ _ _ _ => (pg_name (i := 3) sc_ways_for.nd rfl (Or.inl rfl))) (fun _ _ _ _ _ => pts_nil) (fun _ _ _ _ _ => pe_int)) (pa_cons (pe_m0 (ok_Loading_across T) T.clLoading (hr.mono (by decide)) (pe_fk K (pv 2))) pa_nil)))))
  pss_nil))), ?_⟩
  walk_at "rg"
  rw [decide_eq_false (by omega)]
  refine iteF ?_
  walk_at "rg"
  intro x xd nx nxd nex
  refine ⟨H, x, xd, _, _, r, q, rfl, upd_same, nx, sm_made nx nxd, hR, hG, hW, bq, fun H1 d lims s1 hSo hok lok llen => ⟨rfl, ?_⟩⟩
  obtain ⟨p, dx, pr', ra', aa', wa, wn, lo, la, rl', al', ll, wf, ex, hp, tp', hra', alr', haa', ala', tw, hwn, hLo, hla, all⟩ := so_get hSo
  obtain rfl : x = p := V.ref.inj ex
  have tp1 := sm_t s1 tp
  walk_at "rg"
  refine e_nwL rfl fun w0 H2 s2 nw0 hw0 => ?_
  have tp2 := sm_t s2 tp1
  have hra2 := s2 _ _ (s1 _ _ hra)
  walk_at "rg"
  refine r_list (SqL.of hra2) (cp_of (walk_list (xs := rl)) (cb_map In (fun _ => 0) (by have := hG.n8; omega) (fun H3 s3 => SqL.of (s3 _ _ hra2)) ?_ ?_))
  · rintro i xx _ H3 Pq Z hi s3 ⟨rfl, hx⟩ kk
    walk_at "rg"
    refine ⟨rfl, ?_⟩
    walk_at "rg"
    exact kk _ _ (Same.refl _) rfl
  · intro D acc H3 hD s3 hacc al
    rw [al_ints al] at hacc
    have s13 := s2.trans s3
    have hp3 := s13 _ _ hp
    obtain ⟨px, dxl, sa, ca, ta, xa, cv, tv, xv, ex2, hpx, _⟩ := lo_get hLo
    obtain rfl : lo = px := V.ref.inj ex2
    have hpx3 := s13 _ _ hpx
    walk_at "rg"
    refine ⟨_, r, d, rfl, mv s13 hLo, hok, hG, fun pa H4 as s4 h4 l4 b4 => ?_⟩
    have s14 := s13.trans s4
    walk_at "rg"
    refine ⟨_, r, q, d, lims, _, [], _, _, _, as, rfl, mv s14 hSo, hG, hok, lok, llen, ⟨w0, [], rfl, (s3.trans s4) _ _ hw0, .nil⟩, by simp; omega, by simp, li_of (s4 _ _ hacc), by simp [lrl], ?_, li_of h4, l4, b4, fun p5 s5 x5 H5 s5' t5 => ?_⟩
    · intro y hy
      obtain ⟨_, _, rfl⟩ := List.mem_map.mp hy
      exact Nat.zero_le _
    · walk_at "rg"
      exact k _ _ _ _ (s1.trans (s14.trans s5')) t5
end
/-! loads in whole numbers, and the order of strains -/
def cti (r : Ring) (ns : List Int) (ws : List Bool) (k i : Nat) : Int :=
  match r.asks[k]?, ws[k]?, ns[k]? with
  | some a, some w, some z => if ov r.rooms.length a.one a.other i = w then z else 0
  | _, _, _ => 0
def ild (r : Ring) (ns : List Int) (ws : List Bool) : Nat → Nat → Int
  | 0, _ => 0
  | k + 1, i => ild r ns ws k i + cti r ns ws k i
def ilL (r : Ring) (ns : List Int) (ws : List Bool) : List Int := (List.range r.rooms.length).map (ild r ns ws ws.length)
theorem cti_val {r : Ring} {ns : List Int} {W : Nat} (h : SzOk r ns W) (ws : List Bool) (k i : Nat) : ((cti r ns ws k i : Int) : Rat) = ct r ws k i * (W : Rat) := by
  unfold cti ct
  cases ha : r.asks[k]? with
  | none => simp
  | some a =>
    cases hw : ws[k]? with
    | none => simp
    | some w' =>
      have hk : k < ns.length := by
        rw [h.len]
        exact (List.getElem?_eq_some_iff.mp ha).1
      rw [List.getElem?_eq_getElem hk]
      have v := h.val k a _ ha (List.getElem?_eq_getElem hk)
      simp only []
      split
      · exact v
      · simp
theorem ild_val {r : Ring} {ns : List Int} {W : Nat} (h : SzOk r ns W) (ws : List Bool) : ∀ k i : Nat, ((ild r ns ws k i : Int) : Rat) = ld r ws k i * (W : Rat)
  | 0, i => by
    show ((0 : Int) : Rat) = 0 * (W : Rat)
    simp
  | k + 1, i => by
    show ((ild r ns ws k i + cti r ns ws k i : Int) : Rat) = (ld r ws k i + ct r ws k i) * (W : Rat)
    rw [Rat.intCast_add, ild_val h ws k i, cti_val h, Rat.add_mul]
theorem cti_app {r : Ring} {ns : List Int} {ws : List Bool} {b : Bool} {k i : Nat} (h : k < ws.length) : cti r ns (ws ++ [b]) k i = cti r ns ws k i := by
  unfold cti
  rw [List.getElem?_append_left h]
theorem ild_app {r : Ring} {ns : List Int} {ws : List Bool} {b : Bool} {i : Nat} : ∀ {k : Nat}, k ≤ ws.length → ild r ns (ws ++ [b]) k i = ild r ns ws k i
  | 0, _ => rfl
  | k + 1, h => by
    show ild r ns (ws ++ [b]) k i + cti r ns (ws ++ [b]) k i = _
    rw [ild_app (by omega), cti_app (by omega)]
    rfl
theorem addT_at {z : Int} : ∀ (ts ls : List Int), (∀ t ∈ ts, 0 ≤ t ∧ t < (ls.length : Int)) → ∀ i, i < ls.length → (addT ts z ls).getD i 0 = ls.getD i 0 + z * ((ts.count ((i : Nat) : Int) : Nat) : Int)
  | [], ls, _, i, hi => by
    show ls.getD i 0 = _
    simp
  | t :: ts, ls, h, i, hi => by
    show (addT ts z (ls.set t.toNat (ls.getD t.toNat 0 + z))).getD i 0 = _
    have ht := h t List.mem_cons_self
    rw [addT_at ts _ (fun t' h' => by rw [List.length_set]; exact h t' (List.mem_cons_of_mem _ h')) i (by rw [List.length_set]; exact hi), List.count_cons]
    by_cases e : t = (i : Int)
    · subst e
      have : (((i : Nat) : Int).toNat) = i := by omega
      rw [this, List.getD_eq_getElem?_getD, List.getElem?_set_self hi]
      simp only [beq_self_eq_true, if_true]
      show ls.getD i 0 + z + _ = _
      rw [Int.natCast_add, Int.mul_add]
      omega
    · have : t.toNat ≠ i := by omega
      rw [List.getD_eq_getElem?_getD, List.getElem?_set_ne this, ← List.getD_eq_getElem?_getD]
      have e2 : (t == (i : Int)) = false := beq_eq_false_iff_ne.mpr e
      rw [e2]
      simp
theorem ilL_at {r : Ring} {ns : List Int} {ws : List Bool} {i : Nat} (h : i < r.rooms.length) : (ilL r ns ws).getD i 0 = ild r ns ws ws.length i := by
  unfold ilL
  rw [List.getD_eq_getElem?_getD, List.getElem?_map, List.getElem?_range h]; rfl
theorem ilL_len {r : Ring} {ns : List Int} {ws : List Bool} : (ilL r ns ws).length = r.rooms.length := by
  unfold ilL
  simp
theorem ilL_step {r : Ring} (g : Good r) {ns : List Int} {ws : List Bool} {a : Ask} {z : Int} (ha : r.asks[ws.length]? = some a) (hz : ns[ws.length]? = some z) (b : Bool) :
    addT (tiesL r.rooms.length a.one a.other b) z (ilL r ns ws) = ilL r ns (ws ++ [b]) := by
  have hask := g.ask a (List.mem_of_getElem? ha)
  have fin := ties_fin b (Nat.lt_succ_of_le g.n8) hask.1 hask.2.1 hask.2.2.1
  apply List.ext_getElem?
  intro i
  by_cases hi : i < r.rooms.length
  · have e1 := addT_at (z := z) (tiesL r.rooms.length a.one a.other b) (ilL r ns ws) (fun t ht => by rw [ilL_len]; exact fin.1 t ht) i (by rw [ilL_len]; exact hi)
    rw [ilL_at hi, fin.2 i hi] at e1
    have e2 := ilL_at (ns := ns) (ws := ws ++ [b]) hi
    rw [List.length_append, List.length_singleton] at e2
    have e3 : ild r ns (ws ++ [b]) (ws.length + 1) i = ild r ns ws ws.length i + (if ov r.rooms.length a.one a.other i = b then z else 0) := by
      show ild r ns (ws ++ [b]) ws.length i + cti r ns (ws ++ [b]) ws.length i = _
      rw [ild_app (Nat.le_refl _)]
      unfold cti
      rw [ha, hz, List.getElem?_append_right (Nat.le_refl _), Nat.sub_self]
      rfl
    have e4 : (addT (tiesL r.rooms.length a.one a.other b) z (ilL r ns ws)).getD i 0 = (ilL r ns (ws ++ [b])).getD i 0 := by
      rw [e1, e2, e3]
      split <;> simp
    rw [List.getD_eq_getElem?_getD, List.getD_eq_getElem?_getD] at e4
    rw [List.getElem?_eq_getElem (by rw [addT_len, ilL_len]; exact hi), List.getElem?_eq_getElem (by rw [ilL_len]; exact hi)] at e4 ⊢
    exact congrArg some e4
  · rw [List.getElem?_eq_none (by rw [addT_len, ilL_len]; omega), List.getElem?_eq_none (by rw [ilL_len]; omega)]
theorem cti_bd {r : Ring} {ns : List Int} {W : Nat} (h : SzOk r ns W) (ws : List Bool) (k i : Nat) : (cti r ns ws k i).natAbs ≤ 2 ^ 600 := by
  unfold cti
  split
  · rename_i a w z _ _ hz
    split
    · exact Nat.le_of_lt (h.bd z (List.mem_of_getElem? hz)).2
    · exact Nat.zero_le _
  · exact Nat.zero_le _
theorem ild_bd {r : Ring} {ns : List Int} {W : Nat} (h : SzOk r ns W) (ws : List Bool) : ∀ k i : Nat, (ild r ns ws k i).natAbs ≤ k * 2 ^ 600
  | 0, i => Nat.zero_le _
  | k + 1, i => by
    have a := ild_bd h ws k i
    have b := cti_bd h ws k i
    have c := natAbs_add (ild r ns ws k i) (cti r ns ws k i)
    show (ild r ns ws k i + cti r ns ws k i).natAbs ≤ _
    rw [Nat.succ_mul]
    omega
/-- rooms as whole numbers Rs over C -/
structure RmOk (r : Ring) (Rs : List Int) (C : Nat) : Prop where
  c0 : 0 < C
  len : Rs.length = r.rooms.length
  val : ∀ (i : Nat) (z : Int), Rs[i]? = some z → (z : Rat) = room r i * (C : Rat) ∧ 0 < z ∧ z.natAbs < 2 ^ 600
theorem frac_le {a b c d : Rat} (hb : 0 < b) (hd : 0 < d) (h : a * d ≤ c * b) : a / b ≤ c / d := by
  apply Rat.not_lt.mp
  intro q
  rw [Rat.lt_div_iff hb] at q
  have q2 : c / d * b * d < a * d := (Rat.mul_lt_mul_right hd).mpr q
  have e : c / d * b * d = c * b := by
    rw [Rat.mul_assoc, Rat.mul_comm b d, ← Rat.mul_assoc, Rat.div_mul_cancel (Rat.ne_of_gt hd)]
  rw [e] at q2
  exact Rat.lt_irrefl (Std.lt_of_lt_of_le q2 h)
/-- the scale between strains and whole-number strains -/
def scl (W C : Nat) : Rat := (W : Rat) / (C : Rat)
theorem scl_pos {W C : Nat} (hW : 0 < W) (hC : 0 < C) : 0 < scl W C := by
  unfold scl
  rw [Rat.div_def]
  exact Rat.mul_pos (Rat.natCast_pos.mpr hW) (Rat.inv_pos.mpr (Rat.natCast_pos.mpr hC))
theorem top_int {r : Ring} (g : Good r) {ns : List Int} {W C : Nat} {Rs : List Int} (hs : SzOk r ns W) (hr : RmOk r Rs C) {ws : List Bool} (hw : ws.length = r.asks.length) {j : Nat} (hj : j < r.rooms.length) {rm : Int} (hrm : Rs[j]? = some rm)
    (hmax : ∀ (i : Nat) (z : Int), Rs[i]? = some z → ild r ns ws ws.length i * rm ≤ ild r ns ws ws.length j * z) :
    IsTop r ws (strain r ws j) ∧ ((ild r ns ws ws.length j : Int) : Rat) = strain r ws j * scl W C * (rm : Rat) := by
  have hC : (0 : Rat) < (C : Rat) := Rat.natCast_pos.mpr hr.c0
  have hW : (0 : Rat) < (W : Rat) := Rat.natCast_pos.mpr hs.w0
  obtain ⟨vj, _, _⟩ := hr.val j rm hrm
  have rj := (room_bd g hj).1
  refine ⟨⟨⟨j, hj, rfl⟩, fun i hi => ?_⟩, ?_⟩
  · obtain ⟨z, hz⟩ : ∃ z, Rs[i]? = some z := ⟨_, List.getElem?_eq_getElem (by rw [hr.len]; exact hi)⟩
    obtain ⟨vi, _, _⟩ := hr.val i z hz
    have ri := (room_bd g hi).1
    have h1 := hmax i z hz
    have h2 : ((ild r ns ws ws.length i * rm : Int) : Rat) ≤ ((ild r ns ws ws.length j * z : Int) : Rat) := Rat.intCast_le_intCast.mpr h1
    rw [Rat.intCast_mul, Rat.intCast_mul, ild_val hs, ild_val hs, vi, vj, hw] at h2
    unfold strain
    refine frac_le ri rj ?_
    have h3 : (ld r ws r.asks.length i * room r j) * ((W : Rat) * (C : Rat)) ≤ (ld r ws r.asks.length j * room r i) * ((W : Rat) * (C : Rat)) := by grind
    exact Rat.le_of_mul_le_mul_right h3 (Rat.mul_pos hW hC)
  · rw [ild_val hs, vj, hw]
    unfold strain scl
    rw [Rat.div_def, Rat.div_def]
    have e1 := Rat.inv_mul_cancel _ (Rat.ne_of_gt rj)
    have e2 := Rat.inv_mul_cancel _ (Rat.ne_of_gt hC)
    grind
theorem key_lt {u q1 q2 : Rat} {l1 l2 m1 m2 : Int} (hu : 0 < u) (h1 : 0 < m1) (h2 : 0 < m2) (e1 : (l1 : Rat) = q1 * u * (m1 : Rat)) (e2 : (l2 : Rat) = q2 * u * (m2 : Rat)) : l1 * m2 < l2 * m1 ↔ q1 < q2 := by
  have p1 : (0 : Rat) < (m1 : Rat) := Rat.intCast_pos.mpr h1
  have p2 : (0 : Rat) < (m2 : Rat) := Rat.intCast_pos.mpr h2
  have p : 0 < u * ((m1 : Rat) * (m2 : Rat)) := Rat.mul_pos hu (Rat.mul_pos p1 p2)
  rw [← Rat.intCast_lt_intCast, Rat.intCast_mul, Rat.intCast_mul, e1, e2, ← Rat.mul_lt_mul_right p (a := q1) (b := q2)]
  have a : q1 * u * (m1 : Rat) * (m2 : Rat) = q1 * (u * ((m1 : Rat) * (m2 : Rat))) := by grind
  have b : q2 * u * (m2 : Rat) * (m1 : Rat) = q2 * (u * ((m1 : Rat) * (m2 : Rat))) := by grind
  rw [a, b]
theorem top_ex {r : Ring} (g : Good r) (ws : List Bool) : ∃ q, IsTop r ws q := by
  have : ∀ n, 0 < n → ∃ j, j < n ∧ ∀ i, i < n → strain r ws i ≤ strain r ws j := by
    intro n
    induction n with
    | zero => intro h; omega
    | succ n ih =>
      intro _
      by_cases h0 : n = 0
      · subst h0
        exact ⟨0, by omega, fun i hi => (show i = 0 by omega) ▸ Rat.le_refl⟩
      · obtain ⟨j, hj, hm⟩ := ih (by omega)
        by_cases hlt : strain r ws j < strain r ws n
        · refine ⟨n, by omega, fun i hi => ?_⟩
          by_cases e : i = n
          · subst e; exact Rat.le_refl
          · exact Rat.le_trans (hm i (by omega)) (Rat.le_of_lt hlt)
        · refine ⟨j, by omega, fun i hi => ?_⟩
          by_cases e : i = n
          · subst e; exact Rat.not_lt.mp hlt
          · exact hm i (by omega)
  obtain ⟨j, hj, hm⟩ := this r.rooms.length (by have := g.n2; omega)
  exact ⟨_, ⟨j, hj, rfl⟩, hm⟩
section
variable {P : Program} {w : World} {K : Fg} {mg : Str → Option Value} {base : Heap} {A : Ad}
def LeF (lv mv rv bv : V) : List (Str × V) := [("loading", lv), ("many", mv), ("rooms", rv), ("best", bv)]
def spBInit (K : Fg) (A : Ad) : Sp := fun vs H Q _ => ∃ G p dx rv r, vs = [.ref p, rv] ∧ H p = some (.ins A.CB dx []) ∧ G p = none ∧ Same G H ∧ Rn K G rv r ∧ Good r ∧
  ∀ (H' : Hp) (d : LD) (Rs : List Int) (C : Nat) (lo rm : Addr), Same G H' → H' p = some (.ins A.CB dx (LeF (.ref lo) (.int (r.asks.length : Nat)) (.ref rm) .non)) → Lo K A r (hid p H') (.ref lo) d → LdOk r d → hid p H' rm = some (.lst (Rs.map V.int)) → RmOk r Rs C → Q .non H'
theorem ok_Least_init (T : Txt K mg A) : NCal P w K mg base 6 A.CB "Least" pr_Least_init (spBInit K A) := by
  obtain ⟨f, fd, F, hb, hM, hm⟩ := T.d_Least_init
  refine ⟨f, fd, F.ok sc_Least_init (fun vs H Q E h => ?_) (fun cdv A' outer s H vs Q E hr h => ?_), hb, hM, hm⟩
  · obtain ⟨G, p, dx, rv, r, rfl, _⟩ := h; rfl
  obtain ⟨G, p, dx, rv, r, rfl, hp, hGp, sG, hR, hG, k⟩ := h
  have cl := T.clLeast
  have a1 := T.aB_loading
  have a2 := T.aB_many
  have a3 := T.aB_rooms
  have a4 := T.aB_best
  have n8 := hG.n8
  have m5 := hG.m5
  obtain ⟨pr, ra, aa, rl, al, rfl, tp, hra, alr, haa, ala⟩ := rn_get hR
  have lal := ala.len
  have lrl := alr.len
  refine ⟨_, (pss_cons (ps_fk K (pv 0) (pe_n (ok_Loading_init T) (hr.mono (by decide)) (pa_cons (pv 1) pa_nil)))
  (pss_cons (ps_fk K (pv 0) (pe_callB (c_lenk K) (by rfl) T.n_len PySem.boot_len (pa_cons (pe_ix (ix_tk K) (pv 1) pe_int (fun _ _ => rfl)) pa_nil)))
  (pss_cons (ps_set (i := 2) sc_Least_init.nd rfl (Or.inr rfl) (pe_c (ok_common_bottom T) (hr.mono (by decide)) (pa_cons (pe_ix (ix_tk K) (pv 1) pe_int (fun _ _ => rfl)) pa_nil)))
  (pss_cons (ps_fk K (pv 0) (pe_lc (own := [("room", 3)]) (g := (gName 3)) (tt := tYes) rfl sc_Least_init.nd (pi_lk K (pe_ix (ix_tk K) (pv 1) pe_int (fun _ _ => rfl))) (blkOk_by (N := nm_Least_init) (sc := defScope st_Least_init) (by decide +kernel)) (fun _ _ _ _ _ => (pg_name (i := 3) sc_Least_init.nd rfl (Or.inl rfl))) (fun _ _ _ _ _ => pts_nil) (fun _ _ _ _ _ => (pe_op op_mulW (pe_ix (ix_tk K) (pv 3) pe_int (fun _ _ => rfl)) (pe_op op_fdivW (pv 2) (pe_ix (ix_tk K) (pv 3) pe_int (fun _ _ => rfl)))))))
  (pss_cons (ps_fk K (pv 0) pe_non)
  pss_nil))))), ?_⟩
  walk_at "rg"
  intro x xd nx nxd nex
  refine ⟨H, x, xd, .ref pr, r, rfl, upd_same, nx, sm_made nx nxd, mv sG hR, hG, fun H3 d s3 hLo hok => ⟨rfl, ?_⟩⟩
  have i3 := s3 _ _ hp
  walk_at "rg"
  obtain ⟨H4, e4, i4, v4⟩ : ∃ H4, upd H3 p (.ins A.CB dx (putF "loading" (.ref x) [])) = H4 ∧ H4 p = some (.ins A.CB dx [("loading", .ref x)]) ∧ hid p H4 = hid p H3 := ⟨_, rfl, upd_same, by rw [hid_upd]⟩
  rw [e4]
  clear e4
  have sG4 : Same G (hid p H4) := v4 ▸ hid_same hGp (sG.trans s3)
  have lo4 : Lo K A r (hid p H4) (.ref x) d := v4 ▸ lo_hi i3 (by show 0 ≠ 5; decide) hLo
  clear v4 i3
  have tp4 := sm_t (sG4.trans hid_sm) tp
  have haa4 := (sG4.trans hid_sm) _ _ haa
  walk_at "rg"
  obtain ⟨H5, e5, i5, v5⟩ : ∃ H5, upd H4 p (.ins A.CB dx (putF "many" (.int (al.length : Nat)) [("loading", .ref x)])) = H5 ∧ H5 p = some (.ins A.CB dx [("loading", .ref x), ("many", .int (r.asks.length : Nat))]) ∧ hid p H5 = hid p H4 := ⟨_, rfl, by rw [upd_same, lal]; rfl, by rw [hid_upd]⟩
  rw [e5]
  clear e5
  rw [← v5] at sG4 lo4
  clear v5 tp4 haa4
  have tp5 := sm_t (sG4.trans hid_sm) tp
  have hra5 := (sG4.trans hid_sm) _ _ hra
  walk_at "rg"
  refine ⟨_, r.rooms, rfl, ⟨ra, rl, rfl, hra5, alr.mv (sG4.trans hid_sm)⟩, fun q hq => (hG.room q hq).2, n8, fun C c0 cl' cd => ?_⟩
  walk_at "rg"
  refine r_list (SqL.of hra5) (cp_of (walk_list (xs := rl)) (cb_map In (fun i => (r.rooms.map fun q => q.num * ((C : Int) / (q.den : Nat))).getD i 0) (by omega) (fun H6 s6 => SqL.of (s6 _ _ hra5)) ?_ ?_))
  · rintro i xx _ H6 Pq Z hi s6 ⟨rfl, hx⟩ kk
    obtain ⟨q, hq, ⟨fa, rfl, tf⟩⟩ := alr.at' hx
    have tf6 := sm_t ((sG4.trans hid_sm).trans s6) tf
    have bq := (hG.room q (List.mem_of_getElem? hq)).2
    have dp := q.den_pos
    have g2 := bq.bot
    walk_at "rg"
    refine ⟨rfl, ?_⟩
    walk_at "rg"
    refine e_I (wide_div (b := 60) (by omega) (by rw [Int.natAbs_natCast]; omega) (by decide) (by decide)) ?_
    walk_at "rg"
    have e1 : ((C : Int) / ((q.den : Nat) : Int)) = ((C / q.den : Nat) : Int) := rfl
    refine e_I (wide_mul (a := 60) (b := 500) bq.natAbs (by rw [e1, Int.natAbs_natCast]; exact Nat.lt_of_le_of_lt (Nat.div_le_self _ _) cl') (by decide) (by decide) (by decide)) ?_
    refine kk _ _ (Same.refl _) ?_
    show _ = V.int _
    rw [List.getD_eq_getElem?_getD, List.getElem?_map, hq]
    rfl
  · intro D acc H6 hD s6 hacc al6
    rw [range_getD _ _ (by rw [List.length_map, lrl])] at al6
    rw [al_ints al6] at hacc
    have i6 := s6 _ _ i5
    walk_at "rg"
    obtain ⟨H7, e7, i7, v7⟩ : ∃ H7, upd H6 p (.ins A.CB dx (putF "rooms" (.ref D) [("loading", .ref x), ("many", .int (r.asks.length : Nat))])) = H7 ∧ H7 p = some (.ins A.CB dx [("loading", .ref x), ("many", .int (r.asks.length : Nat)), ("rooms", .ref D)]) ∧ hid p H7 = hid p H6 := ⟨_, rfl, upd_same, by rw [hid_upd]⟩
    rw [e7]
    clear e7
    walk_at "rg"
    have vf : ∀ o, hid p (upd H7 p o) = hid p H6 := fun o => by rw [hid_upd, v7]
    refine k _ d _ C x D ((sG4.trans (hid_mono s6)).trans (by rw [← vf]; exact hid_sm)) upd_same (by rw [vf]; exact mv (hid_mono s6) lo4) hok (by rw [vf, hid_ne (ne_of hacc i6 (by intro z; cases z))]; exact hacc) ⟨c0, by rw [List.length_map], fun i z hz => ?_⟩
    rw [List.getElem?_map] at hz
    cases hq : r.rooms[i]? with
    | none => rw [hq] at hz; cases hz
    | some q =>
      rw [hq] at hz
      have ez : q.num * ((C : Int) / (q.den : Nat)) = z := Option.some.inj hz
      subst ez
      have mem := List.mem_of_getElem? hq
      obtain ⟨q0, bq⟩ := hG.room q mem
      have er : room r i = q := by
        unfold room
        rw [List.getD_eq_getElem?_getD, hq]; rfl
      rw [er]
      obtain ⟨c', hc'⟩ := cd q mem
      have dp := q.den_pos
      have e1 : ((C : Int) / ((q.den : Nat) : Int)) = ((C / q.den : Nat) : Int) := rfl
      have c1 : 0 < C / q.den := by
        rw [hc', Nat.mul_div_cancel_left _ dp]
        rcases Nat.eq_zero_or_pos c' with h | h
        · subst h; omega
        · exact h
      refine ⟨scale_int ⟨c', hc'⟩, Int.mul_pos (num_pos q0) (by rw [e1]; omega), ?_⟩
      have := wide_lt bq.natAbs (show ((C : Int) / ((q.den : Nat) : Int)).natAbs < 2 ^ 500 by rw [e1, Int.natAbs_natCast]; exact Nat.lt_of_le_of_lt (Nat.div_le_self _ _) cl')
      exact Nat.lt_of_lt_of_le this (Nat.pow_le_pow_right (by decide) (by decide))
def spStrain (K : Fg) (A : Ad) : Sp := fun vs H Q _ => ∃ (p dx : Addr) (lov mv' bv : V) (rm la : Addr) (Rs L : List Int), vs = [.ref p, .ref la] ∧ H p = some (.ins A.CB dx (LeF lov mv' (.ref rm) bv)) ∧ H rm = some (.lst (Rs.map V.int)) ∧ H la = some (.lst (L.map V.int)) ∧
  L.length = Rs.length ∧ 0 < L.length ∧ (∀ z ∈ Rs, 0 < z ∧ z.natAbs < 2 ^ 600) ∧ (∀ y ∈ L, y.natAbs < 2 ^ 700) ∧
  ∀ (q : Addr) (H' : Hp) (j : Nat) (l m : Int), Same H H' → SqT K H' q [.int l, .int m] → L[j]? = some l → Rs[j]? = some m → (∀ (i : Nat) (y z : Int), L[i]? = some y → Rs[i]? = some z → y * m ≤ l * z) → Q (.ref q) H'
theorem cross {y' z' l m y z : Int} (hm : 0 < m) (hz : 0 < z) (hz' : 0 < z') (h1 : y' * m ≤ l * z') (h2 : l * z < y * m) : y' * z ≤ y * z' := by
  have a : y' * m * z ≤ l * z' * z := Int.mul_le_mul_of_nonneg_right h1 (Int.le_of_lt hz)
  have b : l * z * z' ≤ y * m * z' := Int.mul_le_mul_of_nonneg_right (Int.le_of_lt h2) (Int.le_of_lt hz')
  have c : y' * z * m ≤ y * z' * m := by grind
  exact Int.le_of_mul_le_mul_right c hm
theorem ok_Least_strain (T : Txt K mg A) : MCal P w K mg base 1 A.CB "strain" pr_Least_strain (spStrain K A) := by
  obtain ⟨f, fd, F, hb, hM⟩ := T.d_Least_strain
  refine ⟨f, fd, F.ok sc_Least_strain (fun vs H Q E h => ?_) (fun cdv A' outer s H vs Q E hr h => ?_), hb, hM⟩
  · obtain ⟨p, dx, lov, mv', bv, rm, la, Rs, L, rfl, _⟩ := h; rfl
  obtain ⟨p, dx, lov, mv', bv, rm, la, Rs, L, rfl, hp, hrm, hla, hlen, h0, bR, bL, k⟩ := h
  have cl := T.clLeast
  have a3 := T.aB_rooms
  obtain ⟨l0, e0, i0⟩ := li_at (ls := L) (j := 0) h0
  obtain ⟨m0, e0', i0'⟩ := li_at (ls := Rs) (j := 0) (by omega)
  refine ⟨_, (pss_cons (ps_par (i := 2) (j := 3) rfl sc_Least_strain.nd rfl rfl (by decide) rfl rfl (pa_cons (pe_ix (ix_lk K) (pv 1) pe_int (fun _ _ => rfl)) (pa_cons (pe_ix (ix_lk K) (pe_fk K (pv 0)) pe_int (fun _ _ => rfl)) pa_nil)) (by rfl))
  (pss_cons (ps_for PassesOwn.never rfl (pi_ek K T.n_enumerate (pa_cons (pv 1) pa_nil)) (pg_tk K 2 (pgs_cons (pg_name (i := 4) sc_Least_strain.nd rfl (Or.inl rfl)) (pgs_cons (pg_name (i := 5) sc_Least_strain.nd rfl (Or.inl rfl)) pgs_nil))) (pss_cons (ps_if (pt_cmpR op_gt (pe_op op_mulW (pv 5) (pv 3)) (pe_op op_mulW (pv 2) (pe_ix (ix_lk K) (pe_fk K (pv 0)) (pv 4) (fun _ _ => rfl))) (nomark _)) (pss_cons (ps_par (i := 2) (j := 3) rfl sc_Least_strain.nd rfl rfl (by decide) rfl rfl (pa_cons (pv 5) (pa_cons (pe_ix (ix_lk K) (pe_fk K (pv 0)) (pv 4) (fun _ _ => rfl)) pa_nil)) (by rfl))
  pss_nil) pss_nil)
  pss_nil))
  (pss_cons (ps_ret (pe_tup (pa_cons (pv 2) (pa_cons (pv 3) pa_nil))))
  pss_nil))), ?_⟩
  walk_at "rg"
  refine e_ixL (SqL.of hla) i0 ?_
  walk_at "rg"
  refine e_ixL (SqL.of hrm) i0' ?_
  walk_at "rg"
  refine r_enum (SqL.of hla) (lp_of (walk_enum (xs := L.map V.int)) ?_)
  refine ⟨fun i σ Hk => ∃ (j : Nat) (l m : Int) (y4 y5 : Option V), σ = [some (.ref p), some (.ref la), some (.int l), some (.int m), y4, y5] ∧ Same H Hk ∧ L[j]? = some l ∧ Rs[j]? = some m ∧ ∀ (i' : Nat) (y z : Int), i' < i → L[i']? = some y → Rs[i']? = some z → y * m ≤ l * z,
    ⟨0, l0, m0, none, none, rfl, Same.refl _, e0, e0', fun i' _ _ h => absurd h (Nat.not_lt_zero i')⟩, fun i σ Hk _ ⟨_, _, _, _, _, _, s, _⟩ => SqL.of (s _ _ hla), ?_, ?_⟩
  · rintro i xx σ Hk H2 hi ⟨j, l, m, y4, y5, rfl, sk, ej, ej', hmax⟩ y
    obtain ⟨T', x1, x2, rfl, g1, g2, s3, nT, hT⟩ := yget y
    obtain rfl : V.int (i : Nat) = x1 := Option.some.inj g1
    obtain ⟨y, hy, rfl⟩ := ints_at g2
    rw [List.length_map] at hi
    obtain ⟨z, ez, iz⟩ := li_at (ls := Rs) (j := i) (by omega)
    have s2 := sk.trans s3
    have tT := SqT.of (K := K) hT
    have hp2 := s2 _ _ hp
    have hrm2 := s2 _ _ hrm
    have bm := bR m (List.mem_of_getElem? ej')
    have bz := bR z (List.mem_of_getElem? ez)
    have bl := bL l (List.mem_of_getElem? ej)
    have by' := bL y (List.mem_of_getElem? hy)
    walk_at "rg"
    refine e_I (wide_mul by' bm.2 (by decide) (by decide) (by decide)) ?_
    walk_at "rg"
    refine e_ixL (SqL.of hrm2) iz ?_
    refine e_I (wide_mul bl bz.2 (by decide) (by decide) (by decide)) ?_
    walk_at "rg"
    by_cases hlt : l * z < y * m
    · rw [decide_eq_true hlt]
      refine iteT ?_
      walk_at "rg"
      refine e_ixL (SqL.of hrm2) iz ?_
      walk_at "rg"
      refine ⟨i, y, z, _, _, rfl, s2, hy, ez, fun i' y' z' hi' ey' ez' => ?_⟩
      by_cases e : i' = i
      · subst e
        rw [hy] at ey'
        rw [ez] at ez'
        obtain rfl := Option.some.inj ey'
        obtain rfl := Option.some.inj ez'
        exact Int.le_refl _
      · exact cross bm.1 bz.1 (bR z' (List.mem_of_getElem? ez')).1 (hmax i' y' z' (by omega) ey' ez') hlt
    · rw [decide_eq_false hlt]
      refine iteF ?_
      walk_at "rg"
      refine ⟨j, l, m, _, _, rfl, s2, ej, ej', fun i' y' z' hi' ey' ez' => ?_⟩
      by_cases e : i' = i
      · subst e
        rw [hy] at ey'
        rw [ez] at ez'
        obtain rfl := Option.some.inj ey'
        obtain rfl := Option.some.inj ez'
        omega
      · exact hmax i' y' z' (by omega) ey' ez'
  · rintro σ Hk ⟨j, l, m, y4, y5, rfl, sk, ej, ej', hmax⟩
    rw [List.length_map] at hmax
    walk_at "rg"
    refine e_nwT rfl fun p3 H3 s3 np hp3 => ?_
    exact k p3 H3 j l m (sk.trans s3) (SqT.of hp3) ej ej' fun i y z ey ez => hmax i y z (List.getElem?_eq_some_iff.mp ey).1 ey ez
end
section
variable {P : Program} {w : World} {K : Fg} {mg : Str → Option Value} {base : Heap} {A : Ad}
/-- the best so far -/
def Be (K : Fg) (r : Ring) (W C : Nat) : Rp (Option (List Bool × Rat)) := fun H v b => match b with
  | none => v = .non
  | some (ws, q) => ∃ (a : Addr) (l rm : Int) (wv : V), v = .ref a ∧ SqT K H a [.int l, .int rm, wv] ∧ Ls Wy H wv ws ∧ ws.length = r.asks.length ∧ IsTop r ws q ∧ 0 < rm ∧ l.natAbs < 2 ^ 700 ∧ rm.natAbs < 2 ^ 600 ∧ (l : Rat) = q * scl W C * (rm : Rat)
theorem be_mv {r : Ring} {W C : Nat} {H H' : Hp} {v : V} {b : Option (List Bool × Rat)} (s : Same H H') (h : Be K r W C H v b) : Be K r W C H' v b := by
  match b, h with
  | none, h => exact h
  | some (ws, q), ⟨a, l, rm, wv, e, t, x, y⟩ => exact ⟨a, l, rm, wv, e, sm_t s t, mv s x, y⟩
def BB (b : Option (List Bool × Rat)) (q0 : Rat) : Prop := ∃ w q, b = some (w, q) ∧ q ≤ q0
def spGo (K : Fg) (A : Ad) (n : Nat) : Sp := fun vs H Q _ => ∃ (p dx lo rm wya la : Addr) (bv : V) (r : Ring) (d : LD) (Rs : List Int) (C : Nat) (ws : List Bool) (b : Option (List Bool × Rat)),
  vs = [.ref p, .ref wya, .ref la] ∧ H p = some (.ins A.CB dx (LeF (.ref lo) (.int (r.asks.length : Nat)) (.ref rm) bv)) ∧ Good r ∧ Lo K A r (hid p H) (.ref lo) d ∧ LdOk r d ∧ hid p H rm = some (.lst (Rs.map V.int)) ∧ RmOk r Rs C ∧
  Ls Wy (hid p H) (.ref wya) ws ∧ hid p H la = some (.lst ((ilL r d.ns ws).map V.int)) ∧ r.asks.length + 1 ≤ ws.length + n ∧ ws.length ≤ r.asks.length ∧ Be K r d.W C (hid p H) bv b ∧
  ∀ (H' : Hp) (bv' : V) (w' : List Bool) (q' : Rat), Same (hid p H) (hid p H') → H' p = some (.ins A.CB dx (LeF (.ref lo) (.int (r.asks.length : Nat)) (.ref rm) bv')) → Be K r d.W C (hid p H') bv' (some (w', q')) →
    (∀ v q2, ws <+: v → v.length = r.asks.length → IsTop r v q2 → q' ≤ q2) → (∀ w0 q0, b = some (w0, q0) → q' ≤ q0) → Q .non H'
theorem pre_full {ws v : List Bool} (h : ws <+: v) (l : v.length = ws.length) : v = ws := by
  obtain ⟨t, rfl⟩ := h
  rw [List.length_append] at l
  have : t = [] := List.eq_nil_of_length_eq_zero (by omega)
  rw [this, List.append_nil]
theorem pre_more {ws v : List Bool} (h : ws <+: v) (l : ws.length < v.length) : ∃ j, j < 2 ∧ ws ++ [decide (j = 0)] <+: v := by
  obtain ⟨t, rfl⟩ := h
  match t with
  | [] => simp at l
  | true :: t => exact ⟨0, by omega, t, by simp⟩
  | false :: t => exact ⟨1, by omega, t, by simp⟩
theorem ok_Least_go_n (T : Txt K mg A) : ∀ n : Nat, MCal P w K mg base (n + 2) A.CB "go" pr_Least_go (spGo K A n)
  | 0 => by
    obtain ⟨f, fd, F, hb, hM⟩ := T.d_Least_go
    have no : ∀ vs H Q E, ¬ spGo K A 0 vs H Q E := fun vs H Q E h => by
      obtain ⟨p, dx, lo, rm, wya, la, bv, r, d, Rs, C, ws, b, _, _, _, _, _, _, _, _, _, h1, h2, _⟩ := h
      omega
    exact ⟨f, fd, ⟨fun vs H Q E h => absurd h (no vs H Q E), fun A outer s H args us vs Q E _ _ _ _ h => absurd h (no vs H Q E)⟩, hb, hM⟩
  | n + 1 => by
    have cM := ok_Least_go_n T n
    obtain ⟨f, fd, F, hb, hM⟩ := T.d_Least_go
    refine ⟨f, fd, F.ok sc_Least_go (fun vs H Q E h => ?_) (fun cdv A' outer s H vs Q E hr h => ?_), hb, hM⟩
    · obtain ⟨p, dx, lo, rm, wya, la, bv, r, d, Rs, C, ws, b, rfl, _⟩ := h; rfl
    obtain ⟨p, dx, lo, rm, wya, la, bv, r, d, Rs, C, ws, b, rfl, hp, hG, hLo, hok, hrm, hRm, hws, hla, hn, hle, hB, k⟩ := h
    have hrM := hr
    have cl := T.clLeast
    have cl2 := T.clLoading
    have a1 := T.aB_loading
    have a2 := T.aB_many
    have a3 := T.aB_rooms
    have a4 := T.aB_best
    have m5 := hG.m5
    obtain ⟨px, dxl, sa, ca, ta, xa, cv, tv, xv, ex, hpx, _⟩ := lo_get hLo
    obtain rfl : lo = px := V.ref.inj ex
    obtain ⟨wya', wyl, exw, hwy, alw⟩ := id hws
    obtain rfl : wya = wya' := V.ref.inj exw
    have lw := alw.len
    have lns := hok.sz.len
    have hwyH := hid_sm _ _ hwy
    refine ⟨_, (pss_cons (ps_set (i := 3) sc_Least_go.nd rfl (Or.inl rfl) (pe_callB (c_lenk K) (by rfl) T.n_len PySem.boot_len (pa_cons (pv 1) pa_nil)))
  (pss_cons (ps_if (pt_cmpR op_lt (pv 3) (pe_fk K (pv 0)) (nomark _)) (pss_cons (ps_for PassesOwn.never rfl (pi_etk K T.n_enumerate (pa_cons (pe_k T.kCHOICES) pa_nil)) (pg_tk K 2 (pgs_cons (pg_name (i := 4) sc_Least_go.nd rfl (Or.inl rfl)) (pgs_cons (pg_name (i := 5) sc_Least_go.nd rfl (Or.inl rfl)) pgs_nil))) (pss_cons (ps_expr (pe_m cM T.clLeast hrM (pv 0) (pa_cons (pe_op op_cat (pv 1) (pe_lst (pa_cons (pv 5) pa_nil))) (pa_cons (pe_m (ok_Loading_loaded T) T.clLoading (hr.mono (by omega)) (pe_fk K (pv 0)) (pa_cons (pv 2) (pa_cons (pv 3) (pa_cons (pv 4) pa_nil)))) pa_nil))))
  pss_nil))
  (pss_cons ps_retN
  pss_nil)) pss_nil)
  (pss_cons (ps_asg (pe_m (ok_Least_strain T) T.clLeast (hr.mono (by omega)) (pv 0) (pa_cons (pv 2) pa_nil)) (pg_tk K 2 (pgs_cons (pg_name (i := 6) sc_Least_go.nd rfl (Or.inl rfl)) (pgs_cons (pg_name (i := 7) sc_Least_go.nd rfl (Or.inl rfl)) pgs_nil))))
  (pss_cons (ps_if (PW.pt (pw_or (pt_cmpR o_isN (pe_fk K (pv 0)) pe_non (nomark _)) (pw_or1 (pt_cmpR op_lt (pe_op op_mulW (pv 6) (pe_ix (ix_tk K) (pe_fk K (pv 0)) pe_int (fun _ _ => rfl))) (pe_op op_mulW (pe_ix (ix_tk K) (pe_fk K (pv 0)) pe_int (fun _ _ => rfl)) (pv 7)) (nomark _))))) (pss_cons (ps_fk K (pv 0) (pe_tup (pa_cons (pv 6) (pa_cons (pv 7) (pa_cons (pv 1) pa_nil)))))
  pss_nil) pss_nil)
  pss_nil)))), ?_⟩
    walk_at "rg"
    by_cases hlt : ws.length < r.asks.length
    · rw [decide_eq_true (by omega)]
      refine iteT ?_
      obtain ⟨a, ha⟩ : ∃ a, r.asks[ws.length]? = some a := ⟨_, List.getElem?_eq_getElem hlt⟩
      obtain ⟨z, hz⟩ : ∃ z, d.ns[ws.length]? = some z := ⟨_, List.getElem?_eq_getElem (by omega)⟩
      walk_at "rg"
      refine r_enumT (T.tCHOICES _) (lp_of (walk_enumT (xs := [.str "on", .str "back"])) ?_)
      refine ⟨fun i σ Hk => ∃ (bvk : V) (bk : Option (List Bool × Rat)) (y4 y5 : Option V), σ = [some (.ref p), some (.ref wya), some (.ref la), some (.int (wyl.length : Nat)), y4, y5, none, none] ∧ Same (hid p H) (hid p Hk) ∧ Hk p = some (.ins A.CB dx (LeF (.ref lo) (.int (r.asks.length : Nat)) (.ref rm) bvk)) ∧
          Be K r d.W C (hid p Hk) bvk bk ∧ (0 < i ∨ bk = b) ∧ (0 < i → ∃ w q, bk = some (w, q)) ∧ (∀ w0 q0, b = some (w0, q0) → BB bk q0) ∧ ∀ j, j < i → ∀ v q2, ws ++ [decide (j = 0)] <+: v → v.length = r.asks.length → IsTop r v q2 → BB bk q2,
        ⟨bv, b, none, none, rfl, Same.refl _, hp, hB, .inr rfl, fun h => absurd h (Nat.lt_irrefl 0), fun w0 q0 e => ⟨w0, q0, e, Rat.le_refl⟩, fun j hj => absurd hj (Nat.not_lt_zero j)⟩, fun i σ Hk _ _ => T.tCHOICES _, ?_, ?_⟩
      · rintro i xx σ Hk H4 hi ⟨bvk, bk, y4, y5, rfl, sk, hpk, hBk, hbk, hsk, hold, hnew⟩ y
        obtain ⟨T', x1, x2, rfl, g1, g2, s4, nT, hT⟩ := yget y
        obtain rfl : V.int (i : Nat) = x1 := Option.some.inj g1
        have hi2 : i < 2 := hi
        have hx2 : x2 = .str (wayS (decide (i = 0))) := by
          match i, hi2, g2 with
          | 0, _, hx => exact (Option.some.inj hx).symm
          | 1, _, hx => exact (Option.some.inj hx).symm
        subst hx2
        have tT := SqT.of (K := K) hT
        have hp4 := s4 _ _ hpk
        have v4 := sk.trans (hid_mono s4)
        have hwy4 := hid_sm _ _ (v4 _ _ hwy)
        have hpx4 := hid_sm _ _ (v4 _ _ hpx)
        walk_at "rg"
        refine e_nwL rfl fun w1 H6 s6 nw1 hw1 => ?_
        refine e_cat (s6 _ _ hwy4) hw1 (szL (by simp; omega)) fun w2 H7 s7 nw2 hw2 => ?_
        have s47 := s6.trans s7
        have hp7 := s47 _ _ hp4
        have hpx7 := s47 _ _ hpx4
        have v7 := v4.trans (hid_mono s47)
        walk_at "rg"
        refine ⟨_, r, d, _, ilL r d.ns ws, ws.length, a, z, i, by rw [lw], mv (v7.trans hid_sm) hLo, hok, hG, li_of (hid_sm _ _ (v7 _ _ hla)), ilL_len, ha, hz, hi2, fun pm H8 s8 np8 h8 => ?_⟩
        rw [ilL_step hG ha hz] at h8
        have hp8 := s8 _ _ hp7
        have v8 := v7.trans (hid_mono s8)
        have ne8 : pm ≠ p := fun e => by
          subst e
          rw [hp7] at np8
          cases np8
        have nw2p : w2 ≠ p := fun e => by
          subst e
          rw [s6 _ _ hp4] at nw2
          cases nw2
        walk_at "rg"
        refine ⟨p, dx, lo, rm, w2, pm, bvk, r, d, Rs, C, ws ++ [decide (i = 0)], bk, rfl, hp8, hG, mv v8 hLo, hok, v8 _ _ hrm, hRm, ⟨w2, _, rfl, by rw [hid_ne nw2p]; exact s8 _ _ hw2, (alw.mv v8).app (.one rfl)⟩, by rw [hid_ne ne8]; exact h8, by rw [List.length_append, List.length_singleton]; omega,
          by rw [List.length_append, List.length_singleton]; omega, be_mv (hid_mono (s4.trans (s47.trans s8))) hBk, fun H9 bv9 w9 q9 s9 hp9 hB9 hc9 ho9 => ?_⟩
        walk_at "rg"
        refine ⟨bv9, some (w9, q9), _, _, rfl, v8.trans s9, hp9, hB9, .inl (Nat.succ_pos i), fun _ => ⟨w9, q9, rfl⟩, fun w0 q0 e => ?_, fun j hj v q2 hv lv ht => ?_⟩
        · obtain ⟨w', q', e', le⟩ := hold w0 q0 e
          exact ⟨w9, q9, rfl, Rat.le_trans (ho9 _ _ e') le⟩
        · by_cases e : j = i
          · subst e
            exact ⟨w9, q9, rfl, hc9 v q2 hv lv ht⟩
          · obtain ⟨w', q', e', le⟩ := hnew j (by omega) v q2 hv lv ht
            exact ⟨w9, q9, rfl, Rat.le_trans (ho9 _ _ e') le⟩
      · rintro σ Hk ⟨bvk, bk, y4, y5, rfl, sk, hpk, hBk, hbk, hsk, hold, hnew⟩
        obtain ⟨w', q', rfl⟩ := hsk (by decide)
        walk_at "rg"
        refine k Hk bvk w' q' sk hpk hBk (fun v q2 hv lv ht => ?_) fun w0 q0 e => ?_
        · obtain ⟨j, hj, hv'⟩ := pre_more hv (by omega)
          obtain ⟨w2, q3, e3, le⟩ := hnew j hj v q2 hv' lv ht
          obtain ⟨rfl, rfl⟩ := Prod.mk.inj (Option.some.inj e3)
          exact le
        · obtain ⟨w2, q3, e3, le⟩ := hold w0 q0 e
          obtain ⟨rfl, rfl⟩ := Prod.mk.inj (Option.some.inj e3)
          exact le
    · rw [decide_eq_false (by omega)]
      refine iteF ?_
      have heq : ws.length = r.asks.length := by omega
      walk_at "rg"
      refine ⟨p, dx, .ref lo, .int (r.asks.length : Nat), bv, rm, la, Rs, ilL r d.ns ws, rfl, hp, hid_sm _ _ hrm, hid_sm _ _ hla, by rw [ilL_len, hRm.len], by rw [ilL_len]; have := hG.n2; omega, fun z hz => ?_, fun y hy => ?_, fun t H2 j l m s2 tt ej em hmax => ?_⟩
      · obtain ⟨i, hi⟩ := List.getElem?_of_mem hz
        exact (hRm.val i z hi).2
      · obtain ⟨i, _, rfl⟩ := List.mem_map.mp hy
        have := ild_bd hok.sz ws ws.length i
        have c : ws.length * 2 ^ 600 ≤ 5 * 2 ^ 600 := Nat.mul_le_mul_right _ (by omega)
        have c2 : 5 * 2 ^ 600 < 2 ^ 700 := by decide +kernel
        omega
      have hj : j < r.rooms.length := by
        rw [← hRm.len]
        exact (List.getElem?_eq_some_iff.mp em).1
      have il : ∀ i, i < r.rooms.length → (ilL r d.ns ws)[i]? = some (ild r d.ns ws ws.length i) := fun i hi => by
        unfold ilL
        rw [List.getElem?_map, List.getElem?_range hi]; rfl
      obtain rfl : ild r d.ns ws ws.length j = l := by
        have := il j hj
        rw [ej] at this
        exact (Option.some.inj this).symm
      have top := top_int hG hok.sz hRm heq hj em fun i z hz => hmax i _ z (il i (by rw [← hRm.len]; exact (List.getElem?_eq_some_iff.mp hz).1)) hz
      have bm := (hRm.val j m em).2
      have bl : (ild r d.ns ws ws.length j).natAbs < 2 ^ 700 := by
        have := ild_bd hok.sz ws ws.length j
        have c : ws.length * 2 ^ 600 ≤ 5 * 2 ^ 600 := Nat.mul_le_mul_right _ (by omega)
        have c2 : 5 * 2 ^ 600 < 2 ^ 700 := by decide +kernel
        omega
      have pos := scl_pos hok.sz.w0 hRm.c0
      have hp2 := s2 _ _ hp
      have v2 := hid_mono (a := p) s2
      walk_at "rg"
      have done : ∀ (H3 : Hp) (t3 : Addr), Same H2 H3 → H2 t3 = none → H3 t3 = some (.tup [.int (ild r d.ns ws ws.length j), .int m, .ref wya]) → (∀ w0 q0, b = some (w0, q0) → strain r ws j ≤ q0) →
          Q .non (upd H3 p (.ins A.CB dx (LeF (.ref lo) (.int (r.asks.length : Nat)) (.ref rm) (.ref t3)))) := fun H3 t3 s3 n3 h3 ho => by
        have ne3 : t3 ≠ p := fun e => by
          subst e
          rw [hp2] at n3
          cases n3
        have v3 := v2.trans (hid_mono (a := p) s3)
        refine k _ (.ref t3) ws (strain r ws j) (by rw [hid_upd]; exact v3) upd_same ?_ (fun v q2 hv lv ht => ?_) ho
        · rw [hid_upd]
          exact ⟨t3, _, m, _, rfl, SqT.of (by rw [hid_ne ne3]; exact h3), mv v3 hws, heq, top.1, bm.1, bl, bm.2, top.2⟩
        · rw [pre_full hv (by omega)] at ht
          rw [ht.uniq top.1]
          exact Rat.le_refl
      match b, hB with
      | none, hB =>
        obtain rfl : bv = .non := hB
        rw [decide_eq_true rfl]
        refine iteT ?_
        walk_at "rg"
        refine iteT ?_
        walk_at "rg"
        refine e_nwT rfl fun t3 H3 s3 n3 h3 => ?_
        have hp3 := s3 _ _ hp2
        walk_at "rg"
        exact done H3 t3 s3 n3 h3 fun w0 q0 e => by cases e
      | some (w0, q0), hB =>
        obtain ⟨t0, l0, m0, wv0, rfl, tt0, hw0, lw0, top0, bm0, bl0, bm0', e0⟩ := id hB
        have tt2 := sm_t (v2.trans hid_sm) tt0
        rw [decide_eq_false (by intro e; cases e)]
        refine iteF ?_
        walk_at "rg"
        refine e_I (wide_mul bl bm0' (by decide) (by decide) (by decide)) ?_
        walk_at "rg"
        refine e_I (wide_mul bl0 bm.2 (by decide) (by decide) (by decide)) ?_
        walk_at "rg"
        by_cases hq : strain r ws j < q0
        · rw [decide_eq_true ((key_lt pos bm.1 bm0 top.2 e0).mpr hq)]
          refine iteT ?_
          walk_at "rg"
          refine e_nwT rfl fun t3 H3 s3 n3 h3 => ?_
          have hp3 := s3 _ _ hp2
          walk_at "rg"
          exact done H3 t3 s3 n3 h3 fun w1 q1 e => by
            obtain ⟨rfl, rfl⟩ := Prod.mk.inj (Option.some.inj e)
            exact Rat.le_of_lt hq
        · rw [decide_eq_false (fun h => hq ((key_lt pos bm.1 bm0 top.2 e0).mp h))]
          refine iteF ?_
          walk_at "rg"
          refine k H2 _ w0 q0 v2 hp2 (be_mv v2 hB) (fun v q2 hv lv ht => ?_) fun w1 q1 e => ?_
          · rw [pre_full hv (by omega)] at ht
            rw [ht.uniq top.1]
            exact Rat.not_lt.mp hq
          · obtain ⟨rfl, rfl⟩ := Prod.mk.inj (Option.some.inj e)
            exact Rat.le_refl
theorem ok_Least_go (T : Txt K mg A) : MCal P w K mg base 8 A.CB "go" pr_Least_go (spGo K A 6) := ok_Least_go_n T 6
end
section
variable {P : Program} {w : World} {K : Fg} {mg : Str → Option Value} {base : Heap} {A : Ad}
/-- ws has the least top, q -/
structure IsBest (r : Ring) (ws : List Bool) (q : Rat) : Prop where
  len : ws.length = r.asks.length
  top : IsTop r ws q
  least : ∀ v q2, v.length = r.asks.length → IsTop r v q2 → q ≤ q2
def spBest (K : Fg) : Sp := fun vs H Q _ => ∃ v r, vs = [v] ∧ Rn K H v r ∧ Good r ∧ ∀ a f wv x H' q ws, Same H H' → SqT K H' a [f, wv, x] → Fr K H' f q → Ls Wy H' wv ws → IsBest r ws q → Bd 500 q → Q (.ref a) H'
theorem ok_best_ways (T : Txt K mg A) : Cal P w K mg base 12 "best_ways" pr_best_ways (spBest K) := by
  obtain ⟨f, fd, F, hm, hb⟩ := T.d_best_ways
  refine ⟨f, fd, F.ok sc_best_ways (fun vs H Q E h => ?_) (fun cdv A' outer s H vs Q E hr h => ?_), hm, F.kp, hb⟩
  · obtain ⟨v, r, rfl, _⟩ := h; rfl
  obtain ⟨rv, r, rfl, hR, hG, k⟩ := h
  have cl := T.clLeast
  have a4 := T.aB_best
  have m5 := hG.m5
  have n8 := hG.n8
  obtain ⟨pr, ra, aa, rl, al, rfl, tp, hra, alr, haa, ala⟩ := rn_get hR
  have lal := ala.len
  have lrl := alr.len
  refine ⟨_, (pss_cons (ps_if (pt_cmpR op_gt (pe_callB (c_lenk K) (by rfl) T.n_len PySem.boot_len (pa_cons (pe_ix (ix_tk K) (pv 0) pe_int (fun _ _ => rfl)) pa_nil)) (pe_k T.kMOST) (nomark _)) (pss_cons ps_never
  pss_nil) pss_nil)
  (pss_cons (ps_set (i := 1) sc_best_ways.nd rfl (Or.inl rfl) (pe_n (ok_Least_init T) (hr.mono (by decide)) (pa_cons (pv 0) pa_nil)))
  (pss_cons (ps_expr (pe_m (ok_Least_go T) T.clLeast (hr.mono (by decide)) (pv 1) (pa_cons (pe_lst pa_nil) (pa_cons (pe_lc (own := [("room", 4)]) (g := (gName 4)) (tt := tYes) rfl sc_best_ways.nd (pi_lk K (pe_ix (ix_tk K) (pv 0) pe_int (fun _ _ => rfl))) (blkOk_by (N := nm_best_ways) (sc := defScope st_best_ways) (by decide +kernel)) (fun _ _ _ _ _ => (pg_name (i := 4) sc_best_ways.nd rfl (Or.inl rfl))) (fun _ _ _ _ _ => pts_nil) (fun _ _ _ _ _ => pe_int)) pa_nil))))
  (pss_cons (ps_set (i := 2) sc_best_ways.nd rfl (Or.inl rfl) (pe_ix (ix_tk K) (pe_fk K (pv 1)) pe_int (fun _ _ => rfl)))
  (pss_cons (ps_set (i := 3) sc_best_ways.nd rfl (Or.inl rfl) (pe_ix (ix_tk K) (pe_c (ok_top_of T) (hr.mono (by decide)) (pa_cons (pv 0) (pa_cons (pe_c (ok_sent_by T) (hr.mono (by decide)) (pa_cons (pv 0) (pa_cons (pv 2) pa_nil))) pa_nil))) pe_int (fun _ _ => rfl)))
  (pss_cons (ps_ret (pe_tup (pa_cons (pv 3) (pa_cons (pv 2) (pa_cons (pe_ix (ix_tk K) (pe_c (ok_ways_for T) (hr.mono (by decide)) (pa_cons (pv 0) (pa_cons (pe_c (ok_wish_for_less T) (hr.mono (by decide)) (pa_cons (pv 0) (pa_cons (pv 3) pa_nil))) pa_nil))) pe_int (fun _ _ => rfl)) pa_nil)))))
  pss_nil)))))), ?_⟩
  walk_at "rg"
  rw [decide_eq_false (by omega)]
  refine iteF ?_
  walk_at "rg"
  intro x xd nx nxd nex
  refine ⟨H, x, xd, _, r, rfl, upd_same, nx, sm_made nx nxd, hR, hG, fun H1 d Rs C lo rm s1 hp1 hLo hok hrm hRm => ⟨rfl, ?_⟩⟩
  walk_at "rg"
  refine e_nwL rfl fun w0 H2 s2 nw0 hw0 => ?_
  have tp2 := sm_t (s1.trans s2) tp
  have hra2 := s2 _ _ (s1 _ _ hra)
  walk_at "rg"
  refine r_list (SqL.of hra2) (cp_of (walk_list (xs := rl)) (cb_map In (fun _ => 0) (by omega) (fun H3 s3 => SqL.of (s3 _ _ hra2)) ?_ ?_))
  · rintro i xx _ H3 Pq Z hi s3 ⟨rfl, hx⟩ kk
    walk_at "rg"
    refine ⟨rfl, ?_⟩
    walk_at "rg"
    exact kk _ _ (Same.refl _) rfl
  · intro D acc H3 hD s3 hacc al0
    obtain rfl := al_ints al0
    have hp3 := (s2.trans s3) _ _ hp1
    have v3 := hid_mono (a := x) (s2.trans s3)
    have neD : D ≠ x := fun e => by
      subst e
      rw [s2 _ _ hp1] at hD
      cases hD
    have nw0x : w0 ≠ x := fun e => by
      subst e
      rw [hp1] at nw0
      cases nw0
    have eil : ilL r d.ns [] = (List.range rl.length).map fun _ => (0 : Int) := by
      rw [lrl]
      rfl
    walk_at "rg"
    refine ⟨x, xd, lo, rm, w0, D, .non, r, d, Rs, C, [], none, rfl, hp3, hG, mv v3 hLo, hok, v3 _ _ hrm, hRm, ⟨w0, [], rfl, by rw [hid_ne nw0x]; exact s3 _ _ hw0, .nil⟩, by rw [hid_ne neD, eil]; exact hacc, by simp; omega, by simp, rfl, fun H4 bv ws q s4 hp4 hB hle _ => ?_⟩
    obtain ⟨ba, l, m, wv, rfl, tb, hws, lws, htop, _⟩ := hB
    have sv : Same H (hid x H4) := (hid_same nx (s1.trans (s2.trans s3))).trans s4
    have s04 := sv.trans hid_sm
    have tb4 := sm_t hid_sm tb
    walk_at "rg"
    refine ⟨_, r, _, ws, rfl, mv s04 hR, hG, mv hid_sm hws, lws, fun sv' H5 s5 hs5 => ?_⟩
    walk_at "rg"
    refine ⟨_, r, _, ws, rfl, mv (s04.trans s5) hR, hG, hs5, lws, fun tp6 f6 i6 H6 q6 s6 t6 f6' ht6 bq6 => ?_⟩
    obtain rfl := ht6.uniq htop
    walk_at "rg"
    refine ⟨_, r, _, q6, rfl, mv (s04.trans (s5.trans s6)) hR, m5, f6', fun wv7 H7 s7 hW7 => ?_⟩
    walk_at "rg"
    refine ⟨_, r, _, q6, rfl, mv (s04.trans (s5.trans (s6.trans s7))) hR, hG, hW7, bq6, fun p8 s8' x8 H8 s8 t8 => ?_⟩
    walk_at "rg"
    refine e_nwT rfl fun p9 H9 s9 n9 h9 => ?_
    exact k p9 _ _ _ H9 q6 ws (s04.trans (s5.trans (s6.trans (s7.trans (s8.trans s9))))) (SqT.of h9) (mv (s7.trans (s8.trans s9)) f6') (mv (hid_sm.trans (s5.trans (s6.trans (s7.trans (s8.trans s9))))) hws)
      ⟨lws, htop, fun v q2 lv ht => hle v q2 ⟨v, rfl⟩ lv ht⟩ bq6
end
section
variable {P : Program} {w : World} {K : Fg} {mg : Str → Option Value} {base : Heap} {A : Ad}
/-! what the law draws -/
/-- a state of drawing at a -/
def Stt (a : Addr) (H : Hp) : Prop := ∃ (c r : Int) (b : Bool), H a = some (.lst [.int c, .int r, .bl b])
def spBegun (K : Fg) : Sp := fun vs H Q _ => ∃ (a : Addr) (xs : List Int) (k : Nat), vs = [.ref a, .int (k : Nat)] ∧ SqL K H a (xs.map V.int) ∧ k ≤ 63 ∧ ∀ p H', Same H H' → H p = none → Stt p H' → Q (.ref p) H'
theorem ok__law_begun (T : Txt K mg A) : Cal P w K mg base 1 "_law_begun" pr__law_begun (spBegun K) := by
  obtain ⟨f, fd, F, hm, hb⟩ := T.d__law_begun
  refine ⟨f, fd, F.ok sc__law_begun (fun vs H Q E h => ?_) (fun cdv A' outer s H vs Q E hr h => ?_), hm, F.kp, hb⟩
  · obtain ⟨a, xs, k, rfl, _⟩ := h; rfl
  obtain ⟨a, xs, k, rfl, ha, hk, q⟩ := h
  refine ⟨_, (pss_cons (ps_set (i := 2) sc__law_begun.nd rfl (Or.inl rfl) pe_int)
  (pss_cons (ps_if (pt_cmpR op_lt (pv 1) (pe_callB (c_lenk K) (by rfl) T.n_len PySem.boot_len (pa_cons (pv 0) pa_nil)) (nomark _)) (pss_cons (ps_set (i := 2) sc__law_begun.nd rfl (Or.inl rfl) (pe_ix (ix_lk K) (pv 0) (pv 1) (fun _ _ => rfl)))
  pss_nil) pss_nil)
  (pss_cons (ps_ret (pe_lst (pa_cons (pv 2) (pa_cons (pe_op op_mod (pe_op op_add (pe_op op_add (pe_op op_mod (pv 2) pe_int) (pe_op op_mul (pe_op op_mul pe_int (pv 1)) (pv 1))) pe_int) pe_int) (pa_cons (pe_cmpR op_ge (pv 2) (pe_op op_pow pe_int pe_int) (nomark _)) pa_nil)))))
  pss_nil))), ?_⟩
  have tail : ∀ cell : Int, ∀ σ : L2.St, σ = [some (.ref a), some (.int (k : Nat)), some (.int cell)] → ∀ p H', Same H H' → H p = none → H' p = some (.lst [.int cell, .int ((cell % 2147483587 + 48271 * (k : Nat) * (k : Nat) + 13) % 2147483587), .bl (decide (cell ≥ 10 ^ 18))]) → Q (.ref p) H' :=
    fun cell σ _ p H' s1 np hp => q p H' s1 np ⟨_, _, _, hp⟩
  walk_at "rg"
  by_cases h : k < xs.length
  · rw [decide_eq_true (by rw [List.length_map]; omega)]
    refine iteT ?_
    obtain ⟨z, hz, iz⟩ := li_at h
    walk_at "rg"
    refine e_ixL ha iz ?_
    walk_at "rg"
    refine e_I (by show (0 : Int) < 2147483587; decide) ?_
    walk_at "rg"
    refine e_I (.inl ⟨by decide, by decide⟩) ?_
    walk_at "rg"
    refine e_I (.inr ⟨by omega, by omega⟩) ?_
    walk_at "rg"
    refine e_I (by show (0 : Int) < 2147483587; decide) ?_
    walk_at "rg"
    refine e_I ⟨by decide, by decide, by decide⟩ ?_
    walk_at "rg"
    exact e_nwL rfl fun p H' s1 np hp => q p H' s1 np ⟨_, _, _, hp⟩
  · rw [decide_eq_false (by rw [List.length_map]; omega)]
    refine iteF ?_
    walk_at "rg"
    refine e_I (by show (0 : Int) < 2147483587; decide) ?_
    walk_at "rg"
    refine e_I (.inl ⟨by decide, by decide⟩) ?_
    walk_at "rg"
    refine e_I (.inr ⟨by omega, by omega⟩) ?_
    walk_at "rg"
    refine e_I (by show (0 : Int) < 2147483587; decide) ?_
    walk_at "rg"
    refine e_I ⟨by decide, by decide, by decide⟩ ?_
    walk_at "rg"
    exact e_nwL rfl fun p H' s1 np hp => q p H' s1 np ⟨_, _, _, hp⟩
def spTake : Sp := fun vs H Q _ => ∃ (a : Addr) (m : Int), vs = [.ref a, .int m] ∧ Stt a H ∧ 0 < m ∧ m < 2 ^ 62 ∧ ∀ d H', Same (hid a H) (hid a H') → Stt a H' → 0 ≤ d → d < m → Q (.int d) H'
theorem ok__law_take (T : Txt K mg A) : Cal P w K mg base 1 "_law_take" pr__law_take spTake := by
  obtain ⟨f, fd, F, hm, hb⟩ := T.d__law_take
  refine ⟨f, fd, F.ok sc__law_take (fun vs H Q E h => ?_) (fun cdv A' outer s H vs Q E hr h => ?_), hm, F.kp, hb⟩
  · obtain ⟨a, m, rfl, _⟩ := h; rfl
  obtain ⟨a, m, rfl, ⟨c, r, b, ha⟩, m0, mb, q⟩ := h
  refine ⟨_, (pss_cons (ps_if (pt_val (pe_ix (ix_lk K) (pv 0) pe_int (fun _ _ => rfl))) (pss_cons (ps_set (i := 2) sc__law_take.nd rfl (Or.inl rfl) (pe_op op_mod (pe_ix (ix_lk K) (pv 0) pe_int (fun _ _ => rfl)) (pv 1)))
  (pss_cons (ps_asg (pe_op op_fdivW (pe_ix (ix_lk K) (pv 0) pe_int (fun _ _ => rfl)) (pv 1)) (pg_sub (pv 0) pe_int set_list))
  (pss_cons (ps_asg (pe_cmpR op_gt (pe_ix (ix_lk K) (pv 0) pe_int (fun _ _ => rfl)) pe_int (nomark _)) (pg_sub (pv 0) pe_int set_list))
  (pss_cons (ps_ret (pv 2))
  pss_nil)))) pss_nil)
  (pss_cons (ps_set (i := 3) sc__law_take.nd rfl (Or.inl rfl) pe_int)
  (pss_cons (ps_for PassesOwn.never rfl (pi_range1 rfl T.n_range (pa_cons (pe_op op_add pe_int (pe_op op_mul pe_int (pe_callTy c_int (by rfl) T.n_int (by decide +kernel) (pa_cons (pe_cmpR op_gt (pv 1) (pe_op op_pow pe_int pe_int) (nomark _)) pa_nil)))) pa_nil)) (pg_name (i := 4) sc__law_take.nd rfl (Or.inl rfl)) (pss_cons (ps_asg (pe_op op_mod (pe_op op_add (pe_op op_mul (pe_ix (ix_lk K) (pv 0) pe_int (fun _ _ => rfl)) pe_int) pe_int) pe_int) (pg_sub (pv 0) pe_int set_list))
  (pss_cons (ps_set (i := 3) sc__law_take.nd rfl (Or.inl rfl) (pe_op op_add (pe_op op_mul (pv 3) pe_int) (pe_op op_mod (pe_op op_mul (pe_ix (ix_lk K) (pv 0) pe_int (fun _ _ => rfl)) (pe_ix (ix_lk K) (pv 0) pe_int (fun _ _ => rfl))) pe_int)))
  pss_nil)))
  (pss_cons (ps_ret (pe_op op_mod (pe_op op_fdiv (pv 3) pe_int) (pv 1)))
  pss_nil)))), ?_⟩
  walk_at "rg"
  refine e_ixL (SqL.of ha) rfl ?_
  walk_at "rg"
  have cd : ∀ z : Int, CDivW z m := fun z => wide_div (b := 62) m0 (by omega) (by decide) (by decide)
  cases b with
  | true =>
    refine iteT ?_
    walk_at "rg"
    refine e_ixL (SqL.of ha) rfl ?_
    walk_at "rg"
    refine e_I (show (0 : Int) < m from m0) ?_
    walk_at "rg"
    refine e_ixL (SqL.of ha) rfl ?_
    walk_at "rg"
    refine e_I (cd _) ?_
    walk_at "rg"
    refine e_setL ha rfl ?_
    have h1 : upd H a (.lst ([V.int c, .int r, .bl true].set 0 (.int (c / m)))) a = some (.lst [.int (c / m), .int r, .bl true]) := upd_same
    walk_at "rg"
    refine e_ixL (SqL.of h1) rfl ?_
    walk_at "rg"
    refine e_setL h1 rfl ?_
    walk_at "rg"
    exact q _ _ (by rw [hid_upd, hid_upd]; exact Same.refl _) ⟨_, _, _, upd_same⟩ (Int.emod_nonneg _ (by omega)) (Int.emod_lt_of_pos _ m0)
  | false =>
    refine iteF ?_
    walk_at "rg"
    refine e_I ⟨by decide, by decide⟩ ?_
    walk_at "rg"
    refine e_I (.inl ⟨by decide, by decide⟩) ?_
    walk_at "rg"
    obtain ⟨n, en, ln⟩ : ∃ n : Nat, 1 + 8 * (if decide (10 ^ 6 < m) = true then (1 : Int) else 0) = (n : Int) ∧ n ≤ 9 := by
      by_cases h : 10 ^ 6 < m
      · exact ⟨9, by rw [decide_eq_true h]; rfl, by decide⟩
      · exact ⟨1, by rw [decide_eq_false h]; rfl, by decide⟩
    refine r_rng1 en (by omega) (lp_of walk_rg ?_)
    refine ⟨fun i σ Hk => ∃ (z : Int) (y4 : Option V), σ = [some (.ref a), some (.int m), none, some (.int z), y4] ∧ Same (hid a H) (hid a Hk) ∧ Stt a Hk, ⟨0, none, rfl, Same.refl _, _, _, _, ha⟩, fun _ _ _ _ _ => trivial, ?_, ?_⟩
    · rintro i x σ _ H2 hi ⟨z, y4, rfl, s2, c2, r2, b2, h2⟩ ⟨rfl, rfl⟩
      walk_at "rg"
      refine e_ixL (SqL.of h2) rfl ?_
      walk_at "rg"
      refine e_I (.inr ⟨by decide, by decide⟩) ?_
      walk_at "rg"
      refine e_I (by show (0 : Int) < 2147483647; decide) ?_
      walk_at "rg"
      refine e_setL h2 (j := 1) rfl ?_
      obtain ⟨r3, H3, eH, h3, v3, l3, u3⟩ : ∃ r3 H3, upd H2 a (.lst ([V.int c2, .int r2, .bl b2].set 1 (.int ((r2 * 39373 + 17) % 2147483647)))) = H3 ∧ H3 a = some (.lst [.int c2, .int r3, .bl b2]) ∧ hid a H3 = hid a H2 ∧ 0 ≤ r3 ∧ r3 < 2147483647 :=
        ⟨_, _, rfl, upd_same, hid_upd, Int.emod_nonneg _ (by decide), Int.emod_lt_of_pos _ (by decide)⟩
      rw [eH]
      clear eH
      walk_at "rg"
      refine e_I (.inr ⟨by decide, by decide⟩) ?_
      walk_at "rg"
      refine e_ixL (SqL.of h3) rfl ?_
      walk_at "rg"
      refine e_ixL (SqL.of h3) rfl ?_
      refine e_I (.inl ⟨by omega, by omega⟩) ?_
      walk_at "rg"
      refine e_I (by show (0 : Int) < 2147483629; decide) ?_
      walk_at "rg"
      exact ⟨_, _, rfl, by rw [v3]; exact s2, _, _, _, h3⟩
    · rintro σ Hk ⟨z, y4, rfl, s2, h2⟩
      walk_at "rg"
      refine e_I ⟨by decide, by decide⟩ ?_
      walk_at "rg"
      refine e_I (show (0 : Int) < m from m0) ?_
      walk_at "rg"
      exact q _ _ s2 h2 (Int.emod_nonneg _ (by omega)) (Int.emod_lt_of_pos _ m0)
theorem ok__law_low (T : Txt K mg A) : Cal P w K mg base 1 "_law_low" pr__law_low (spLow K) := by
  obtain ⟨f, fd, F, hm, hb⟩ := T.d__law_low
  refine ⟨f, fd, F.ok sc__law_low (fun vs H Q E h => ?_) (fun cdv A' outer s H vs Q E hr h => ?_), hm, F.kp, hb⟩
  · obtain ⟨m, n, rfl, _⟩ := h; rfl
  obtain ⟨m, n, rfl, hn, hl, q⟩ := h
  refine ⟨_, (pss_cons (ps_set (i := 2) sc__law_low.nd rfl (Or.inl rfl) (pe_callB c_abs (by rfl) T.n_abs (by decide +kernel) (pa_cons (pv 0) pa_nil)))
  (pss_cons (ps_set (i := 3) sc__law_low.nd rfl (Or.inl rfl) (pe_callB c_abs (by rfl) T.n_abs (by decide +kernel) (pa_cons (pv 1) pa_nil)))
  (pss_cons (ps_while PassesOwn.never (pt_cmpR op_ne (pv 2) pe_int (nomark _)) (pss_cons (ps_par (i := 2) (j := 3) rfl sc__law_low.nd rfl rfl (by decide) rfl rfl (pa_cons (pe_op op_mod (pv 3) (pv 2)) (pa_cons (pv 2) pa_nil)) (by rfl))
  pss_nil))
  (pss_cons (ps_if (pt_cmpR op_lt (pv 1) pe_int (nomark _)) (pss_cons (ps_set (i := 3) sc__law_low.nd rfl (Or.inl rfl) (pe_op op_sub pe_int (pv 3)))
  pss_nil) pss_nil)
  (pss_cons (ps_ret (pe_tup (pa_cons (pe_op op_fdivW (pv 0) (pv 3)) (pa_cons (pe_op op_fdivW (pv 1) (pv 3)) pa_nil))))
  pss_nil))))), ?_⟩
  walk_at "rg"
  rw [if_neg (by omega), if_neg (by omega)]
  refine s_while (fun k σ H' => ∃ a : Nat, σ = [some (.int m), some (.int n), some (.int k), some (.int a)] ∧ Nat.gcd k a = Nat.gcd m n ∧ H' = H) m ⟨n, rfl, rfl, rfl⟩ ?_
  rintro k σ _ ⟨a, rfl, e, rfl⟩
  walk_at "rg"
  by_cases hk : k = 0
  · subst hk
    refine iteF ?_
    rw [Nat.gcd_zero_left] at e
    subst e
    have hg : 0 < Nat.gcd m n := Nat.gcd_pos_of_pos_right _ hn
    have hg2 : Nat.gcd m n ≤ n := Nat.gcd_le_right _ hn
    have cd : ∀ z : Int, CDivW z (Nat.gcd m n : Nat) := fun z => wide_div (b := 8000) (by omega) (by rw [Int.natAbs_natCast]; omega) (by decide) (by decide)
    walk_at "rg"
    rw [decide_eq_false (by omega)]
    refine iteF ?_
    walk_at "rg"
    refine e_I (cd _) ?_
    walk_at "rg"
    refine e_I (cd _) ?_
    walk_at "rg"
    refine e_nwT rfl fun p H' s1 hp hp' => q _ _ s1 ⟨p, rfl, ?_⟩
    rw [rat_num m n hn, rat_den m n hn]
    exact SqT.of hp'
  · have : (!decide ((V.int (k : Nat)) = .int 0)) = true := by simp; omega
    rw [this]
    refine iteT (e_N ?_)
    walk_at "rg"
    refine e_I (by show (0 : Int) < k; omega) ?_
    walk_at "rg"
    refine ⟨a % k, Nat.mod_lt _ (by omega), k, ?_, ?_, rfl⟩
    · rfl
    · rw [← e, ← Nat.gcd_rec]
/-- a fraction's relation does not look at a list -/
theorem stt_hd {α : Type} {R : Rp α} [Hd R] {H : Hp} {a : Addr} {v : V} {x : α} (h : Stt a H) (q : R H v x) : R (hid a H) v x := by
  obtain ⟨c, r, b, e⟩ := h
  exact Hd.hd e q
def kBot : List Int := [1, 1, 4, 12, 12]
def kTop : List Int := [3, 10, 10, 40, 10 ^ 12]
def spAmount (K : Fg) : Sp := fun vs H Q _ => ∃ (a : Addr) (l k : Nat), vs = [.ref a, .int l, .int k] ∧ Stt a H ∧ l ≤ 1 ∧ k < 5 ∧ ∀ v H' q, Same (hid a H) (hid a H') → Stt a H' → Fr K (hid a H') v q → Bd 50 q → (0 < l → 0 < q) → Q v H'
theorem ok__law_amount (T : Txt K mg A) : Cal P w K mg base 2 "_law_amount" pr__law_amount (spAmount K) := by
  obtain ⟨f, fd, F, hm, hb⟩ := T.d__law_amount
  refine ⟨f, fd, F.ok sc__law_amount (fun vs H Q E h => ?_) (fun cdv A' outer s H vs Q E hr h => ?_), hm, F.kp, hb⟩
  · obtain ⟨a, l, k, rfl, _⟩ := h; rfl
  obtain ⟨a, l, k, rfl, hS, hl, hk, q⟩ := h
  obtain ⟨b, eb, b0, b1⟩ : ∃ b : Int, kBot[k]? = some b ∧ 0 < b ∧ b ≤ 12 := by
    match k, hk with
    | 0, _ => exact ⟨_, rfl, by decide, by decide⟩
    | 1, _ => exact ⟨_, rfl, by decide, by decide⟩
    | 2, _ => exact ⟨_, rfl, by decide, by decide⟩
    | 3, _ => exact ⟨_, rfl, by decide, by decide⟩
    | 4, _ => exact ⟨_, rfl, by decide, by decide⟩
  obtain ⟨t, et, t0, t1⟩ : ∃ t : Int, kTop[k]? = some t ∧ 0 < t ∧ t ≤ 10 ^ 12 := by
    match k, hk with
    | 0, _ => exact ⟨_, rfl, by decide, by decide⟩
    | 1, _ => exact ⟨_, rfl, by decide, by decide⟩
    | 2, _ => exact ⟨_, rfl, by decide, by decide⟩
    | 3, _ => exact ⟨_, rfl, by decide, by decide⟩
    | 4, _ => exact ⟨_, rfl, by decide, by decide⟩
  refine ⟨_, (pss_cons (ps_set (i := 3) sc__law_amount.nd rfl (Or.inl rfl) (pe_op op_add pe_int (pe_c (ok__law_take T) (hr.mono (by decide)) (pa_cons (pv 0) (pa_cons (pe_ix (ix_lk K) (pe_lst (pa_cons pe_int (pa_cons pe_int (pa_cons pe_int (pa_cons pe_int (pa_cons pe_int pa_nil)))))) (pv 2) (fun _ _ => rfl)) pa_nil)))))
  (pss_cons (ps_set (i := 4) sc__law_amount.nd rfl (Or.inl rfl) (pe_op op_add (pv 1) (pe_c (ok__law_take T) (hr.mono (by decide)) (pa_cons (pv 0) (pa_cons (pe_ix (ix_lk K) (pe_lst (pa_cons pe_int (pa_cons pe_int (pa_cons pe_int (pa_cons pe_int (pa_cons (pe_op op_pow pe_int pe_int) pa_nil)))))) (pv 2) (fun _ _ => rfl)) pa_nil)))))
  (pss_cons (ps_ret (pe_c (ok__law_low T) (hr.mono (by decide)) (pa_cons (pv 4) (pa_cons (pv 3) pa_nil))))
  pss_nil))), ?_⟩
  walk_at "rg"
  refine e_nwL rfl fun p1 H1 s1 np1 hp1 => ?_
  have hS1 : Stt a H1 := by obtain ⟨c, r, bb, e⟩ := hS; exact ⟨c, r, bb, s1 _ _ e⟩
  walk_at "rg"
  refine e_ixL (SqL.of hp1) (atI_nat (v := .int b) (by show (kBot.map V.int)[k]? = _; rw [List.getElem?_map, eb]; rfl)) ?_
  walk_at "rg"
  refine ⟨a, b, rfl, hS1, b0, by omega, fun d2 H2 s2 hS2 d20 d2b => ?_⟩
  walk_at "rg"
  refine e_I ⟨by decide, by decide, by decide⟩ ?_
  walk_at "rg"
  refine e_nwL rfl fun p3 H3 s3 np3 hp3 => ?_
  have hS3 : Stt a H3 := by obtain ⟨c, r, bb, e⟩ := hS2; exact ⟨c, r, bb, s3 _ _ e⟩
  walk_at "rg"
  refine e_ixL (SqL.of hp3) (atI_nat (v := .int t) (by show (kTop.map V.int)[k]? = _; rw [List.getElem?_map, et]; rfl)) ?_
  walk_at "rg"
  refine ⟨a, t, rfl, hS3, t0, by omega, fun d4 H4 s4 hS4 d40 d4b => ?_⟩
  obtain ⟨m, em⟩ := toNat_eq (show 0 ≤ (l : Int) + d4 by omega)
  obtain ⟨n, en⟩ := toNat_eq (show 0 ≤ 1 + d2 by omega)
  walk_at "rg"
  refine ⟨m, n, by rw [em, en], by omega, ?_, fun v H5 s5 hv => ?_⟩
  · exact Nat.lt_of_lt_of_le (show n < 2 ^ 50 by omega) (Nat.pow_le_pow_right (by decide) (by decide))
  · have hS5 : Stt a H5 := by obtain ⟨c, r, bb, e⟩ := hS4; exact ⟨c, r, bb, s5 _ _ e⟩
    refine q v H5 _ ((hid_mono s1).trans (s2.trans ((hid_mono s3).trans (s4.trans (hid_mono s5))))) hS5 (stt_hd hS5 hv) (mk_bd (by omega) (by omega) (by omega)) fun l0 => ?_
    rw [Rat.mkRat_eq_div, Rat.div_def]
    exact Rat.mul_pos (Rat.intCast_pos.mpr (by omega)) (Rat.inv_pos.mpr (Rat.natCast_pos.mpr (by omega)))
end
section
variable {P : Program} {w : World} {K : Fg} {mg : Str → Option Value} {base : Heap} {A : Ad}
theorem hid_upd_ne {a D : Addr} {H : Hp} {o : HO} (h : D ≠ a) : hid a (upd H D o) = upd (hid a H) D o := by
  funext b
  by_cases q : b = D
  · subst q; rw [hid_ne h, upd_same, upd_same]
  · rw [upd_ne q]
    by_cases q2 : b = a
    · subst q2; rw [hid_at, hid_at]
    · rw [hid_ne q2, hid_ne q2, upd_ne q]
theorem Stt.ne {a D : Addr} {H : Hp} (h : Stt a H) (n : H D = none) : D ≠ a := fun e => by
  subst e
  obtain ⟨c, r, b, e⟩ := h
  rw [e] at n
  cases n
theorem Stt.mv {a : Addr} {H H' : Hp} (h : Stt a H) (s : Same H H') : Stt a H' := by
  obtain ⟨c, r, b, e⟩ := h
  exact ⟨c, r, b, s _ _ e⟩
theorem Stt.up {a D : Addr} {H : Hp} {o : HO} (h : Stt a H) (n : D ≠ a) : Stt a (upd H D o) := by
  obtain ⟨c, r, b, e⟩ := h
  exact ⟨c, r, b, by rw [upd_ne (Ne.symm n)]; exact e⟩
/-- a comprehension whose turns draw from a state -/
theorem cb_st {α : Type} {σ : L2.St} {g : TG} {te : TE} {Q : VK} {vs : List Nat} {n : Nat} {G : Hp → Prop} {Y : Nat → Hp → V → Hp → Prop} {H1 : Hp} {a : Addr} (Rk : Rp α) [Mo Rk] [Hd Rk] (PA : α → Prop) (hS : Stt a H1) (hn : n < 100000) (hG : ∀ H, G H)
    (hs : ∀ i x H H' (P : VK) (Z : Hp → Prop), i < n → Same (hid a H1) (hid a H) → Stt a H → Y i H x H' → (∀ y H4 al, Same (hid a H) (hid a H4) → Stt a H4 → Rk (hid a H4) y al → PA al → P y H4) →
      g x (wipe σ vs) H' fun σ2 H2 => wipe σ2 vs = wipe σ vs ∧ tYes σ2 H2 fun b H3 => if b = true then te σ2 H3 P else Z H3)
    (hd : ∀ D acc als H', D ≠ a → Same (hid a H1) (hid a H') → Stt a H' → H' D = some (.lst acc) → Al (Rk (hid D (hid a H'))) acc als → als.length = n → (∀ x ∈ als, PA x) → Q (.ref D) H') : CB n G Y g tYes te vs σ Q H1 := fun D hD => by
  have nD := hS.ne hD
  have hD' : hid a H1 D = none := by rw [hid_ne nD]; exact hD
  refine ⟨fun i H => Same (hid a H1) (hid a H) ∧ Stt a H ∧ ∃ acc als, H D = some (.lst acc) ∧ Al (Rk (hid D (hid a H))) acc als ∧ als.length = i ∧ ∀ x ∈ als, PA x, ⟨hid_mono (sm_new hD _), hS.up nD, [], [], upd_same, .nil, rfl, fun x hx => by simp at hx⟩, fun i H _ p => hG H, ?_, ?_⟩
  · rintro i x H H' hi ⟨s1, hS1, acc, als, ha, al, la, pa⟩ y
    refine hs i x H H' _ _ hi s1 hS1 y fun v H4 x4 s4 hS4 r p4 => ?_
    have l : acc.length = i := by rw [al.len, la]
    have h4 : hid a H4 D = some (.lst acc) := s4 _ _ (by rw [hid_ne nD]; exact ha)
    refine ⟨acc, by rw [hid_ne nD] at h4; exact h4, szLt (by omega), ?_, hS4.up nD, _, als ++ [x4], upd_same, ?_, by rw [List.length_append, la]; rfl, fun y hy => ?_⟩
    · rw [hid_upd_ne nD]
      exact sm_mut (s1.trans s4) hD'
    · rw [hid_upd_ne nD, hid_upd]
      exact (al.mv (hid_mono s4)).app (.one (Hd.hd h4 r))
    · rcases List.mem_append.mp hy with h | h
      · exact pa y h
      · rw [List.mem_singleton.mp h]; exact p4
  · rintro H ⟨s1, hS1, acc, als, ha, al, la, pa⟩
    exact hd D acc als H nD s1 hS1 ha al la pa
def Sr : Rp Str := fun _ v s => v = .str s
instance : Mo Sr := ⟨fun _ h => h⟩
instance : Hd Sr := ⟨fun _ h => h⟩
theorem al_strs {H : Hp} : ∀ {vs : List V} {ns : List Str}, Al (Sr H) vs ns → vs = ns.map V.str
  | _, _, .nil => rfl
  | _, _, .cons r t => by rw [List.map_cons, ← al_strs t]; rw [show _ = V.str _ from r]
theorem e_m1 {σ : L2.St} {H : Hp} {to te : TE} {r : V → List V → Hp → VK → Prop} {Q : VK} (h : to σ H fun x H1 => (∃ a, x = .str a) ∧ te σ H1 fun y H2 => r x [y] H2 Q) : tM1 r to te σ H Q := h
theorem e_ixS {H : Hp} {Q : VK} {z : Str} {i : Int} {c : Nat} (hz : z.length ≤ sizeLine) (h : atI z.cps.toList i = some c) (q : Q (.str ⟨#[c]⟩) H) : rIxS (.str z) (.int i) H Q := ⟨z, i, c, rfl, rfl, hz, h, q⟩
theorem cut_len (z : Str) (lo hi : Option Int) : (cutS z lo hi).length ≤ z.length := by
  show ((z.cps.toList.drop _).take _).toArray.size ≤ z.cps.size
  rw [List.size_toArray, List.length_take, List.length_drop, Array.length_toList]
  omega
abbrev abc : Str := "abcdefghijklmnopqrstuvwxyz"
/-- a text of code points -/
def Sok (s : Str) : Prop := ∀ c ∈ s.cps.toList, c < 0x110000
theorem Sok.ok {s : Str} (h : Sok s) : PyData.strOk s = true := by
  show s.cps.all _ = true
  rw [Array.all_eq_true']
  exact fun c hc => decide_eq_true (h c (Array.mem_toList_iff.mpr hc))
theorem Sok.app {a b : Str} (h : Sok a) (k : Sok b) : Sok (a ++ b) := fun c hc => by
  have e : (a ++ b).cps.toList = a.cps.toList ++ b.cps.toList := Array.toList_append
  rw [e] at hc
  rcases List.mem_append.mp hc with q | q
  · exact h c q
  · exact k c q
theorem Sok.cut {z : Str} (h : Sok z) (lo hi : Option Int) : Sok (cutS z lo hi) := fun c hc => h c (List.mem_of_mem_drop (List.mem_of_mem_take hc))
theorem Sok.join {sep : Str} (k : Sok sep) : ∀ l : List Str, (∀ x ∈ l, Sok x) → Sok (Str.join sep l)
  | [], _ => fun c hc => by cases hc
  | [x], h => h x List.mem_cons_self
  | x :: y :: r, h => ((h x List.mem_cons_self).app k).app (Sok.join k (y :: r) fun z hz => h z (List.mem_cons_of_mem _ hz))
theorem abc_at {z : Int} (h0 : 0 ≤ z) (h : z < 26) : ∃ c, atI abc.cps.toList z = some c ∧ Sok ⟨#[c]⟩ := by
  obtain ⟨n, rfl⟩ := toNat_eq h0
  have l : abc.cps.toList.length = 26 := by decide +kernel
  have all : ∀ c ∈ abc.cps.toList, c < 0x110000 := by decide +kernel
  refine ⟨_, atI_nat (List.getElem?_eq_getElem (by rw [l]; omega)), fun c hc => ?_⟩
  rw [List.mem_singleton.mp hc]
  exact all _ (List.getElem_mem _)
theorem sum_ones : ∀ l : List Str, (∀ x ∈ l, x.length = 1) → (l.map (·.length)).sum = l.length
  | [], _ => rfl
  | x :: r, h => by
    rw [List.map_cons, List.sum_cons, sum_ones r fun y hy => h y (List.mem_cons_of_mem _ hy), h x List.mem_cons_self, List.length_cons]
    omega
def spNames : Sp := fun vs H Q _ => ∃ (a : Addr) (m : Nat), vs = [.ref a, .int m] ∧ Stt a H ∧ m ≤ 5 ∧ ∀ p H' (ns : List Str), Same (hid a H) (hid a H') → Stt a H' → hid a H' p = some (.lst (ns.map V.str)) → ns.length = m → (∀ x ∈ ns, Sok x) → Q (.ref p) H'
theorem ok__law_names (T : Txt K mg A) : Cal P w K mg base 2 "_law_names" pr__law_names spNames := by
  obtain ⟨f, fd, F, hm, hb⟩ := T.d__law_names
  refine ⟨f, fd, F.ok sc__law_names (fun vs H Q E h => ?_) (fun cdv A' outer s H vs Q E hr h => ?_), hm, F.kp, hb⟩
  · obtain ⟨a, m, rfl, _⟩ := h; rfl
  obtain ⟨a, m, rfl, hS, hmm, q⟩ := h
  refine ⟨_, (pss_cons (ps_set (i := 2) sc__law_names.nd rfl (Or.inr rfl) pe_str)
  (pss_cons (ps_set (i := 3) sc__law_names.nd rfl (Or.inr rfl) (pe_join pe_str (pe_lc (own := [("_law_k", 6)]) (g := (gName 6)) (tt := tYes) rfl sc__law_names.nd (pi_range1 rfl T.n_range (pa_cons (pe_op op_add pe_int (pe_c (ok__law_take T) (hr.mono (by decide)) (pa_cons (pv 0) (pa_cons pe_int pa_nil)))) pa_nil)) (blkOk_by (N := nm__law_names) (sc := defScope st__law_names) (by decide +kernel)) (fun _ _ _ _ _ => (pg_name (i := 6) sc__law_names.nd rfl (Or.inl rfl))) (fun _ _ _ _ _ => pts_nil) (fun _ _ _ _ _ => (pe_ix ix_str (pv 2) (pe_c (ok__law_take T) (hr.mono (by decide)) (pa_cons (pv 0) (pa_cons pe_int pa_nil))) (fun _ _ => rfl))))))
  (pss_cons (ps_set (i := 4) sc__law_names.nd rfl (Or.inr rfl) (pe_c (ok__law_take T) (hr.mono (by decide)) (pa_cons (pv 0) (pa_cons (pe_callB c_lenS (by rfl) T.n_len PySem.boot_len (pa_cons (pv 3) pa_nil)) pa_nil))))
  (pss_cons (ps_set (i := 5) sc__law_names.nd rfl (Or.inr rfl) (pe_c (ok__law_take T) (hr.mono (by decide)) (pa_cons (pv 0) (pa_cons pe_int pa_nil))))
  (pss_cons (ps_ret (pe_lc (own := [("_law_k", 6)]) (g := (gName 6)) (tt := tYes) rfl sc__law_names.nd (pi_range1 rfl T.n_range (pa_cons (pv 1) pa_nil)) (blkOk_by (N := nm__law_names) (sc := defScope st__law_names) (by decide +kernel)) (fun _ _ _ _ _ => (pg_name (i := 6) sc__law_names.nd rfl (Or.inl rfl))) (fun _ _ _ _ _ => pts_nil) (fun _ _ _ _ _ => (pe_op o_addS (pe_op o_addS (pe_slice sl_str (pv 3) po_none (po_some (pv 4))) (pe_ix ix_str (pv 2) (pe_op op_mod (pe_op op_add (pv 5) (pv 6)) pe_int) (fun _ _ => rfl))) (pe_slice sl_str (pv 3) (po_some (pe_op op_add (pv 4) pe_int)) po_none)))))
  pss_nil))))), ?_⟩
  have l26 : abc.length ≤ sizeLine := lz (by decide +kernel)
  walk_at "rg"
  refine e_m1 ?_
  walk_at "rg"
  refine ⟨⟨_, rfl⟩, ?_⟩
  walk_at "rg"
  refine ⟨a, 8, rfl, hS, by decide, by decide, fun d1 H1 s1 hS1 d10 d1b => ?_⟩
  obtain ⟨n, en⟩ := toNat_eq (show 0 ≤ 1 + d1 by omega)
  walk_at "rg"
  refine r_rng1 en (by omega) (cp_of walk_rg (cb_st Sr (fun x => x.length = 1 ∧ Sok x) hS1 (by omega) (fun _ => trivial) ?_ ?_))
  · rintro i x H2 _ Pq Z hi s2 hS2 ⟨rfl, rfl⟩ kk
    walk_at "rg"
    refine ⟨rfl, ?_⟩
    walk_at "rg"
    refine ⟨a, 26, rfl, hS2, by decide, by decide, fun d3 H3 s3 hS3 d30 d3b => ?_⟩
    obtain ⟨c, hc, okc⟩ := abc_at d30 d3b
    refine e_ixS l26 hc ?_
    exact kk _ _ _ s3 hS3 rfl ⟨rfl, okc⟩
  · intro D acc als H2 nD s2 hS2 hacc al la pa
    obtain rfl := al_strs al
    have z0 : ("" : Str).length = 0 := by decide
    refine ⟨"", D, als, rfl, rfl, .inl (SqL.of hacc), by rw [sum_ones als fun x hx => (pa x hx).1, z0]; omega, ?_⟩
    have jl := PySem.W.KT.join_ones als fun x hx => (pa x hx).1
    have okb : Sok (Txt.join "" als) := by
      show Sok (Builtin.Str.glued _ als)
      rw [StrLaws.glued_eq_join]
      exact Sok.join (fun c hc => by cases hc) als fun x hx => (pa x hx).2
    obtain ⟨base', eb⟩ : ∃ b : Str, Txt.join "" als = b := ⟨_, rfl⟩
    rw [show Txt.join (Str.ofString "") als = base' from eb] at jl
    rw [eb] at okb
    rw [show Txt.join (Str.ofString "") als = base' from eb]
    have lb : base'.length ≤ sizeLine := lz (by rw [jl]; exact Nat.ble_eq.mpr (Nat.le_trans (show als.length ≤ 100 by omega) (by decide)))
    walk_at "rg"
    refine e_lenS lb ?_
    walk_at "rg"
    refine ⟨a, base'.length, rfl, hS2, by omega, by omega, fun d4 H4 s4 hS4 d40 d4b => ?_⟩
    walk_at "rg"
    refine ⟨a, 26, rfl, hS4, by decide, by decide, fun d5 H5 s5 hS5 d50 d5b => ?_⟩
    walk_at "rg"
    refine r_rng1 rfl (by omega) (cp_of walk_rg (cb_st Sr Sok hS5 (by omega) (fun _ => trivial) ?_ ?_))
    · rintro i x H6 _ Pq Z hi s6 hS6 ⟨rfl, rfl⟩ kk
      walk_at "rg"
      refine ⟨rfl, ?_⟩
      walk_at "rg"
      have c1 := cut_len base' none (some d4)
      refine ⟨base', rfl, lb, ?_⟩
      walk_at "rg"
      refine e_I (by show (0 : Int) < 26; decide) ?_
      obtain ⟨c, hc, okc⟩ := abc_at (Int.emod_nonneg (d5 + (i : Nat)) (show (26 : Int) ≠ 0 by decide)) (Int.emod_lt_of_pos (d5 + (i : Nat)) (show (0 : Int) < 26 by decide))
      refine e_ixS l26 hc ?_
      refine e_addS (szL (by show _ + 1 ≤ _; omega)) ?_
      walk_at "rg"
      have c2 := cut_len base' (some (d4 + 1)) none
      refine ⟨base', rfl, lb, ?_⟩
      refine e_addS (szL (by rw [Str.length_append]; show _ + 1 + _ ≤ _; omega)) ?_
      exact kk _ _ _ (Same.refl _) hS6 rfl (((okb.cut _ _).app okc).app (okb.cut _ _))
    · intro D2 acc2 als2 H6 nD2 s6 hS6 hacc2 al2 la2 ok2
      obtain rfl := al_strs al2
      walk_at "rg"
      refine q D2 H6 als2 (s1.trans (s2.trans (s4.trans (s5.trans s6)))) hS6 (by rw [hid_ne nD2]; exact hacc2) la2 ok2
theorem fr_one {H : Hp} {p : Addr} (h : H p = some (.tup [.int 1, .int 1])) : Fr K H (.ref p) 1 := ⟨p, rfl, SqT.of h⟩
theorem one_bd : Bd 60 (1 : Rat) := by
  refine ⟨by decide, ?_, ?_⟩ <;> decide +kernel
def spRooms (K : Fg) : Sp := fun vs H Q _ => ∃ (a : Addr) (n k : Nat), vs = [.ref a, .int n, .int k] ∧ Stt a H ∧ 1 ≤ n ∧ n ≤ 8 ∧ k < 5 ∧ ∀ v H' qs, Same (hid a H) (hid a H') → Ls (Fr K) (hid a H') v qs → qs.length = n → (∀ q ∈ qs, 0 < q ∧ Bd 60 q) → Q v H'
theorem ok__law_rooms (T : Txt K mg A) : Cal P w K mg base 3 "_law_rooms" pr__law_rooms (spRooms K) := by
  obtain ⟨f, fd, F, hm, hb⟩ := T.d__law_rooms
  refine ⟨f, fd, F.ok sc__law_rooms (fun vs H Q E h => ?_) (fun cdv A' outer s H vs Q E hr h => ?_), hm, F.kp, hb⟩
  · obtain ⟨a, n, k, rfl, _⟩ := h; rfl
  obtain ⟨a, n, k, rfl, hS, n1, n8, hk, q⟩ := h
  refine ⟨_, (pss_cons (ps_set (i := 3) sc__law_rooms.nd rfl (Or.inl rfl) (pe_c (ok__law_take T) (hr.mono (by decide)) (pa_cons (pv 0) (pa_cons pe_int pa_nil))))
  (pss_cons (ps_set (i := 4) sc__law_rooms.nd rfl (Or.inl rfl) (pe_c (ok__law_amount T) (hr.mono (by decide)) (pa_cons (pv 0) (pa_cons pe_int (pa_cons (pv 2) pa_nil)))))
  (pss_cons (ps_if (pt_cmpR op_eq (pv 3) pe_int (nomark _)) (pss_cons (ps_set (i := 4) sc__law_rooms.nd rfl (Or.inl rfl) (pe_tup (pa_cons pe_int (pa_cons pe_int pa_nil))))
  pss_nil) pss_nil)
  (pss_cons (ps_set (i := 5) sc__law_rooms.nd rfl (Or.inl rfl) (pe_lst (pa_cons (pv 4) pa_nil)))
  (pss_cons (ps_while PassesOwn.never (pt_cmpR op_lt (pe_callB (c_lenk K) (by rfl) T.n_len PySem.boot_len (pa_cons (pv 5) pa_nil)) (pv 1) (nomark _)) (pss_cons (ps_set (i := 6) sc__law_rooms.nd rfl (Or.inl rfl) (pe_c (ok__law_amount T) (hr.mono (by decide)) (pa_cons (pv 0) (pa_cons pe_int (pa_cons (pv 2) pa_nil)))))
  (pss_cons (ps_expr (pe_bm PySem.F.plainAttrs_list PySem.F.slot_list_append PySem.F.type_list_append mt_append (pv 5) (pa_cons (pe_ix (ix_lk K) (pe_lst (pa_cons (pv 4) (pa_cons (pv 6) pa_nil))) (pe_callTy c_int (by rfl) T.n_int (by decide +kernel) (pa_cons (pe_cmpR op_eq (pv 3) pe_int (nomark _)) pa_nil)) (fun _ _ => rfl)) pa_nil)))
  pss_nil)))
  (pss_cons (ps_ret (pv 5))
  pss_nil)))))), ?_⟩
  walk_at "rg"
  refine ⟨a, 3, rfl, hS, by decide, by decide, fun al H1 s1 hS1 al0 al3 => ?_⟩
  walk_at "rg"
  refine ⟨a, 1, k, rfl, hS1, by decide, hk, fun v2 H2 q2 s2 hS2 f2 b2 l2 => ?_⟩
  walk_at "rg"
  refine ite2 (fun _ => ?one) (fun _ => ?other)
  case' one =>
    walk_at "rg"
    refine e_nwT rfl fun p4 H4 s4 n4 h4 => ?_
    obtain ⟨q4, f4, l4, b4⟩ : ∃ q4, Fr K (hid a H4) (.ref p4) q4 ∧ 0 < q4 ∧ Bd 60 q4 := ⟨1, stt_hd (hS2.mv s4) (fr_one h4), by decide, one_bd⟩
    have S4 := hS2.mv s4
    have s24 := s2.trans (hid_mono (a := a) s4)
    walk_at "rg"
  case' other =>
    obtain ⟨p4, rfl, t4⟩ := f2
    obtain ⟨H4, eH⟩ : ∃ H4, H4 = H2 := ⟨_, rfl⟩
    obtain ⟨q4, eq⟩ : ∃ q4, q4 = q2 := ⟨_, rfl⟩
    subst eH
    subst eq
    have f4 : Fr K (hid a H4) (.ref p4) q4 := ⟨p4, rfl, t4⟩
    have l4 := l2 (by decide)
    have b4 := b2.mono (show 50 ≤ 60 by decide)
    have S4 := hS2
    have s24 := s2
    walk_at "rg"
  all_goals
    refine e_nwL rfl fun D H5 s5 nD hD => ?_
    have nDa := S4.ne nD
    have nDH : hid a H D = none := (s1.trans s24).free (by rw [hid_ne nDa]; exact nD)
    walk_at "rg"
    refine s_while (fun m σ Hk => ∃ (acc : List V) (qs : List Rat) (y6 : Option V), σ = [some (.ref a), some (.int (n : Nat)), some (.int (k : Nat)), some (.int al), some (.ref p4), some (.ref D), y6] ∧ Same (hid a H) (hid D (hid a Hk)) ∧ Stt a Hk ∧ Hk D = some (.lst acc) ∧
      Al (Fr K (hid D (hid a Hk))) acc qs ∧ Fr K (hid D (hid a Hk)) (.ref p4) q4 ∧ qs.length + m = n ∧ ∀ q ∈ qs, 0 < q ∧ Bd 60 q) (n - 1) ?_ ?_
    · have f5 : Fr K (hid D (hid a H5)) (.ref p4) q4 := Hd.hd (acc := [.ref p4]) (by rw [hid_ne nDa]; exact hD) (mv (hid_mono s5) f4)
      exact ⟨[.ref p4], [q4], none, rfl, hid_same nDH (s1.trans (s24.trans (hid_mono s5))), S4.mv s5, hD, .one f5, f5, by show 1 + (n - 1) = n; omega, fun q hq => by rw [List.mem_singleton.mp hq]; exact ⟨l4, b4⟩⟩
    · rintro m σ Hk ⟨acc, qs, y6, rfl, sk, hSk, hDk, alk, fk, lk, bk⟩
      have la := alk.len
      walk_at "rg"
      by_cases hlt : qs.length < n
      · rw [decide_eq_true (by omega)]
        refine iteT (e_N ?_)
        walk_at "rg"
        refine ⟨a, 1, k, rfl, hSk, by decide, hk, fun v6 H6 q6 s6 hS6 f6 b6 l6 => ?_⟩
        have hD6 : H6 D = some (.lst acc) := by
          have := s6 D _ (by rw [hid_ne nDa]; exact hDk)
          rwa [hid_ne nDa] at this
        walk_at "rg"
        refine e_nwL rfl fun p7 H7 s7 n7 h7 => ?_
        have hD7 := s7 _ _ hD6
        have v7 := hid_mono (a := D) (s6.trans (hid_mono (a := a) s7))
        have sel : ∀ bb : Bool, ∃ v q, atI [V.ref p4, v6] (if bb = true then 1 else 0) = some v ∧ Fr K (hid D (hid a H7)) v q ∧ 0 < q ∧ Bd 60 q := fun bb => by
          cases bb with
          | false => exact ⟨_, q4, rfl, mv v7 fk, l4, b4⟩
          | true => exact ⟨_, q6, rfl, Hd.hd (acc := acc) (by rw [hid_ne nDa]; exact hD7) (mv (hid_mono s7) f6), l6 (by decide), b6.mono (by decide)⟩
        obtain ⟨v8, q8, e8, f8, l8, b8⟩ := sel (decide (V.int al = V.int 2))
        walk_at "rg"
        refine e_ixL (SqL.of h7) e8 ?_
        walk_at "rg"
        refine e_app hD7 (szLt (by omega)) ?_
        walk_at "rg"
        refine ⟨m - 1, by omega, acc ++ [v8], qs ++ [q8], _, rfl, ?_, (hS6.mv s7).up nDa, upd_same, ?_, ?_, by rw [List.length_append, List.length_singleton]; omega, fun q hq => ?_⟩
        · rw [hid_upd_ne nDa, hid_upd]
          exact sk.trans v7
        · rw [hid_upd_ne nDa, hid_upd]
          exact (alk.mv v7).app (.one f8)
        · rw [hid_upd_ne nDa, hid_upd]
          exact mv v7 fk
        · rcases List.mem_append.mp hq with h | h
          · exact bk q h
          · rw [List.mem_singleton.mp h]
            exact ⟨l8, b8⟩
      · rw [decide_eq_false (by omega)]
        refine iteF ?_
        walk_at "rg"
        refine q _ _ qs (sk.trans hid_sm) ⟨D, acc, rfl, by rw [hid_ne nDa]; exact hDk, alk.mv hid_sm⟩ (by omega) bk
end
section
variable {P : Program} {w : World} {K : Fg} {mg : Str → Option Value} {base : Heap} {A : Ad}
def spEnds (K : Fg) : Sp := fun vs H Q _ => ∃ (a : Addr) (sh : Int) (n k : Nat), vs = [.ref a, .int sh, .int n, .int k] ∧ Stt a H ∧ 2 ≤ n ∧ n ≤ 8 ∧ ∀ p H' (one other : Nat), Same (hid a H) (hid a H') → Stt a H' → SqT K (hid a H') p [.int one, .int other] → one < n → other < n → one ≠ other → Q (.ref p) H'
theorem ok__law_ends (T : Txt K mg A) : Cal P w K mg base 2 "_law_ends" pr__law_ends (spEnds K) := by
  obtain ⟨f, fd, F, hm, hb⟩ := T.d__law_ends
  refine ⟨f, fd, F.ok sc__law_ends (fun vs H Q E h => ?_) (fun cdv A' outer s H vs Q E hr h => ?_), hm, F.kp, hb⟩
  · obtain ⟨a, sh, n, k, rfl, _⟩ := h; rfl
  obtain ⟨a, sh, n, k, rfl, hS, n2, n8, q⟩ := h
  have n0 : (0 : Int) < (n : Nat) := by omega
  have n1 : (0 : Int) < (n : Nat) - 1 := by omega
  have fin : ∀ p H3 H' (one other : Int), Same (hid a H) (hid a H3) → Stt a H3 → Same H3 H' → H3 p = none → H' p = some (.tup [.int one, .int other]) → 0 ≤ one → one < (n : Nat) → 0 ≤ other → other < (n : Nat) → one ≠ other → Q (.ref p) H' := fun p H3 H' one other s3 hS3 s' np hp h1 h2 h3 h4 h5 => by
    obtain ⟨one, rfl⟩ := toNat_eq h1
    obtain ⟨other, rfl⟩ := toNat_eq h3
    exact q p H' one other (s3.trans (hid_mono s')) (hS3.mv s') (SqT.of (by rw [hid_ne (hS3.ne np)]; exact hp)) (by omega) (by omega) (by omega)
  refine ⟨_, (pss_cons (ps_set (i := 4) sc__law_ends.nd rfl (Or.inl rfl) (pe_c (ok__law_take T) (hr.mono (by decide)) (pa_cons (pv 0) (pa_cons (pv 2) pa_nil))))
  (pss_cons (ps_set (i := 5) sc__law_ends.nd rfl (Or.inl rfl) (pe_op op_mod (pe_op op_add (pe_op op_add (pv 4) pe_int) (pe_c (ok__law_take T) (hr.mono (by decide)) (pa_cons (pv 0) (pa_cons (pe_op op_sub (pv 2) pe_int) pa_nil)))) (pv 2)))
  (pss_cons (ps_if (pt_cmpR op_eq (pv 1) pe_int (nomark _)) (pss_cons (ps_ret (pe_tup (pa_cons (pe_op op_mod (pv 3) (pv 2)) (pa_cons (pe_op op_mod (pe_op op_add (pv 3) (pe_op op_fdiv (pv 2) pe_int)) (pv 2)) pa_nil))))
  pss_nil) pss_nil)
  (pss_cons (ps_if (pt_cmpR op_eq (pv 1) pe_int (nomark _)) (pss_cons (ps_ret (pe_tup (pa_cons (pe_op op_mul (pe_op op_mod (pv 3) pe_int) (pe_op op_sub (pv 2) pe_int)) (pa_cons (pe_op op_mul (pe_op op_sub pe_int (pe_op op_mod (pv 3) pe_int)) (pe_op op_sub (pv 2) pe_int)) pa_nil))))
  pss_nil) pss_nil)
  (pss_cons (ps_if (pt_cmpR op_eq (pv 1) pe_int (nomark _)) (pss_cons (ps_ret (pe_tup (pa_cons pe_int (pa_cons (pe_op op_add pe_int (pe_op op_mod (pv 5) (pe_op op_sub (pv 2) pe_int))) pa_nil))))
  pss_nil) pss_nil)
  (pss_cons (ps_ret (pe_tup (pa_cons (pv 4) (pa_cons (pv 5) pa_nil))))
  pss_nil)))))), ?_⟩
  walk_at "rg"
  refine ⟨a, n, rfl, hS, n0, by omega, fun d1 H1 s1 hS1 l1 u1 => ?_⟩
  walk_at "rg"
  refine ⟨a, (n : Nat) - 1, rfl, hS1, n1, by omega, fun d2 H2 s2 hS2 l2 u2 => ?_⟩
  walk_at "rg"
  refine e_I n0 ?_
  have s12 := s1.trans s2
  have o0 := Int.emod_nonneg (d1 + 1 + d2) (show ((n : Nat) : Int) ≠ 0 by omega)
  have o1 := Int.emod_lt_of_pos (d1 + 1 + d2) n0
  have o2 : d1 ≠ (d1 + 1 + d2) % (n : Nat) := fun e => by
    by_cases c : d1 + 1 + d2 < (n : Nat)
    · rw [Int.emod_eq_of_lt (by omega) c] at e
      omega
    · rw [← Int.sub_emod_right, Int.emod_eq_of_lt (by omega) (by omega)] at e
      omega
  walk_at "rg"
  refine ite2 (fun _ => ?_) (fun _ => ?_)
  · walk_at "rg"
    refine e_I n0 ?_
    walk_at "rg"
    refine e_I ⟨by decide, by decide⟩ ?_
    walk_at "rg"
    refine e_I n0 ?_
    walk_at "rg"
    refine e_nwT rfl fun p H' s' np hp => ?_
    have k0 := Int.emod_nonneg ((k : Nat) : Int) (show ((n : Nat) : Int) ≠ 0 by omega)
    have k1 := Int.emod_lt_of_pos ((k : Nat) : Int) n0
    have e2 : ((k : Nat) + (n : Nat) / 2 : Int) % (n : Nat) = (((k : Nat) : Int) % (n : Nat) + (n : Nat) / 2) % (n : Nat) := by rw [Int.emod_add_emod]
    refine fin p H2 H' _ _ s12 hS2 s' np hp k0 k1 (Int.emod_nonneg _ (by omega)) (Int.emod_lt_of_pos _ n0) ?_
    rw [e2]
    generalize ((k : Nat) : Int) % (n : Nat) = x at *
    intro e
    by_cases c : x + (n : Nat) / 2 < (n : Nat)
    · rw [Int.emod_eq_of_lt (by omega) c] at e
      omega
    · rw [← Int.sub_emod_right, Int.emod_eq_of_lt (by omega) (by omega)] at e
      omega
  walk_at "rg"
  refine ite2 (fun _ => ?_) (fun _ => ?_)
  · walk_at "rg"
    refine e_I (show (0 : Int) < 2 by decide) ?_
    walk_at "rg"
    refine e_I (.inr ⟨by omega, by omega⟩) ?_
    walk_at "rg"
    refine e_I (show (0 : Int) < 2 by decide) ?_
    walk_at "rg"
    refine e_I (.inr ⟨by omega, by omega⟩) ?_
    walk_at "rg"
    refine e_nwT rfl fun p H' s' np hp => ?_
    rcases (show ((k : Nat) : Int) % 2 = 0 ∨ ((k : Nat) : Int) % 2 = 1 by omega) with e | e
    · rw [e] at hp
      refine fin p H2 H' _ _ s12 hS2 s' np hp ?_ ?_ ?_ ?_ ?_ <;> omega
    · rw [e] at hp
      refine fin p H2 H' _ _ s12 hS2 s' np hp ?_ ?_ ?_ ?_ ?_ <;> omega
  walk_at "rg"
  refine ite2 (fun _ => ?_) (fun _ => ?_)
  · walk_at "rg"
    refine e_I n1 ?_
    walk_at "rg"
    refine e_nwT rfl fun p H' s' np hp => ?_
    have k0 := Int.emod_nonneg ((d1 + 1 + d2) % (n : Nat)) (show ((n : Nat) : Int) - 1 ≠ 0 by omega)
    have k1 := Int.emod_lt_of_pos ((d1 + 1 + d2) % (n : Nat)) n1
    exact fin p H2 H' _ _ s12 hS2 s' np hp (by omega) n0 (by omega) (by omega) (by omega)
  walk_at "rg"
  refine e_nwT rfl fun p H' s' np hp => ?_
  exact fin p H2 H' _ _ s12 hS2 s' np hp l1 u1 o0 o1 o2
def spLWays : Sp := fun vs H Q _ => ∃ (a : Addr) (m : Nat), vs = [.ref a, .int m] ∧ Stt a H ∧ m ≤ 5 ∧ ∀ v H' ws, Same (hid a H) (hid a H') → Ls Wy (hid a H') v ws → ws.length = m → Q v H'
theorem ok__law_ways (T : Txt K mg A) : Cal P w K mg base 2 "_law_ways" pr__law_ways spLWays := by
  obtain ⟨f, fd, F, hm, hb⟩ := T.d__law_ways
  refine ⟨f, fd, F.ok sc__law_ways (fun vs H Q E h => ?_) (fun cdv A' outer s H vs Q E hr h => ?_), hm, F.kp, hb⟩
  · obtain ⟨a, m, rfl, _⟩ := h; rfl
  obtain ⟨a, m, rfl, hS, hmm, q⟩ := h
  refine ⟨_, (pss_cons (ps_ret (pe_lc (own := [("_law_k", 2)]) (g := (gName 2)) (tt := tYes) rfl sc__law_ways.nd (pi_range1 rfl T.n_range (pa_cons (pv 1) pa_nil)) (blkOk_by (N := nm__law_ways) (sc := defScope st__law_ways) (by decide +kernel)) (fun _ _ _ _ _ => (pg_name (i := 2) sc__law_ways.nd rfl (Or.inl rfl))) (fun _ _ _ _ _ => pts_nil) (fun _ _ _ _ _ => (pe_ix (ix_lk K) (pe_lst (pa_cons pe_str (pa_cons pe_str pa_nil))) (pe_c (ok__law_take T) (hr.mono (by decide)) (pa_cons (pv 0) (pa_cons pe_int pa_nil))) (fun _ _ => rfl)))))
  pss_nil), ?_⟩
  walk_at "rg"
  refine r_rng1 rfl (by omega) (cp_of walk_rg (cb_st Wy (fun _ => True) hS (by omega) (fun _ => trivial) ?_ ?_))
  · rintro i x H2 _ Pq Z hi s2 hS2 ⟨rfl, rfl⟩ kk
    walk_at "rg"
    refine ⟨rfl, ?_⟩
    walk_at "rg"
    refine e_nwL rfl fun p3 H3 s3 n3 h3 => ?_
    walk_at "rg"
    refine ⟨a, 2, rfl, hS2.mv s3, by decide, by decide, fun d4 H4 s4 hS4 l4 u4 => ?_⟩
    have n3a := hS2.ne n3
    have h4 : H4 p3 = some (.lst [.str "on", .str "back"]) := by
      have := s4 p3 _ (by rw [hid_ne n3a]; exact h3)
      rwa [hid_ne n3a] at this
    obtain ⟨b, eb⟩ : ∃ b : Bool, atI [V.str "on", .str "back"] d4 = some (.str (wayS b)) := by
      rcases (show d4 = 0 ∨ d4 = 1 by omega) with e | e
      · exact ⟨true, by subst e; rfl⟩
      · exact ⟨false, by subst e; rfl⟩
    refine e_ixL (SqL.of h4) eb ?_
    exact kk _ _ b ((hid_mono s3).trans s4) hS4 rfl trivial
  · intro D acc als H2 nD s2 hS2 hacc al la _
    exact q _ H2 als s2 ⟨D, acc, rfl, by rw [hid_ne nD]; exact hacc, al.mv hid_sm⟩ la
end
section
variable {P : Program} {w : World} {K : Fg} {mg : Str → Option Value} {base : Heap} {A : Ad}
/-- what the law's own ring keeps -/
def Fine (r : Ring) : Prop := Good r ∧ ∀ x ∈ r.asks, Bd 50 x.size ∧ Sok x.nm
def spRing (K : Fg) : Sp := fun vs H Q _ => ∃ (a : Addr) (xs : List Int), vs = [.ref a, .int 0, .int 8, .int 5] ∧ SqL K H a (xs.map V.int) ∧ ∀ v H' r, Same H H' → Rn K H' v r → Fine r → Q v H'
theorem ok__law_ring (T : Txt K mg A) : Cal P w K mg base 5 "_law_ring" pr__law_ring (spRing K) := by
  obtain ⟨f, fd, F, hm, hb⟩ := T.d__law_ring
  refine ⟨f, fd, F.ok sc__law_ring (fun vs H Q E h => ?_) (fun cdv A' outer s H vs Q E hr h => ?_), hm, F.kp, hb⟩
  · obtain ⟨a, xs, rfl, _⟩ := h; rfl
  obtain ⟨a, xs, rfl, ha, q⟩ := h
  refine ⟨_, (pss_cons (ps_set (i := 4) sc__law_ring.nd rfl (Or.inl rfl) (pe_c (ok__law_begun T) (hr.mono (by decide)) (pa_cons (pv 0) (pa_cons (pv 1) pa_nil))))
  (pss_cons (ps_set (i := 5) sc__law_ring.nd rfl (Or.inl rfl) (pe_op op_add pe_int (pe_c (ok__law_take T) (hr.mono (by decide)) (pa_cons (pv 4) (pa_cons (pe_op op_sub (pv 2) pe_int) pa_nil)))))
  (pss_cons (ps_set (i := 6) sc__law_ring.nd rfl (Or.inl rfl) (pe_c (ok__law_take T) (hr.mono (by decide)) (pa_cons (pv 4) (pa_cons (pe_op op_add (pv 3) pe_int) pa_nil))))
  (pss_cons (ps_set (i := 7) sc__law_ring.nd rfl (Or.inl rfl) (pe_lst (pa_cons (pe_c (ok__law_take T) (hr.mono (by decide)) (pa_cons (pv 4) (pa_cons pe_int pa_nil))) (pa_cons (pe_c (ok__law_take T) (hr.mono (by decide)) (pa_cons (pv 4) (pa_cons pe_int pa_nil))) pa_nil))))
  (pss_cons (ps_set (i := 8) sc__law_ring.nd rfl (Or.inl rfl) (pe_c (ok__law_take T) (hr.mono (by decide)) (pa_cons (pv 4) (pa_cons pe_int pa_nil))))
  (pss_cons (ps_set (i := 9) sc__law_ring.nd rfl (Or.inl rfl) (pe_c (ok__law_names T) (hr.mono (by decide)) (pa_cons (pv 4) (pa_cons (pv 6) pa_nil))))
  (pss_cons (ps_set (i := 10) sc__law_ring.nd rfl (Or.inl rfl) (pe_c (ok__law_rooms T) (hr.mono (by decide)) (pa_cons (pe_c (ok__law_begun T) (hr.mono (by decide)) (pa_cons (pv 0) (pa_cons (pe_op op_add (pv 1) pe_int) pa_nil))) (pa_cons (pv 5) (pa_cons (pe_ix (ix_lk K) (pv 7) pe_int (fun _ _ => rfl)) pa_nil)))))
  (pss_cons (ps_set (i := 4) sc__law_ring.nd rfl (Or.inl rfl) (pe_c (ok__law_begun T) (hr.mono (by decide)) (pa_cons (pv 0) (pa_cons (pe_op op_add (pv 1) pe_int) pa_nil))))
  (pss_cons (ps_set (i := 11) sc__law_ring.nd rfl (Or.inl rfl) (pe_lst pa_nil))
  (pss_cons (ps_for PassesOwn.never rfl (pi_range1 rfl T.n_range (pa_cons (pv 6) pa_nil)) (pg_name (i := 12) sc__law_ring.nd rfl (Or.inl rfl)) (pss_cons (ps_asg (pe_c (ok__law_ends T) (hr.mono (by decide)) (pa_cons (pv 4) (pa_cons (pv 8) (pa_cons (pv 5) (pa_cons (pv 12) pa_nil))))) (pg_tk K 2 (pgs_cons (pg_name (i := 13) sc__law_ring.nd rfl (Or.inl rfl)) (pgs_cons (pg_name (i := 14) sc__law_ring.nd rfl (Or.inl rfl)) pgs_nil))))
  (pss_cons (ps_expr (pe_bm PySem.F.plainAttrs_list PySem.F.slot_list_append PySem.F.type_list_append mt_append (pv 11) (pa_cons (pe_tup (pa_cons (pe_ix (ix_lk K) (pv 9) (pv 12) (fun _ _ => rfl)) (pa_cons (pv 13) (pa_cons (pv 14) (pa_cons (pe_c (ok__law_amount T) (hr.mono (by decide)) (pa_cons (pv 4) (pa_cons pe_int (pa_cons (pe_ix (ix_lk K) (pv 7) pe_int (fun _ _ => rfl)) pa_nil)))) pa_nil))))) pa_nil)))
  pss_nil)))
  (pss_cons (ps_ret (pe_tup (pa_cons (pv 10) (pa_cons (pv 11) pa_nil))))
  pss_nil))))))))))), ?_⟩
  walk_at "rg"
  refine ⟨a, xs, 0, rfl, ha, by decide, fun p1 H1 s1 n1 hS1 => ?_⟩
  have v1 : Same H (hid p1 H1) := hid_same n1 s1
  walk_at "rg"
  refine ⟨p1, _, rfl, hS1, by decide, by decide, fun d2 H2 s2 hS2 l2 u2 => ?_⟩
  obtain ⟨n, en⟩ := toNat_eq (show 0 ≤ 2 + d2 by omega)
  walk_at "rg"
  rw [en]
  refine ⟨p1, _, rfl, hS2, by decide, by decide, fun d3 H3 s3 hS3 l3 u3 => ?_⟩
  obtain ⟨m, rfl⟩ := toNat_eq l3
  walk_at "rg"
  refine ⟨p1, 5, rfl, hS3, by decide, by decide, fun d4 H4 s4 hS4 l4 u4 => ?_⟩
  obtain ⟨k1, rfl⟩ := toNat_eq l4
  walk_at "rg"
  refine ⟨p1, 5, rfl, hS4, by decide, by decide, fun d5 H5 s5 hS5 l5 u5 => ?_⟩
  obtain ⟨k2, rfl⟩ := toNat_eq l5
  walk_at "rg"
  refine e_nwL rfl fun pk H6 s6 n6 hk6 => ?_
  have hS6 := hS5.mv s6
  have hk6' : hid p1 H6 pk = some (.lst [.int (k1 : Nat), .int (k2 : Nat)]) := by rw [hid_ne (hS5.ne n6)]; exact hk6
  walk_at "rg"
  refine ⟨p1, 6, rfl, hS6, by decide, by decide, fun sh H7 s7 hS7 l7 u7 => ?_⟩
  walk_at "rg"
  refine ⟨p1, m, rfl, hS7, by omega, fun pn H8 ns s8 hS8 hn8 ln8 okn => ?_⟩
  have v8 : Same H (hid p1 H8) := v1.trans (s2.trans (s3.trans (s4.trans (s5.trans ((hid_mono s6).trans (s7.trans s8))))))
  have hk8 := (s7.trans s8) _ _ hk6'
  walk_at "rg"
  refine ⟨a, xs, 1, rfl, (v8.trans hid_sm).seq ha, by decide, fun p9 H9 s9 n9 hS9 => ?_⟩
  have hk9 := s9 _ _ (hid_sm _ _ hk8)
  walk_at "rg"
  refine e_ixL (SqL.of hk9) rfl ?_
  refine ⟨p9, n, k1, rfl, hS9, by omega, by omega, by omega, fun rv H10 qs s10 hqs lqs bqs => ?_⟩
  have n9' : hid p1 H8 p9 = none := by rw [hid_ne (hS8.ne n9)]; exact n9
  have v10 : Same (hid p1 H8) H10 := (hid_same n9' (hid_sm.trans s9)).trans (s10.trans hid_sm)
  have w10 := v8.trans v10
  have hk10 := v10 _ _ hk8
  have hn10 := v10 _ _ hn8
  have hq10 := mv hid_sm hqs
  clear v1 s2 s3 s4 s5 s6 s7 s8 hk6 hk6' hk8 hk9 hS1 hS2 hS3 hS4 hS5 hS6 hS7 hS8 hS9 hn8 v8 v10 hqs s10 s9 s1
  walk_at "rg"
  refine ⟨a, xs, 2, rfl, w10.seq ha, by decide, fun p11 H11 s11 n11 hS11 => ?_⟩
  walk_at "rg"
  refine e_nwL rfl fun D H12 s12 n12 h12 => ?_
  have nD := hS11.ne n12
  have b12 : Same H10 (hid D (hid p11 H12)) := hid_same (s11.free n12) (hid_same n11 (s11.trans s12))
  have hS12 := hS11.mv s12
  walk_at "rg"
  refine r_rng1 rfl (by omega) (lp_of walk_rg ?_)
  refine ⟨fun i σ Hk => ∃ (acc : List V) (as : List Ask) (y12 y13 y14 : Option V), σ = [some (.ref a), some (.int 0), some (.int 8), some (.int 5), some (.ref p11), some (.int (n : Nat)), some (.int (m : Nat)), some (.ref pk), some (.int sh), some (.ref pn), some rv, some (.ref D), y12, y13, y14] ∧
      Same H10 (hid D (hid p11 Hk)) ∧ Stt p11 Hk ∧ Hk D = some (.lst acc) ∧ Al (Ak K (hid D (hid p11 Hk))) acc as ∧ as.length = i ∧ ∀ x ∈ as, x.one < n ∧ x.other < n ∧ x.one ≠ x.other ∧ Bd 50 x.size ∧ Sok x.nm,
    ⟨[], [], none, none, none, rfl, b12, hS12, h12, .nil, rfl, fun x hx => by simp at hx⟩, fun _ _ _ _ _ => trivial, ?_, ?_⟩
  · rintro i x σ _ Hk hi ⟨acc, as, y12, y13, y14, rfl, bk, hSk, hDk, alk, las, gk⟩ ⟨rfl, rfl⟩
    have lac := alk.len
    walk_at "rg"
    refine ⟨p11, sh, n, i, rfl, hSk, by omega, by omega, fun p13 H13 one other s13 hS13 t13 l1 l2' hne => ?_⟩
    have hD13' := s13 D _ (by rw [hid_ne nD]; exact hDk)
    have hD13 : H13 D = some (.lst acc) := by rwa [hid_ne nD] at hD13'
    have t13' := sm_t hid_sm t13
    have b13 := bk.trans (hid_mono s13)
    obtain ⟨z, hz⟩ : ∃ z, ns[i]? = some z := ⟨_, List.getElem?_eq_getElem (by omega)⟩
    walk_at "rg"
    refine e_ixL (SqL.of ((b13.trans (hid_sm.trans hid_sm)) _ _ hn10)) (atI_nat (v := .str z) (by rw [List.getElem?_map, hz]; rfl)) ?_
    walk_at "rg"
    refine e_ixL (SqL.of ((b13.trans (hid_sm.trans hid_sm)) _ _ hk10)) rfl ?_
    refine ⟨p11, 0, k2, rfl, hS13, by decide, by omega, fun v14 H14 q14 s14 hS14 f14 d14 _ => ?_⟩
    walk_at "rg"
    refine e_nwT rfl fun p15 H15 s15 n15 h15 => ?_
    have s1415 := s14.trans (hid_mono (a := p11) s15)
    have hD15' := s1415 D _ hD13'
    have hD15 : H15 D = some (.lst acc) := by rwa [hid_ne nD] at hD15'
    have ne1 := hS14.ne n15
    have ne2 : p15 ≠ D := fun e => by
      subst e
      rw [hD15] at h15
      cases h15
    have m15 := hid_mono (a := D) (s13.trans s1415)
    walk_at "rg"
    refine e_app hD15 (szLt (by omega)) ?_
    walk_at "rg"
    refine ⟨acc ++ [.ref p15], as ++ [⟨z, one, other, q14⟩], _, _, _, rfl, ?_, (hS14.mv s15).up nD, upd_same, ?_, by rw [List.length_append, las]; rfl, fun x hx => ?_⟩
    · rw [hid_upd_ne nD, hid_upd]
      exact bk.trans m15
    · rw [hid_upd_ne nD, hid_upd]
      exact (alk.mv m15).app (.one ⟨p15, v14, rfl, SqT.of (by rw [hid_ne ne2, hid_ne ne1]; exact h15), Hd.hd hD15' (mv (hid_mono s15) f14)⟩)
    · rcases List.mem_append.mp hx with h | h
      · exact gk x h
      · rw [List.mem_singleton.mp h]
        exact ⟨l1, l2', hne, d14, okn z (List.mem_of_getElem? hz)⟩
  · rintro σ Hk ⟨acc, as, y12, y13, y14, rfl, bk, hSk, hDk, alk, las, gk⟩
    walk_at "rg"
    refine e_nwT rfl fun p H' s' np hp => ?_
    have bs : Same (hid D (hid p11 Hk)) H' := hid_sm.trans (hid_sm.trans s')
    refine q _ H' ⟨qs, as⟩ (w10.trans (bk.trans bs)) ⟨p, rv, .ref D, rfl, SqT.of hp, mv (bk.trans bs) hq10, ⟨D, acc, rfl, s' _ _ hDk, alk.mv bs⟩⟩ ⟨⟨?_, ?_, ?_, bqs, fun x hx => ?_⟩, fun x hx => (gk x hx).2.2.2⟩
    · show 2 ≤ qs.length
      omega
    · show qs.length ≤ 8
      omega
    · show as.length ≤ 5
      omega
    · obtain ⟨g1, g2, g3, g4, _⟩ := gk x hx
      refine ⟨?_, ?_, g3, g4.mono (by decide)⟩
      · show x.one < qs.length
        omega
      · show x.other < qs.length
        omega
end
section
variable {P : Program} {w : World} {K : Fg} {mg : Str → Option Value} {base : Heap} {A : Ad}
def nextA (n : Nat) (a : Ask) : Ask := ⟨a.nm, (a.one + 1) % n, (a.other + 1) % n, a.size⟩
/-- the ring turned by one place -/
def nextR (r : Ring) : Ring := ⟨r.rooms.drop (r.rooms.length - 1) ++ r.rooms.take (r.rooms.length - 1), r.asks.map (nextA r.rooms.length)⟩
def twiceA (a : Ask) : Ask := ⟨a.nm, a.one, a.other, a.size * 2⟩
def twiceR (r : Ring) : Ring := ⟨r.rooms, r.asks.map twiceA⟩
/-- with ask k gone -/
def goneR (r : Ring) (k : Nat) : Ring := ⟨r.rooms, r.asks.take k ++ r.asks.drop (k + 1)⟩
theorem cut_last (xs : List V) (h : 0 < xs.length) : cutV xs (some (-1)) none = xs.drop (xs.length - 1) := by
  have e1 : HT.sIx xs.length 0 (some (-1)) = xs.length - 1 := by
    show (if (-1 : Int) < 0 then ((-1 : Int) + (xs.length : Int)).toNat else min (-1 : Int).toNat xs.length) = _
    rw [if_pos (by decide)]
    omega
  unfold cutV
  rw [e1, HT.sIx_none]
  exact List.take_of_length_le (by rw [List.length_drop]; omega)
theorem cut_init (xs : List V) (h : 0 < xs.length) : cutV xs none (some (-1)) = xs.take (xs.length - 1) := by
  have e1 : HT.sIx xs.length xs.length (some (-1)) = xs.length - 1 := by
    show (if (-1 : Int) < 0 then ((-1 : Int) + (xs.length : Int)).toNat else min (-1 : Int).toNat xs.length) = _
    rw [if_pos (by decide)]
    omega
  unfold cutV
  rw [e1, HT.sIx_none, Nat.sub_zero, List.drop_zero]
abbrev ask0 : Ask := ⟨"", 0, 0, 0⟩
def spNext (K : Fg) : Sp := fun vs H Q _ => ∃ v r, vs = [v] ∧ Rn K H v r ∧ Good r ∧ ∀ v' H', Same H H' → Rn K H' v' (nextR r) → Q v' H'
theorem ok__law_next (T : Txt K mg A) : Cal P w K mg base 1 "_law_next" pr__law_next (spNext K) := by
  obtain ⟨f, fd, F, hm, hb⟩ := T.d__law_next
  refine ⟨f, fd, F.ok sc__law_next (fun vs H Q E h => ?_) (fun cdv A' outer s H vs Q E hr h => ?_), hm, F.kp, hb⟩
  · obtain ⟨v, r, rfl, _⟩ := h; rfl
  obtain ⟨rv, r, rfl, hR, hG, q⟩ := h
  obtain ⟨pr, ra, aa, rl, al, rfl, tp, hra, alr, haa, ala⟩ := rn_get hR
  have lal := ala.len
  have lrl := alr.len
  have n2 := hG.n2
  have n8 := hG.n8
  have m5 := hG.m5
  refine ⟨_, (pss_cons (ps_set (i := 1) sc__law_next.nd rfl (Or.inr rfl) (pe_callB (c_lenk K) (by rfl) T.n_len PySem.boot_len (pa_cons (pe_ix (ix_tk K) (pv 0) pe_int (fun _ _ => rfl)) pa_nil)))
  (pss_cons (ps_setLc (i := 2) (own := [("_law_name", 3), ("_law_one", 4), ("_law_other", 5), ("_law_size", 6)]) (g := (gTup K 4 (gCons (gName 3) (gCons (gName 4) (gCons (gName 5) (gCons (gName 6) gNil)))))) (tt := tYes) rfl sc__law_next.nd rfl rfl (sw_true rfl rfl rfl (by decide +kernel)) (pi_lk K (pe_ix (ix_tk K) (pv 0) pe_int (fun _ _ => rfl))) (blkOk_by (N := nm__law_next) (sc := defScope st__law_next) (by decide +kernel)) (fun _ _ _ _ _ => (pg_tk K 4 (pgs_cons (pg_name (i := 3) sc__law_next.nd rfl (Or.inl rfl)) (pgs_cons (pg_name (i := 4) sc__law_next.nd rfl (Or.inl rfl)) (pgs_cons (pg_name (i := 5) sc__law_next.nd rfl (Or.inl rfl)) (pgs_cons (pg_name (i := 6) sc__law_next.nd rfl (Or.inl rfl)) pgs_nil)))))) (fun _ _ _ _ _ => pts_nil) (fun _ _ _ _ _ => (pe_tup (pa_cons (pv 3) (pa_cons (pe_op op_mod (pe_op op_add (pv 4) pe_int) (pv 1)) (pa_cons (pe_op op_mod (pe_op op_add (pv 5) pe_int) (pv 1)) (pa_cons (pv 6) pa_nil)))))))
  (pss_cons (ps_ret (pe_tup (pa_cons (pe_op op_cat (pe_slice (sl_lk K) (pe_ix (ix_tk K) (pv 0) pe_int (fun _ _ => rfl)) (po_some (pe_un un_neg pe_int)) po_none) (pe_slice (sl_lk K) (pe_ix (ix_tk K) (pv 0) pe_int (fun _ _ => rfl)) po_none (po_some (pe_un un_neg pe_int)))) (pa_cons (pv 2) pa_nil))))
  pss_nil))), ?_⟩
  walk_at "rg"
  refine r_list (SqL.of haa) (cp_of (walk_list (xs := al)) (cb_map (Ak K) (fun i => (nextR r).asks.getD i ask0) (by omega) (fun H3 s3 => SqL.of (s3 _ _ haa)) ?_ ?_))
  · rintro i x _ H3 Pq Z hi s3 ⟨rfl, hx⟩ kk
    obtain ⟨a, ha, ⟨pa, fa, rfl, ta, hf⟩⟩ := ala.at' hx
    have ta3 := sm_t s3 ta
    have n0 : (0 : Int) < (rl.length : Nat) := by omega
    walk_at "rg"
    refine ⟨rfl, ?_⟩
    walk_at "rg"
    refine e_I n0 ?_
    walk_at "rg"
    refine e_I n0 ?_
    walk_at "rg"
    refine e_nwT rfl fun p4 H4 s4 n4 h4 => ?_
    refine kk _ _ s4 ?_
    have e : (nextR r).asks.getD i ask0 = nextA r.rooms.length a := by
      rw [List.getD_eq_getElem?_getD]
      show ((r.asks.map _)[i]?).getD _ = _
      rw [List.getElem?_map, ha]
      rfl
    rw [e]
    refine ⟨p4, fa, rfl, SqT.of ?_, mv (s3.trans s4) hf⟩
    rw [h4, lrl]
    rfl
  · intro D acc H3 hD s3 hacc al2
    rw [range_getD _ _ (by show (r.asks.map _).length = _; rw [List.length_map, lal])] at al2
    have tp3 := sm_t s3 tp
    have hra3 := s3 _ _ hra
    walk_at "rg"
    refine e_slL (SqL.of hra3) fun p4 H4 s4 n4 h4 => ?_
    have tp4 := sm_t s4 tp3
    have hra4 := s4 _ _ hra3
    walk_at "rg"
    refine e_slL (SqL.of hra4) fun p5 H5 s5 n5 h5 => ?_
    rw [cut_last rl (by omega)] at h4
    rw [cut_init rl (by omega)] at h5
    refine e_cat (s5 _ _ h4) h5 (szL (by rw [List.length_drop, List.length_take]; omega)) fun p6 H6 s6 n6 h6 => ?_
    walk_at "rg"
    refine e_nwT rfl fun p7 H7 s7 n7 h7 => ?_
    have s37 := s4.trans (s5.trans (s6.trans s7))
    refine q _ H7 (s3.trans s37) ⟨p7, .ref p6, .ref D, rfl, SqT.of h7, ⟨p6, _, rfl, s7 _ _ h6, ?_⟩, ⟨D, acc, rfl, s37 _ _ hacc, al2.mv (hid_sm.trans s37)⟩⟩
    have ax := alr.mv (s3.trans s37)
    rw [lrl]
    exact (ax.drop _).app (ax.take _)
def spTwice (K : Fg) : Sp := fun vs H Q _ => ∃ v r, vs = [v] ∧ Rn K H v r ∧ Good r ∧ ∀ v' H', Same H H' → Rn K H' v' (twiceR r) → Q v' H'
theorem twice_mk (q : Rat) : mkRat (q.num * 2) q.den = q * 2 := by
  rw [mul_mk]
  show _ = mkRat (q.num * 2) (q.den * 1)
  rw [Nat.mul_one]
theorem ok__law_twice (T : Txt K mg A) : Cal P w K mg base 2 "_law_twice" pr__law_twice (spTwice K) := by
  obtain ⟨f, fd, F, hm, hb⟩ := T.d__law_twice
  refine ⟨f, fd, F.ok sc__law_twice (fun vs H Q E h => ?_) (fun cdv A' outer s H vs Q E hr h => ?_), hm, F.kp, hb⟩
  · obtain ⟨v, r, rfl, _⟩ := h; rfl
  obtain ⟨rv, r, rfl, hR, hG, q⟩ := h
  obtain ⟨pr, ra, aa, rl, al, rfl, tp, hra, alr, haa, ala⟩ := rn_get hR
  have lal := ala.len
  have m5 := hG.m5
  refine ⟨_, (pss_cons (ps_setLc (i := 1) (own := [("_law_name", 2), ("_law_one", 3), ("_law_other", 4), ("_law_size", 5)]) (g := (gTup K 4 (gCons (gName 2) (gCons (gName 3) (gCons (gName 4) (gCons (gName 5) gNil)))))) (tt := tYes) rfl sc__law_twice.nd rfl rfl (sw_true rfl rfl rfl (by decide +kernel)) (pi_lk K (pe_ix (ix_tk K) (pv 0) pe_int (fun _ _ => rfl))) (blkOk_by (N := nm__law_twice) (sc := defScope st__law_twice) (by decide +kernel)) (fun _ _ _ _ _ => (pg_tk K 4 (pgs_cons (pg_name (i := 2) sc__law_twice.nd rfl (Or.inl rfl)) (pgs_cons (pg_name (i := 3) sc__law_twice.nd rfl (Or.inl rfl)) (pgs_cons (pg_name (i := 4) sc__law_twice.nd rfl (Or.inl rfl)) (pgs_cons (pg_name (i := 5) sc__law_twice.nd rfl (Or.inl rfl)) pgs_nil)))))) (fun _ _ _ _ _ => pts_nil) (fun _ _ _ _ _ => (pe_tup (pa_cons (pv 2) (pa_cons (pv 3) (pa_cons (pv 4) (pa_cons (pe_c (ok__law_low T) (hr.mono (by decide)) (pa_cons (pe_op op_mul (pe_ix (ix_tk K) (pv 5) pe_int (fun _ _ => rfl)) pe_int) (pa_cons (pe_ix (ix_tk K) (pv 5) pe_int (fun _ _ => rfl)) pa_nil))) pa_nil)))))))
  (pss_cons (ps_ret (pe_tup (pa_cons (pe_ix (ix_tk K) (pv 0) pe_int (fun _ _ => rfl)) (pa_cons (pv 1) pa_nil))))
  pss_nil)), ?_⟩
  walk_at "rg"
  refine r_list (SqL.of haa) (cp_of (walk_list (xs := al)) (cb_map (Ak K) (fun i => (twiceR r).asks.getD i ask0) (by omega) (fun H3 s3 => SqL.of (s3 _ _ haa)) ?_ ?_))
  · rintro i x _ H3 Pq Z hi s3 ⟨rfl, hx⟩ kk
    obtain ⟨a, ha, ⟨pa, fa, rfl, ta, hf⟩⟩ := ala.at' hx
    have bd := (hG.ask a (List.mem_of_getElem? ha)).2.2.2
    obtain ⟨fp, rfl, tf⟩ := hf
    have ta3 := sm_t s3 ta
    have tf3 := sm_t s3 tf
    obtain ⟨m, em⟩ := num_nat bd.nn
    walk_at "rg"
    refine ⟨rfl, ?_⟩
    walk_at "rg"
    refine e_I (.inr ⟨by decide, by decide⟩) ?_
    walk_at "rg"
    refine ⟨m * 2, a.size.den, by rw [em]; rfl, a.size.den_pos, Nat.lt_of_lt_of_le bd.bot (Nat.pow_le_pow_right (by decide) (by decide)), fun v4 H4 s4 f4 => ?_⟩
    walk_at "rg"
    refine e_nwT rfl fun p5 H5 s5 n5 h5 => ?_
    refine kk _ _ (s4.trans s5) ?_
    have e : (twiceR r).asks.getD i ask0 = twiceA a := by
      rw [List.getD_eq_getElem?_getD]
      show ((r.asks.map _)[i]?).getD _ = _
      rw [List.getElem?_map, ha]
      rfl
    rw [e]
    refine ⟨p5, v4, rfl, SqT.of h5, ?_⟩
    have e2 : mkRat ((m * 2 : Nat) : Int) a.size.den = a.size * 2 := by
      rw [← twice_mk, em]
      rfl
    rw [e2] at f4
    exact mv s5 f4
  · intro D acc H3 hD s3 hacc al2
    rw [range_getD _ _ (by show (r.asks.map _).length = _; rw [List.length_map, lal])] at al2
    have tp3 := sm_t s3 tp
    walk_at "rg"
    refine e_nwT rfl fun p7 H7 s7 n7 h7 => ?_
    have s37 := s3.trans s7
    exact q _ H7 s37 ⟨p7, .ref ra, .ref D, rfl, SqT.of h7, ⟨ra, rl, rfl, s37 _ _ hra, alr.mv s37⟩, ⟨D, acc, rfl, s7 _ _ hacc, al2.mv (hid_sm.trans s7)⟩⟩
end
/-! the ring turned, with twice the sizes, with an ask gone -/
def ovTurn (n one other i : Nat) : Bool := ov n ((one + 1) % n) ((other + 1) % n) ((i + 1) % n) == ov n one other i
theorem ov_turn0 : ∀ n, n < 9 → ∀ one, one < n → ∀ other, other < n → ∀ i, i < n → ovTurn n one other i = true := by decide +kernel
theorem ov_turn {n one other i : Nat} (hn : n < 9) (h1 : one < n) (h2 : other < n) (h : i < n) : ov n ((one + 1) % n) ((other + 1) % n) ((i + 1) % n) = ov n one other i := eq_of_beq (ov_turn0 n hn one h1 other h2 i h)
theorem next_len (r : Ring) : (nextR r).rooms.length = r.rooms.length := by
  unfold nextR
  rw [List.length_append, List.length_drop, List.length_take]
  omega
theorem next_alen (r : Ring) : (nextR r).asks.length = r.asks.length := List.length_map ..
theorem next_ask (r : Ring) (k : Nat) : (nextR r).asks[k]? = (r.asks[k]?).map (nextA r.rooms.length) := List.getElem?_map ..
theorem next_room {r : Ring} (g : Good r) {i : Nat} (h : i < r.rooms.length) : room (nextR r) ((i + 1) % r.rooms.length) = room r i := by
  unfold room nextR
  rw [List.getD_eq_getElem?_getD, List.getD_eq_getElem?_getD]
  congr 1
  have n2 := g.n2
  by_cases e : i + 1 = r.rooms.length
  · rw [e, Nat.mod_self, List.getElem?_append_left (by rw [List.length_drop]; omega), List.getElem?_drop]
    congr 1
    omega
  · rw [Nat.mod_eq_of_lt (by omega), List.getElem?_append_right (by rw [List.length_drop]; omega), List.length_drop, List.getElem?_take_of_lt (by omega)]
    congr 1
    omega
theorem next_ct {r : Ring} (g : Good r) (ws : List Bool) (k : Nat) {i : Nat} (h : i < r.rooms.length) : ct (nextR r) ws k ((i + 1) % r.rooms.length) = ct r ws k i := by
  unfold ct
  rw [next_ask, next_len]
  cases ha : r.asks[k]? with
  | none => rfl
  | some a =>
    have ga := g.ask a (List.mem_of_getElem? ha)
    have := ov_turn (Nat.lt_succ_of_le g.n8) ga.1 ga.2.1 h
    cases hw : ws[k]? with
    | none => rfl
    | some w =>
      show (if ov r.rooms.length ((a.one + 1) % _) ((a.other + 1) % _) _ = w then a.size else 0) = _
      rw [this]
theorem next_ld {r : Ring} (g : Good r) (ws : List Bool) {i : Nat} (h : i < r.rooms.length) : ∀ k, ld (nextR r) ws k ((i + 1) % r.rooms.length) = ld r ws k i
  | 0 => rfl
  | k + 1 => by
    show ld (nextR r) ws k _ + ct (nextR r) ws k _ = ld r ws k i + ct r ws k i
    rw [next_ld g ws h k, next_ct g ws k h]
theorem next_strain {r : Ring} (g : Good r) (ws : List Bool) {i : Nat} (h : i < r.rooms.length) : strain (nextR r) ws ((i + 1) % r.rooms.length) = strain r ws i := by
  unfold strain
  rw [next_alen, next_ld g ws h, next_room g h]
theorem turn_at {n j : Nat} (h : j < n) : ∃ i, i < n ∧ (i + 1) % n = j := by
  by_cases e : j = 0
  · exact ⟨n - 1, by omega, by rw [show n - 1 + 1 = n by omega, Nat.mod_self, e]⟩
  · exact ⟨j - 1, by omega, by rw [show j - 1 + 1 = j by omega, Nat.mod_eq_of_lt h]⟩
theorem next_top {r : Ring} (g : Good r) {ws : List Bool} {q : Rat} : IsTop (nextR r) ws q ↔ IsTop r ws q := by
  have n2 := g.n2
  constructor
  · rintro ⟨⟨j, hj, e⟩, hm⟩
    rw [next_len] at hj hm
    obtain ⟨i, hi, rfl⟩ := turn_at hj
    rw [next_strain g ws hi] at e
    refine ⟨⟨i, hi, e⟩, fun i' hi' => ?_⟩
    have := hm ((i' + 1) % r.rooms.length) (Nat.mod_lt _ (by omega))
    rwa [next_strain g ws hi'] at this
  · rintro ⟨⟨i, hi, e⟩, hm⟩
    refine ⟨⟨(i + 1) % r.rooms.length, by rw [next_len]; exact Nat.mod_lt _ (by omega), by rw [next_strain g ws hi]; exact e⟩, fun j hj => ?_⟩
    rw [next_len] at hj
    obtain ⟨i', hi', rfl⟩ := turn_at hj
    rw [next_strain g ws hi']
    exact hm i' hi'
theorem next_good {r : Ring} (g : Good r) : Good (nextR r) where
  n2 := by rw [next_len]; exact g.n2
  n8 := by rw [next_len]; exact g.n8
  m5 := by rw [next_alen]; exact g.m5
  room := fun q hq => by
    rcases List.mem_append.mp hq with h | h
    · exact g.room q (List.mem_of_mem_drop h)
    · exact g.room q (List.mem_of_mem_take h)
  ask := fun a ha => by
    obtain ⟨b, hb, rfl⟩ := List.mem_map.mp ha
    obtain ⟨h1, h2, h3, h4⟩ := g.ask b hb
    have n2 := g.n2
    rw [next_len]
    refine ⟨Nat.mod_lt _ (by omega), Nat.mod_lt _ (by omega), ?_, h4⟩
    show (b.one + 1) % r.rooms.length ≠ (b.other + 1) % r.rooms.length
    by_cases e1 : b.one + 1 = r.rooms.length
    · rw [e1, Nat.mod_self, Nat.mod_eq_of_lt (by omega)]
      omega
    · rw [Nat.mod_eq_of_lt (by omega)]
      by_cases e2 : b.other + 1 = r.rooms.length
      · rw [e2, Nat.mod_self]
        omega
      · rw [Nat.mod_eq_of_lt (by omega)]
        omega
theorem next_best {r : Ring} (g : Good r) {ws ws' : List Bool} {q q' : Rat} (h : IsBest r ws q) (h' : IsBest (nextR r) ws' q') : q' = q := by
  have a := h.least ws' q' (by rw [h'.len, next_alen]) ((next_top g).mp h'.top)
  have b := h'.least ws q (by rw [h.len, next_alen]) ((next_top g).mpr h.top)
  exact Rat.le_antisymm b a
theorem twice_alen (r : Ring) : (twiceR r).asks.length = r.asks.length := List.length_map ..
theorem twice_ct (r : Ring) (ws : List Bool) (k i : Nat) : ct (twiceR r) ws k i = ct r ws k i * 2 := by
  unfold ct
  rw [show (twiceR r).asks[k]? = (r.asks[k]?).map twiceA from List.getElem?_map ..]
  cases ha : r.asks[k]? with
  | none => exact (Rat.zero_mul 2).symm
  | some a =>
    cases hw : ws[k]? with
    | none => exact (Rat.zero_mul 2).symm
    | some w =>
      show (if ov r.rooms.length a.one a.other i = w then a.size * 2 else 0) = (if ov r.rooms.length a.one a.other i = w then a.size else 0) * 2
      split
      · rfl
      · exact (Rat.zero_mul 2).symm
theorem twice_ld (r : Ring) (ws : List Bool) (i : Nat) : ∀ k, ld (twiceR r) ws k i = ld r ws k i * 2
  | 0 => (Rat.zero_mul 2).symm
  | k + 1 => by
    show ld (twiceR r) ws k i + ct (twiceR r) ws k i = (ld r ws k i + ct r ws k i) * 2
    rw [twice_ld r ws i k, twice_ct, Rat.add_mul]
theorem twice_strain (r : Ring) (ws : List Bool) (i : Nat) : strain (twiceR r) ws i = strain r ws i * 2 := by
  unfold strain
  rw [twice_alen, twice_ld, Rat.div_def, Rat.div_def]
  show _ * 2 * (room r i)⁻¹ = _
  rw [Rat.mul_assoc, Rat.mul_comm 2, ← Rat.mul_assoc]
theorem twice_le {a b : Rat} : a * 2 ≤ b * 2 ↔ a ≤ b := by
  constructor
  · intro h
    exact Rat.le_of_mul_le_mul_right h (by decide)
  · intro h
    exact Rat.mul_le_mul_of_nonneg_right h (by decide)
theorem twice_top {r : Ring} {ws : List Bool} {q : Rat} (h : IsTop r ws q) : IsTop (twiceR r) ws (q * 2) := by
  obtain ⟨⟨i, hi, e⟩, hm⟩ := h
  exact ⟨⟨i, hi, by rw [twice_strain, e]⟩, fun j hj => by rw [twice_strain]; exact twice_le.mpr (hm j hj)⟩
theorem twice_top' {r : Ring} {ws : List Bool} {q : Rat} (h : IsTop (twiceR r) ws q) : ∃ p, IsTop r ws p ∧ q = p * 2 := by
  obtain ⟨⟨i, hi, e⟩, hm⟩ := h
  rw [twice_strain] at e
  exact ⟨_, ⟨⟨i, hi, rfl⟩, fun j hj => by
    have := hm j hj
    rw [twice_strain, ← e] at this
    exact twice_le.mp this⟩, e.symm⟩
theorem twice_best {r : Ring} {ws ws' : List Bool} {q q' : Rat} (h : IsBest r ws q) (h' : IsBest (twiceR r) ws' q') : q' = q * 2 := by
  obtain ⟨p, hp, rfl⟩ := twice_top' h'.top
  have a := h.least ws' p (by rw [h'.len, twice_alen]) hp
  have b := h'.least ws _ (by rw [h.len, twice_alen]) (twice_top h.top)
  exact Rat.le_antisymm b (twice_le.mpr a)
theorem two_bd : Bd 2 (2 : Rat) := by
  refine ⟨by decide, ?_, ?_⟩ <;> decide +kernel
theorem twice_good {r : Ring} (g : Fine r) : Good (twiceR r) where
  n2 := g.1.n2
  n8 := g.1.n8
  m5 := by rw [twice_alen]; exact g.1.m5
  room := g.1.room
  ask := fun a ha => by
    obtain ⟨b, hb, rfl⟩ := List.mem_map.mp ha
    obtain ⟨h1, h2, h3, h4⟩ := g.1.ask b hb
    exact ⟨h1, h2, h3, ((g.2 b hb).1.mul two_bd).mono (by decide)⟩
theorem gone_at {α : Type} (l : List α) {k : Nat} (hk : k < l.length) (j : Nat) : (l.take k ++ l.drop (k + 1))[j]? = if j < k then l[j]? else l[j + 1]? := by
  split
  · rw [List.getElem?_append_left (by rw [List.length_take]; omega), List.getElem?_take_of_lt (by omega)]
  · rw [List.getElem?_append_right (by rw [List.length_take]; omega), List.length_take, List.getElem?_drop]
    congr 1
    omega
theorem gone_len {α : Type} (l : List α) {k : Nat} (hk : k < l.length) : (l.take k ++ l.drop (k + 1)).length = l.length - 1 := by
  rw [List.length_append, List.length_take, List.length_drop]
  omega
def goneW (ws : List Bool) (k : Nat) : List Bool := ws.take k ++ ws.drop (k + 1)
theorem gone_ct {r : Ring} {ws : List Bool} {k : Nat} (hk : k < r.asks.length) (hw : ws.length = r.asks.length) (j i : Nat) : ct (goneR r k) (goneW ws k) j i = if j < k then ct r ws j i else ct r ws (j + 1) i := by
  have a := gone_at r.asks hk j
  have b := gone_at ws (k := k) (by omega) j
  unfold ct
  rw [show (goneR r k).asks[j]? = _ from a, show (goneW ws k)[j]? = _ from b]
  by_cases h : j < k
  · rw [if_pos h, if_pos h, if_pos h]
    rfl
  · rw [if_neg h, if_neg h, if_neg h]
    rfl
theorem gone_ld1 {r : Ring} {ws : List Bool} {k : Nat} (hk : k < r.asks.length) (hw : ws.length = r.asks.length) (i : Nat) : ∀ j, j ≤ k → ld (goneR r k) (goneW ws k) j i = ld r ws j i
  | 0, _ => rfl
  | j + 1, h => by
    show ld (goneR r k) (goneW ws k) j i + ct (goneR r k) (goneW ws k) j i = ld r ws j i + ct r ws j i
    rw [gone_ld1 hk hw i j (by omega), gone_ct hk hw, if_pos (by omega)]
theorem gone_ld2 {r : Ring} {ws : List Bool} {k : Nat} (hk : k < r.asks.length) (hw : ws.length = r.asks.length) (i : Nat) : ∀ d, ld (goneR r k) (goneW ws k) (k + d) i + ct r ws k i = ld r ws (k + d + 1) i
  | 0 => by
    rw [Nat.add_zero, gone_ld1 hk hw i k (Nat.le_refl k)]
    rfl
  | d + 1 => by
    show (ld (goneR r k) (goneW ws k) (k + d) i + ct (goneR r k) (goneW ws k) (k + d) i) + ct r ws k i = ld r ws (k + d + 1) i + ct r ws (k + d + 1) i
    rw [gone_ct hk hw, if_neg (by omega), ← gone_ld2 hk hw i d]
    grind
theorem gone_alen {r : Ring} {k : Nat} (hk : k < r.asks.length) : (goneR r k).asks.length = r.asks.length - 1 := gone_len r.asks hk
theorem gone_good {r : Ring} (g : Good r) {k : Nat} (hk : k < r.asks.length) : Good (goneR r k) where
  n2 := g.n2
  n8 := g.n8
  m5 := by rw [gone_alen hk]; have := g.m5; omega
  room := g.room
  ask := fun a ha => by
    rcases List.mem_append.mp ha with h | h
    · exact g.ask a (List.mem_of_mem_take h)
    · exact g.ask a (List.mem_of_mem_drop h)
theorem gone_strain {r : Ring} (g : Good r) {ws : List Bool} {k : Nat} (hk : k < r.asks.length) (hw : ws.length = r.asks.length) {i : Nat} (hi : i < r.rooms.length) : strain (goneR r k) (goneW ws k) i ≤ strain r ws i := by
  have a := gone_ld2 hk hw i (r.asks.length - 1 - k)
  rw [show k + (r.asks.length - 1 - k) = r.asks.length - 1 by omega, show r.asks.length - 1 + 1 = r.asks.length by omega] at a
  have c := (ct_bd g (ws := ws) (k := k) (i := i)).nn
  have rp := (room_bd g hi).1
  unfold strain
  rw [gone_alen hk, Rat.div_def, Rat.div_def]
  show _ * (room r i)⁻¹ ≤ _
  refine Rat.mul_le_mul_of_nonneg_right ?_ (Rat.le_of_lt (Rat.inv_pos.mpr rp))
  rw [← a]
  have := Rat.add_le_add_left (c := ld (goneR r k) (goneW ws k) (r.asks.length - 1) i) |>.mpr c
  rwa [Rat.add_zero] at this
theorem gone_best {r : Ring} (g : Good r) {k : Nat} (hk : k < r.asks.length) {ws ws' : List Bool} {q q' : Rat} (h : IsBest r ws q) (h' : IsBest (goneR r k) ws' q') : ¬ q < q' := by
  obtain ⟨p, hp⟩ := top_ex (gone_good g hk) (goneW ws k)
  have a := h'.least (goneW ws k) p (by rw [gone_alen hk]; unfold goneW; rw [gone_len ws (by rw [h.len]; exact hk), h.len]) hp
  obtain ⟨⟨i, hi, e⟩, _⟩ := hp
  have b := gone_strain g hk h.len (i := i) hi
  rw [e] at b
  exact Rat.not_lt.mpr (Rat.le_trans a (Rat.le_trans b (h.top.2 i hi)))
section
variable {P : Program} {w : World} {K : Fg} {mg : Str → Option Value} {base : Heap} {A : Ad}
/-! equal things -/
def frD (q : Rat) : PyData := .tuple [.int q.num, .int (q.den : Nat)]
theorem frD_dp {H : Hp} {v : V} {q : Rat} (h : Fr K H v q) : Dp K H v (frD q) := by
  obtain ⟨a, rfl, t⟩ := h
  exact .tup t (.cons (.int _) (.cons (.int _) .nil))
theorem frD_sh (q : Rat) : SeqAt.shaped (frD q) = true := rfl
theorem frD_eq (q : Rat) : PyData.eqv (frD q) (frD q) = true := by
  show ((q.num == q.num) && (((q.den : Nat) : Int) == ((q.den : Nat) : Int) && true)) = true
  simp
theorem e_neFr {H : Hp} {x y : V} {q : Rat} {Q : VK} (hx : Fr K H x q) (hy : Fr K H y q) (k : Q (.bl false) H) : rNeD K x y H Q :=
  ⟨frD q, frD q, frD_dp hx, frD_dp hy, frD_sh q, frD_sh q, by rw [frD_eq]; exact k⟩
def askD (a : Ask) : PyData := .tuple [.str a.nm, .int a.one, .int a.other, frD a.size]
theorem askD_dp {H : Hp} : ∀ {vs : List V} {as : List Ask}, Al (Ak K H) vs as → DpAll K H vs (as.map askD)
  | _, _, .nil => .nil
  | _, _, .cons r t => by
    obtain ⟨p, f, rfl, t1, hf⟩ := r
    exact .cons (.tup t1 (.cons (.str _) (.cons (.int _) (.cons (.int _) (.cons (frD_dp hf) .nil))))) (askD_dp t)
theorem askD_lay : ∀ as : List Ask, (∀ a ∈ as, Sok a.nm) → PyData.canLayAll0 (as.map askD) = true ∧ PyData.depthAll (as.map askD) ≤ 2
  | [], _ => ⟨rfl, Nat.zero_le _⟩
  | a :: r, h => by
    obtain ⟨h1, h2⟩ := askD_lay r fun x hx => h x (List.mem_cons_of_mem _ hx)
    constructor
    · show ((PyData.strOk a.nm && true) && PyData.canLayAll0 (r.map askD)) = true
      rw [(h a List.mem_cons_self).ok, h1]
      rfl
    · show max 2 (PyData.depthAll (r.map askD)) ≤ 2
      omega
theorem asks_sh {as : List Ask} (h : ∀ a ∈ as, Sok a.nm) : SeqAt.shaped (.list (as.map askD)) = true := by
  obtain ⟨h1, h2⟩ := askD_lay as h
  show (PyData.canLayAll0 (as.map askD) && decide (PyData.depthAll (as.map askD) + 1 ≤ 64)) = true
  rw [h1, decide_eq_true (by omega)]
  rfl
theorem cut_to (xs : List V) {k : Nat} (h : k ≤ xs.length) : cutV xs none (some (k : Int)) = xs.take k := by
  unfold cutV
  rw [HT.sIx_nat, HT.sIx_none, Nat.sub_zero, List.drop_zero, Nat.min_eq_left h]
theorem cut_from (xs : List V) {k : Nat} (h : k ≤ xs.length) : cutV xs (some (k : Int)) none = xs.drop k := by
  unfold cutV
  rw [HT.sIx_nat, HT.sIx_none, Nat.min_eq_left h]
  exact List.take_of_length_le (by rw [List.length_drop]; omega)
def spOthers (K : Fg) : Sp := fun vs H Q _ => ∃ (a : Addr) (rv : V) (r : Ring) (tv : V) (q : Rat) (wv : V) (ws : List Bool), vs = [.ref a, rv, tv, wv] ∧ Stt a H ∧ Rn K (hid a H) rv r ∧ Fine r ∧ Fr K (hid a H) tv q ∧ Ls Wy (hid a H) wv ws ∧ IsBest r ws q ∧ Bd 500 q ∧ ∀ H', Q (.bl true) H'
theorem ok__law_others (T : Txt K mg A) : Cal P w K mg base 14 "_law_others" pr__law_others (spOthers K) := by
  obtain ⟨f, fd, F, hm, hb⟩ := T.d__law_others
  refine ⟨f, fd, F.ok sc__law_others (fun vs H Q E h => ?_) (fun cdv A' outer s H vs Q E hr h => ?_), hm, F.kp, hb⟩
  · obtain ⟨a, rv, r, tv, q, wv, ws, rfl, _⟩ := h; rfl
  obtain ⟨a, rv, r, tv, q, wv, ws, rfl, hS, hR, hF, hT, hW, hB, bq, k⟩ := h
  have hG := hF.1
  obtain ⟨pr, ra, aa, rl, al, rfl, tp, hra, alr, haa, ala⟩ := rn_get hR
  obtain ⟨fa, rfl, tf⟩ := id hT
  have lal := ala.len
  have m5 := hG.m5
  obtain ⟨m, em⟩ := num_nat bq.nn
  refine ⟨_, (pss_cons (ps_set (i := 4) sc__law_others.nd rfl (Or.inl rfl) (pe_c (ok__law_next T) (hr.mono (by decide)) (pa_cons (pv 1) pa_nil)))
  (pss_cons (ps_if (PW.pt (pw_or (pt_cmpR (op_neDk K hr.units) (pe_ix (ix_tk K) (pe_c (ok_best_ways T) (hr.mono (by decide)) (pa_cons (pv 4) pa_nil)) pe_int (fun _ _ => rfl)) (pv 2) (nomark _)) (pw_or1 (pt_cmpR (op_neDk K hr.units) (pe_ix (ix_tk K) (pe_c (ok_top_of T) (hr.mono (by decide)) (pa_cons (pv 4) (pa_cons (pe_c (ok_sent_by T) (hr.mono (by decide)) (pa_cons (pv 4) (pa_cons (pv 3) pa_nil))) pa_nil))) pe_int (fun _ _ => rfl)) (pv 2) (nomark _))))) (pss_cons (ps_ret pe_bl)
  pss_nil) pss_nil)
  (pss_cons (ps_if (pt_cmpR (op_neDk K hr.units) (pe_ix (ix_tk K) (pe_c (ok_best_ways T) (hr.mono (by decide)) (pa_cons (pe_c (ok__law_twice T) (hr.mono (by decide)) (pa_cons (pv 1) pa_nil)) pa_nil)) pe_int (fun _ _ => rfl)) (pe_c (ok__law_low T) (hr.mono (by decide)) (pa_cons (pe_op op_mul (pe_ix (ix_tk K) (pv 2) pe_int (fun _ _ => rfl)) pe_int) (pa_cons (pe_ix (ix_tk K) (pv 2) pe_int (fun _ _ => rfl)) pa_nil))) (nomark _)) (pss_cons (ps_ret pe_bl)
  pss_nil) pss_nil)
  (pss_cons (ps_if (pt_cmpR (op_eqDk K hr.units) (pe_ix (ix_tk K) (pv 1) pe_int (fun _ _ => rfl)) (pe_lst pa_nil) (nomark _)) (pss_cons (ps_ret pe_bl)
  pss_nil) pss_nil)
  (pss_cons (ps_set (i := 5) sc__law_others.nd rfl (Or.inl rfl) (pe_c (ok__law_take T) (hr.mono (by decide)) (pa_cons (pv 0) (pa_cons (pe_callB (c_lenk K) (by rfl) T.n_len PySem.boot_len (pa_cons (pe_ix (ix_tk K) (pv 1) pe_int (fun _ _ => rfl)) pa_nil)) pa_nil))))
  (pss_cons (ps_ret (pe_not (pe_c (ok__law_under T) (hr.mono (by decide)) (pa_cons (pv 2) (pa_cons (pe_ix (ix_tk K) (pe_c (ok_best_ways T) (hr.mono (by decide)) (pa_cons (pe_tup (pa_cons (pe_ix (ix_tk K) (pv 1) pe_int (fun _ _ => rfl)) (pa_cons (pe_op op_cat (pe_slice (sl_lk K) (pe_ix (ix_tk K) (pv 1) pe_int (fun _ _ => rfl)) po_none (po_some (pv 5))) (pe_slice (sl_lk K) (pe_ix (ix_tk K) (pv 1) pe_int (fun _ _ => rfl)) (po_some (pe_op op_add (pv 5) pe_int)) po_none)) pa_nil))) pa_nil)) pe_int (fun _ _ => rfl)) pa_nil)))))
  pss_nil)))))), ?_⟩
  walk_at "rg"
  refine ⟨_, r, rfl, mv hid_sm hR, hG, fun v1 H1 s1 hN => ?_⟩
  have gN := next_good hG
  walk_at "rg"
  refine ⟨v1, _, rfl, hN, gN, fun p2 f2 wv2 x2 H2 q2 ws2 s2 t2 hf2 hw2 hb2 bd2 => ?_⟩
  obtain rfl := next_best hG hB hb2
  walk_at "rg"
  have s12 := s1.trans s2
  refine e_neFr hf2 (mv (hid_sm.trans s12) hT) ?_
  walk_at "rg"
  refine iteF ?_
  walk_at "rg"
  refine ⟨v1, _, _, ws, rfl, mv s2 hN, gN, mv (hid_sm.trans s12) hW, by rw [hB.len, next_alen], fun v3 H3 s3 hs3 => ?_⟩
  walk_at "rg"
  refine ⟨v1, _, v3, ws, rfl, mv (s2.trans s3) hN, gN, hs3, by rw [hB.len, next_alen], fun p4 f4 i4 H4 q4 s4 t4 hf4 ht4 bd4 => ?_⟩
  obtain rfl := ((next_top hG).mp ht4).uniq hB.top
  have s14 := s12.trans (s3.trans s4)
  walk_at "rg"
  refine e_neFr hf4 (mv (hid_sm.trans s14) hT) ?_
  walk_at "rg"
  refine iteF ?_
  walk_at "rg"
  refine ⟨_, r, rfl, mv (hid_sm.trans s14) hR, hG, fun v5 H5 s5 hR5 => ?_⟩
  walk_at "rg"
  refine ⟨v5, _, rfl, hR5, twice_good hF, fun p6 f6 wv6 x6 H6 q6 ws6 s6 t6 hf6 hw6 hb6 bd6 => ?_⟩
  obtain rfl := twice_best hB hb6
  have s16 := s14.trans (s5.trans s6)
  have tf6 := sm_t (hid_sm.trans s16) tf
  walk_at "rg"
  refine e_I (.inr ⟨by decide, by decide⟩) ?_
  walk_at "rg"
  refine ⟨m * 2, q4.den, by rw [em]; rfl, q4.den_pos, Nat.lt_of_lt_of_le bq.bot (Nat.pow_le_pow_right (by decide) (by decide)), fun v7 H7 s7 hf7 => ?_⟩
  have e7 : mkRat ((m * 2 : Nat) : Int) q4.den = q4 * 2 := by
    rw [← twice_mk, em]
    rfl
  rw [e7] at hf7
  refine e_neFr (mv s7 hf6) hf7 ?_
  walk_at "rg"
  refine iteF ?_
  have s17 := s16.trans s7
  have hS7 := hS.mv s17
  have v17 := hid_mono (a := a) s17
  have tp7 := sm_t (v17.trans hid_sm) tp
  walk_at "rg"
  refine e_nwL rfl fun p8 H8 s8 n8 h8 => ?_
  have w8 := (v17.trans hid_sm).trans s8
  have tp8 := sm_t s8 tp7
  refine ⟨.list (r.asks.map askD), .list [], .lst (SqL.of (w8 _ _ haa)) (askD_dp (ala.mv w8)), .lst (SqL.of h8) .nil, asks_sh fun x hx => (hF.2 x hx).2, rfl, ?_⟩
  walk_at "rg"
  by_cases he : r.asks = []
  · rw [he]
    refine iteT ?_
    walk_at "rg"
    exact k _
  · have hpos : 0 < r.asks.length := List.length_pos_iff.mpr he
    refine ite2 (fun _ => ?_) (fun _ => ?_)
    · walk_at "rg"
      exact k _
    · have haa8 := w8 _ _ haa
      walk_at "rg"
      refine ⟨a, (al.length : Nat), rfl, hS7.mv s8, by omega, by omega, fun d9 H9 s9 hS9 l9 u9 => ?_⟩
      obtain ⟨at', rfl⟩ := toNat_eq l9
      have w9 := ((v17.trans (hid_mono s8)).trans s9).trans hid_sm
      have tp9 := sm_t w9 tp
      have haa9 := w9 _ _ haa
      walk_at "rg"
      refine e_slL (SqL.of haa9) fun p10 H10 s10 n10 h10 => ?_
      have tp10 := sm_t s10 tp9
      walk_at "rg"
      refine e_slL (SqL.of (s10 _ _ haa9)) fun p11 H11 s11 n11 h11 => ?_
      rw [cut_to al (by omega)] at h10
      rw [show ((at' : Nat) : Int) + 1 = ((at' + 1 : Nat) : Int) from rfl, cut_from al (by omega)] at h11
      refine e_cat (s11 _ _ h10) h11 (szL (by rw [List.length_take, List.length_drop]; omega)) fun p12 H12 s12 n12 h12 => ?_
      walk_at "rg"
      refine e_nwT rfl fun p13 H13 s13 n13 h13 => ?_
      have w13 := w9.trans (s10.trans (s11.trans (s12.trans s13)))
      have hk : at' < r.asks.length := by omega
      have hR13 : Rn K H13 (.ref p13) (goneR r at') := ⟨p13, .ref ra, .ref p12, rfl, SqT.of h13, ⟨ra, rl, rfl, w13 _ _ hra, alr.mv w13⟩, ⟨p12, _, rfl, s13 _ _ h12, ((ala.mv w13).take _).app ((ala.mv w13).drop _)⟩⟩
      walk_at "rg"
      refine ⟨_, _, rfl, hR13, gone_good hG hk, fun p14 f14 wv14 x14 H14 q14 ws14 s14 t14 hf14 hw14 hb14 bd14 => ?_⟩
      walk_at "rg"
      refine ⟨_, _, q4, q14, rfl, mv (w13.trans s14) hT, hf14, bq.mono (by decide), bd14.mono (by decide), ?_⟩
      rw [decide_eq_false (gone_best hG hk hB hb14)]
      walk_at "rg"
      exact k _
end
section
variable {P : Program} {w : World} {K : Fg} {mg : Str → Option Value} {base : Heap} {A : Ad}
/-- what is new at p is not hidden from what stood before -/
theorem same_past {p : Addr} {H H' : Hp} (n : H p = none) (s : Same (hid p H) (hid p H')) : Same H H' := fun b o e => hid_sm b o (s b o (by rw [hid_ne (ne_of_none e n)]; exact e))
def spLaw (K : Fg) : Sp := fun vs H Q _ => ∃ (a : Addr) (xs : List Int), vs = [.ref a] ∧ SqL K H a (xs.map V.int) ∧ ∀ H', Q (.bl true) H'
theorem ok_law {f : Addr} {fd : FuncData} (T : Txt K mg A) (F : Fun K "law" "law" st_law f fd) : FnOk P w K mg base CX0 16 f fd pr_law (spLaw K) := by
  refine F.ok sc_law (fun vs H Q E h => ?_) (fun cdv A' outer s H vs Q E hr h => ?_)
  · obtain ⟨a, xs, rfl, _⟩ := h; rfl
  obtain ⟨a, xs, rfl, ha, k⟩ := h
  refine ⟨_, (pss_cons (ps_set (i := 1) sc_law.nd rfl (Or.inl rfl) (pe_c (ok__law_ring T) (hr.mono (by decide)) (pa_cons (pv 0) (pa_cons pe_int (pa_cons pe_int (pa_cons pe_int pa_nil))))))
  (pss_cons (ps_asg (pe_c (ok_best_ways T) (hr.mono (by decide)) (pa_cons (pv 1) pa_nil)) (pg_tk K 3 (pgs_cons (pg_name (i := 2) sc_law.nd rfl (Or.inl rfl)) (pgs_cons (pg_name (i := 3) sc_law.nd rfl (Or.inl rfl)) (pgs_cons (pg_name (i := 4) sc_law.nd rfl (Or.inl rfl)) pgs_nil)))))
  (pss_cons (ps_for PassesOwn.never rfl (pi_range2 rfl T.n_range (pa_cons pe_int (pa_cons (pe_callB (c_mx rfl) (by rfl) T.n_max (by decide +kernel) (pa_cons pe_int (pa_cons (pe_callB (c_mn rfl) (by rfl) T.n_min (by decide +kernel) (pa_cons (pe_callB (c_lenk K) (by rfl) T.n_len PySem.boot_len (pa_cons (pv 0) pa_nil)) (pa_cons pe_int pa_nil))) pa_nil))) pa_nil))) (pg_name (i := 5) sc_law.nd rfl (Or.inl rfl)) (pss_cons (ps_set (i := 6) sc_law.nd rfl (Or.inl rfl) (pe_c (ok__law_ways T) (hr.mono (by decide)) (pa_cons (pe_c (ok__law_begun T) (hr.mono (by decide)) (pa_cons (pv 0) (pa_cons (pv 5) pa_nil))) (pa_cons (pe_callB (c_lenk K) (by rfl) T.n_len PySem.boot_len (pa_cons (pe_ix (ix_tk K) (pv 1) pe_int (fun _ _ => rfl)) pa_nil)) pa_nil))))
  (pss_cons (ps_if (pt_val (pe_c (ok__law_under T) (hr.mono (by decide)) (pa_cons (pe_ix (ix_tk K) (pe_c (ok_top_of T) (hr.mono (by decide)) (pa_cons (pv 1) (pa_cons (pe_c (ok_sent_by T) (hr.mono (by decide)) (pa_cons (pv 1) (pa_cons (pv 6) pa_nil))) pa_nil))) pe_int (fun _ _ => rfl)) (pa_cons (pv 2) pa_nil)))) (pss_cons (ps_ret pe_bl)
  pss_nil) pss_nil)
  pss_nil)))
  (pss_cons (ps_ret (pe_c (ok__law_others T) (hr.mono (by decide)) (pa_cons (pe_c (ok__law_begun T) (hr.mono (by decide)) (pa_cons (pv 0) (pa_cons pe_int pa_nil))) (pa_cons (pv 1) (pa_cons (pv 2) (pa_cons (pv 3) pa_nil))))))
  pss_nil)))), ?_⟩
  walk_at "rg"
  refine ⟨a, xs, rfl, ha, fun rv H1 r s1 hR hF => ?_⟩
  have hG := hF.1
  have m5 := hG.m5
  obtain ⟨pr, ra, aa, rl, al, rfl, tp, hra, alr, haa, ala⟩ := rn_get hR
  have lal := ala.len
  walk_at "rg"
  refine ⟨_, r, rfl, hR, hG, fun p2 fv wv x2 H2 q ws s2 t2 hf hw hB bq => ?_⟩
  have ha2 := (s1.trans s2).seq ha
  walk_at "rg"
  have m0 : ∀ z : Int, ∃ (j : Int) (n : Nat), (if (if (63 : Int) < z then 63 else z) > 4 then (if (63 : Int) < z then 63 else z) else 4) = j ∧ n = (j - 3).toNat ∧ n ≤ 60 ∧ j ≤ 63 ∧ 4 ≤ j := fun z => by
    refine ⟨_, _, rfl, rfl, ?_⟩
    by_cases h : (63 : Int) < z
    · rw [if_pos h, if_pos (by decide)]
      decide
    · rw [if_neg h]
      by_cases h4 : z > 4
      · rw [if_pos h4]
        omega
      · rw [if_neg h4]
        decide
  obtain ⟨j, n, ej, en, hn, hj, hj4⟩ := m0 ((xs.map V.int).length : Nat)
  rw [ej]
  refine r_rng2 en ⟨by decide, by decide, by omega, by omega⟩ (lp_of (walk_rgf (lo := 3) rfl) ?_)
  refine ⟨fun i σ Hk => ∃ y5 y6, σ = [some (.ref a), some (.ref pr), some fv, some wv, some x2, y5, y6] ∧ Same H2 Hk, ⟨none, none, rfl, Same.refl _⟩, fun _ _ _ _ _ => trivial, ?_, ?_⟩
  · rintro i x σ _ Hk hi ⟨y5, y6, rfl, sk⟩ ⟨rfl, rfl⟩
    have tpk := sm_t (s2.trans sk) tp
    walk_at "rg"
    refine ⟨a, xs, 3 + i, rfl, sk.seq ha2, by omega, fun p3 H3 s3 n3 hS3 => ?_⟩
    have tp3 := sm_t s3 tpk
    have haa3 := ((s2.trans sk).trans s3) _ _ haa
    walk_at "rg"
    refine ⟨p3, r.asks.length, by rw [lal], hS3, m5, fun ov H4 ws4 s4 hw4 l4 => ?_⟩
    have sk4 : Same Hk H4 := ((hid_same n3 s3).trans s4).trans hid_sm
    have s14 := (s2.trans sk).trans sk4
    walk_at "rg"
    refine ⟨_, r, _, ws4, rfl, mv s14 hR, hG, mv hid_sm hw4, l4, fun sv H5 s5 hs5 => ?_⟩
    walk_at "rg"
    refine ⟨_, r, _, ws4, rfl, mv (s14.trans s5) hR, hG, hs5, l4, fun p6 f6 i6 H6 q6 s6 t6 hf6 ht6 bq6 => ?_⟩
    walk_at "rg"
    refine ⟨_, _, q6, q, rfl, hf6, mv (sk.trans (sk4.trans (s5.trans s6))) hf, bq6.mono (by decide), bq.mono (by decide), ?_⟩
    rw [decide_eq_false (Rat.not_lt.mpr (hB.least ws4 q6 l4 ht6))]
    walk_at "rg"
    refine iteF ?_
    walk_at "rg"
    exact ⟨_, _, rfl, sk.trans (sk4.trans (s5.trans s6))⟩
  · rintro σ Hk ⟨y5, y6, rfl, sk⟩
    walk_at "rg"
    refine ⟨a, xs, 3, rfl, sk.seq ha2, by decide, fun p3 H3 s3 n3 hS3 => ?_⟩
    have v3 : Same Hk (hid p3 H3) := hid_same n3 s3
    walk_at "rg"
    refine ⟨p3, _, r, fv, q, wv, ws, rfl, hS3, mv ((s2.trans sk).trans v3) hR, hF, mv (sk.trans v3) hf, mv (sk.trans v3) hw, hB, bq, k⟩
end
section
variable {K : Fg} {mg : Str → Option Value} {h : Heap} {f C : Addr} {od an : Option Addr} {sl : Array (Option Value)} {oc kV dc pm cd ct : Value}
theorem mk_common (X : K.In h) (G : h.Ns mainGlobals mg) (a : PySem.W.nsIn K mainGlobals "common" = some (some (.ref f))) (l : K.lookup f = some ⟨oc, od, .func (PySem.W.fnOf "common" "common" (defArgs st_common) (defBody st_common) (defScope st_common) .none kV dc pm an cd ct), sl⟩) (c : PySem.W.codeIn K cd "common" = true) (k : PySem.W.keepIn K (.ref f) = true) : Df K mg "common" st_common pr_common := by
  have F := fun_mk (st := st_common) l c k
  exact ⟨f, _, F, PySem.W.mg_of X G a, F.binds (ps := pr_common) fun _ _ _ _ _ _ us hl => match us, hl with | [_, _], _ => rfl⟩
theorem mk_lowered (X : K.In h) (G : h.Ns mainGlobals mg) (a : PySem.W.nsIn K mainGlobals "lowered" = some (some (.ref f))) (l : K.lookup f = some ⟨oc, od, .func (PySem.W.fnOf "lowered" "lowered" (defArgs st_lowered) (defBody st_lowered) (defScope st_lowered) .none kV dc pm an cd ct), sl⟩) (c : PySem.W.codeIn K cd "lowered" = true) (k : PySem.W.keepIn K (.ref f) = true) : Df K mg "lowered" st_lowered pr_lowered := by
  have F := fun_mk (st := st_lowered) l c k
  exact ⟨f, _, F, PySem.W.mg_of X G a, F.binds (ps := pr_lowered) fun _ _ _ _ _ _ us hl => match us, hl with | [_, _], _ => rfl⟩
theorem mk_plus (X : K.In h) (G : h.Ns mainGlobals mg) (a : PySem.W.nsIn K mainGlobals "plus" = some (some (.ref f))) (l : K.lookup f = some ⟨oc, od, .func (PySem.W.fnOf "plus" "plus" (defArgs st_plus) (defBody st_plus) (defScope st_plus) .none kV dc pm an cd ct), sl⟩) (c : PySem.W.codeIn K cd "plus" = true) (k : PySem.W.keepIn K (.ref f) = true) : Df K mg "plus" st_plus pr_plus := by
  have F := fun_mk (st := st_plus) l c k
  exact ⟨f, _, F, PySem.W.mg_of X G a, F.binds (ps := pr_plus) fun _ _ _ _ _ _ us hl => match us, hl with | [_, _], _ => rfl⟩
theorem mk_minus (X : K.In h) (G : h.Ns mainGlobals mg) (a : PySem.W.nsIn K mainGlobals "minus" = some (some (.ref f))) (l : K.lookup f = some ⟨oc, od, .func (PySem.W.fnOf "minus" "minus" (defArgs st_minus) (defBody st_minus) (defScope st_minus) .none kV dc pm an cd ct), sl⟩) (c : PySem.W.codeIn K cd "minus" = true) (k : PySem.W.keepIn K (.ref f) = true) : Df K mg "minus" st_minus pr_minus := by
  have F := fun_mk (st := st_minus) l c k
  exact ⟨f, _, F, PySem.W.mg_of X G a, F.binds (ps := pr_minus) fun _ _ _ _ _ _ us hl => match us, hl with | [_, _], _ => rfl⟩
theorem mk_times (X : K.In h) (G : h.Ns mainGlobals mg) (a : PySem.W.nsIn K mainGlobals "times" = some (some (.ref f))) (l : K.lookup f = some ⟨oc, od, .func (PySem.W.fnOf "times" "times" (defArgs st_times) (defBody st_times) (defScope st_times) .none kV dc pm an cd ct), sl⟩) (c : PySem.W.codeIn K cd "times" = true) (k : PySem.W.keepIn K (.ref f) = true) : Df K mg "times" st_times pr_times := by
  have F := fun_mk (st := st_times) l c k
  exact ⟨f, _, F, PySem.W.mg_of X G a, F.binds (ps := pr_times) fun _ _ _ _ _ _ us hl => match us, hl with | [_, _], _ => rfl⟩
theorem mk_over (X : K.In h) (G : h.Ns mainGlobals mg) (a : PySem.W.nsIn K mainGlobals "over" = some (some (.ref f))) (l : K.lookup f = some ⟨oc, od, .func (PySem.W.fnOf "over" "over" (defArgs st_over) (defBody st_over) (defScope st_over) .none kV dc pm an cd ct), sl⟩) (c : PySem.W.codeIn K cd "over" = true) (k : PySem.W.keepIn K (.ref f) = true) : Df K mg "over" st_over pr_over := by
  have F := fun_mk (st := st_over) l c k
  exact ⟨f, _, F, PySem.W.mg_of X G a, F.binds (ps := pr_over) fun _ _ _ _ _ _ us hl => match us, hl with | [_, _], _ => rfl⟩
theorem mk_under (X : K.In h) (G : h.Ns mainGlobals mg) (a : PySem.W.nsIn K mainGlobals "under" = some (some (.ref f))) (l : K.lookup f = some ⟨oc, od, .func (PySem.W.fnOf "under" "under" (defArgs st_under) (defBody st_under) (defScope st_under) .none kV dc pm an cd ct), sl⟩) (c : PySem.W.codeIn K cd "under" = true) (k : PySem.W.keepIn K (.ref f) = true) : Df K mg "under" st_under pr_under := by
  have F := fun_mk (st := st_under) l c k
  exact ⟨f, _, F, PySem.W.mg_of X G a, F.binds (ps := pr_under) fun _ _ _ _ _ _ us hl => match us, hl with | [_, _], _ => rfl⟩
theorem mk_ties_of (X : K.In h) (G : h.Ns mainGlobals mg) (a : PySem.W.nsIn K mainGlobals "ties_of" = some (some (.ref f))) (l : K.lookup f = some ⟨oc, od, .func (PySem.W.fnOf "ties_of" "ties_of" (defArgs st_ties_of) (defBody st_ties_of) (defScope st_ties_of) .none kV dc pm an cd ct), sl⟩) (c : PySem.W.codeIn K cd "ties_of" = true) (k : PySem.W.keepIn K (.ref f) = true) : Df K mg "ties_of" st_ties_of pr_ties_of := by
  have F := fun_mk (st := st_ties_of) l c k
  exact ⟨f, _, F, PySem.W.mg_of X G a, F.binds (ps := pr_ties_of) fun _ _ _ _ _ _ us hl => match us, hl with | [_, _, _], _ => rfl⟩
theorem mk_is_over (X : K.In h) (G : h.Ns mainGlobals mg) (a : PySem.W.nsIn K mainGlobals "is_over" = some (some (.ref f))) (l : K.lookup f = some ⟨oc, od, .func (PySem.W.fnOf "is_over" "is_over" (defArgs st_is_over) (defBody st_is_over) (defScope st_is_over) .none kV dc pm an cd ct), sl⟩) (c : PySem.W.codeIn K cd "is_over" = true) (k : PySem.W.keepIn K (.ref f) = true) : Df K mg "is_over" st_is_over pr_is_over := by
  have F := fun_mk (st := st_is_over) l c k
  exact ⟨f, _, F, PySem.W.mg_of X G a, F.binds (ps := pr_is_over) fun _ _ _ _ _ _ us hl => match us, hl with | [_, _, _, _], _ => rfl⟩
theorem mk_loads_of (X : K.In h) (G : h.Ns mainGlobals mg) (a : PySem.W.nsIn K mainGlobals "loads_of" = some (some (.ref f))) (l : K.lookup f = some ⟨oc, od, .func (PySem.W.fnOf "loads_of" "loads_of" (defArgs st_loads_of) (defBody st_loads_of) (defScope st_loads_of) .none kV dc pm an cd ct), sl⟩) (c : PySem.W.codeIn K cd "loads_of" = true) (k : PySem.W.keepIn K (.ref f) = true) : Df K mg "loads_of" st_loads_of pr_loads_of := by
  have F := fun_mk (st := st_loads_of) l c k
  exact ⟨f, _, F, PySem.W.mg_of X G a, F.binds (ps := pr_loads_of) fun _ _ _ _ _ _ us hl => match us, hl with | [_, _], _ => rfl⟩
theorem mk_strains_of (X : K.In h) (G : h.Ns mainGlobals mg) (a : PySem.W.nsIn K mainGlobals "strains_of" = some (some (.ref f))) (l : K.lookup f = some ⟨oc, od, .func (PySem.W.fnOf "strains_of" "strains_of" (defArgs st_strains_of) (defBody st_strains_of) (defScope st_strains_of) .none kV dc pm an cd ct), sl⟩) (c : PySem.W.codeIn K cd "strains_of" = true) (k : PySem.W.keepIn K (.ref f) = true) : Df K mg "strains_of" st_strains_of pr_strains_of := by
  have F := fun_mk (st := st_strains_of) l c k
  exact ⟨f, _, F, PySem.W.mg_of X G a, F.binds (ps := pr_strains_of) fun _ _ _ _ _ _ us hl => match us, hl with | [_, _], _ => rfl⟩
theorem mk_top_of (X : K.In h) (G : h.Ns mainGlobals mg) (a : PySem.W.nsIn K mainGlobals "top_of" = some (some (.ref f))) (l : K.lookup f = some ⟨oc, od, .func (PySem.W.fnOf "top_of" "top_of" (defArgs st_top_of) (defBody st_top_of) (defScope st_top_of) .none kV dc pm an cd ct), sl⟩) (c : PySem.W.codeIn K cd "top_of" = true) (k : PySem.W.keepIn K (.ref f) = true) : Df K mg "top_of" st_top_of pr_top_of := by
  have F := fun_mk (st := st_top_of) l c k
  exact ⟨f, _, F, PySem.W.mg_of X G a, F.binds (ps := pr_top_of) fun _ _ _ _ _ _ us hl => match us, hl with | [_, _], _ => rfl⟩
theorem mk_is_within (X : K.In h) (G : h.Ns mainGlobals mg) (a : PySem.W.nsIn K mainGlobals "is_within" = some (some (.ref f))) (l : K.lookup f = some ⟨oc, od, .func (PySem.W.fnOf "is_within" "is_within" (defArgs st_is_within) (defBody st_is_within) (defScope st_is_within) .none kV dc pm an cd ct), sl⟩) (c : PySem.W.codeIn K cd "is_within" = true) (k : PySem.W.keepIn K (.ref f) = true) : Df K mg "is_within" st_is_within pr_is_within := by
  have F := fun_mk (st := st_is_within) l c k
  exact ⟨f, _, F, PySem.W.mg_of X G a, F.binds (ps := pr_is_within) fun _ _ _ _ _ _ us hl => match us, hl with | [_, _], _ => rfl⟩
theorem mk_is_apart (X : K.In h) (G : h.Ns mainGlobals mg) (a : PySem.W.nsIn K mainGlobals "is_apart" = some (some (.ref f))) (l : K.lookup f = some ⟨oc, od, .func (PySem.W.fnOf "is_apart" "is_apart" (defArgs st_is_apart) (defBody st_is_apart) (defScope st_is_apart) .none kV dc pm an cd ct), sl⟩) (c : PySem.W.codeIn K cd "is_apart" = true) (k : PySem.W.keepIn K (.ref f) = true) : Df K mg "is_apart" st_is_apart pr_is_apart := by
  have F := fun_mk (st := st_is_apart) l c k
  exact ⟨f, _, F, PySem.W.mg_of X G a, F.binds (ps := pr_is_apart) fun _ _ _ _ _ _ us hl => match us, hl with | [_, _, _], _ => rfl⟩
theorem mk_all_cuts (X : K.In h) (G : h.Ns mainGlobals mg) (a : PySem.W.nsIn K mainGlobals "all_cuts" = some (some (.ref f))) (l : K.lookup f = some ⟨oc, od, .func (PySem.W.fnOf "all_cuts" "all_cuts" (defArgs st_all_cuts) (defBody st_all_cuts) (defScope st_all_cuts) .none kV dc pm an cd ct), sl⟩) (c : PySem.W.codeIn K cd "all_cuts" = true) (k : PySem.W.keepIn K (.ref f) = true) : Df K mg "all_cuts" st_all_cuts pr_all_cuts := by
  have F := fun_mk (st := st_all_cuts) l c k
  exact ⟨f, _, F, PySem.W.mg_of X G a, F.binds (ps := pr_all_cuts) fun _ _ _ _ _ _ us hl => match us, hl with | [_], _ => rfl⟩
theorem mk_common_bottom (X : K.In h) (G : h.Ns mainGlobals mg) (a : PySem.W.nsIn K mainGlobals "common_bottom" = some (some (.ref f))) (l : K.lookup f = some ⟨oc, od, .func (PySem.W.fnOf "common_bottom" "common_bottom" (defArgs st_common_bottom) (defBody st_common_bottom) (defScope st_common_bottom) .none kV dc pm an cd ct), sl⟩) (c : PySem.W.codeIn K cd "common_bottom" = true) (k : PySem.W.keepIn K (.ref f) = true) : Df K mg "common_bottom" st_common_bottom pr_common_bottom := by
  have F := fun_mk (st := st_common_bottom) l c k
  exact ⟨f, _, F, PySem.W.mg_of X G a, F.binds (ps := pr_common_bottom) fun _ _ _ _ _ _ us hl => match us, hl with | [_], _ => rfl⟩
theorem mk_whole_sizes (X : K.In h) (G : h.Ns mainGlobals mg) (a : PySem.W.nsIn K mainGlobals "whole_sizes" = some (some (.ref f))) (l : K.lookup f = some ⟨oc, od, .func (PySem.W.fnOf "whole_sizes" "whole_sizes" (defArgs st_whole_sizes) (defBody st_whole_sizes) (defScope st_whole_sizes) .none kV dc pm an cd ct), sl⟩) (c : PySem.W.codeIn K cd "whole_sizes" = true) (k : PySem.W.keepIn K (.ref f) = true) : Df K mg "whole_sizes" st_whole_sizes pr_whole_sizes := by
  have F := fun_mk (st := st_whole_sizes) l c k
  exact ⟨f, _, F, PySem.W.mg_of X G a, F.binds (ps := pr_whole_sizes) fun _ _ _ _ _ _ us hl => match us, hl with | [_], _ => rfl⟩
theorem mk_Loading_init (X : K.In h) (G : h.Ns mainGlobals mg) (aC : PySem.W.nsIn K mainGlobals "Loading" = some (some (.ref C))) (m : PySem.W.makesIn K C = true) (kc : PySem.W.keepIn K (.ref C) = true) (a : PySem.W.findIn K (.ref C) "__init__" = some (some (.ref f))) (i : PySem.W.isFn K (.ref f) = true) (l : K.lookup f = some ⟨oc, od, .func (PySem.W.fnOf "__init__" "Loading.__init__" (defArgs st_Loading_init) (defBody st_Loading_init) (defScope st_Loading_init) .none kV dc pm an cd ct), sl⟩) (c : PySem.W.codeIn K cd "Loading.__init__" = true) (k : PySem.W.keepIn K (.ref f) = true) : Idf K mg C "Loading" "Loading.__init__" st_Loading_init pr_Loading_init := by
  have F := fun_mk (st := st_Loading_init) l c k
  exact ⟨f, _, F, F.binds (ps := pr_Loading_init) fun _ _ _ _ _ _ us hl => match us, hl with | [_, _], _ => rfl, ⟨m, a, i, kc⟩, PySem.W.mg_of X G aC⟩
theorem mk_Loading_across (a : PySem.W.findIn K (.ref C) "across" = some (some (.ref f))) (i : PySem.W.isFn K (.ref f) = true) (l : K.lookup f = some ⟨oc, od, .func (PySem.W.fnOf "across" "Loading.across" (defArgs st_Loading_across) (defBody st_Loading_across) (defScope st_Loading_across) .none kV dc pm an cd ct), sl⟩) (c : PySem.W.codeIn K cd "Loading.across" = true) (k : PySem.W.keepIn K (.ref f) = true) : Mdf K C "across" "Loading.across" st_Loading_across pr_Loading_across := by
  have F := fun_mk (st := st_Loading_across) l c k
  exact ⟨f, _, F, F.binds (ps := pr_Loading_across) fun _ _ _ _ _ _ us hl => match us, hl with | [_], _ => rfl, ⟨a, i, k⟩⟩
theorem mk_Loading_fewer (a : PySem.W.findIn K (.ref C) "fewer" = some (some (.ref f))) (i : PySem.W.isFn K (.ref f) = true) (l : K.lookup f = some ⟨oc, od, .func (PySem.W.fnOf "fewer" "Loading.fewer" (defArgs st_Loading_fewer) (defBody st_Loading_fewer) (defScope st_Loading_fewer) .none kV dc pm an cd ct), sl⟩) (c : PySem.W.codeIn K cd "Loading.fewer" = true) (k : PySem.W.keepIn K (.ref f) = true) : Mdf K C "fewer" "Loading.fewer" st_Loading_fewer pr_Loading_fewer := by
  have F := fun_mk (st := st_Loading_fewer) l c k
  exact ⟨f, _, F, F.binds (ps := pr_Loading_fewer) fun _ _ _ _ _ _ us hl => match us, hl with | [_, _, _, _], _ => rfl, ⟨a, i, k⟩⟩
theorem mk_Loading_loaded (a : PySem.W.findIn K (.ref C) "loaded" = some (some (.ref f))) (i : PySem.W.isFn K (.ref f) = true) (l : K.lookup f = some ⟨oc, od, .func (PySem.W.fnOf "loaded" "Loading.loaded" (defArgs st_Loading_loaded) (defBody st_Loading_loaded) (defScope st_Loading_loaded) .none kV dc pm an cd ct), sl⟩) (c : PySem.W.codeIn K cd "Loading.loaded" = true) (k : PySem.W.keepIn K (.ref f) = true) : Mdf K C "loaded" "Loading.loaded" st_Loading_loaded pr_Loading_loaded := by
  have F := fun_mk (st := st_Loading_loaded) l c k
  exact ⟨f, _, F, F.binds (ps := pr_Loading_loaded) fun _ _ _ _ _ _ us hl => match us, hl with | [_, _, _, _], _ => rfl, ⟨a, i, k⟩⟩
theorem mk_Search_init (X : K.In h) (G : h.Ns mainGlobals mg) (aC : PySem.W.nsIn K mainGlobals "Search" = some (some (.ref C))) (m : PySem.W.makesIn K C = true) (kc : PySem.W.keepIn K (.ref C) = true) (a : PySem.W.findIn K (.ref C) "__init__" = some (some (.ref f))) (i : PySem.W.isFn K (.ref f) = true) (l : K.lookup f = some ⟨oc, od, .func (PySem.W.fnOf "__init__" "Search.__init__" (defArgs st_Search_init) (defBody st_Search_init) (defScope st_Search_init) .none kV dc pm an cd ct), sl⟩) (c : PySem.W.codeIn K cd "Search.__init__" = true) (k : PySem.W.keepIn K (.ref f) = true) : Idf K mg C "Search" "Search.__init__" st_Search_init pr_Search_init := by
  have F := fun_mk (st := st_Search_init) l c k
  exact ⟨f, _, F, F.binds (ps := pr_Search_init) fun _ _ _ _ _ _ us hl => match us, hl with | [_, _, _], _ => rfl, ⟨m, a, i, kc⟩, PySem.W.mg_of X G aC⟩
theorem mk_Search_shown (a : PySem.W.findIn K (.ref C) "shown" = some (some (.ref f))) (i : PySem.W.isFn K (.ref f) = true) (l : K.lookup f = some ⟨oc, od, .func (PySem.W.fnOf "shown" "Search.shown" (defArgs st_Search_shown) (defBody st_Search_shown) (defScope st_Search_shown) .none kV dc pm an cd ct), sl⟩) (c : PySem.W.codeIn K cd "Search.shown" = true) (k : PySem.W.keepIn K (.ref f) = true) : Mdf K C "shown" "Search.shown" st_Search_shown pr_Search_shown := by
  have F := fun_mk (st := st_Search_shown) l c k
  exact ⟨f, _, F, F.binds (ps := pr_Search_shown) fun _ _ _ _ _ _ us hl => match us, hl with | [_, _, _], _ => rfl, ⟨a, i, k⟩⟩
theorem mk_Search_turned_more (a : PySem.W.findIn K (.ref C) "turned_more" = some (some (.ref f))) (i : PySem.W.isFn K (.ref f) = true) (l : K.lookup f = some ⟨oc, od, .func (PySem.W.fnOf "turned_more" "Search.turned_more" (defArgs st_Search_turned_more) (defBody st_Search_turned_more) (defScope st_Search_turned_more) .none kV dc pm an cd ct), sl⟩) (c : PySem.W.codeIn K cd "Search.turned_more" = true) (k : PySem.W.keepIn K (.ref f) = true) : Mdf K C "turned_more" "Search.turned_more" st_Search_turned_more pr_Search_turned_more := by
  have F := fun_mk (st := st_Search_turned_more) l c k
  exact ⟨f, _, F, F.binds (ps := pr_Search_turned_more) fun _ _ _ _ _ _ us hl => match us, hl with | [_, _], _ => rfl, ⟨a, i, k⟩⟩
theorem mk_Search_found (a : PySem.W.findIn K (.ref C) "found" = some (some (.ref f))) (i : PySem.W.isFn K (.ref f) = true) (l : K.lookup f = some ⟨oc, od, .func (PySem.W.fnOf "found" "Search.found" (defArgs st_Search_found) (defBody st_Search_found) (defScope st_Search_found) .none kV dc pm an cd ct), sl⟩) (c : PySem.W.codeIn K cd "Search.found" = true) (k : PySem.W.keepIn K (.ref f) = true) : Mdf K C "found" "Search.found" st_Search_found pr_Search_found := by
  have F := fun_mk (st := st_Search_found) l c k
  exact ⟨f, _, F, F.binds (ps := pr_Search_found) fun _ _ _ _ _ _ us hl => match us, hl with | [_, _, _, _], _ => rfl, ⟨a, i, k⟩⟩
theorem mk_ways_for (X : K.In h) (G : h.Ns mainGlobals mg) (a : PySem.W.nsIn K mainGlobals "ways_for" = some (some (.ref f))) (l : K.lookup f = some ⟨oc, od, .func (PySem.W.fnOf "ways_for" "ways_for" (defArgs st_ways_for) (defBody st_ways_for) (defScope st_ways_for) .none kV dc pm an cd ct), sl⟩) (c : PySem.W.codeIn K cd "ways_for" = true) (k : PySem.W.keepIn K (.ref f) = true) : Df K mg "ways_for" st_ways_for pr_ways_for := by
  have F := fun_mk (st := st_ways_for) l c k
  exact ⟨f, _, F, PySem.W.mg_of X G a, F.binds (ps := pr_ways_for) fun _ _ _ _ _ _ us hl => match us, hl with | [_, _], _ => rfl⟩
theorem mk_sent_by (X : K.In h) (G : h.Ns mainGlobals mg) (a : PySem.W.nsIn K mainGlobals "sent_by" = some (some (.ref f))) (l : K.lookup f = some ⟨oc, od, .func (PySem.W.fnOf "sent_by" "sent_by" (defArgs st_sent_by) (defBody st_sent_by) (defScope st_sent_by) .none kV dc pm an cd ct), sl⟩) (c : PySem.W.codeIn K cd "sent_by" = true) (k : PySem.W.keepIn K (.ref f) = true) : Df K mg "sent_by" st_sent_by pr_sent_by := by
  have F := fun_mk (st := st_sent_by) l c k
  exact ⟨f, _, F, PySem.W.mg_of X G a, F.binds (ps := pr_sent_by) fun _ _ _ _ _ _ us hl => match us, hl with | [_, _], _ => rfl⟩
theorem mk_wish_for_less (X : K.In h) (G : h.Ns mainGlobals mg) (a : PySem.W.nsIn K mainGlobals "wish_for_less" = some (some (.ref f))) (l : K.lookup f = some ⟨oc, od, .func (PySem.W.fnOf "wish_for_less" "wish_for_less" (defArgs st_wish_for_less) (defBody st_wish_for_less) (defScope st_wish_for_less) .none kV dc pm an cd ct), sl⟩) (c : PySem.W.codeIn K cd "wish_for_less" = true) (k : PySem.W.keepIn K (.ref f) = true) : Df K mg "wish_for_less" st_wish_for_less pr_wish_for_less := by
  have F := fun_mk (st := st_wish_for_less) l c k
  exact ⟨f, _, F, PySem.W.mg_of X G a, F.binds (ps := pr_wish_for_less) fun _ _ _ _ _ _ us hl => match us, hl with | [_, _], _ => rfl⟩
theorem mk_Least_init (X : K.In h) (G : h.Ns mainGlobals mg) (aC : PySem.W.nsIn K mainGlobals "Least" = some (some (.ref C))) (m : PySem.W.makesIn K C = true) (kc : PySem.W.keepIn K (.ref C) = true) (a : PySem.W.findIn K (.ref C) "__init__" = some (some (.ref f))) (i : PySem.W.isFn K (.ref f) = true) (l : K.lookup f = some ⟨oc, od, .func (PySem.W.fnOf "__init__" "Least.__init__" (defArgs st_Least_init) (defBody st_Least_init) (defScope st_Least_init) .none kV dc pm an cd ct), sl⟩) (c : PySem.W.codeIn K cd "Least.__init__" = true) (k : PySem.W.keepIn K (.ref f) = true) : Idf K mg C "Least" "Least.__init__" st_Least_init pr_Least_init := by
  have F := fun_mk (st := st_Least_init) l c k
  exact ⟨f, _, F, F.binds (ps := pr_Least_init) fun _ _ _ _ _ _ us hl => match us, hl with | [_, _], _ => rfl, ⟨m, a, i, kc⟩, PySem.W.mg_of X G aC⟩
theorem mk_Least_strain (a : PySem.W.findIn K (.ref C) "strain" = some (some (.ref f))) (i : PySem.W.isFn K (.ref f) = true) (l : K.lookup f = some ⟨oc, od, .func (PySem.W.fnOf "strain" "Least.strain" (defArgs st_Least_strain) (defBody st_Least_strain) (defScope st_Least_strain) .none kV dc pm an cd ct), sl⟩) (c : PySem.W.codeIn K cd "Least.strain" = true) (k : PySem.W.keepIn K (.ref f) = true) : Mdf K C "strain" "Least.strain" st_Least_strain pr_Least_strain := by
  have F := fun_mk (st := st_Least_strain) l c k
  exact ⟨f, _, F, F.binds (ps := pr_Least_strain) fun _ _ _ _ _ _ us hl => match us, hl with | [_, _], _ => rfl, ⟨a, i, k⟩⟩
theorem mk_Least_go (a : PySem.W.findIn K (.ref C) "go" = some (some (.ref f))) (i : PySem.W.isFn K (.ref f) = true) (l : K.lookup f = some ⟨oc, od, .func (PySem.W.fnOf "go" "Least.go" (defArgs st_Least_go) (defBody st_Least_go) (defScope st_Least_go) .none kV dc pm an cd ct), sl⟩) (c : PySem.W.codeIn K cd "Least.go" = true) (k : PySem.W.keepIn K (.ref f) = true) : Mdf K C "go" "Least.go" st_Least_go pr_Least_go := by
  have F := fun_mk (st := st_Least_go) l c k
  exact ⟨f, _, F, F.binds (ps := pr_Least_go) fun _ _ _ _ _ _ us hl => match us, hl with | [_, _, _], _ => rfl, ⟨a, i, k⟩⟩
theorem mk_best_ways (X : K.In h) (G : h.Ns mainGlobals mg) (a : PySem.W.nsIn K mainGlobals "best_ways" = some (some (.ref f))) (l : K.lookup f = some ⟨oc, od, .func (PySem.W.fnOf "best_ways" "best_ways" (defArgs st_best_ways) (defBody st_best_ways) (defScope st_best_ways) .none kV dc pm an cd ct), sl⟩) (c : PySem.W.codeIn K cd "best_ways" = true) (k : PySem.W.keepIn K (.ref f) = true) : Df K mg "best_ways" st_best_ways pr_best_ways := by
  have F := fun_mk (st := st_best_ways) l c k
  exact ⟨f, _, F, PySem.W.mg_of X G a, F.binds (ps := pr_best_ways) fun _ _ _ _ _ _ us hl => match us, hl with | [_], _ => rfl⟩
theorem mk__law_begun (X : K.In h) (G : h.Ns mainGlobals mg) (a : PySem.W.nsIn K mainGlobals "_law_begun" = some (some (.ref f))) (l : K.lookup f = some ⟨oc, od, .func (PySem.W.fnOf "_law_begun" "_law_begun" (defArgs st__law_begun) (defBody st__law_begun) (defScope st__law_begun) .none kV dc pm an cd ct), sl⟩) (c : PySem.W.codeIn K cd "_law_begun" = true) (k : PySem.W.keepIn K (.ref f) = true) : Df K mg "_law_begun" st__law_begun pr__law_begun := by
  have F := fun_mk (st := st__law_begun) l c k
  exact ⟨f, _, F, PySem.W.mg_of X G a, F.binds (ps := pr__law_begun) fun _ _ _ _ _ _ us hl => match us, hl with | [_, _], _ => rfl⟩
theorem mk__law_take (X : K.In h) (G : h.Ns mainGlobals mg) (a : PySem.W.nsIn K mainGlobals "_law_take" = some (some (.ref f))) (l : K.lookup f = some ⟨oc, od, .func (PySem.W.fnOf "_law_take" "_law_take" (defArgs st__law_take) (defBody st__law_take) (defScope st__law_take) .none kV dc pm an cd ct), sl⟩) (c : PySem.W.codeIn K cd "_law_take" = true) (k : PySem.W.keepIn K (.ref f) = true) : Df K mg "_law_take" st__law_take pr__law_take := by
  have F := fun_mk (st := st__law_take) l c k
  exact ⟨f, _, F, PySem.W.mg_of X G a, F.binds (ps := pr__law_take) fun _ _ _ _ _ _ us hl => match us, hl with | [_, _], _ => rfl⟩
theorem mk__law_low (X : K.In h) (G : h.Ns mainGlobals mg) (a : PySem.W.nsIn K mainGlobals "_law_low" = some (some (.ref f))) (l : K.lookup f = some ⟨oc, od, .func (PySem.W.fnOf "_law_low" "_law_low" (defArgs st__law_low) (defBody st__law_low) (defScope st__law_low) .none kV dc pm an cd ct), sl⟩) (c : PySem.W.codeIn K cd "_law_low" = true) (k : PySem.W.keepIn K (.ref f) = true) : Df K mg "_law_low" st__law_low pr__law_low := by
  have F := fun_mk (st := st__law_low) l c k
  exact ⟨f, _, F, PySem.W.mg_of X G a, F.binds (ps := pr__law_low) fun _ _ _ _ _ _ us hl => match us, hl with | [_, _], _ => rfl⟩
theorem mk__law_amount (X : K.In h) (G : h.Ns mainGlobals mg) (a : PySem.W.nsIn K mainGlobals "_law_amount" = some (some (.ref f))) (l : K.lookup f = some ⟨oc, od, .func (PySem.W.fnOf "_law_amount" "_law_amount" (defArgs st__law_amount) (defBody st__law_amount) (defScope st__law_amount) .none kV dc pm an cd ct), sl⟩) (c : PySem.W.codeIn K cd "_law_amount" = true) (k : PySem.W.keepIn K (.ref f) = true) : Df K mg "_law_amount" st__law_amount pr__law_amount := by
  have F := fun_mk (st := st__law_amount) l c k
  exact ⟨f, _, F, PySem.W.mg_of X G a, F.binds (ps := pr__law_amount) fun _ _ _ _ _ _ us hl => match us, hl with | [_, _, _], _ => rfl⟩
theorem mk__law_names (X : K.In h) (G : h.Ns mainGlobals mg) (a : PySem.W.nsIn K mainGlobals "_law_names" = some (some (.ref f))) (l : K.lookup f = some ⟨oc, od, .func (PySem.W.fnOf "_law_names" "_law_names" (defArgs st__law_names) (defBody st__law_names) (defScope st__law_names) .none kV dc pm an cd ct), sl⟩) (c : PySem.W.codeIn K cd "_law_names" = true) (k : PySem.W.keepIn K (.ref f) = true) : Df K mg "_law_names" st__law_names pr__law_names := by
  have F := fun_mk (st := st__law_names) l c k
  exact ⟨f, _, F, PySem.W.mg_of X G a, F.binds (ps := pr__law_names) fun _ _ _ _ _ _ us hl => match us, hl with | [_, _], _ => rfl⟩
theorem mk__law_rooms (X : K.In h) (G : h.Ns mainGlobals mg) (a : PySem.W.nsIn K mainGlobals "_law_rooms" = some (some (.ref f))) (l : K.lookup f = some ⟨oc, od, .func (PySem.W.fnOf "_law_rooms" "_law_rooms" (defArgs st__law_rooms) (defBody st__law_rooms) (defScope st__law_rooms) .none kV dc pm an cd ct), sl⟩) (c : PySem.W.codeIn K cd "_law_rooms" = true) (k : PySem.W.keepIn K (.ref f) = true) : Df K mg "_law_rooms" st__law_rooms pr__law_rooms := by
  have F := fun_mk (st := st__law_rooms) l c k
  exact ⟨f, _, F, PySem.W.mg_of X G a, F.binds (ps := pr__law_rooms) fun _ _ _ _ _ _ us hl => match us, hl with | [_, _, _], _ => rfl⟩
theorem mk__law_ends (X : K.In h) (G : h.Ns mainGlobals mg) (a : PySem.W.nsIn K mainGlobals "_law_ends" = some (some (.ref f))) (l : K.lookup f = some ⟨oc, od, .func (PySem.W.fnOf "_law_ends" "_law_ends" (defArgs st__law_ends) (defBody st__law_ends) (defScope st__law_ends) .none kV dc pm an cd ct), sl⟩) (c : PySem.W.codeIn K cd "_law_ends" = true) (k : PySem.W.keepIn K (.ref f) = true) : Df K mg "_law_ends" st__law_ends pr__law_ends := by
  have F := fun_mk (st := st__law_ends) l c k
  exact ⟨f, _, F, PySem.W.mg_of X G a, F.binds (ps := pr__law_ends) fun _ _ _ _ _ _ us hl => match us, hl with | [_, _, _, _], _ => rfl⟩
theorem mk__law_ring (X : K.In h) (G : h.Ns mainGlobals mg) (a : PySem.W.nsIn K mainGlobals "_law_ring" = some (some (.ref f))) (l : K.lookup f = some ⟨oc, od, .func (PySem.W.fnOf "_law_ring" "_law_ring" (defArgs st__law_ring) (defBody st__law_ring) (defScope st__law_ring) .none kV dc pm an cd ct), sl⟩) (c : PySem.W.codeIn K cd "_law_ring" = true) (k : PySem.W.keepIn K (.ref f) = true) : Df K mg "_law_ring" st__law_ring pr__law_ring := by
  have F := fun_mk (st := st__law_ring) l c k
  exact ⟨f, _, F, PySem.W.mg_of X G a, F.binds (ps := pr__law_ring) fun _ _ _ _ _ _ us hl => match us, hl with | [_, _, _, _], _ => rfl⟩
theorem mk__law_ways (X : K.In h) (G : h.Ns mainGlobals mg) (a : PySem.W.nsIn K mainGlobals "_law_ways" = some (some (.ref f))) (l : K.lookup f = some ⟨oc, od, .func (PySem.W.fnOf "_law_ways" "_law_ways" (defArgs st__law_ways) (defBody st__law_ways) (defScope st__law_ways) .none kV dc pm an cd ct), sl⟩) (c : PySem.W.codeIn K cd "_law_ways" = true) (k : PySem.W.keepIn K (.ref f) = true) : Df K mg "_law_ways" st__law_ways pr__law_ways := by
  have F := fun_mk (st := st__law_ways) l c k
  exact ⟨f, _, F, PySem.W.mg_of X G a, F.binds (ps := pr__law_ways) fun _ _ _ _ _ _ us hl => match us, hl with | [_, _], _ => rfl⟩
theorem mk__law_under (X : K.In h) (G : h.Ns mainGlobals mg) (a : PySem.W.nsIn K mainGlobals "_law_under" = some (some (.ref f))) (l : K.lookup f = some ⟨oc, od, .func (PySem.W.fnOf "_law_under" "_law_under" (defArgs st__law_under) (defBody st__law_under) (defScope st__law_under) .none kV dc pm an cd ct), sl⟩) (c : PySem.W.codeIn K cd "_law_under" = true) (k : PySem.W.keepIn K (.ref f) = true) : Df K mg "_law_under" st__law_under pr__law_under := by
  have F := fun_mk (st := st__law_under) l c k
  exact ⟨f, _, F, PySem.W.mg_of X G a, F.binds (ps := pr__law_under) fun _ _ _ _ _ _ us hl => match us, hl with | [_, _], _ => rfl⟩
theorem mk__law_next (X : K.In h) (G : h.Ns mainGlobals mg) (a : PySem.W.nsIn K mainGlobals "_law_next" = some (some (.ref f))) (l : K.lookup f = some ⟨oc, od, .func (PySem.W.fnOf "_law_next" "_law_next" (defArgs st__law_next) (defBody st__law_next) (defScope st__law_next) .none kV dc pm an cd ct), sl⟩) (c : PySem.W.codeIn K cd "_law_next" = true) (k : PySem.W.keepIn K (.ref f) = true) : Df K mg "_law_next" st__law_next pr__law_next := by
  have F := fun_mk (st := st__law_next) l c k
  exact ⟨f, _, F, PySem.W.mg_of X G a, F.binds (ps := pr__law_next) fun _ _ _ _ _ _ us hl => match us, hl with | [_], _ => rfl⟩
theorem mk__law_twice (X : K.In h) (G : h.Ns mainGlobals mg) (a : PySem.W.nsIn K mainGlobals "_law_twice" = some (some (.ref f))) (l : K.lookup f = some ⟨oc, od, .func (PySem.W.fnOf "_law_twice" "_law_twice" (defArgs st__law_twice) (defBody st__law_twice) (defScope st__law_twice) .none kV dc pm an cd ct), sl⟩) (c : PySem.W.codeIn K cd "_law_twice" = true) (k : PySem.W.keepIn K (.ref f) = true) : Df K mg "_law_twice" st__law_twice pr__law_twice := by
  have F := fun_mk (st := st__law_twice) l c k
  exact ⟨f, _, F, PySem.W.mg_of X G a, F.binds (ps := pr__law_twice) fun _ _ _ _ _ _ us hl => match us, hl with | [_], _ => rfl⟩
theorem mk__law_others (X : K.In h) (G : h.Ns mainGlobals mg) (a : PySem.W.nsIn K mainGlobals "_law_others" = some (some (.ref f))) (l : K.lookup f = some ⟨oc, od, .func (PySem.W.fnOf "_law_others" "_law_others" (defArgs st__law_others) (defBody st__law_others) (defScope st__law_others) .none kV dc pm an cd ct), sl⟩) (c : PySem.W.codeIn K cd "_law_others" = true) (k : PySem.W.keepIn K (.ref f) = true) : Df K mg "_law_others" st__law_others pr__law_others := by
  have F := fun_mk (st := st__law_others) l c k
  exact ⟨f, _, F, PySem.W.mg_of X G a, F.binds (ps := pr__law_others) fun _ _ _ _ _ _ us hl => match us, hl with | [_, _, _, _], _ => rfl⟩
theorem all_mk {l' : PySem.W.OpenLaw} {w : World} {fa aN aC CL CS CB : Addr} {odN odC : Option Addr} {slN slC : Array (Option Value)} {tN uN tC uC tO tB tM : Tok} {nN nC : Nat} (X : K.In h) (G : h.Ns mainGlobals mg) (hfa : mg "law" = some (.ref fa))
    (aCL : PySem.W.nsIn K mainGlobals "Loading" = some (some (.ref CL)))
    (aCS : PySem.W.nsIn K mainGlobals "Search" = some (some (.ref CS)))
    (aCB : PySem.W.nsIn K mainGlobals "Least" = some (some (.ref CB)))
    (kN : PySem.W.nsIn K mainGlobals "NOUGHT" = some (some (.ref aN))) (lN : K.lookup aN = some ⟨.type "tuple", odN, .seq #[.int 0 tN, .int 1 uN] nN, slN⟩)
    (kC : PySem.W.nsIn K mainGlobals "CHOICES" = some (some (.ref aC))) (lC : K.lookup aC = some ⟨.type "tuple", odC, .seq #[.str "on" tC, .str "back" uC] nC, slC⟩)
    (kO : PySem.W.nsIn K mainGlobals "ON" = some (some (.str "on" tO))) (kB : PySem.W.nsIn K mainGlobals "BACK" = some (some (.str "back" tB))) (kM : PySem.W.nsIn K mainGlobals "MOST_ASKS" = some (some (.int 7 tM)))
    (z_len : PySem.W.nsIn K mainGlobals "len" = some none)
    (z_abs : PySem.W.nsIn K mainGlobals "abs" = some none)
    (z_max : PySem.W.nsIn K mainGlobals "max" = some none)
    (z_min : PySem.W.nsIn K mainGlobals "min" = some none)
    (z_list : PySem.W.nsIn K mainGlobals "list" = some none)
    (z_int : PySem.W.nsIn K mainGlobals "int" = some none)
    (z_range : PySem.W.nsIn K mainGlobals "range" = some none)
    (z_zip : PySem.W.nsIn K mainGlobals "zip" = some none)
    (z_enumerate : PySem.W.nsIn K mainGlobals "enumerate" = some none)
    (pgCL : PySem.W.plainGet K CL Str.empty = true) (hdCL : PySem.W.hasDictIn K CL = true) (poCL : PySem.W.plainOver K CL = true) (saCL : PySem.W.findIn K (.ref CL) "__setattr__" = some (some (.builtin "object.__setattr__")))
    (aL_sizes : PySem.W.findIn K (.ref CL) "sizes" = some none)
    (aL_bottom : PySem.W.findIn K (.ref CL) "bottom" = some none)
    (aL_cuts : PySem.W.findIn K (.ref CL) "cuts" = some none)
    (aL_ties : PySem.W.findIn K (.ref CL) "ties" = some none)
    (aL_crossed : PySem.W.findIn K (.ref CL) "crossed" = some none)
    (pgCS : PySem.W.plainGet K CS Str.empty = true) (hdCS : PySem.W.hasDictIn K CS = true) (poCS : PySem.W.plainOver K CS = true) (saCS : PySem.W.findIn K (.ref CS) "__setattr__" = some (some (.builtin "object.__setattr__")))
    (aS_ring : PySem.W.findIn K (.ref CS) "whole_ring" = some none)
    (aS_wish : PySem.W.findIn K (.ref CS) "wish" = some none)
    (aS_loading : PySem.W.findIn K (.ref CS) "loading" = some none)
    (aS_limits : PySem.W.findIn K (.ref CS) "limits" = some none)
    (pgCB : PySem.W.plainGet K CB Str.empty = true) (hdCB : PySem.W.hasDictIn K CB = true) (poCB : PySem.W.plainOver K CB = true) (saCB : PySem.W.findIn K (.ref CB) "__setattr__" = some (some (.builtin "object.__setattr__")))
    (aB_loading : PySem.W.findIn K (.ref CB) "loading" = some none)
    (aB_many : PySem.W.findIn K (.ref CB) "many" = some none)
    (aB_rooms : PySem.W.findIn K (.ref CB) "rooms" = some none)
    (aB_best : PySem.W.findIn K (.ref CB) "best" = some none)
    (d_common : Df K mg "common" st_common pr_common)
    (d_lowered : Df K mg "lowered" st_lowered pr_lowered)
    (d_plus : Df K mg "plus" st_plus pr_plus)
    (d_minus : Df K mg "minus" st_minus pr_minus)
    (d_times : Df K mg "times" st_times pr_times)
    (d_over : Df K mg "over" st_over pr_over)
    (d_under : Df K mg "under" st_under pr_under)
    (d_ties_of : Df K mg "ties_of" st_ties_of pr_ties_of)
    (d_is_over : Df K mg "is_over" st_is_over pr_is_over)
    (d_loads_of : Df K mg "loads_of" st_loads_of pr_loads_of)
    (d_strains_of : Df K mg "strains_of" st_strains_of pr_strains_of)
    (d_top_of : Df K mg "top_of" st_top_of pr_top_of)
    (d_is_within : Df K mg "is_within" st_is_within pr_is_within)
    (d_is_apart : Df K mg "is_apart" st_is_apart pr_is_apart)
    (d_all_cuts : Df K mg "all_cuts" st_all_cuts pr_all_cuts)
    (d_common_bottom : Df K mg "common_bottom" st_common_bottom pr_common_bottom)
    (d_whole_sizes : Df K mg "whole_sizes" st_whole_sizes pr_whole_sizes)
    (d_Loading_init : Idf K mg CL "Loading" "Loading.__init__" st_Loading_init pr_Loading_init)
    (d_Loading_across : Mdf K CL "across" "Loading.across" st_Loading_across pr_Loading_across)
    (d_Loading_fewer : Mdf K CL "fewer" "Loading.fewer" st_Loading_fewer pr_Loading_fewer)
    (d_Loading_loaded : Mdf K CL "loaded" "Loading.loaded" st_Loading_loaded pr_Loading_loaded)
    (d_Search_init : Idf K mg CS "Search" "Search.__init__" st_Search_init pr_Search_init)
    (d_Search_shown : Mdf K CS "shown" "Search.shown" st_Search_shown pr_Search_shown)
    (d_Search_turned_more : Mdf K CS "turned_more" "Search.turned_more" st_Search_turned_more pr_Search_turned_more)
    (d_Search_found : Mdf K CS "found" "Search.found" st_Search_found pr_Search_found)
    (d_ways_for : Df K mg "ways_for" st_ways_for pr_ways_for)
    (d_sent_by : Df K mg "sent_by" st_sent_by pr_sent_by)
    (d_wish_for_less : Df K mg "wish_for_less" st_wish_for_less pr_wish_for_less)
    (d_Least_init : Idf K mg CB "Least" "Least.__init__" st_Least_init pr_Least_init)
    (d_Least_strain : Mdf K CB "strain" "Least.strain" st_Least_strain pr_Least_strain)
    (d_Least_go : Mdf K CB "go" "Least.go" st_Least_go pr_Least_go)
    (d_best_ways : Df K mg "best_ways" st_best_ways pr_best_ways)
    (d__law_begun : Df K mg "_law_begun" st__law_begun pr__law_begun)
    (d__law_take : Df K mg "_law_take" st__law_take pr__law_take)
    (d__law_low : Df K mg "_law_low" st__law_low pr__law_low)
    (d__law_amount : Df K mg "_law_amount" st__law_amount pr__law_amount)
    (d__law_names : Df K mg "_law_names" st__law_names pr__law_names)
    (d__law_rooms : Df K mg "_law_rooms" st__law_rooms pr__law_rooms)
    (d__law_ends : Df K mg "_law_ends" st__law_ends pr__law_ends)
    (d__law_ring : Df K mg "_law_ring" st__law_ring pr__law_ring)
    (d__law_ways : Df K mg "_law_ways" st__law_ways pr__law_ways)
    (d__law_under : Df K mg "_law_under" st__law_under pr__law_under)
    (d__law_next : Df K mg "_law_next" st__law_next pr__law_next)
    (d__law_twice : Df K mg "_law_twice" st__law_twice pr__law_twice)
    (d__law_others : Df K mg "_law_others" st__law_others pr__law_others)
    (a : PySem.W.nsIn K mainGlobals "law" = some (some (.ref f))) (l : K.lookup f = some ⟨oc, od, .func (PySem.W.fnOf "law" "law" (defArgs st_law) (defBody st_law) (defScope st_law) .none kV dc pm an cd ct), sl⟩) (c : PySem.W.codeIn K cd "law" = true) (k : PySem.W.keepIn K (.ref f) = true) :
    ∃ fd : FuncData, (∀ (s : Shared) (v : Value), BindsTo s fd ⟨[v], []⟩ [("_law_script", v)]) ∧ ∀ base : Heap, K.In base → base.Ns mainGlobals mg → FnOk l'.prog w K mg base CX0 16 fa fd ["_law_script"] (spLaw K) := by
  have e := hfa.symm.trans (PySem.W.mg_of X G a)
  cases e
  have F := fun_mk (st := st_law) l c k
  have sz2 : 2 ≤ sizeLine := lz rfl
  have T : Txt K mg ⟨aN, aC, CL, CS, CB⟩ := {
    n_len := PySem.W.mg_none_of X G z_len
    n_abs := PySem.W.mg_none_of X G z_abs
    n_max := PySem.W.mg_none_of X G z_max
    n_min := PySem.W.mg_none_of X G z_min
    n_list := PySem.W.mg_none_of X G z_list
    n_int := PySem.W.mg_none_of X G z_int
    n_range := PySem.W.mg_none_of X G z_range
    n_zip := PySem.W.mg_none_of X G z_zip
    n_enumerate := PySem.W.mg_none_of X G z_enumerate
    clLoading := ⟨pgCL, hdCL, poCL, saCL⟩
    aL_sizes := aL_sizes
    aL_bottom := aL_bottom
    aL_cuts := aL_cuts
    aL_ties := aL_ties
    aL_crossed := aL_crossed
    clSearch := ⟨pgCS, hdCS, poCS, saCS⟩
    aS_ring := aS_ring
    aS_wish := aS_wish
    aS_loading := aS_loading
    aS_limits := aS_limits
    clLeast := ⟨pgCB, hdCB, poCB, saCB⟩
    aB_loading := aB_loading
    aB_many := aB_many
    aB_rooms := aB_rooms
    aB_best := aB_best
    d_common := d_common
    d_lowered := d_lowered
    d_plus := d_plus
    d_minus := d_minus
    d_times := d_times
    d_over := d_over
    d_under := d_under
    d_ties_of := d_ties_of
    d_is_over := d_is_over
    d_loads_of := d_loads_of
    d_strains_of := d_strains_of
    d_top_of := d_top_of
    d_is_within := d_is_within
    d_is_apart := d_is_apart
    d_all_cuts := d_all_cuts
    d_common_bottom := d_common_bottom
    d_whole_sizes := d_whole_sizes
    d_Loading_init := d_Loading_init
    d_Loading_across := d_Loading_across
    d_Loading_fewer := d_Loading_fewer
    d_Loading_loaded := d_Loading_loaded
    d_Search_init := d_Search_init
    d_Search_shown := d_Search_shown
    d_Search_turned_more := d_Search_turned_more
    d_Search_found := d_Search_found
    d_ways_for := d_ways_for
    d_sent_by := d_sent_by
    d_wish_for_less := d_wish_for_less
    d_Least_init := d_Least_init
    d_Least_strain := d_Least_strain
    d_Least_go := d_Least_go
    d_best_ways := d_best_ways
    d__law_begun := d__law_begun
    d__law_take := d__law_take
    d__law_low := d__law_low
    d__law_amount := d__law_amount
    d__law_names := d__law_names
    d__law_rooms := d__law_rooms
    d__law_ends := d__law_ends
    d__law_ring := d__law_ring
    d__law_ways := d__law_ways
    d__law_under := d__law_under
    d__law_next := d__law_next
    d__law_twice := d__law_twice
    d__law_others := d__law_others
    d_law := ⟨_, _, F, hfa, F.binds (ps := pr_law) fun _ _ _ _ _ _ us hl => match us, hl with | [_], _ => rfl⟩
    kNOUGHT := ⟨_, PySem.W.mg_of X G kN, rfl⟩
    tNOUGHT := fun H => .inr ⟨_, _, _, lN, rfl, rfl, sz2, .cons ⟨_, rfl⟩ (.cons ⟨_, rfl⟩ .nil)⟩
    kCHOICES := ⟨_, PySem.W.mg_of X G kC, rfl⟩
    tCHOICES := fun H => .inr ⟨_, _, _, lC, rfl, rfl, sz2, .cons ⟨_, rfl⟩ (.cons ⟨_, rfl⟩ .nil)⟩
    kON := ⟨_, PySem.W.mg_of X G kO, ⟨_, rfl⟩⟩
    kBACK := ⟨_, PySem.W.mg_of X G kB, ⟨_, rfl⟩⟩
    kMOST := ⟨_, PySem.W.mg_of X G kM, ⟨_, rfl⟩⟩ }
  exact ⟨_, fun s v => .of_eq rfl, fun base _ _ => ok_law T F⟩
end
theorem walk {l : PySem.W.OpenLaw} {q : Program} {loose : List Str} {XP : (Str → Option Value) → Heap → Prop} {YP : World → Heap → Prop} {d : DefRec} {K : Params → PySem.W.Frag} (hn : l.most = some 63) (hdf : d.params.defaults = [])
    (hY : ∀ (w : World) (h : Heap), YP w h → (K w.params).In h)
    (F : ∀ (w : World) (mg : Str → Option Value) (fa : Addr) (h : Heap), (K w.params).In h → h.Ns mainGlobals mg → mg d.name = some (.ref fa) →
      ∃ fd : FuncData, (∀ (s : Shared) (u : Value), BindsTo s fd ⟨[u], []⟩ [("_law_script", u)]) ∧ ∀ base : Heap, (K w.params).In base → base.Ns mainGlobals mg → FnOk l.prog w (K w.params) mg base CX0 16 fa fd ["_law_script"] (spLaw (K w.params))) :
    PySem.W.WalkO q loose XP YP l.row.toRowW d [] (fun f vs => PySem.call f vs) :=
  L2.walk_of (n := 63) (k := 16) (x := "_law_script") (CX := fun _ => CX0) (sp := fun w => spLaw (K w.params)) hn (by decide) hdf ⟨rfl, by decide, by decide⟩ hY F (fun _ _ a ns _ _ hS => ⟨a, ns, rfl, hS, fun _ => rfl⟩) fun _ _ _ _ _ z => z
end Rg
open PySem PySem.W PyProof.Rows
set_option maxRecDepth 100000 in
set_option maxHeartbeats 0 in
theorem PySem.Challenge.cw_ringloads_k53_whole_no_ways_have_less_holds : PySem.Challenge.rw_ringloads_k53_whole_no_ways_have_less.Holds := by
  w_on; o_law; k_head; (case hw => w_witness2)
  k_fill
  refine Rg.walk (l := PySem.Challenge.rw_ringloads_k53_whole_no_ways_have_less) rfl rfl (fun w h Y => PySem.W.kIn_of Y) ?F
  case F =>
    intro w mg fa h KX G hmg
    refine' Rg.all_mk KX G hmg ?aCL ?aCS ?aCB ?kN ?lN ?kC ?lC ?kO ?kB ?kM ?z_len ?z_abs ?z_max ?z_min ?z_list ?z_int ?z_range ?z_zip ?z_enumerate ?pgCL ?hdCL ?poCL ?saCL ?aL_sizes ?aL_bottom ?aL_cuts ?aL_ties ?aL_crossed ?pgCS ?hdCS ?poCS ?saCS ?aS_ring ?aS_wish ?aS_loading ?aS_limits ?pgCB ?hdCB ?poCB ?saCB ?aB_loading ?aB_many ?aB_rooms ?aB_best ?d_common ?d_lowered ?d_plus ?d_minus ?d_times ?d_over ?d_under ?d_ties_of ?d_is_over ?d_loads_of ?d_strains_of ?d_top_of ?d_is_within ?d_is_apart ?d_all_cuts ?d_common_bottom ?d_whole_sizes ?d_Loading_init ?d_Loading_across ?d_Loading_fewer ?d_Loading_loaded ?d_Search_init ?d_Search_shown ?d_Search_turned_more ?d_Search_found ?d_ways_for ?d_sent_by ?d_wish_for_less ?d_Least_init ?d_Least_strain ?d_Least_go ?d_best_ways ?d__law_begun ?d__law_take ?d__law_low ?d__law_amount ?d__law_names ?d__law_rooms ?d__law_ends ?d__law_ring ?d__law_ways ?d__law_under ?d__law_next ?d__law_twice ?d__law_others ?a ?l ?c ?k
    (case aCL => k_is)
    (case aCS => k_is)
    (case aCB => k_is)
    (case kN => k_is)
    (case lN => k_is)
    (case kC => k_is)
    (case lC => k_is)
    (case kO => k_is)
    (case kB => k_is)
    (case kM => k_is)
    (case z_len => k_is)
    (case z_abs => k_is)
    (case z_max => k_is)
    (case z_min => k_is)
    (case z_list => k_is)
    (case z_int => k_is)
    (case z_range => k_is)
    (case z_zip => k_is)
    (case z_enumerate => k_is)
    (case pgCL => k_is)
    (case hdCL => k_is)
    (case poCL => k_is)
    (case saCL => k_is)
    (case aL_sizes => k_is)
    (case aL_bottom => k_is)
    (case aL_cuts => k_is)
    (case aL_ties => k_is)
    (case aL_crossed => k_is)
    (case pgCS => k_is)
    (case hdCS => k_is)
    (case poCS => k_is)
    (case saCS => k_is)
    (case aS_ring => k_is)
    (case aS_wish => k_is)
    (case aS_loading => k_is)
    (case aS_limits => k_is)
    (case pgCB => k_is)
    (case hdCB => k_is)
    (case poCB => k_is)
    (case saCB => k_is)
    (case aB_loading => k_is)
    (case aB_many => k_is)
    (case aB_rooms => k_is)
    (case aB_best => k_is)
    (case d_common => (refine' Rg.mk_common KX G ?a_common ?l_common ?c_common ?k_common; (case a_common => k_is); (case l_common => k_is); (case c_common => k_is); (case k_common => k_is)))
    (case d_lowered => (refine' Rg.mk_lowered KX G ?a_lowered ?l_lowered ?c_lowered ?k_lowered; (case a_lowered => k_is); (case l_lowered => k_is); (case c_lowered => k_is); (case k_lowered => k_is)))
    (case d_plus => (refine' Rg.mk_plus KX G ?a_plus ?l_plus ?c_plus ?k_plus; (case a_plus => k_is); (case l_plus => k_is); (case c_plus => k_is); (case k_plus => k_is)))
    (case d_minus => (refine' Rg.mk_minus KX G ?a_minus ?l_minus ?c_minus ?k_minus; (case a_minus => k_is); (case l_minus => k_is); (case c_minus => k_is); (case k_minus => k_is)))
    (case d_times => (refine' Rg.mk_times KX G ?a_times ?l_times ?c_times ?k_times; (case a_times => k_is); (case l_times => k_is); (case c_times => k_is); (case k_times => k_is)))
    (case d_over => (refine' Rg.mk_over KX G ?a_over ?l_over ?c_over ?k_over; (case a_over => k_is); (case l_over => k_is); (case c_over => k_is); (case k_over => k_is)))
    (case d_under => (refine' Rg.mk_under KX G ?a_under ?l_under ?c_under ?k_under; (case a_under => k_is); (case l_under => k_is); (case c_under => k_is); (case k_under => k_is)))
    (case d_ties_of => (refine' Rg.mk_ties_of KX G ?a_ties_of ?l_ties_of ?c_ties_of ?k_ties_of; (case a_ties_of => k_is); (case l_ties_of => k_is); (case c_ties_of => k_is); (case k_ties_of => k_is)))
    (case d_is_over => (refine' Rg.mk_is_over KX G ?a_is_over ?l_is_over ?c_is_over ?k_is_over; (case a_is_over => k_is); (case l_is_over => k_is); (case c_is_over => k_is); (case k_is_over => k_is)))
    (case d_loads_of => (refine' Rg.mk_loads_of KX G ?a_loads_of ?l_loads_of ?c_loads_of ?k_loads_of; (case a_loads_of => k_is); (case l_loads_of => k_is); (case c_loads_of => k_is); (case k_loads_of => k_is)))
    (case d_strains_of => (refine' Rg.mk_strains_of KX G ?a_strains_of ?l_strains_of ?c_strains_of ?k_strains_of; (case a_strains_of => k_is); (case l_strains_of => k_is); (case c_strains_of => k_is); (case k_strains_of => k_is)))
    (case d_top_of => (refine' Rg.mk_top_of KX G ?a_top_of ?l_top_of ?c_top_of ?k_top_of; (case a_top_of => k_is); (case l_top_of => k_is); (case c_top_of => k_is); (case k_top_of => k_is)))
    (case d_is_within => (refine' Rg.mk_is_within KX G ?a_is_within ?l_is_within ?c_is_within ?k_is_within; (case a_is_within => k_is); (case l_is_within => k_is); (case c_is_within => k_is); (case k_is_within => k_is)))
    (case d_is_apart => (refine' Rg.mk_is_apart KX G ?a_is_apart ?l_is_apart ?c_is_apart ?k_is_apart; (case a_is_apart => k_is); (case l_is_apart => k_is); (case c_is_apart => k_is); (case k_is_apart => k_is)))
    (case d_all_cuts => (refine' Rg.mk_all_cuts KX G ?a_all_cuts ?l_all_cuts ?c_all_cuts ?k_all_cuts; (case a_all_cuts => k_is); (case l_all_cuts => k_is); (case c_all_cuts => k_is); (case k_all_cuts => k_is)))
    (case d_common_bottom => (refine' Rg.mk_common_bottom KX G ?a_common_bottom ?l_common_bottom ?c_common_bottom ?k_common_bottom; (case a_common_bottom => k_is); (case l_common_bottom => k_is); (case c_common_bottom => k_is); (case k_common_bottom => k_is)))
    (case d_whole_sizes => (refine' Rg.mk_whole_sizes KX G ?a_whole_sizes ?l_whole_sizes ?c_whole_sizes ?k_whole_sizes; (case a_whole_sizes => k_is); (case l_whole_sizes => k_is); (case c_whole_sizes => k_is); (case k_whole_sizes => k_is)))
    (case d_Loading_init => (refine' Rg.mk_Loading_init KX G ?aC_Loading_init ?m_Loading_init ?kc_Loading_init ?a_Loading_init ?i_Loading_init ?l_Loading_init ?c_Loading_init ?k_Loading_init; (case aC_Loading_init => k_is); (case m_Loading_init => k_is); (case kc_Loading_init => k_is); (case a_Loading_init => k_is); (case i_Loading_init => k_is); (case l_Loading_init => k_is); (case c_Loading_init => k_is); (case k_Loading_init => k_is)))
    (case d_Loading_across => (refine' Rg.mk_Loading_across ?a_Loading_across ?i_Loading_across ?l_Loading_across ?c_Loading_across ?k_Loading_across; (case a_Loading_across => k_is); (case i_Loading_across => k_is); (case l_Loading_across => k_is); (case c_Loading_across => k_is); (case k_Loading_across => k_is)))
    (case d_Loading_fewer => (refine' Rg.mk_Loading_fewer ?a_Loading_fewer ?i_Loading_fewer ?l_Loading_fewer ?c_Loading_fewer ?k_Loading_fewer; (case a_Loading_fewer => k_is); (case i_Loading_fewer => k_is); (case l_Loading_fewer => k_is); (case c_Loading_fewer => k_is); (case k_Loading_fewer => k_is)))
    (case d_Loading_loaded => (refine' Rg.mk_Loading_loaded ?a_Loading_loaded ?i_Loading_loaded ?l_Loading_loaded ?c_Loading_loaded ?k_Loading_loaded; (case a_Loading_loaded => k_is); (case i_Loading_loaded => k_is); (case l_Loading_loaded => k_is); (case c_Loading_loaded => k_is); (case k_Loading_loaded => k_is)))
    (case d_Search_init => (refine' Rg.mk_Search_init KX G ?aC_Search_init ?m_Search_init ?kc_Search_init ?a_Search_init ?i_Search_init ?l_Search_init ?c_Search_init ?k_Search_init; (case aC_Search_init => k_is); (case m_Search_init => k_is); (case kc_Search_init => k_is); (case a_Search_init => k_is); (case i_Search_init => k_is); (case l_Search_init => k_is); (case c_Search_init => k_is); (case k_Search_init => k_is)))
    (case d_Search_shown => (refine' Rg.mk_Search_shown ?a_Search_shown ?i_Search_shown ?l_Search_shown ?c_Search_shown ?k_Search_shown; (case a_Search_shown => k_is); (case i_Search_shown => k_is); (case l_Search_shown => k_is); (case c_Search_shown => k_is); (case k_Search_shown => k_is)))
    (case d_Search_turned_more => (refine' Rg.mk_Search_turned_more ?a_Search_turned_more ?i_Search_turned_more ?l_Search_turned_more ?c_Search_turned_more ?k_Search_turned_more; (case a_Search_turned_more => k_is); (case i_Search_turned_more => k_is); (case l_Search_turned_more => k_is); (case c_Search_turned_more => k_is); (case k_Search_turned_more => k_is)))
    (case d_Search_found => (refine' Rg.mk_Search_found ?a_Search_found ?i_Search_found ?l_Search_found ?c_Search_found ?k_Search_found; (case a_Search_found => k_is); (case i_Search_found => k_is); (case l_Search_found => k_is); (case c_Search_found => k_is); (case k_Search_found => k_is)))
    (case d_ways_for => (refine' Rg.mk_ways_for KX G ?a_ways_for ?l_ways_for ?c_ways_for ?k_ways_for; (case a_ways_for => k_is); (case l_ways_for => k_is); (case c_ways_for => k_is); (case k_ways_for => k_is)))
    (case d_sent_by => (refine' Rg.mk_sent_by KX G ?a_sent_by ?l_sent_by ?c_sent_by ?k_sent_by; (case a_sent_by => k_is); (case l_sent_by => k_is); (case c_sent_by => k_is); (case k_sent_by => k_is)))
    (case d_wish_for_less => (refine' Rg.mk_wish_for_less KX G ?a_wish_for_less ?l_wish_for_less ?c_wish_for_less ?k_wish_for_less; (case a_wish_for_less => k_is); (case l_wish_for_less => k_is); (case c_wish_for_less => k_is); (case k_wish_for_less => k_is)))
    (case d_Least_init => (refine' Rg.mk_Least_init KX G ?aC_Least_init ?m_Least_init ?kc_Least_init ?a_Least_init ?i_Least_init ?l_Least_init ?c_Least_init ?k_Least_init; (case aC_Least_init => k_is); (case m_Least_init => k_is); (case kc_Least_init => k_is); (case a_Least_init => k_is); (case i_Least_init => k_is); (case l_Least_init => k_is); (case c_Least_init => k_is); (case k_Least_init => k_is)))
    (case d_Least_strain => (refine' Rg.mk_Least_strain ?a_Least_strain ?i_Least_strain ?l_Least_strain ?c_Least_strain ?k_Least_strain; (case a_Least_strain => k_is); (case i_Least_strain => k_is); (case l_Least_strain => k_is); (case c_Least_strain => k_is); (case k_Least_strain => k_is)))
    (case d_Least_go => (refine' Rg.mk_Least_go ?a_Least_go ?i_Least_go ?l_Least_go ?c_Least_go ?k_Least_go; (case a_Least_go => k_is); (case i_Least_go => k_is); (case l_Least_go => k_is); (case c_Least_go => k_is); (case k_Least_go => k_is)))
    (case d_best_ways => (refine' Rg.mk_best_ways KX G ?a_best_ways ?l_best_ways ?c_best_ways ?k_best_ways; (case a_best_ways => k_is); (case l_best_ways => k_is); (case c_best_ways => k_is); (case k_best_ways => k_is)))
    (case d__law_begun => (refine' Rg.mk__law_begun KX G ?a__law_begun ?l__law_begun ?c__law_begun ?k__law_begun; (case a__law_begun => k_is); (case l__law_begun => k_is); (case c__law_begun => k_is); (case k__law_begun => k_is)))
    (case d__law_take => (refine' Rg.mk__law_take KX G ?a__law_take ?l__law_take ?c__law_take ?k__law_take; (case a__law_take => k_is); (case l__law_take => k_is); (case c__law_take => k_is); (case k__law_take => k_is)))
    (case d__law_low => (refine' Rg.mk__law_low KX G ?a__law_low ?l__law_low ?c__law_low ?k__law_low; (case a__law_low => k_is); (case l__law_low => k_is); (case c__law_low => k_is); (case k__law_low => k_is)))
    (case d__law_amount => (refine' Rg.mk__law_amount KX G ?a__law_amount ?l__law_amount ?c__law_amount ?k__law_amount; (case a__law_amount => k_is); (case l__law_amount => k_is); (case c__law_amount => k_is); (case k__law_amount => k_is)))
    (case d__law_names => (refine' Rg.mk__law_names KX G ?a__law_names ?l__law_names ?c__law_names ?k__law_names; (case a__law_names => k_is); (case l__law_names => k_is); (case c__law_names => k_is); (case k__law_names => k_is)))
    (case d__law_rooms => (refine' Rg.mk__law_rooms KX G ?a__law_rooms ?l__law_rooms ?c__law_rooms ?k__law_rooms; (case a__law_rooms => k_is); (case l__law_rooms => k_is); (case c__law_rooms => k_is); (case k__law_rooms => k_is)))
    (case d__law_ends => (refine' Rg.mk__law_ends KX G ?a__law_ends ?l__law_ends ?c__law_ends ?k__law_ends; (case a__law_ends => k_is); (case l__law_ends => k_is); (case c__law_ends => k_is); (case k__law_ends => k_is)))
    (case d__law_ring => (refine' Rg.mk__law_ring KX G ?a__law_ring ?l__law_ring ?c__law_ring ?k__law_ring; (case a__law_ring => k_is); (case l__law_ring => k_is); (case c__law_ring => k_is); (case k__law_ring => k_is)))
    (case d__law_ways => (refine' Rg.mk__law_ways KX G ?a__law_ways ?l__law_ways ?c__law_ways ?k__law_ways; (case a__law_ways => k_is); (case l__law_ways => k_is); (case c__law_ways => k_is); (case k__law_ways => k_is)))
    (case d__law_under => (refine' Rg.mk__law_under KX G ?a__law_under ?l__law_under ?c__law_under ?k__law_under; (case a__law_under => k_is); (case l__law_under => k_is); (case c__law_under => k_is); (case k__law_under => k_is)))
    (case d__law_next => (refine' Rg.mk__law_next KX G ?a__law_next ?l__law_next ?c__law_next ?k__law_next; (case a__law_next => k_is); (case l__law_next => k_is); (case c__law_next => k_is); (case k__law_next => k_is)))
    (case d__law_twice => (refine' Rg.mk__law_twice KX G ?a__law_twice ?l__law_twice ?c__law_twice ?k__law_twice; (case a__law_twice => k_is); (case l__law_twice => k_is); (case c__law_twice => k_is); (case k__law_twice => k_is)))
    (case d__law_others => (refine' Rg.mk__law_others KX G ?a__law_others ?l__law_others ?c__law_others ?k__law_others; (case a__law_others => k_is); (case l__law_others => k_is); (case c__law_others => k_is); (case k__law_others => k_is)))
    (case a => k_is)
    (case l => k_is)
    (case c => k_is)
    (case k => k_is)
