import PyProof.Rows.All
import Wide.All
import OpenK.AllK
import Wide.FinOn
import KE.KStateDown
import KE.GoesNew
import KE.GoesMore
import HandS.ForMost
import HandS.ForExc
import HandS.Defaults
import HandS.Star
import HandS.Property
import HandS.ClsMeth
import HandS.IsInst
import HandS.Style
import HandS.TupAny
import HandS.Deep
import HandS.Replace
import HandS.Conv
import HandS.Walk
import HandS.Codes
import HandS.Zip
import HandS.Steps
import HandS.Evl
import HandS.ExcCtx
import Lean
import HandS.Head0
import HandS.Head1
import HandS.Head2
import HandS.HeadEnd
import HandS.HeadHook1
import HandS.HeadHook2
import HandS.HeadHook3
import HandS.HeadNt
import OpenK.KMeth
import KE.KOpsOwn
import KE.KStar
import PyProof.SetRoads
import PyProof.Rows.SetFrom
import PyProof.Rows.SetObj
import PyProof.WalksMore
import PyProof.ListStr
import HandS.GenYield
import HandS.GenCall
import HandS.GenList
import HandS.NamedTupSort
import PyProof.InstEq
import KE.KUnpackStar
import HandS.FStr
import HandS.Text
import PyProof.CallStr
import KE.KIntText
import HandS.ExcInit
import HandS.ExcField
import HandS.ExcOwn
import HandS.ExcIs
import HandS.TryMany
import HandS.SuiteRaise
import HandS.Lambda
import HandS.Nested
import KE.KDflt
import HandS.TryOnly
import HandS.EndTab
import HandS.HeadHook4
import HandS.HeadWalk
import HandS.NestedK
import KE.KExcIs
import HandS.TupMul
import HandS.Strs
import PyProof.NeKinds
import KE.KDictZip
import HandS.Zip0
import HandS.ListItems
import HandS.NoneIn
import PyProof.Rows.MatchSeqLen
import KE.KExcRaise
import HandS.GenOver
import KE.KSuper
import HandS.MakeKwOnly
import HandS.SortInts
import HandS.SortRule
import KE.KDictList
import HandS.TupLen
import KE.KDictWalk
import KE.KDictCopyH
import KE.KDictPairs
import PyProof.Walk
import PyProof.WalkLemmas
import PyProof.TupleOfSeq
import HandS.ExcValue
import PySem.Challenge.RW_harvestcarts_k07_harmonic_rules
set_option Elab.async false
set_option linter.all false
set_option maxRecDepth 100000
set_option maxHeartbeats 4100000
/-! promises of defs, methods, makers and properties, and how a call uses them: each by the layer's own rule -/
namespace HC
open PyProof.Rows PySem L2 PySem.Spec
/-- what a call lets out: an exception whose context is None -/
abbrev CXW (P : Program) (w : World) : CXT := L2N.CX P w
section
variable {P : Program} {w : World} {outer : List Env} {H : Hp} {s s' : Shared} {E : XK} {u : Value}
/-- its context forgotten -/
theorem cx_less (h : L2N.CX P w outer H s E u s') : L2.CX P w outer H s E u s' := by
  obtain ⟨a, B, H', cls, d, e, ⟨f1, f2, f3, oe, vs, T, oT, ts, g1, g2, g3⟩, r⟩ := h
  exact ⟨a, B, H', cls, d, e, ⟨f1, f2, f3, oe, vs, T, oT, ts, g1, g2.zc, g3⟩, r⟩
/-- its context told -/
theorem cx_more (h : L2.CX P w outer H s E u s') (no : ∀ a o, u = .ref a → s'.heap.get? a = some o → PXN.CtxN o) : L2N.CX P w outer H s E u s' := by
  obtain ⟨a, B, H', cls, d, e, ⟨f1, f2, f3, oe, vs, T, oT, ts, g1, g2, g3⟩, r⟩ := h
  exact ⟨a, B, H', cls, d, e, ⟨f1, f2, f3, oe, vs, T, oT, ts, g1, ⟨g2.1, g2.2, no a oe e g1⟩, g3⟩, r⟩
theorem cx_ctx (h : L2N.CX P w outer H s E u s') (a : Addr) (o : Obj) (e : u = .ref a) (at_ : s'.heap.get? a = some o) : PXN.CtxN o := by
  obtain ⟨a', B, H', cls, d, e', ⟨f1, f2, f3, oe, vs, T, oT, ts, g1, g2, g3⟩, r⟩ := h
  cases e.symm.trans e'
  cases g1.symm.trans at_
  exact g2.2.2
theorem cx_up : StX.CXUp (CXW P w) := fun o s H s2 H2 E e s' un kp os c => cx_more (StX.cxUp o s H s2 H2 E e s' un kp os (cx_less c)) (cx_ctx c)
end
section
variable {P : Program} {w : World} {K : PySem.W.Frag}
variable {mg : Str → Option Value} {base : Heap} {k : Nat} {f : Addr} {sp : Sp}
/-- a def that takes its parameters by place and keeps sp -/
def FnU (P : Program) (w : World) (K : PySem.W.Frag) (mg : Str → Option Value) (base : Heap) (k : Nat) (f : Addr) (sp : Sp) : Prop := ∃ fd ps, FnOk P w K mg base (CXW P w) k f fd ps sp ∧ Binds K fd ps []
theorem fnr_mk {fd : FuncData} {ps : List Str} (F : FnOk P w K mg base (CXW P w) k f fd ps sp) (B : Binds K fd ps []) : FnU P w K mg base k f sp := ⟨fd, ps, F, B⟩
theorem FnU.raw (F : FnU P w K mg base k f sp) : FnR P w K mg base (CXW P w) k f sp := by
  obtain ⟨fd, ps, F, B⟩ := F
  refine FnR.imp (F.raw B .nil) fun vs H Q E h => ?_
  simpa using h
/-- the module's def x keeps sp -/
structure DefR (P : Program) (w : World) (K : PySem.W.Frag) (mg : Str → Option Value) (base : Heap) (x : Str) (k : Nat) (sp : Sp) : Prop where
  ex : ∃ f, mg x = some (.ref f) ∧ PySem.W.keepIn K (.ref f) = true ∧ FnU P w K mg base k f sp
/-- the method m of the class at C keeps sp -/
structure MethR (P : Program) (w : World) (K : PySem.W.Frag) (mg : Str → Option Value) (base : Heap) (C : Addr) (m : Str) (k : Nat) (sp : Sp) : Prop where
  cl : Cls K C
  ex : ∃ f, Meth K C m f ∧ FnR P w K mg base (CXW P w) k f sp
theorem MethR.at_ {C : Addr} {m : Str} (M : MethR P w K mg base C m k sp) : Meth K C m M.ex.choose := M.ex.choose_spec.1
theorem MethR.fn {C : Addr} {m : Str} (M : MethR P w K mg base C m k sp) : FnR P w K mg base (CXW P w) k M.ex.choose sp := M.ex.choose_spec.2
/-- the class x at C is made by an __init__ that keeps sp -/
structure MakeR (P : Program) (w : World) (K : PySem.W.Frag) (mg : Str → Option Value) (base : Heap) (x : Str) (C : Addr) (k : Nat) (sp : Sp) : Prop where
  at_ : mg x = some (.ref C)
  ex : ∃ f, Mk K C f ∧ FnR P w K mg base (CXW P w) k f sp
/-- the property f of the class at C -/
structure PropR (P : Program) (w : World) (K : PySem.W.Frag) (mg : Str → Option Value) (base : Heap) (C : Addr) (f : Str) (k : Nat) (sp : Sp) : Prop where
  cl : Cls K C
  ex : ∃ p g, PropOf K C f p g ∧ FnU P w K mg base k g sp
/-- what a body owes, the frame's slots laid as start says -/
abbrev Owes (P : Program) (w : World) (K : PySem.W.Frag) (mg : Str → Option Value) (base : Heap) (N : List Str) (qual : Str) (scope : Scope) (body : List Stmt) (k : Nat) (f : Addr) (sp : Sp) (cdv : Value) : Prop :=
  ∀ (A : Around) (outer : List Env) (s : Shared) (H : Hp) (vs : List V) (Q : VK) (E : XK),
    Room k (A.deeper (envOfC qual scope s.heap.objs.size f cdv)) → sp vs H Q E →
    ∃ t, PSs (cxOf (CXW P w) P w K mg base N qual scope f cdv A outer s H E) body t ∧ t { nx := fun _ H' => Q .non H', rt := Q } (start N vs) H
/-- def f(self, *v): by the layer's fn_star -/
theorem fnr_star1 {x qual : Str} {params : Arguments} {body : List Stmt} {scope : Scope} {fd : FuncData} {N : List Str} {p1 pv : Str} (F : FunD K x qual params body scope [] [] f fd) (S : FnScope N ([p1] ++ [pv]) scope)
    (h0 : ∀ (kV doc pm : Value) (an : Option Addr) (cdv ct : Value) (a : Value), bindArgs (PySem.W.fnOf x qual params body scope .none kV doc pm an cdv ct) ⟨[a], []⟩ = (newTuple [] >>= fun t => pure [(p1, a), (pv, t)]))
    (h1 : ∀ (kV doc pm : Value) (an : Option Addr) (cdv ct : Value) (a r : Value) (rs : List Value), bindArgs (PySem.W.fnOf x qual params body scope .none kV doc pm an cdv ct) ⟨a :: r :: rs, []⟩ = (newTuple (r :: rs) >>= fun t => pure [(p1, a), (pv, t)]))
    (owes : ∀ cdv, Owes P w K mg base N qual scope body k f sp cdv) :
    FnR P w K mg base (CXW P w) (k + 1) f (fun vs H Q E => ∃ w0 rest, vs = w0 :: rest ∧ rest.length ≤ sizeLine ∧ ∀ p, H p = none → sp [w0, V.ref p] (upd H p (.tup rest)) Q E) := by
  rcases F.ex with ⟨c1, c2, dv, kv, dc, pm, an, cdv, ct, sl, e, at_, code, dfl, _⟩
  subst e
  have dn : dv = .none := dfl.elim (fun z => z.2) (fun z => absurd rfl z.1)
  subst dn
  have both := StX.bind_star1 (B := fun us => bindArgs (PySem.W.fnOf x qual params body scope .none kv dc pm an cdv ct) ⟨us, []⟩) (h0 kv dc pm an cdv ct) (h1 kv dc pm an cdv ct)
  exact FnR.imp (StX.fn_star (P := P) (w := w) (mg := mg) (base := base) (k := k) (sp := sp) at_ code S cx_up both (owes cdv)) fun vs H Q E ⟨w0, rest, z, hl, h⟩ => ⟨[w0], rest, z, rfl, hl, h⟩
end
section
variable {X : Cx} {k : Nat} {C : Addr} {sp : Sp} {E : XK} {x m f : Str} {e o : Expr} {es : List Expr} {ta te : TE} {t : TA} {p pos apos : Pos}
theorem passN {X : Cx} : Passes (CXW X.prog X.w) X E0 := fun _ _ _ _ _ _ _ ⟨_, _, _, _, _, _, _, _, _, _, _, _, no⟩ => no.elim
/-- f(e, ..) -/
def tCallR (sp : Sp) (E : XK) (t : TA) : TE := fun σ H Q => t σ H fun vs H1 => sp vs H1 Q E
theorem tCallR_eq (sp : Sp) (E : XK) (t : TA) : tCall sp [] E t = tCallR sp E t := by
  funext σ H Q
  simp only [tCall, tCallR, List.append_nil]
theorem pe_callR (D : DefR X.prog X.w X.K X.mg X.base x k sp) (room : Room k X.A) (leave : Passes (CXW X.prog X.w) X E) (args : PA X (e :: es) t) (glob : Gl X x := by rfl) (nodeb : (x == ("__debug__" : Str)) = false := by decide) (one : starEach (e :: es) X.env = (false, eval e X.env) :: starEach es X.env := by rfl) (plain : (backTo pos (starEach es X.env)).any (·.1) = false := by rfl) : PE X (.Call (.Name x p) (e :: es) [] pos) (tCallR sp E t) := by
  obtain ⟨g, at_, kp, fd, ps, F, B⟩ := D.ex
  rw [← tCallR_eq]
  exact pe_call F room glob at_ kp B .nil leave args nodeb one plain
/-- f( *e) -/
def tStar1 (K : PySem.W.Frag) (te : TE) : TA := fun σ H Q => te σ H fun y H1 => ∃ a xs, y = V.ref a ∧ (SqT K H1 a xs ∨ SqL K H1 a xs) ∧ Q xs H1
/-- C( *e): the class stands in K, so it is called as a def of K is -/
theorem pe_makeS (M : MakeR X.prog X.w X.K X.mg X.base x C k sp) (room : Room (k + 1) X.A) (leave : Passes (CXW X.prog X.w) X E) (arg : PE X e te) (glob : Gl X x := by rfl) (nodeb : (x == ("__debug__" : Str)) = false := by decide) (one : starEach [.Starred e apos] X.env = [(true, eval e X.env)] := by rfl) : PE X (.Call (.Name x p) [.Starred e apos] [] pos) (StX.tMakeR C sp E (tStar1 X.K te)) := by
  constructor
  intro pn sh σ H Q inv h
  obtain ⟨g, made, F⟩ := M.ex
  have argRun := arg.run pn sh σ H _ inv h
  refine wpAny_Call_Name_kw (ld_glob inv glob M.at_ (PySem.W.callWith_S (h₀ := X.base) inv.ok.mod.kin made.kp (thn argRun ?_) one) nodeb)
  rintro v s1 ⟨y, H1, inv1, rel, a, xs, rfl, sq, q⟩
  cases rel
  exact StX.star_any inv1 sq fun us s2 inv2 vals => ⟨inv2.kIn, StX.run_makeR made F room leave inv2 vals q⟩
/-- C(e, ..) -/
theorem pe_makeP (M : MakeR X.prog X.w X.K X.mg X.base x C k sp) (room : Room (k + 1) X.A) (leave : Passes (CXW X.prog X.w) X E) (args : PA X (e :: es) t) (glob : Gl X x := by rfl) (nodeb : (x == ("__debug__" : Str)) = false := by decide) (one : starEach (e :: es) X.env = (false, eval e X.env) :: starEach es X.env := by rfl) (plain : (backTo pos (starEach es X.env)).any (·.1) = false := by rfl) : PE X (.Call (.Name x p) (e :: es) [] pos) (StX.tMakeR C sp E t) := by
  obtain ⟨g, made, F⟩ := M.ex
  exact StX.pe_makeR made F room glob M.at_ leave args nodeb one plain
/-- o.f, a property -/
def tPropR (C : Addr) (sp : Sp) (ta : TE) : TE := tProp C sp [] E0 ta
theorem pe_propR (M : PropR X.prog X.w X.K X.mg X.base C f k sp) (room : Room (k + 1) X.A) (obj : PE X e ta) (plain : attributeBase e f X.env (eval e X.env) = eval e X.env := by rfl) : PE X (.Attribute e f pos) (tPropR C sp ta) := by
  obtain ⟨pr, g, is, fd, ps, F, B⟩ := M.ex
  exact pe_prop (CX := CXW X.prog X.w) obj M.cl is F room B .nil (passN (X := X.nox)) plain
end
/-! ### enumerate over a tuple: the turns by GoesN.enumFrom over Draws.tuple; only the call with one argument is walked here -/
namespace EnT
/-- the record that enumerate() makes over the iterator at it -/
abbrev fresh (it : Addr) : Obj := { cls := .type "enumerate", data := .fields #[.none, .bool false, .ref it, rawInt 0, .none, .none] }
theorem new_of {v : Value} {o : Obj} {Z : Heap → Prop} (B : Begins v o Z) :
    Meets (Builtin.«enumerate.__new__» ⟨[.type "enumerate", v], []⟩) (fun _ R s => Z s.heap ∧ R (.ok (.ret (.ref (s.heap.push o).objs.size))) { s with heap := (s.heap.push o).push (fresh s.heap.objs.size) }) := by
  refine .of_wp fun prog w A R s owed => ?_
  have sub := sub_enumerate
  obtain ⟨start, goal⟩ := owed
  wp_walk using B.iter prog w _ _ _ _ start
  refine wpAny_stack_any fun frames => ?_
  refine wpAny_pure ?_
  split
  · rename_i c _ _ _ _ _
    generalize (c == Value.type "enumerate") = short
    cases short <;> (wp_walk using B.iter prog w _ _ _ _ start) <;> exact ⟨_, rfl, goal⟩
  · wp_walk using B.iter prog w _ _ _ _ start
    exact ⟨_, rfl, goal⟩
/-- enumerate(v): an iterator of v's, then the record over it -/
theorem call_of {prog : Program} {w : World} {A : Around} {E : Value → Shared → Prop} {s : Shared} {v : Value} {o : Obj} {Z : Heap → Prop} {Q : Value → Shared → Prop} (B : Begins v o Z) (start : Z s.heap)
    (go : ∀ h, (s.heap.push o).push (fresh s.heap.objs.size) = h → h.get? s.heap.objs.size = some o → IsEnum h (s.heap.objs.size + 1) s.heap.objs.size 0 .none → (∀ b ob, s.heap.get? b = some ob → h.get? b = some ob) →
      Q (.ref (s.heap.objs.size + 1)) { s with heap := h }) : wpAny (model prog w) A (call (.type "enumerate") [v]) Q E s := by
  have size1 : (s.heap.push o).objs.size = s.heap.objs.size + 1 := Heap.size_push ..
  have mine : ((s.heap.push o).push (fresh s.heap.objs.size)).get? (s.heap.objs.size + 1) = some (fresh s.heap.objs.size) := by
    rw [← size1]; exact Heap.get?_push_size _ rfl
  refine callType_new F.called_enumerate (by decide) (F.typeCall_enumerate_1 v) (F.newCall_enumerate_1 v) (fun obj => F.args_object_init_2 obj v) F.entry_enumerate_new (new_of B) ⟨start, ?_⟩
  refine ⟨⟨fresh s.heap.objs.size, ?_, rfl⟩, ?_⟩
  · show Heap.get? _ (s.heap.push o).objs.size = _
    rw [size1]
    exact mine
  · rw [size1]
    exact go _ rfl (Heap.get?_push_of_some _ (Heap.get?_push_size _ B.free)) mine fun b ob z => Heap.get?_push_of_some _ (Heap.get?_push_of_some _ z)
end EnT
/-- enumerate over the tuple at a, of n items: pairs, each new -/
def IteT (K : PySem.W.Frag) (a : Addr) (n : Nat) : It where
  go i H := i < n ∧ ∃ xs, SqT K H a xs ∧ xs.length = n
  yld i H v H' := ∃ T x, v = .ref T ∧ H T = none ∧ H' = upd H T (.tup [.int (i : Nat), x]) ∧ ∀ xs, SqT K H a xs → xs[i]? = some x
  stop i H := n ≤ i ∧ ∃ xs, SqT K H a xs ∧ xs.length = n
/-- what the heap says between two turns -/
structure TnE (a e it : Addr) (n i : Nat) (h : Heap) : Prop where
  le : i ≤ n
  rec_ : ∃ old, IsEnum h e it (0 + (i : Int)) old
  iter : h.IsTupleIter it a i
theorem two {b x y : Addr} (h : b ∈ [x, y]) : b = x ∨ b = y := by simpa using h
section
variable {P : Program} {w : World} {K : PySem.W.Frag} {elts : List Expr} {kk n : Nat} {tpos : Pos} {a e it : Addr}
theorem walkE {A : Around} (calm : A.in1.handled = none) (ai : a ≠ it) (ae : a ≠ e) (ei : e ≠ it) (cells : Array Value) :
    GoesN P w A (.Tuple elts kk tpos) e [e, it, a] [e, it] cells.size (fun i h₀ v h => ∃ T t x, v = .ref T ∧ h₀.objs.size ≤ T ∧ cells[i]? = some x ∧ h.IsTuple T #[.int (0 + (i : Int)) t, x]) (fun i h => (∃ old, IsEnum h e it (0 + (i : Int)) old) ∧ h.IsTupleIter it a i ∧ h.IsTuple a cells) :=
  GoesN.enumFrom 0 (Draws.tuple calm it a ai cells) e ei (by simp [ei, Ne.symm ae]) (by simp)
theorem turn_enumT (ai : a ≠ it) (ae : a ≠ e) (ei : e ≠ it) : Turn P w K (.Tuple elts kk tpos) (IteT K a n) [e, it] e (TnE a e it n) := by
  constructor
  · simp
  · intro i h now b hb
    rcases two hb with rfl | rfl
    · obtain ⟨old, z⟩ := now.rec_
      exact ⟨_, z, nofun⟩
    · obtain ⟨o, z, _, dat⟩ := now.iter
      refine ⟨o, z, fun v c => ?_⟩
      rw [dat] at c
      exact nomatch c
  · intro i h h' now same
    refine ⟨now.le, ?_, now.iter.at (same it (by simp))⟩
    obtain ⟨old, z⟩ := now.rec_
    exact ⟨old, same e (by simp) _ z⟩
  · rintro X rfl rfl rfl calm i pn s σ H E inv fp now ⟨lt, xs, sq, len⟩
    obtain ⟨cells, vals, tup, _⟩ := inv.tuple sq
    have sz : cells.toArray.size = n := by
      have := vals.length
      simp only [List.size_toArray]
      omega
    refine (walkE (P := X.prog) (w := X.w) (A := X.A) (show X.A.in1.handled = none from inv.ok.hd calm) ai ae ei cells.toArray).goes i s _ E (by omega) ⟨now.rec_, now.iter, tup⟩ ?_
    rintro _ h' tk ⟨T, t, u, rfl, new, at_, pair⟩ ⟨rec', iter', _⟩ same _
    have atX : i < xs.length := by omega
    obtain ⟨u', hu, ru⟩ := vals.get (List.getElem?_eq_getElem atX)
    have uu : u' = u := by
      rw [List.getElem?_toArray] at at_
      exact Option.some.inj (hu.symm.trans at_)
    subst uu
    rw [Int.zero_add] at pair
    have ob : ObjOk X.prog X.w (upd H T (.tup [.int (i : Nat), xs[i]])) h' T (.tup [.int (i : Nat), xs[i]]) := by
      refine ⟨?_, _, .cons ⟨t, rfl⟩ (.cons ru .nil), pair⟩
      show 2 ≤ sizeLine
      decide
    refine ⟨.ref T, _, inv.turnedNew same fp new ob, rfl, ⟨T, xs[i], rfl, inv.hok.fresh new, rfl, fun ys hy => ?_⟩, ⟨lt, rec', iter'⟩, fun b hb => ?_⟩
    · rw [inv.tuple_inj hy sq]
      exact List.getElem?_eq_getElem atX
    · refine (upd_ne fun z => ?_).trans (fp b hb).1
      obtain ⟨o, live⟩ : ∃ o, s.heap.get? b = some o := by
        rcases two hb with rfl | rfl
        · obtain ⟨old, q⟩ := now.rec_
          exact ⟨_, q⟩
        · obtain ⟨o, q, _⟩ := now.iter
          exact ⟨o, q⟩
      have := Heap.lt_size live
      rw [z] at this
      exact Nat.lt_irrefl _ (Nat.lt_of_lt_of_le this new)
  · rintro X rfl rfl rfl calm i pn s σ H E inv fp now ⟨ge, xs, sq, len⟩
    obtain ⟨cells, vals, tup, _⟩ := inv.tuple sq
    have sz : cells.toArray.size = i := by
      have := vals.length
      have := now.le
      simp only [List.size_toArray]
      omega
    have W := walkE (P := X.prog) (w := X.w) (A := X.A) (elts := elts) (kk := kk) (tpos := tpos) (show X.A.in1.handled = none from inv.ok.hd calm) ai ae ei cells.toArray
    rw [sz] at W
    exact W.stops s _ E ⟨now.rec_, now.iter, tup⟩ fun h' tk same _ => inv.turnedL same fp
  · intro A i s Q E now q
    obtain ⟨old, z⟩ := now.rec_
    exact wpAny_pyIter_enum z q
end
def iEnumT (K : PySem.W.Frag) (ta : TA) : TI := fun σ H R => ta σ H fun vs H1 => ∃ a xs, vs = [.ref a] ∧ SqT K H1 a xs ∧ R (IteT K a xs.length) H1
theorem pi_enumT {X : Cx} {e : Expr} {ta : TA} {p pos tpos : Pos} {elts : List Expr} {kk : Nat} (glob : Gl X "enumerate") (free : X.mg "enumerate" = none) (args : PA X [e] ta) (one : starEach [e] X.env = [(false, eval e X.env)] := by rfl) : PI X (.Tuple elts kk tpos) (.Call (.Name "enumerate" p) [e] [] pos) (iEnumT X.K ta) := by
  constructor
  intro pn s σ H R inv h
  refine Call_ (ld_blt inv glob free boot_enumerate ?_)
  refine PyProof.Rows.callWith_type1 (thn (args.run pos pn s σ H _ inv h) ?_) one rfl
  rintro us s1 ⟨vs, H1, inv1, rel, a, xs, rfl, sq, q⟩
  obtain ⟨_, rfl, rfl⟩ := vals1 rel
  obtain ⟨cells, vals, tup, _⟩ := inv1.tuple sq
  have below : a < s1.heap.objs.size := by
    obtain ⟨o, z, _⟩ := tup
    exact Heap.lt_size z
  refine EnT.call_of (begins_tuple a cells.toArray) tup fun h' _ isIter isRec same => wpAny_pyIter_enum isRec ?_
  refine ⟨s1.heap.objs.size + 1, [s1.heap.objs.size + 1, s1.heap.objs.size], TnE a _ _ xs.length, IteT X.K a xs.length, H1, rfl, inv1.kept (t' := s1.toks) same, turn_enumT ?_ ?_ ?_, ⟨Nat.zero_le _, ⟨.none, isRec⟩, _, isIter, rfl, rfl⟩, fun b hb => ?_, q⟩
  · exact Nat.ne_of_lt below
  · exact Nat.ne_of_lt (Nat.lt_succ_of_lt below)
  · exact Nat.succ_ne_self _
  · have up : s1.heap.objs.size ≤ b := by
      rcases two hb with z | z <;> rw [z]
      · exact Nat.le_succ _
      · exact Nat.le_refl _
    exact inv1.fpOk up (inv1.hok.fresh up)
theorem walk_enumT {K : PySem.W.Frag} {a : Addr} {xs : List V} : Walk (IteT K a xs.length) xs.length (fun H => SqT K H a xs) (YPair (fun i => some (.int (i : Nat))) (fun i => xs[i]?)) := by
  constructor
  · exact fun i H lt sq => ⟨lt, xs, sq, rfl⟩
  · exact fun H sq => ⟨Nat.le_refl _, xs, sq, rfl⟩
  · rintro i H v H' _ sq ⟨T, x, e1, e2, e3, e4⟩
    exact ⟨T, _, x, e1, e2, e3, rfl, e4 xs sq⟩
end HC

/-! operators whatever the types, and the steps of a reading -/
namespace HC
open PyProof.Rows PySem L2 PySem.Spec

/-! ### heaps -/
theorem same_new {H : Hp} {p : Addr} {o : HO} (h : H p = none) : Same H (upd H p o) := fun b u e => by rw [upd_ne (ne_of_none e h)]; exact e
/-- all but d is as it was -/
def Keep (d : Addr) (H H' : Hp) : Prop := ∀ b o, b ≠ d → H b = some o → H' b = some o
theorem Keep.refl (d : Addr) (H : Hp) : Keep d H H := fun _ _ _ h => h
theorem Keep.trans {d : Addr} {H H1 H2 : Hp} (a : Keep d H H1) (b : Keep d H1 H2) : Keep d H H2 := fun c o n h => b c o n (a c o n h)
theorem keep_upd {H : Hp} {d : Addr} {o : HO} : Keep d H (upd H d o) := fun b u n e => by rw [upd_ne n]; exact e
end HC
namespace L2
open PySem PySem.Spec PyProof.Rows HC
theorem Same.keep {d : Addr} {H H' : Hp} (a : Same H H') : Keep d H H' := fun b o _ h => a b o h
end L2
namespace HC
open PyProof.Rows PySem L2 PySem.Spec
theorem same_l {K : PySem.W.Frag} {H H' : Hp} {a : Addr} {xs : List V} (e : Same H H') (h : SqL K H a xs) : SqL K H' a xs := e.seq h
theorem same_t {K : PySem.W.Frag} {H H' : Hp} {a : Addr} {xs : List V} (e : Same H H') (h : SqT K H a xs) : SqT K H' a xs := h.imp (fun z => z.imp (e a _) fun ⟨o, q⟩ => ⟨o, e a _ q⟩) id
mutual
theorem dp_same {K : PySem.W.Frag} {H H' : Hp} (e : Same H H') : ∀ (d : PyData) (v : V), Dp K H v d → Dp K H' v d
  | .none, _, .non => .non
  | .bool _, _, .bl b => .bl b
  | .int _, _, .int i => .int i
  | .str _, _, .str x => .str x
  | .list ds, _, .lst h a => .lst (same_l e h) (dp_sameAll e ds _ a)
  | .tuple ds, _, .tup h a => .tup (same_t e h) (dp_sameAll e ds _ a)
theorem dp_sameAll {K : PySem.W.Frag} {H H' : Hp} (e : Same H H') : ∀ (ds : List PyData) (vs : List V), DpAll K H vs ds → DpAll K H' vs ds
  | [], _, .nil => .nil
  | d :: ds, _, .cons a b => .cons (dp_same e d _ a) (dp_sameAll e ds _ b)
end
end HC
namespace L2
open PySem PySem.Spec PyProof.Rows HC
theorem Same.dp {K : PySem.W.Frag} {H H' : Hp} {v : V} {d : PyData} (e : Same H H') (h : Dp K H v d) : Dp K H' v d := dp_same e d v h
theorem Same.dpa {K : PySem.W.Frag} {H H' : Hp} {vs : List V} {ds : List PyData} (e : Same H H') (h : DpAll K H vs ds) : DpAll K H' vs ds := dp_sameAll e ds vs h
theorem DpAll.length {K : PySem.W.Frag} {H : Hp} : ∀ {vs : List V} {ds : List PyData}, DpAll K H vs ds → vs.length = ds.length
  | _, _, .nil => rfl
  | _, _, .cons _ b => congrArg Nat.succ (DpAll.length b)
theorem DpAll.get {K : PySem.W.Frag} {H : Hp} {vs : List V} {ds : List PyData} {i : Nat} {v : V} (h : DpAll K H vs ds) (e : vs[i]? = some v) : ∃ d, ds[i]? = some d ∧ Dp K H v d :=
  match i, h, e with
  | 0, .cons a _, e => ⟨_, rfl, Option.some.inj e ▸ a⟩
  | j + 1, .cons _ b, e => DpAll.get (i := j) b e
theorem DpAll.getD {K : PySem.W.Frag} {H : Hp} {vs : List V} {ds : List PyData} {i : Nat} {d : PyData} (h : DpAll K H vs ds) (e : ds[i]? = some d) : ∃ v, vs[i]? = some v ∧ Dp K H v d :=
  match i, h, e with
  | 0, .cons a _, e => ⟨_, rfl, Option.some.inj e ▸ a⟩
  | j + 1, .cons _ b, e => DpAll.getD (i := j) b e
end L2
namespace HC
open PyProof.Rows PySem L2 PySem.Spec
theorem getm {α β : Type} {f : α → β} {l : List α} {i : Nat} {d : β} (h : (l.map f)[i]? = some d) : ∃ x, l[i]? = some x ∧ f x = d := by
  rw [List.getElem?_map] at h
  exact Option.map_eq_some_iff.mp h
/-! ### data -/
end HC
namespace L2
open PySem PySem.Spec PyProof.Rows HC
theorem DpAll.inv1 {K : PySem.W.Frag} {H : Hp} {vs : List V} {d : PyData} {ds : List PyData} (h : DpAll K H vs (d :: ds)) : ∃ v r, vs = v :: r ∧ Dp K H v d ∧ DpAll K H r ds :=
  match h with | .cons first more => ⟨_, _, rfl, first, more⟩
theorem DpAll.inv0 {K : PySem.W.Frag} {H : Hp} {vs : List V} (h : DpAll K H vs []) : vs = [] := by cases h; rfl
theorem DpAll.inv2 {K : PySem.W.Frag} {H : Hp} {vs : List V} {d e : PyData} (h : DpAll K H vs [d, e]) : ∃ v u, vs = [v, u] ∧ Dp K H v d ∧ Dp K H u e := by
  obtain ⟨v, r, rfl, h1, h2⟩ := h.inv1
  obtain ⟨u, r, rfl, h3, h4⟩ := h2.inv1
  obtain rfl := h4.inv0
  exact ⟨v, u, rfl, h1, h3⟩
end L2
namespace HC
open PyProof.Rows PySem L2 PySem.Spec

/-! data without lists stand whatever list or instance changes -/
mutual
def noL : PyData → Bool
  | .list _ => false
  | .tuple ds => noLs ds
  | .none | .bool _ | .int _ | .str _ | .dict _ => true
def noLs : List PyData → Bool
  | [] => true
  | d :: ds => noL d && noLs ds
end
def NotT : Option HO → Prop
  | some (.ext _) => False
  | some (.tup _) => False
  | some (.frz _ (.tup _)) => False
  | _ => True
theorem keep_t {K : PySem.W.Frag} {H H' : Hp} {d a : Addr} {xs : List V} (e : Keep d H H') (hd : NotT (H d)) (h : SqT K H a xs) : SqT K H' a xs := by
  refine h.imp (fun z => z.imp (fun q => e a _ (fun ad => ?_) q) (fun ⟨o, q⟩ => ⟨o, e a _ (fun ad => ?_) q⟩)) id
  all_goals (subst ad; rw [q] at hd; exact hd)
mutual
theorem dp_keep {K : PySem.W.Frag} {H H' : Hp} {d : Addr} (e : Keep d H H') (hd : NotT (H d)) : ∀ (x : PyData) (v : V), noL x = true → Dp K H v x → Dp K H' v x
  | .none, _, _, .non => .non
  | .bool _, _, _, .bl b => .bl b
  | .int _, _, _, .int i => .int i
  | .str _, _, _, .str x => .str x
  | .list ds, _, n, .lst h a => by simp [noL] at n
  | .tuple ds, _, n, .tup h a => .tup (keep_t e hd h) (dp_keepAll e hd ds _ (by simpa [noL] using n) a)
theorem dp_keepAll {K : PySem.W.Frag} {H H' : Hp} {d : Addr} (e : Keep d H H') (hd : NotT (H d)) : ∀ (xs : List PyData) (vs : List V), noLs xs = true → DpAll K H vs xs → DpAll K H' vs xs
  | [], _, _, .nil => .nil
  | x :: xs, _, n, .cons a b => by
    have n' : noL x = true ∧ noLs xs = true := by simpa [noLs] using n
    exact .cons (dp_keep e hd x _ n'.1 a) (dp_keepAll e hd xs _ n'.2 b)
end
/-- data that the layer's == speaks of, to a depth -/
def Sh (n : Nat) (d : PyData) : Prop := d.canLay0 = true ∧ d.depth ≤ n
theorem Sh.ok {n : Nat} {d : PyData} (h : Sh n d) (hn : n ≤ 64) : SeqAt.shaped d = true := by
  unfold SeqAt.shaped
  rw [h.1, Bool.true_and]
  exact decide_eq_true (Nat.le_trans h.2 hn)
theorem Sh.mono {n m : Nat} {d : PyData} (h : Sh n d) (hn : n ≤ m) : Sh m d := ⟨h.1, Nat.le_trans h.2 hn⟩
theorem sh_i (i : Int) : Sh 0 (.int i) := ⟨by simp [PyData.canLay0], by simp [PyData.depth]⟩
theorem sh_s {i : Str} (h : PyData.strOk i = true) : Sh 0 (.str i) := ⟨by simp [PyData.canLay0, h], by simp [PyData.depth]⟩
theorem sh_b (i : Bool) : Sh 0 (.bool i) := ⟨by simp [PyData.canLay0], by simp [PyData.depth]⟩
theorem sh_n : Sh 0 .none := ⟨by simp [PyData.canLay0], by simp [PyData.depth]⟩
theorem lay_all {ds : List PyData} (h : ∀ d ∈ ds, d.canLay0 = true) : PyData.canLayAll0 ds = true := by
  induction ds with
  | nil => simp [PyData.canLayAll0]
  | cons d r ih => simp [PyData.canLayAll0, h d (by simp), ih fun e he => h e (by simp [he])]
theorem depth_all {ds : List PyData} {n : Nat} (h : ∀ d ∈ ds, d.depth ≤ n) : PyData.depthAll ds ≤ n := by
  induction ds with
  | nil => simp [PyData.depthAll]
  | cons d r ih =>
    have h1 := h d (by simp)
    have h2 := ih fun e he => h e (by simp [he])
    simp only [PyData.depthAll]
    omega
theorem sh_l {n : Nat} {ds : List PyData} (h : ∀ d ∈ ds, Sh n d) : Sh (n + 1) (.list ds) := by
  refine ⟨by simp only [PyData.canLay0]; exact lay_all fun d hd => (h d hd).1, ?_⟩
  have := depth_all fun d hd => (h d hd).2
  simp only [PyData.depth]
  omega
theorem sh_t {n : Nat} {ds : List PyData} (h : ∀ d ∈ ds, Sh n d) : Sh (n + 1) (.tuple ds) := by
  refine ⟨by simp only [PyData.canLay0]; exact lay_all fun d hd => (h d hd).1, ?_⟩
  have := depth_all fun d hd => (h d hd).2
  simp only [PyData.depth]
  omega
/-! ### operators -/
section
variable {X : Cx} {K : PySem.W.Frag} {H H' : Hp} {Q : VK} {σ : L2.St} {D : Ends}
def uAdd (K : PySem.W.Frag) : R2 := fun x y H Q => rI0 (fun i j => .int (i + j)) x y H Q ∨ (∃ i j, x = .str i ∧ y = .str j ∧ i.length + j.length ≤ sizeLine ∧ Q (.str (i ++ j)) H) ∨ rCat x y H Q ∨ rCatA K x y H Q
theorem op_addU : OpR X (binaryOp .Add) (uAdd X.K) := op_add.or (op_add_str.or (op_cat.or op_catA))
theorem g_add_i {i j : Int} (h : Q (.int (i + j)) H) : uAdd K (.int i) (.int j) H Q := .inl ⟨i, j, rfl, rfl, h⟩
theorem g_add_s {i j : Str} (hz : i.length + j.length ≤ sizeLine) (h : Q (.str (i ++ j)) H) : uAdd K (.str i) (.str j) H Q := .inr (.inl ⟨i, j, rfl, rfl, hz, h⟩)
theorem g_add_l {a b : Addr} {xs ys : List V} (h1 : H a = some (.lst xs)) (h2 : H b = some (.lst ys)) (hz : xs.length + ys.length ≤ sizeLine)
    (h : ∀ p H', H p = none → Same H H' → H' p = some (.lst (xs ++ ys)) → Q (.ref p) H') : uAdd K (.ref a) (.ref b) H Q :=
  .inr (.inr (.inl ⟨a, b, xs, ys, rfl, rfl, h1, h2, hz, fun p hp => h p _ hp (same_new hp) upd_same⟩))
theorem g_sub {i j : Int} (h : Q (.int (i - j)) H) : rI0 (fun i j => .int (i - j)) (.int i) (.int j) H Q := ⟨i, j, rfl, rfl, h⟩
theorem g_neg {i : Int} (h : Q (.int (-i)) H) : rU (fun i => .int (-i)) (.int i) H Q := ⟨i, rfl, h⟩
theorem g_mul {i j : Int} (hc : CMul i j) (h : Q (.int (i * j)) H) : rI CMul (fun i j => .int (i * j)) (.int i) (.int j) H Q := ⟨i, j, rfl, rfl, hc, h⟩
theorem g_fdiv {i j : Int} (h1 : 0 < j) (h2 : j < 1073741824) (h : Q (.int (i / j)) H) : rI CDiv (fun i j => .int (i / j)) (.int i) (.int j) H Q := ⟨i, j, rfl, rfl, ⟨h1, h2⟩, h⟩
theorem g_mod {i j : Int} (h1 : 0 < j) (h : Q (.int (i % j)) H) : rI (fun _ j => 0 < j) (fun i j => .int (i % j)) (.int i) (.int j) H Q := ⟨i, j, rfl, rfl, h1, h⟩
theorem g_lt {i j : Int} (h : Q (.bl (decide (i < j))) H) : rI0 (fun i j => .bl (decide (i < j))) (.int i) (.int j) H Q := ⟨i, j, rfl, rfl, h⟩
theorem g_le {i j : Int} (h : Q (.bl (decide (i ≤ j))) H) : rI0 (fun i j => .bl (decide (i ≤ j))) (.int i) (.int j) H Q := ⟨i, j, rfl, rfl, h⟩
theorem g_gt {i j : Int} (h : Q (.bl (decide (j < i))) H) : rI0 (fun i j => .bl (decide (j < i))) (.int i) (.int j) H Q := ⟨i, j, rfl, rfl, h⟩
theorem g_ge {i j : Int} (h : Q (.bl (decide (j ≤ i))) H) : rI0 (fun i j => .bl (decide (j ≤ i))) (.int i) (.int j) H Q := ⟨i, j, rfl, rfl, h⟩
def uEq (K : PySem.W.Frag) : R2 := fun x y H Q => rEq x y H Q ∨ rEqD K x y H Q
def uNe (K : PySem.W.Frag) : R2 := fun x y H Q => rNe x y H Q ∨ rNeD K x y H Q
theorem op_eqU {k : Nat} (hr : Room k X.A) : OpR X (compareOp .Eq) (uEq X.K) := op_eq.or (op_eqD hr.units)
theorem op_neU {k : Nat} (hr : Room k X.A) : OpR X (compareOp .NotEq) (uNe X.K) := op_ne.or (op_neD hr.units)
theorem dec_i {i j : Int} : decide (V.int i = V.int j) = decide (i = j) := by
  by_cases e : i = j
  · subst e; simp
  · rw [decide_eq_false e, decide_eq_false fun q => e (V.int.inj q)]
theorem dec_s {i j : Str} : decide (V.str i = V.str j) = decide (i = j) := by
  by_cases e : i = j
  · subst e; simp
  · rw [decide_eq_false e, decide_eq_false fun q => e (V.str.inj q)]
theorem dec_b {i j : Bool} : decide (V.bl i = V.bl j) = decide (i = j) := by
  by_cases e : i = j
  · subst e; simp
  · rw [decide_eq_false e, decide_eq_false fun q => e (V.bl.inj q)]
theorem g_eq_i {i j : Int} (h : Q (.bl (decide (i = j))) H) : uEq K (.int i) (.int j) H Q := .inl ⟨rfl, by rw [dec_i]; exact h⟩
theorem g_eq_s {i j : Str} (h : Q (.bl (decide (i = j))) H) : uEq K (.str i) (.str j) H Q := .inl ⟨rfl, by rw [dec_s]; exact h⟩
theorem g_eq_b {i j : Bool} (h : Q (.bl (decide (i = j))) H) : uEq K (.bl i) (.bl j) H Q := .inl ⟨rfl, by rw [dec_b]; exact h⟩
theorem g_ne_i {i j : Int} (h : Q (.bl (!decide (i = j))) H) : uNe K (.int i) (.int j) H Q := .inl ⟨rfl, by rw [dec_i]; exact h⟩
theorem g_ne_s {i j : Str} (h : Q (.bl (!decide (i = j))) H) : uNe K (.str i) (.str j) H Q := .inl ⟨rfl, by rw [dec_s]; exact h⟩
theorem g_ne_b {i j : Bool} (h : Q (.bl (!decide (i = j))) H) : uNe K (.bl i) (.bl j) H Q := .inl ⟨rfl, by rw [dec_b]; exact h⟩
theorem g_isN {x : V} (h : Q (.bl (decide (x = .non))) H) : rIsN x .non H Q := ⟨rfl, h⟩
theorem g_notN {x : V} (h : Q (.bl (!decide (x = .non))) H) : rNotN x .non H Q := ⟨rfl, h⟩
/-- in -/
def uIn (K : PySem.W.Frag) : R2 := fun x y H Q => rIn K false x y H Q ∨ (∃ (c : Nat) (z : Str), x = .str ⟨#[c]⟩ ∧ y = .str z ∧ Q (.bl (decide (c ∈ z.cps.toList))) H) ∨ rInD K x y H Q
theorem units65 {k : Nat} {A : Around} (hr : Room k A) : A.units + 65 < cLine := by have := hr.un; omega
theorem op_inU {k : Nat} (hr : Room k X.A) : OpR X (compareOp .In) (uIn X.K) := op_in_seq.or (op_in_sign.or (op_inD (units65 hr)))
theorem g_in_sign {c : Nat} {z : Str} (h : Q (.bl (decide (c ∈ z.cps.toList))) H) : uIn K (.str ⟨#[c]⟩) (.str z) H Q := .inr (.inl ⟨c, z, rfl, rfl, h⟩)
/-- x[i] -/
theorem g_ix_l {p : Addr} {xs : List V} {i : Int} {v : V} (h1 : SqL K H p xs) (h2 : atI xs i = some v) (h : Q v H) : rIx K (.ref p) (.int i) H Q := .inl ⟨p, xs, i, v, rfl, rfl, h1, h2, h⟩
/-- len -/
def uLen (K : PySem.W.Frag) : List V → Hp → VK → Prop := fun xs H Q => (∃ z, xs = [.str z] ∧ z.length ≤ sizeLine ∧ Q (.int z.length) H) ∨ ∃ p ys, xs = [.ref p] ∧ (SqL K H p ys ∨ SqT K H p ys) ∧ Q (.int ys.length) H
theorem call_lenU : CallR X (.builtin "len") (uLen X.K) := call_len_str.or call_len_seq
theorem g_len_l {p : Addr} {ys : List V} (h1 : SqL K H p ys) (h : Q (.int ys.length) H) : uLen K [.ref p] H Q := .inr ⟨p, ys, rfl, .inl h1, h⟩
/-! ### steps -/
variable {ta tb te : TE} {tA tB' : TT} {i : Nat} {v : V} {t u : TS} {ts : TA}
theorem g_var (e : σ[i]? = some (some v)) (h : Q v H) : tVar i σ H Q := ⟨v, e, h⟩
theorem g_c (h : Q v H) : tC v σ H Q := h
theorem g_op {r : R2} (h : ta σ H fun x H1 => tb σ H1 fun y H2 => r x y H2 Q) : tOp r ta tb σ H Q := h
theorem g_un {r : V → Hp → VK → Prop} (h : ta σ H fun x H1 => r x H1 Q) : tUn r ta σ H Q := h
def Bl (Q : Bool → Hp → Prop) : VK := fun x H => ∃ k, x = .bl k ∧ Q k H
theorem g_bl {b : Bool} {Q : Bool → Hp → Prop} (h : Q b H) : Bl Q (.bl b) H := ⟨b, rfl, h⟩
theorem g_test {Q : Bool → Hp → Prop} (h : te σ H (Bl Q)) : tTest te σ H Q := h
theorem g_tB {Q : Bool → Hp → Prop} (h : te σ H (Bl Q)) : tB te σ H Q := h
def Ch (r' : R2) (tc : TE) (y : V) (σ : L2.St) (Q : VK) : VK := fun z H3 => ∃ k, z = .bl k ∧ (if k = true then tc σ H3 fun w' H4 => r' y w' H4 Q else Q (.bl false) H3)
theorem g_chain {r r' : R2} {tc : TE} (h : ta σ H fun x H1 => tb σ H1 fun y H2 => r x y H2 (Ch r' tc y σ Q)) : tChain r r' ta tb tc σ H Q := h
theorem g_and {Q : Bool → Hp → Prop} (h : tA σ H fun c H1 => if c = true then tB' σ H1 Q else Q false H1) : tAnd tA tB' σ H Q := h
theorem g_or {Q : Bool → Hp → Prop} (h : tA σ H fun c H1 => if c = true then Q true H1 else tB' σ H1 Q) : tOr tA tB' σ H Q := h
theorem g_not {Q : Bool → Hp → Prop} (h : tA σ H fun c H1 => Q (!c) H1) : tNot tA σ H Q := h
theorem g_andV (h : ta σ H (Bl fun c H1 => if c = true then tb σ H1 Q else Q (.bl false) H1)) : tAndV ta tb σ H Q := h
theorem g_orV (h : ta σ H (Bl fun c H1 => if c = true then Q (.bl true) H1 else tb σ H1 Q)) : tOrV ta tb σ H Q := h
theorem g_notV (h : ta σ H (Bl fun c H1 => Q (.bl (!c)) H1)) : tNotV ta σ H Q := h
theorem g_if (h : tA σ H fun c H1 => if c = true then ta σ H1 Q else tb σ H1 Q) : tIf tA ta tb σ H Q := h
theorem g_nil {Q : List V → Hp → Prop} (h : Q [] H) : tNil σ H Q := h
theorem g_cons {Q : List V → Hp → Prop} (h : te σ H fun x H1 => ts σ H1 fun xs H2 => Q (x :: xs) H2) : tCons te ts σ H Q := h
theorem g_cb {r : List V → Hp → VK → Prop} (h : ts σ H fun vs H1 => r vs H1 Q) : tCB r ts σ H Q := h
theorem g_callR {sp : Sp} {E : XK} (h : ts σ H fun vs H1 => sp vs H1 Q E) : tCallR sp E ts σ H Q := h
def NewT (xs : List V) (H : Hp) (Q : VK) : Prop := xs.length ≤ sizeLine ∧ ∀ p, H p = none → Q (.ref p) (upd H p (.tup xs))
def NewL (xs : List V) (H : Hp) (Q : VK) : Prop := xs.length ≤ sizeLine ∧ ∀ p, H p = none → Q (.ref p) (upd H p (.lst xs))
theorem g_tup (h : ts σ H fun xs H1 => NewT xs H1 Q) : tTup ts σ H Q := h
theorem g_lst (h : ts σ H fun xs H1 => NewL xs H1 Q) : tLst ts σ H Q := h
theorem g_seq (h : t { D with nx := u D } σ H) : tSeq t u D σ H := h
theorem g_next (h : D.nx σ H) : tNext D σ H := h
theorem g_asg {g : TG} (h : te σ H fun x H1 => g x σ H1 D.nx) : tAsg te g D σ H := h
theorem g_name {Q : L2.St → Hp → Prop} {σ' : L2.St} (e : σ.set i (some v) = σ') (h : Q σ' H) : gName i v σ H Q := by subst e; exact h
theorem g_ret (h : te σ H D.rt) : tRet te D σ H := h
theorem g_drop (h : te σ H fun _ H1 => D.nx σ H1) : tDrop te D σ H := h
theorem g_ifS (h : tA σ H fun b H1 => if b = true then t D σ H1 else u D σ H1) : tIfS tA t u D σ H := h
theorem if_T {c : Bool} {A B : Prop} (e : c = true) (h : A) : if c = true then A else B := by rw [if_pos e]; exact h
theorem if_F {c : Bool} {A B : Prop} (e : c = false) (h : B) : if c = true then A else B := by rw [if_neg (by rw [e]; decide)]; exact h
theorem if_D {p : Prop} [Decidable p] {A B : Prop} (h1 : p → A) (h2 : ¬ p → B) : if decide p = true then A else B := by
  by_cases c : p
  · rw [if_pos (decide_eq_true c)]; exact h1 c
  · rw [if_neg (by rw [decide_eq_false c]; decide)]; exact h2 c
theorem if_ND {p : Prop} [Decidable p] {A B : Prop} (h1 : ¬ p → A) (h2 : p → B) : if (!decide p) = true then A else B := by
  by_cases c : p
  · rw [if_neg (by rw [decide_eq_true c]; decide)]; exact h2 c
  · rw [if_pos (by rw [decide_eq_false c]; decide)]; exact h1 c

/-! lists changed, asked -/
theorem atI_c0 {α : Type} {a : α} {l : List α} : atI (a :: l) 0 = some a := atI_nat (j := 0) rfl
theorem atI_c1 {α : Type} {a b : α} {l : List α} : atI (a :: b :: l) 1 = some b := atI_nat (j := 1) rfl
theorem atI_c2 {α : Type} {a b c : α} {l : List α} : atI (a :: b :: c :: l) 2 = some c := atI_nat (j := 2) rfl
theorem atI_c3 {α : Type} {a b c d : α} {l : List α} : atI (a :: b :: c :: d :: l) 3 = some d := atI_nat (j := 3) rfl
theorem atI_c4 {α : Type} {a b c d e : α} {l : List α} : atI (a :: b :: c :: d :: e :: l) 4 = some e := atI_nat (j := 4) rfl
theorem atI_i {α : Type} {l : List α} {i : Int} {x : α} (h0 : 0 ≤ i) (h : l[i.toNat]? = some x) : atI l i = some x := by
  have := atI_nat h
  rwa [Int.toNat_of_nonneg h0] at this
theorem ixN_i {n : Nat} {i : Int} (h0 : 0 ≤ i) (h : i < n) : ixN n i = some i.toNat := by unfold ixN; rw [if_pos h0, if_pos h]
theorem seqIx_i {n : Nat} {i : Int} (h0 : 0 ≤ i) (h : i < n) : seqIndex? i n = some i.toNat := (ixN_seq (ixN_i h0 h)).1
def Ty (K : PySem.W.Frag) (T : String) (x : V) (H : Hp) (P : Prop) : Prop := tyV K T x H ∧ P
theorem g_bm {T : String} {r : V → List V → Hp → VK → Prop} {to : TE} (h : to σ H fun x H1 => Ty K T x H1 (ts σ H1 fun xs H2 => r x xs H2 Q)) : tBM K T r to ts σ H Q := h
theorem g_bm0 {T : String} {r : V → List V → Hp → VK → Prop} {to : TE} (h : to σ H fun x H1 => Ty K T x H1 (r x [] H1 Q)) : tBM0 K T r to σ H Q := h
theorem g_tyL {p : Addr} {xs : List V} {P : Prop} (h1 : SqL K H p xs) (h : P) : Ty K "list" (.ref p) H P := ⟨.inl ⟨rfl, _, h1⟩, h⟩
def TyS (x : V) (P : Prop) : Prop := (∃ a, x = .str a) ∧ P
theorem g_m1 {r : V → List V → Hp → VK → Prop} {to : TE} (h : to σ H fun x H1 => TyS x (te σ H1 fun y H2 => r x [y] H2 Q)) : tM1 r to te σ H Q := h
theorem g_m0 {r : V → List V → Hp → VK → Prop} {to : TE} (h : to σ H fun x H1 => TyS x (r x [] H1 Q)) : tM0 r to σ H Q := h
theorem g_tyS {z : Str} {P : Prop} (h : P) : TyS (.str z) P := ⟨⟨z, rfl⟩, h⟩
theorem g_gsub {Q : L2.St → Hp → Prop} {to ti : TE} {rs : TSet} (h : to σ H fun o H1 => ti σ H1 fun i H2 => rs o i v H2 fun H3 => Q σ H3) : gSub to ti rs v σ H Q := h
/-! slices -/
theorem g_sl {r : V → Option Int → Option Int → Hp → VK → Prop} {tl th : TO} (h : te σ H fun x H1 => tl σ H1 fun l H2 => th σ H2 fun u H3 => r x l u H3 Q) : tSl r te tl th σ H Q := h
theorem g_noPart {Q : Option Int → Hp → Prop} (h : Q none H) : tNoPart σ H Q := h
def PartI (Q : Option Int → Hp → Prop) : VK := fun x H => ∃ i, x = .int i ∧ Q (some i) H
theorem g_part {Q : Option Int → Hp → Prop} (h : te σ H (PartI Q)) : tPart te σ H Q := h
theorem g_partI {i : Int} {Q : Option Int → Hp → Prop} (h : Q (some i) H) : PartI Q (.int i) H := ⟨i, rfl, h⟩
theorem g_slL {a : Addr} {xs : List V} {lo hi : Option Int} (h1 : SqL K H a xs) (h : ∀ p H', H p = none → Same H H' → H' p = some (.lst (cutV xs lo hi)) → Q (.ref p) H') : rSlL K (.ref a) lo hi H Q := ⟨a, xs, rfl, h1, fun p hp => h p _ hp (same_new hp) upd_same⟩
/-! loops -/
/-- the turns of a for over J -/
def LoopJ (J : It) (g : TG) (tb : TS) (D : Ends) (σ : L2.St) (H : Hp) : Prop := tFor (fun _ H1 R => R J H1) g tb D σ H
variable {g : TG} {tbs : TS}
def ItL (K : PySem.W.Frag) (g : TG) (tb : TS) (D : Ends) (σ : L2.St) : VK := fun x H1 => ∃ a, x = .ref a ∧ (∃ xs, SqL K H1 a xs) ∧ LoopJ (Itl K a) g tb D σ H1
theorem g_forL (h : te σ H (ItL K g tbs D σ)) : tFor (iList K te) g tbs D σ H := h
def ItT (K : PySem.W.Frag) (g : TG) (tb : TS) (D : Ends) (σ : L2.St) : VK := fun x H1 => ∃ a, x = .ref a ∧ (∃ xs, SqT K H1 a xs) ∧ LoopJ (Itt K a) g tb D σ H1
theorem g_forT (h : te σ H (ItT K g tbs D σ)) : tFor (iTup K te) g tbs D σ H := h
def ItS (g : TG) (tb : TS) (D : Ends) (σ : L2.St) : VK := fun x H1 => ∃ z, x = .str z ∧ LoopJ (Its z) g tb D σ H1
theorem g_forS (h : te σ H (ItS g tbs D σ)) : tFor (iStr te) g tbs D σ H := h
def ItR1 (g : TG) (tb : TS) (D : Ends) (σ : L2.St) (vs : List V) (H1 : Hp) : Prop := ∃ j, vs = [.int j] ∧ -(2 ^ 62) ≤ j ∧ j < 2 ^ 62 ∧ LoopJ (Itr 0 j.toNat) g tb D σ H1
theorem g_forR1 (h : ts σ H (ItR1 g tbs D σ)) : tFor (iRng1 ts) g tbs D σ H := h
def ItR2 (g : TG) (tb : TS) (D : Ends) (σ : L2.St) (vs : List V) (H1 : Hp) : Prop := ∃ lo hi, vs = [.int lo, .int hi] ∧ (-(2 ^ 62) ≤ lo ∧ lo < 2 ^ 62 ∧ -(2 ^ 62) ≤ hi ∧ hi < 2 ^ 62) ∧ LoopJ (Itr lo (hi - lo).toNat) g tb D σ H1
theorem g_forR2 (h : ts σ H (ItR2 g tbs D σ)) : tFor (iRng2 ts) g tbs D σ H := h
def ItET (K : PySem.W.Frag) (g : TG) (tb : TS) (D : Ends) (σ : L2.St) (vs : List V) (H1 : Hp) : Prop := ∃ a xs, vs = [.ref a] ∧ SqT K H1 a xs ∧ LoopJ (IteT K a xs.length) g tb D σ H1
theorem g_forET (h : ts σ H (ItET K g tbs D σ)) : tFor (iEnumT K ts) g tbs D σ H := h
theorem g_gcons {t : TG} {u : TGs} {x : V} {r : List V} {Q : L2.St → Hp → Prop} (h : t x σ H fun σ' H' => u r σ' H' Q) : gCons t u (x :: r) σ H Q := ⟨x, r, rfl, h⟩
theorem g_gnil {Q : L2.St → Hp → Prop} (h : Q σ H) : gNil [] σ H Q := ⟨rfl, h⟩
/-! comprehensions -/
/-- the turns of a list comprehension over J -/
def LcJ (J : It) (g : TG) (tt : TT) (te : TE) (vs : List Nat) (σ : L2.St) (Q : VK) (H : Hp) : Prop := tLc (fun _ H1 R => R J H1) g tt te vs σ H Q
variable {tt : TT} {vs : List Nat} {ti : TE}
def LcL (K : PySem.W.Frag) (g : TG) (tt : TT) (te : TE) (vs : List Nat) (σ : L2.St) (Q : VK) : VK := fun x H1 => ∃ a, x = .ref a ∧ (∃ xs, SqL K H1 a xs) ∧ LcJ (Itl K a) g tt te vs σ Q H1
theorem g_lcL (h : ti σ H (LcL K g tt te vs σ Q)) : tLc (iList K ti) g tt te vs σ H Q := h
def LcT (K : PySem.W.Frag) (g : TG) (tt : TT) (te : TE) (vs : List Nat) (σ : L2.St) (Q : VK) : VK := fun x H1 => ∃ a, x = .ref a ∧ (∃ xs, SqT K H1 a xs) ∧ LcJ (Itt K a) g tt te vs σ Q H1
theorem g_lcT (h : ti σ H (LcT K g tt te vs σ Q)) : tLc (iTup K ti) g tt te vs σ H Q := h
def LcS (g : TG) (tt : TT) (te : TE) (vs : List Nat) (σ : L2.St) (Q : VK) : VK := fun x H1 => ∃ z, x = .str z ∧ LcJ (Its z) g tt te vs σ Q H1
theorem g_lcS (h : ti σ H (LcS g tt te vs σ Q)) : tLc (iStr ti) g tt te vs σ H Q := h
def LcR1 (g : TG) (tt : TT) (te : TE) (us : List Nat) (σ : L2.St) (Q : VK) (vs : List V) (H1 : Hp) : Prop := ∃ j, vs = [.int j] ∧ -(2 ^ 62) ≤ j ∧ j < 2 ^ 62 ∧ LcJ (Itr 0 j.toNat) g tt te us σ Q H1
theorem g_lcR1 (h : ts σ H (LcR1 g tt te vs σ Q)) : tLc (iRng1 ts) g tt te vs σ H Q := h

def LcK (C : Addr) (Nx : Hp → Prop) : VK := fun y H4 => ∃ acc, H4 C = some (.lst acc) ∧ acc.length < sizeLine ∧ Nx (upd H4 C (.lst (acc ++ [y])))
def LcIf (C : Addr) (te : TE) (σ2 : L2.St) (Nx : Hp → Prop) : Bool → Hp → Prop := fun b H3 => if b = true then te σ2 H3 (LcK C Nx) else Nx H3
theorem g_lcIfT {C : Addr} {Nx : Hp → Prop} (h : te σ H (LcK C Nx)) : LcIf C te σ Nx true H := iteT h
theorem g_lcIfF {C : Addr} {Nx : Hp → Prop} (h : Nx H) : LcIf C te σ Nx false H := iteF h
theorem g_yes {Q : Bool → Hp → Prop} (h : Q true H) : tYes σ H Q := h
/-! fields -/
def Fl (K : PySem.W.Frag) (f : Str) (Q : VK) : VK := fun x H1 => ∃ a C dx fs v, x = .ref a ∧ H1 a = some (.ins C dx fs) ∧ Cls K C ∧ NoAttr K C f ∧ fs.lookup f = some v ∧ Q v H1
theorem g_fld {f : Str} (h : ta σ H (Fl K f Q)) : tFld K ta f σ H Q := h
def Pr (C : Addr) (sp : Sp) (Q : VK) : VK := fun x H1 => ∃ a dx fs, x = .ref a ∧ H1 a = some (.ins C dx fs) ∧ sp [.ref a] H1 Q E0
theorem g_prop {C : Addr} {sp : Sp} (h : ta σ H (Pr C sp Q)) : tPropR C sp ta σ H Q := h
def Mt (C : Addr) (m : Str) (sp : Sp) (E : XK) (ts : TA) (σ : L2.St) (Q : VK) : VK := fun x H1 => ∃ a dx fs, x = .ref a ∧ H1 a = some (.ins C dx fs) ∧ fs.lookup m = none ∧ ts σ H1 fun vs H2 => sp (x :: vs) H2 Q E
theorem g_meth {C : Addr} {m : Str} {sp : Sp} {E : XK} (h : ta σ H (Mt C m sp E ts σ Q)) : tMethR C m sp E ta ts σ H Q := h
def MkK (C : Addr) (sp : Sp) (E : XK) (Q : VK) (vs : List V) (H1 : Hp) : Prop := ∀ x dx, H1 x = none → H1 dx = none → dx ≠ x → sp (.ref x :: vs) (upd (upd H1 dx (.own x)) x (.ins C dx [])) (fun v H2 => v = .non ∧ Q (.ref x) H2) E
theorem g_make {C : Addr} {sp : Sp} {E : XK} (h : ts σ H (MkK C sp E Q)) : StX.tMakeR C sp E ts σ H Q := h
def St1 (K : PySem.W.Frag) (Q : List V → Hp → Prop) : VK := fun y H1 => ∃ a xs, y = V.ref a ∧ (SqT K H1 a xs ∨ SqL K H1 a xs) ∧ Q xs H1
theorem g_star1 {Q : List V → Hp → Prop} (h : te σ H (St1 K Q)) : tStar1 K te σ H Q := h
def StA (K : PySem.W.Frag) (t : TA) (σ : L2.St) (Q : List V → Hp → Prop) : VK := fun x H1 => ∃ p xs, x = V.ref p ∧ (SqT K H1 p xs ∨ SqL K H1 p xs) ∧ t σ H1 fun ys H2 => Q (xs ++ ys) H2
theorem g_star {Q : List V → Hp → Prop} (h : te σ H (StA K ts σ Q)) : StX.tStar K te ts σ H Q := h
def SFl (K : PySem.W.Frag) (f : Str) (y : V) (D : Ends) (σ : L2.St) : VK := fun x H2 => ∃ a C dx fs, x = .ref a ∧ H2 a = some (.ins C dx fs) ∧ Cls K C ∧ NoAttr K C f ∧ fs.length < 1000 ∧ D.nx σ (upd H2 a (.ins C dx (putF f y fs)))
theorem g_sfld {f : Str} {tv : TE} (h : tv σ H fun y H1 => ta σ H1 (SFl K f y D σ)) : sFld K ta tv f D σ H := h
/-! words between -/
/-! while -/
/-! a, b = x, y -/
def ParK (i j : Nat) (D : Ends) (σ : L2.St) (vs : List V) (H1 : Hp) : Prop := ∃ v w, vs = [v, w] ∧ D.nx ((σ.set i (some v)).set j (some w)) H1
theorem g_par {i j : Nat} (h : ts σ H (ParK i j D σ)) : tPar i j ts D σ H := h
theorem n_par {i j : Nat} {v w : V} {σ' : L2.St} (e : (σ.set i (some v)).set j (some w) = σ') (h : D.nx σ' H) : ParK i j D σ [v, w] H := ⟨v, w, rfl, by rw [e]; exact h⟩
def ParK3 (i j l : Nat) (D : Ends) (σ : L2.St) (vs : List V) (H1 : Hp) : Prop := ∃ u v w, vs = [u, v, w] ∧ D.nx (((σ.set i (some u)).set j (some v)).set l (some w)) H1
theorem g_par3 {i j l : Nat} (h : ts σ H (ParK3 i j l D σ)) : tPar3 i j l ts D σ H := h
theorem n_par3 {i j l : Nat} {u v w : V} {σ' : L2.St} (e : ((σ.set i (some u)).set j (some v)).set l (some w) = σ') (h : D.nx σ' H) : ParK3 i j l D σ [u, v, w] H := ⟨u, v, w, rfl, by rw [e]; exact h⟩
def AugK (i : Nat) (D : Ends) (σ : L2.St) : VK := fun z H2 => D.nx (σ.set i (some z)) H2
theorem g_aug {i : Nat} {x : V} {tip : TIp} (e : σ[i]? = some (some x)) (h : te σ H fun y H1 => tip x y H1 (AugK i D σ)) : tAug i te tip D σ H := ⟨x, e, h⟩
theorem n_aug {i : Nat} {z : V} {σ' : L2.St} (e : σ.set i (some z) = σ') (h : D.nx σ' H) : AugK i D σ z H := by subst e; exact h
theorem g_ipI {f : Int → Int → Int} {i j : Int} (h : Q (.int (f i j)) H) : ipI f (.int i) (.int j) H Q := ⟨i, j, rfl, rfl, h⟩
theorem g_rAdd {i j : Int} (h : Q (.int (i + j)) H) : rAdd (.int i) (.int j) H Q := ⟨i, j, rfl, rfl, h⟩
theorem g_rSub {i j : Int} (h : Q (.int (i - j)) H) : rSub (.int i) (.int j) H Q := ⟨i, j, rfl, rfl, h⟩
def FAK (K : PySem.W.Frag) (f : Str) (tv : TE) (rd : V → V → Hp → VK → Prop) (D : Ends) (σ : L2.St) : VK := fun x H => sFldAug K (fun _ H1 R => R x H1) tv rd f D σ H
theorem g_fldaug {f : Str} {tv : TE} {rd : V → V → Hp → VK → Prop} (h : ta σ H (FAK K f tv rd D σ)) : sFldAug K ta tv rd f D σ H := h
theorem g_sumL {a : Addr} {ns : List Int} (h1 : SqL K H a (ns.map V.int)) (h : Q (.int ns.sum) H) : rSum K [.ref a] H Q := ⟨a, ns, rfl, h1, h⟩
theorem g_all {a : Addr} {bs : List Bool} (h1 : SqL K H a (bs.map V.bl)) (h : Q (.bl (bs.all id)) H) : rAll K [.ref a] H Q := ⟨a, bs, rfl, h1, h⟩
/-! a comprehension whose i-th item is f i -/
end
end HC

/-! short words for terms -/
namespace HC
open PyProof.Rows PySem L2 PySem.Spec
theorem bt_len : bootBuiltins "len" = some (.builtin "len") := by decide +kernel
theorem bt_min : bootBuiltins "min" = some (.builtin "min") := by decide +kernel
theorem bt_all : bootBuiltins "all" = some (.builtin "all") := by decide +kernel
theorem bt_sum : bootBuiltins "sum" = some (.builtin "sum") := by decide +kernel
theorem bt_isinstance : bootBuiltins "isinstance" = some (.builtin "isinstance") := by decide +kernel
theorem bt_list : bootBuiltins "list" = some (.type "list") := by decide +kernel
theorem bt_tuple : bootBuiltins "tuple" = some (.type "tuple") := by decide +kernel
theorem bt_int : bootBuiltins "int" = some (.type "int") := by decide +kernel
theorem bt_bool : bootBuiltins "bool" = some (.type "bool") := by decide +kernel
/-- the builtins' names are not the module's -/
structure Bts (mg : Str → Option Value) : Prop where
  len : mg "len" = none
  abs : mg "abs" = none
  min : mg "min" = none
  max : mg "max" = none
  all : mg "all" = none
  any : mg "any" = none
  sum : mg "sum" = none
  isinstance : mg "isinstance" = none
  list : mg "list" = none
  tuple : mg "tuple" = none
  int : mg "int" = none
  str : mg "str" = none
  bool : mg "bool" = none
  dict : mg "dict" = none
  range : mg "range" = none
  enumerate : mg "enumerate" = none
  zip : mg "zip" = none
  sorted : mg "sorted" = none
  set : mg "set" = none
def GInt (mg : Str → Option Value) (x : Str) (i : Int) : Prop := ∃ t, mg x = some (.int i t)
def GStr (mg : Str → Option Value) (x : Str) (z : Str) : Prop := ∃ t, mg x = some (.str z t)
/-- the class x (at C) has the int constant f -/
structure GCon (K : PySem.W.Frag) (mg : Str → Option Value) (x f : Str) (v : V) : Prop where
  ex : ∃ C mc u, mg x = some (.ref C) ∧ ClX.CRead K C mc ∧ ClX.CVal K C mc f v u
section
variable {X : Cx} {e e2 o : Expr} {es : List Expr} {te te2 to : TE} {ts : TA} {p pos apos tpos : Pos} {x f : Str}
theorem pe_gi {i : Int} (h : GInt X.mg x i) (hg : Gl X x := by rfl) (hd : (x == ("__debug__" : Str)) = false := by decide) : PE X (.Name x pos) (tC (.int i)) := by
  obtain ⟨t, h⟩ := h
  exact pe_glob hg h ⟨t, rfl⟩ hd
theorem pe_gs {z : Str} (h : GStr X.mg x z) (hg : Gl X x := by rfl) (hd : (x == ("__debug__" : Str)) = false := by decide) : PE X (.Name x pos) (tC (.str z)) := by
  obtain ⟨t, h⟩ := h
  exact pe_glob hg h ⟨t, rfl⟩ hd
theorem pe_gcon {v : V} (h : GCon X.K X.mg x f v) (hg : Gl X x := by rfl) (hb : attributeBase (.Name x p) f X.env (eval (.Name x p) X.env) = eval (.Name x p) X.env := by rfl) (hd : (x == ("__debug__" : Str)) = false := by decide) : PE X (.Attribute (.Name x p) f pos) (tC v) := by
  obtain ⟨C, mc, u, h1, h2, h3⟩ := h.ex
  exact ⟨fun pins s σ H Q I h => (ClX.pe_cval (pe_glob (v := .ref C) hg h1 rfl hd) hb).run pins s σ H Q I ⟨C, mc, v, u, rfl, h2, h3, h⟩⟩
theorem pe_len0 (m : Bts X.mg) (he : PE X e te) (hg : Gl X "len" := by rfl) (hs : starEach (e :: []) X.env = (false, eval e X.env) :: starEach [] X.env := by rfl) : PE X (.Call (.Name "len" p) [e] [] pos) (tCB (uLen X.K) (tCons te tNil)) :=
  pe_callB call_lenU hg m.len bt_len (pa_cons he pa_nil hs) (by decide) (by decide) hs rfl
theorem pe_len (K' : PySem.W.Frag) (m : Bts X.mg) (he : PE X e te) (hg : Gl X "len" := by rfl) (hs : starEach (e :: []) X.env = (false, eval e X.env) :: starEach [] X.env := by rfl) (hK : X.K = K' := by rfl) : PE X (.Call (.Name "len" p) [e] [] pos) (tCB (uLen K') (tCons te tNil)) := by
  subst hK
  exact pe_len0 m he hg hs
def rAbs : List V → Hp → VK → Prop := fun xs H Q => ∃ i, xs = [.int i] ∧ Q (.int (if i < 0 then -i else i)) H
def rMin2 : List V → Hp → VK → Prop := fun xs H Q => ∃ i j, xs = [.int i, .int j] ∧ Q (.int (if j < i then j else i)) H
theorem pe_min2 (m : Bts X.mg) (ha : PA X [e, e2] ts) (hc : X.calm = true := by rfl) (hg : Gl X "min" := by rfl) (he : starEach [e, e2] X.env = (false, eval e X.env) :: starEach [e2] X.env := by rfl) (hpl : (backTo pos (starEach [e2] X.env)).any (·.1) = false := by rfl) :
    PE X (.Call (.Name "min" p) [e, e2] [] pos) (tCB rMin2 ts) := pe_callB (call_min2 hc) hg m.min bt_min ha (by decide) (by decide) he hpl
theorem pe_sum10 (m : Bts X.mg) (he : PE X e te) (hc : X.calm = true := by rfl) (hg : Gl X "sum" := by rfl) (hs : starEach (e :: []) X.env = (false, eval e X.env) :: starEach [] X.env := by rfl) : PE X (.Call (.Name "sum" p) [e] [] pos) (tCB (rSum X.K) (tCons te tNil)) :=
  pe_callB (cr_sum hc) hg m.sum bt_sum (pa_cons he pa_nil hs) (by decide) (by decide) hs rfl
theorem pe_sum1 (K' : PySem.W.Frag) (m : Bts X.mg) (he : PE X e te) (hc : X.calm = true := by rfl) (hg : Gl X "sum" := by rfl) (hs : starEach (e :: []) X.env = (false, eval e X.env) :: starEach [] X.env := by rfl) (hK : X.K = K' := by rfl) : PE X (.Call (.Name "sum" p) [e] [] pos) (tCB (rSum K') (tCons te tNil)) := by
  subst hK
  exact pe_sum10 m he hc hg hs
theorem pe_all0 (m : Bts X.mg) (he : PE X e te) (hc : X.calm = true := by rfl) (hg : Gl X "all" := by rfl) (hs : starEach (e :: []) X.env = (false, eval e X.env) :: starEach [] X.env := by rfl) : PE X (.Call (.Name "all" p) [e] [] pos) (tCB (rAll X.K) (tCons te tNil)) :=
  pe_callB (cr_all hc) hg m.all bt_all (pa_cons he pa_nil hs) (by decide) (by decide) hs rfl
theorem pe_all (K' : PySem.W.Frag) (m : Bts X.mg) (he : PE X e te) (hc : X.calm = true := by rfl) (hg : Gl X "all" := by rfl) (hs : starEach (e :: []) X.env = (false, eval e X.env) :: starEach [] X.env := by rfl) (hK : X.K = K' := by rfl) : PE X (.Call (.Name "all" p) [e] [] pos) (tCB (rAll K') (tCons te tNil)) := by
  subst hK
  exact pe_all0 m he hc hg hs
def rInt1 : List V → Hp → VK → Prop := fun xs H Q => (∃ i, xs = [.int i] ∧ Q (.int i) H) ∨ ∃ k, xs = [.bl k] ∧ Q (.int (if k then 1 else 0)) H
theorem pe_int1 (m : Bts X.mg) (he : PE X e te) (hg : Gl X "int" := by rfl) (hs : starEach (e :: []) X.env = (false, eval e X.env) :: starEach [] X.env := by rfl) : PE X (.Call (.Name "int" p) [e] [] pos) (tCB rInt1 (tCons te tNil)) :=
  pe_callTy call_int1 hg m.int bt_int (pa_cons he pa_nil hs) (by decide) (by decide) hs rfl
def rTupleOf (K : PySem.W.Frag) : List V → Hp → VK → Prop := fun xs H Q => ∃ p ys, xs = [.ref p] ∧ ((SqL K H p ys ∧ ∀ l, H l = none → Q (.ref l) (upd H l (.tup ys))) ∨ (SqT K H p ys ∧ Q (.ref p) H))
theorem pe_tupOf0 (m : Bts X.mg) (he : PE X e te) (hg : Gl X "tuple" := by rfl) (hs : starEach (e :: []) X.env = (false, eval e X.env) :: starEach [] X.env := by rfl) : PE X (.Call (.Name "tuple" p) [e] [] pos) (tCB (rTupleOf X.K) (tCons te tNil)) :=
  pe_callTy call_tuple_of hg m.tuple bt_tuple (pa_cons he pa_nil hs) (by decide) (by decide) hs rfl
theorem pe_tupOf (K' : PySem.W.Frag) (m : Bts X.mg) (he : PE X e te) (hg : Gl X "tuple" := by rfl) (hs : starEach (e :: []) X.env = (false, eval e X.env) :: starEach [] X.env := by rfl) (hK : X.K = K' := by rfl) : PE X (.Call (.Name "tuple" p) [e] [] pos) (tCB (rTupleOf K') (tCons te tNil)) := by
  subst hK
  exact pe_tupOf0 m he hg hs
/-- isinstance(e, T), T a built-in class -/
theorem pe_isiB0 {T : String} {n : Str} (m : Bts X.mg) (hn : X.mg n = none) (hb : bootBuiltins n = some (.type T)) (he : PE X e te) (hg : Gl X "isinstance" := by rfl) (hg2 : Gl X n := by rfl) (hd1 : n ≠ "__name__" := by decide) (hd2 : (n == ("__debug__" : Str)) = false := by decide)
    (hs : starEach [e, .Name n tpos] X.env = (false, eval e X.env) :: starEach [.Name n tpos] X.env := by rfl) (hs2 : starEach [.Name n tpos] X.env = (false, eval (.Name n tpos) X.env) :: starEach [] X.env := by rfl) (hpl : (backTo pos (starEach [.Name n tpos] X.env)).any (·.1) = false := by rfl) :
    PE X (.Call (.Name "isinstance" p) [e, .Name n tpos] [] pos) (tCB (rIsi X.K) (tCons te (tCons (tC (.ty T)) tNil))) :=
  pe_callB (p := p) (pos := pos) call_isi hg m.isinstance bt_isinstance (pa_cons he (pa_cons (pe_bltn (pos := tpos) (v := .ty T) hg2 hn hb rfl hd1 hd2) pa_nil hs2) hs) (by decide) (by decide) hs hpl
theorem pe_isiB (K' : PySem.W.Frag) {T : String} {n : Str} (m : Bts X.mg) (hn : X.mg n = none) (hb : bootBuiltins n = some (.type T)) (he : PE X e te) (hg : Gl X "isinstance" := by rfl) (hg2 : Gl X n := by rfl) (hd1 : n ≠ "__name__" := by decide) (hd2 : (n == ("__debug__" : Str)) = false := by decide)
    (hs : starEach [e, .Name n tpos] X.env = (false, eval e X.env) :: starEach [.Name n tpos] X.env := by rfl) (hs2 : starEach [.Name n tpos] X.env = (false, eval (.Name n tpos) X.env) :: starEach [] X.env := by rfl) (hpl : (backTo pos (starEach [.Name n tpos] X.env)).any (·.1) = false := by rfl) (hK : X.K = K' := by rfl) :
    PE X (.Call (.Name "isinstance" p) [e, .Name n tpos] [] pos) (tCB (rIsi K') (tCons te (tCons (tC (.ty T)) tNil))) := by
  subst hK
  exact pe_isiB0 m hn hb he hg hg2 hd1 hd2 hs hs2 hpl
/-! methods of built-in types -/
variable {K : PySem.W.Frag} {H : Hp} {Q : VK} {σ : L2.St}
end
section
variable {X : Cx} {K : PySem.W.Frag} {H : Hp} {Q : VK} {σ : L2.St}
theorem g_abs {i : Int} (h : Q (.int (if i < 0 then -i else i)) H) : rAbs [.int i] H Q := ⟨i, rfl, h⟩
theorem g_min2 {i j : Int} (h : Q (.int (if j < i then j else i)) H) : rMin2 [.int i, .int j] H Q := ⟨i, j, rfl, h⟩
theorem g_max2 {i j : Int} (h : Q (.int (if j > i then j else i)) H) : Evl.rMax2 [.int i, .int j] H Q := ⟨i, j, rfl, h⟩
theorem g_int_i {i : Int} (h : Q (.int i) H) : rInt1 [.int i] H Q := .inl ⟨i, rfl, h⟩
theorem g_int_b {k : Bool} (h : Q (.int (if k then 1 else 0)) H) : rInt1 [.bl k] H Q := .inr ⟨k, rfl, h⟩
theorem g_tupOf_l {p : Addr} {ys : List V} (h1 : SqL K H p ys) (h : ∀ l H', H l = none → Same H H' → H' l = some (.tup ys) → Q (.ref l) H') : rTupleOf K [.ref p] H Q := ⟨p, ys, rfl, .inl ⟨h1, fun l hl => h l _ hl (same_new hl) upd_same⟩⟩
theorem g_tupOf_t {p : Addr} {ys : List V} (h1 : SqT K H p ys) (h : Q (.ref p) H) : rTupleOf K [.ref p] H Q := ⟨p, ys, rfl, .inr ⟨h1, h⟩⟩
theorem g_isi {x : V} {t T : String} {b : Bool} (h1 : TyX K H x (.type t)) (h2 : kitB t T = some b) (h : Q (.bl b) H) : rIsi K [x, .ty T] H Q := ⟨x, .ty T, .type t, .type T, b, rfl, .ty T, h1, kit_ty h2, h⟩
end

section
variable {X : Cx} {K : PySem.W.Frag} {a b e e2 o value : Expr} {es : List Expr} {ta tb te to tl : TE} {ts : TA} {p pos apos cpos tpos p2 pos' : Pos} {f name : Str}
theorem op_addK (K) (hK : X.K = K := by rfl) : OpR X (binaryOp .Add) (uAdd K) := by subst hK; exact op_addU
theorem op_eqK (K) {k : Nat} (hr : Room k X.A) (hK : X.K = K := by rfl) : OpR X (compareOp .Eq) (uEq K) := by subst hK; exact op_eqU hr
theorem op_neK (K) {k : Nat} (hr : Room k X.A) (hK : X.K = K := by rfl) : OpR X (compareOp .NotEq) (uNe K) := by subst hK; exact op_neU hr
theorem op_inK (K) {k : Nat} (hr : Room k X.A) (hK : X.K = K := by rfl) : OpR X (compareOp .In) (uIn K) := by subst hK; exact op_inU hr
theorem ix_K (K) (hK : X.K = K := by rfl) : IxR X (rIx K) := by subst hK; exact ix_seq
theorem pe_fldK (K) (he : PE X e ta) (hb : attributeBase e f X.env (eval e X.env) = eval e X.env := by rfl) (hK : X.K = K := by rfl) : PE X (.Attribute e f pos) (tFld K ta f) := by subst hK; exact pe_fld he hb
theorem ps_fldK (K) (ha : PE X o ta) (hv : PE X value te) (hs : swapsWith value (some (.Attribute o f pos')) pos.line X.env = pure false := by rfl) (hK : X.K = K := by rfl) : PS X (.Assign [.Attribute o f pos'] value pos) (sFld K ta te f) := by subst hK; exact ps_fld ha hv hs
theorem as_bm (K) {c : Expr} {T : String} {r : V → List V → Hp → VK → Prop} (h : PE X c (tBM X.K T r to ts)) (hK : X.K = K := by rfl) : PE X c (tBM K T r to ts) := by subst hK; exact h
theorem pi_enumTK (K) {elts : List Expr} {kk : Nat} (hg : Gl X "enumerate") (hm : X.mg "enumerate" = none) (ha : PA X [e] ts) (hs : starEach [e] X.env = [(false, eval e X.env)] := by rfl) (hK : X.K = K := by rfl) :
    PI X (.Tuple elts kk tpos) (.Call (.Name "enumerate" p) [e] [] pos) (iEnumT K ts) := by subst hK; exact pi_enumT hg hm ha hs
theorem pi_zipK (K) {elts : List Expr} {kk : Nat} (hg : Gl X "zip") (hm : X.mg "zip" = none) (ha : PA X [e, e2] ts) (hs : starEach [e, e2] X.env = (false, eval e X.env) :: starEach [e2] X.env := by rfl) (hpl : (backTo pos (starEach [e2] X.env)).any (·.1) = false := by rfl) (hK : X.K = K := by rfl) :
    PI X (.Tuple elts kk tpos) (.Call (.Name "zip" p) [e, e2] [] pos) (RZ.iZipA K ts) := by subst hK; exact RZ.pi_zipA hg hm ha hs hpl
theorem pg_tupK (K) {k : Nat} {t : TGs} {n : Nat} (hc : X.calm = true) (h : PGs X es t) (hn : (assignEach es X.env).length = n := by rfl) (hst : (assignEach es X.env).findIdx? (·.1) = none := by rfl) (hK : X.K = K := by rfl) : PG X (.Tuple es k pos) (gTup K n t) := by subst hK; exact pg_tup hc h hn hst
theorem pe_makeSK (K) {x : Str} {C : Addr} {k : Nat} {sp : Sp} {E : XK} (M : MakeR X.prog X.w X.K X.mg X.base x C k sp) (hr : Room (k + 1) X.A) (hx : Passes (CXW X.prog X.w) X E) (he : PE X e te) (hg : Gl X x := by rfl) (hd : (x == ("__debug__" : Str)) = false := by decide)
    (hst : starEach [.Starred e apos] X.env = [(true, eval e X.env)] := by rfl) (hK : X.K = K := by rfl) : PE X (.Call (.Name x p) [.Starred e apos] [] pos) (StX.tMakeR C sp E (tStar1 K te)) := by subst hK; exact pe_makeS M hr hx he hg hd hst
end
end HC

/-! the head's facts: defs at any address, facts by names, properties, constants of classes -/
namespace HC
open PySem PySem.W PySem.Calls PyProof.Rows He He5 L2
/-- a property's getter -/
def pgA (K : Frag) (C : Addr) (f : PySem.Str) : Addr := match recIn K (ma K C f) "property" with
  | some (.ref g :: _) => g
  | _ => 0
def propB (K : Frag) (C : Addr) (f : PySem.Str) : Bool := eqO (findIn K (.ref C) f) (some (some (.ref (ma K C f)))) && (eqO (specialIn K (.ref (ma K C f)) "__get__") (some (some (.builtin "property.__get__"))) &&
  (decide (takesIn K (.ref (ma K C f)) = some true) && (match recIn K (ma K C f) "property" with
    | some (.ref _ :: _) => true
    | _ => false)))
theorem propB_ok {K : Frag} {C : Addr} {f : PySem.Str} (h : propB K C f = true) : PropOf K C f (ma K C f) (pgA K C f) := by
  obtain ⟨h1, h⟩ := ba h
  obtain ⟨h2, h⟩ := ba h
  obtain ⟨h3, h4⟩ := ba h
  refine ⟨eqO_ok h1, eqO_ok h2, of_decide_eq_true h3, ?_⟩
  unfold pgA
  split at h4
  · rename_i g r e
    exact ⟨r, by rw [e]⟩
  · cases h4
def gconB (K : Frag) (C : Addr) (f : PySem.Str) (v : V) : Bool := readsIn K C (.type "type") && (eqO (specialIn K (.ref C) "__getattribute__") (some (some (.builtin "type.__getattribute__"))) && (match findCls K (.ref C) (.type "type") f with
  | some (.val u) => relB v u
  | _ => false))
theorem gconB_ok {K : Frag} {mg : PySem.Str → Option Value} {x f : PySem.Str} {C : Addr} {v : V} (hx : mg x = some (.ref C)) (h : gconB K C f v = true) : GCon K mg x f v := by
  obtain ⟨h1, h⟩ := ba h
  obtain ⟨h2, h3⟩ := ba h
  split at h3
  · rename_i u e
    exact ⟨C, .type "type", u, hx, ⟨h1, eqO_ok h2⟩, ⟨e, relB_ok h3⟩⟩
  · cases h3
/-- facts that He.Fa has no word for -/
inductive Fx where
  | prop (c f : PySem.Str)
  | con (c f : PySem.Str) (v : V)
def Fx.ok (K : Frag) : Fx → Bool
  | .prop c f => propB K (ga K c) f
  | .con c f v => gconB K (ga K c) f v
structure SaysH (fx : List Fx) (fa : List Fa) (fn : List DefA) (K : Frag) : Prop where
  base : SaysA fa fn K
  also : fx.all (Fx.ok K) = true
theorem SaysH.more {fx : List Fx} {fa : List Fa} {fn : List DefA} {K : Frag} (c : SaysH fx fa fn K) (i : Nat) {f : Fx} (at_ : fx[i]? = some f := by rfl) : f.ok K = true :=
  (List.all_eq_true.mp c.also) f (List.mem_of_getElem? at_)
end HC

/-! own operators, and makers with a star and a keyword -/
namespace HC
open PyProof.Rows PySem L2 PySem.Spec
section
variable {X : Cx} {k : Nat} {C : Addr} {sp : Sp} {m : Str}
/-- an instance's address, as its class asks it -/
theorem instAt {pins : List (Addr × Obj)} {s : Shared} {σ : L2.St} {H : Hp} {a C dx : Addr} {fs : List (Str × V)} (inv : L2.Inv X pins σ H s) (at_ : H a = some (.ins C dx fs)) : ∃ ox od, PySem.W.InstAt s.heap a ox C od := by
  obtain ⟨mA, obj, _⟩ := ins_get inv.hok at_
  obtain ⟨od, is, _⟩ := obj.look
  exact ⟨_, _, is⟩
/-- a value of ours is never NotImplemented -/
theorem cmpBack {pins : List (Addr × Obj)} {σ : L2.St} {Q : VK} {v : Value} {s : Shared} (h : EP X pins σ Q v s) : PySem.W.CmpBack (EP X pins σ Q) v s := by
  obtain ⟨x, H, inv, rel, q⟩ := h
  cases v <;> first | exact ⟨x, H, inv, rel, q⟩ | (cases x <;> simp [L2.RelV] at rel)
/-- x op y by the own method of x's class, both of the class at C -/
def rOwn2 (C : Addr) (sp : Sp) : R2 := fun x y H Q => ∃ a b dx dy fs gs, x = .ref a ∧ y = .ref b ∧ H a = some (.ins C dx fs) ∧ H b = some (.ins C dy gs) ∧ sp [.ref a, .ref b] H Q E0
theorem op_own2 {op : Operator} (M : MethR X.prog X.w X.K X.mg X.base C m k sp) (self : PySem.W.selfFirst X.K C = true) (room : Room k X.A) (nm : PySem.dunder op.info.2 = m := by first | rfl | decide) : OpR X (binaryOp op) (rOwn2 C sp) := by
  rintro pins s σ H _ _ v u Q inv rv ru ⟨a, b, dx, dy, fs, gs, rfl, rfl, ha, hb, owed⟩
  cases rv
  cases ru
  obtain ⟨ox, od, isA⟩ := instAt inv ha
  obtain ⟨oy, od', isB⟩ := instAt inv hb
  obtain ⟨mm, fr⟩ := inv.fr
  have called := run_fnR (us := [.ref a, .ref b]) (vs := [V.ref a, V.ref b]) M.fn room passN inv (.cons (by rfl) (.cons (by rfl) .nil)) owed
  exact PySem.W.binop_K fr inv.mod.kin isA isB.type self (nm ▸ M.at_.at_) M.at_.fn (wpAny_mono (wpAny_call called) (fun _ _ => cmpBack) fun _ _ z => z)
end
section
variable {P : Program} {w : World} {K : PySem.W.Frag}
variable {mg : Str → Option Value} {base : Heap} {k : Nat} {f : Addr} {sp : Sp}
/-- a def called by place and with the keyword kw: sp is told of the keyword's value, then of the others -/
def FnRK (P : Program) (w : World) (K : PySem.W.Frag) (mg : Str → Option Value) (base : Heap) (k : Nat) (f : Addr) (kw : Str) (sp : Sp) : Prop :=
  ∀ (A : Around) (outer : List Env) (s : Shared) (H : Hp) (us : List Value) (vs : List V) (u : Value) (z : V) (Q : VK) (E : XK), Room k A → Env0 P w K mg base A outer s H → Vals vs us → L2.RelV z u → sp (z :: vs) H Q E →
    codeAny (model P w) A (.call (.ref f) ⟨us, [(kw, u)]⟩) (CR (CXW P w) outer P w H s Q E) s
end
/-- the class x at C is made by an __init__ that keeps sp, the keyword kw given -/
structure MakeRK (P : Program) (w : World) (K : PySem.W.Frag) (mg : Str → Option Value) (base : Heap) (x : Str) (C : Addr) (k : Nat) (kw : Str) (sp : Sp) : Prop where
  at_ : mg x = some (.ref C)
  ex : ∃ f, Mk K C f ∧ FnRK P w K mg base k f kw sp
section
variable {X : Cx} {k : Nat} {C f : Addr} {sp : Sp} {E : XK} {x kw : Str} {e ke : Expr} {es : List Expr} {te tk : TE} {t : TA} {p pos apos kpos : Pos}
/-- what the maker owes: the new instance and its dict, then __init__ -/
def Makes (C : Addr) (sp : Sp) (E : XK) (Q : VK) (z : V) (vs : List V) (H : Hp) : Prop := ∀ x dx, H x = none → H dx = none → dx ≠ x → sp (z :: V.ref x :: vs) (upd (upd H dx (.own x)) x (.ins C dx [])) (fun v H2 => v = .non ∧ Q (.ref x) H2) E
/-- one keyword's value, then the maker -/
def KwMk (C : Addr) (sp : Sp) (E : XK) (Q : VK) (vs : List V) (zs : List V) (H : Hp) : Prop := ∃ z, zs = [z] ∧ Makes C sp E Q z vs H
/-- C(e, .., kw=v) -/
def tMakeKW (C : Addr) (sp : Sp) (E : XK) (t tk : TA) : TE := fun σ H Q => t σ H fun vs H1 => tk σ H1 (KwMk C sp E Q vs)
/-- C( *e, kw=v): e's value, the keyword's, then e's items -/
def tMakeSKW (K : PySem.W.Frag) (C : Addr) (sp : Sp) (E : XK) (te : TE) (tk : TA) : TE := fun σ H Q => te σ H fun y H1 => tk σ H1 fun zs H2 => ∃ a xs, y = V.ref a ∧ (SqT K H2 a xs ∨ SqL K H2 a xs) ∧ KwMk C sp E Q xs zs H2
end
section
variable {X : Cx} {K : PySem.W.Frag} {H : Hp} {Q : VK} {σ : L2.St} {C : Addr} {sp : Sp} {E : XK} {t tk : TA} {te : TE} {c : Expr}
theorem g_mkw (h : t σ H fun vs H1 => tk σ H1 (KwMk C sp E Q vs)) : tMakeKW C sp E t tk σ H Q := h
/-- the items of what stood behind the star, then the maker -/
def SkwK (K : PySem.W.Frag) (C : Addr) (sp : Sp) (E : XK) (Q : VK) (y : V) (zs : List V) (H : Hp) : Prop := ∃ a xs, y = V.ref a ∧ (SqT K H a xs ∨ SqL K H a xs) ∧ KwMk C sp E Q xs zs H
theorem g_mskw (h : te σ H fun y H1 => tk σ H1 (SkwK K C sp E Q y)) : tMakeSKW K C sp E te tk σ H Q := h
end
end HC

/-! set(t) of a tuple of texts that differ, and its length -/
namespace HC
open PyProof.Rows PySem L2 PySem.Spec
section
variable {P : Program} {w : World} {A : Around} {E : Value → Shared → Prop} {s : Shared} {I S : Addr} {fp wr : List Addr} {Pv : Nat → Value → Prop} {St : Nat → Heap → Prop} {R : Result → Shared → Prop}
end
/-- len(set(e)), e a tuple of texts that differ -/
def tLenSet (K : PySem.W.Frag) (te : TE) : TE := fun σ H Q => te σ H fun y H1 => ∃ (a : Addr) (zs : List Str), y = V.ref a ∧ SqT K H1 a (zs.map V.str) ∧ zs.Nodup ∧ zs.length ≤ 1000 ∧ Q (.int zs.length) H1
/-- what len(set( .. )) asks of the tuple -/
def LsK (K : PySem.W.Frag) (Q : VK) : VK := fun y H1 => ∃ (a : Addr) (zs : List Str), y = V.ref a ∧ SqT K H1 a (zs.map V.str) ∧ zs.Nodup ∧ zs.length ≤ 1000 ∧ Q (.int zs.length) H1
theorem g_lenSet {K : PySem.W.Frag} {te : TE} {σ : L2.St} {H : Hp} {Q : VK} (h : te σ H (LsK K Q)) : tLenSet K te σ H Q := h
end HC

/-! facts carried along heaps -/
namespace HC
open PyProof.Rows PySem L2 PySem.Spec
theorem same_at {H H' : Hp} {a : Addr} {o : HO} (e : Same H H') (h : H a = some o) : H' a = some o := e _ _ h
/-! a comprehension with a test: what passes, in order -/
section
variable {α : Type} {K : PySem.W.Frag} {H : Hp} {Q : VK} {σ : L2.St} {g : TG} {tt : TT} {te : TE} {vs : List Nat}
end
/-! keeping lists of data that hold no list -/
/-! isinstance(e, (tuple, list)) -/
section
variable {X : Cx} {e : Expr} {te : TE} {p pos p1 p2 tpos : Pos} {kk : Nat} {K : PySem.W.Frag} {H : Hp} {Q : VK} {σ : L2.St}
def tIsTT (K : PySem.W.Frag) (te : TE) : TE := tCB (rIsiT K) (tCons te (tCons (tTup (tCons (tC (.ty "tuple")) (tCons (tC (.ty "list")) tNil))) tNil))
theorem pe_isiTT (K' : PySem.W.Frag) (m : Bts X.mg) (he : PE X e te) (hg : Gl X "isinstance" := by rfl) (hg1 : Gl X "tuple" := by rfl) (hg2 : Gl X "list" := by rfl)
    (hs : starEach [e, .Tuple [.Name "tuple" p1, .Name "list" p2] kk tpos] X.env = (false, eval e X.env) :: starEach [.Tuple [.Name "tuple" p1, .Name "list" p2] kk tpos] X.env := by rfl) (hK : X.K = K' := by rfl) :
    PE X (.Call (.Name "isinstance" p) [e, .Tuple [.Name "tuple" p1, .Name "list" p2] kk tpos] [] pos) (tIsTT K' te) := by
  subst hK
  exact pe_callB (p := p) (pos := pos) call_isiT hg m.isinstance bt_isinstance (pa_cons he (pa_cons (pe_tup (pa_cons (pe_bltn (v := .ty "tuple") hg1 m.tuple bt_tuple rfl (by decide) (by decide)) (pa_cons (pe_bltn (v := .ty "list") hg2 m.list bt_list rfl (by decide) (by decide)) pa_nil))) pa_nil) hs) (by decide) (by decide) hs rfl
def IsTTK (K : PySem.W.Frag) (Q : VK) : VK := fun x H1 => NewT [.ty "tuple", .ty "list"] H1 fun y H2 => rIsiT K [x, y] H2 Q
theorem g_isTT (h : te σ H (IsTTK K Q)) : tIsTT K te σ H Q := h
theorem n_isTT {x : V} {t : String} {b c : Bool} (h0 : ∀ H', Same H H' → TyX K H' x (.type t)) (h1 : kitB t "tuple" = some b) (h2 : kitB t "list" = some c) (h : ∀ H', Same H H' → Q (.bl (b || c)) H') : IsTTK K Q x H := by
  refine ⟨by simp [sizeLine_eq], fun T hT => ?_⟩
  have s := same_new (o := .tup [.ty "tuple", .ty "list"]) hT
  refine ⟨x, T, _, .type t, [.type "tuple", .type "list"], b || c, rfl, upd_same, .cons (.ty _) (.cons (.ty _) .nil), h0 _ s, ?_, h _ s⟩
  refine kitAny_cons (kit_ty h1) (fun e => ?_) (fun e => by rw [e]; rfl)
  subst e
  refine kitAny_cons (kit_ty h2) (fun e => ?_) (fun e => by rw [e]; rfl)
  subst e
  rfl
end
/-- a list or a tuple, by its type's name -/
def SqQ (K : PySem.W.Frag) (H : Hp) (T : String) (a : Addr) (xs : List V) : Prop := (T = "list" ∧ SqL K H a xs) ∨ (T = "tuple" ∧ SqT K H a xs)
theorem SqQ.same {K : PySem.W.Frag} {H H' : Hp} {T : String} {a : Addr} {xs : List V} (e : Same H H') (h : SqQ K H T a xs) : SqQ K H' T a xs := h.imp (fun z => ⟨z.1, same_l e z.2⟩) (fun z => ⟨z.1, same_t e z.2⟩)
theorem SqQ.or {K : PySem.W.Frag} {H : Hp} {T : String} {a : Addr} {xs : List V} (h : SqQ K H T a xs) : SqL K H a xs ∨ SqT K H a xs := h.imp (·.2) (·.2)
end HC

/-! list(text); dicts: made of pairs, read, stored -/
namespace HC
open PyProof.Rows PySem L2 PySem.Spec
/-- the signs of a text, one by one -/
def signs (z : Str) : List Str := z.cps.toList.map fun c => ⟨#[c]⟩
def rListS : List V → Hp → VK → Prop := fun xs H Q => ∃ z : Str, xs = [.str z] ∧ z.cps.size ≤ sizeLine ∧ ∀ l, H l = none → Q (.ref l) (upd H l (.lst ((signs z).map V.str)))
theorem vals_signs {z : Str} {acc : Array Value} (h : ItemsOf (SignAt z) acc z.cps.size) : Vals ((signs z).map V.str) acc.toList := by
  have key : ∀ (cs : List Nat) (us : List Value), cs.length = us.length → (∀ (j : Nat) v, us[j]? = some v → ∃ c u, cs[j]? = some c ∧ v = Value.str ⟨#[c]⟩ u) → Vals (cs.map fun c => V.str ⟨#[c]⟩) us := by
    intro cs
    induction cs with
    | nil => intro us hl _; cases us with | nil => exact .nil | cons _ _ => simp at hl
    | cons c cs ih =>
      intro us hl hj
      cases us with
      | nil => simp at hl
      | cons u us =>
        obtain ⟨c', t, h1, h2⟩ := hj 0 u rfl
        cases h1
        refine .cons ⟨t, h2⟩ (ih us (by simpa using hl) fun j v hv => ?_)
        exact hj (j + 1) v (by simpa using hv)
  have e : (signs z).map V.str = z.cps.toList.map fun c => V.str ⟨#[c]⟩ := by simp [signs]
  rw [e]
  refine key _ _ (by simp [h.1]) fun j v hv => ?_
  obtain ⟨c, u, h1, h2⟩ := h.2 j v (by simpa using hv)
  exact ⟨c, u, by simpa using h1, h2⟩
section
variable {X : Cx} {e o i value : Expr} {te td ty tv : TE} {p pos pos' : Pos} {K : PySem.W.Frag} {H : Hp} {Q : VK} {σ : L2.St} {D : Ends}
theorem call_list_txt (calm : X.calm = true) : CallR X (.type "list") rListS := by
  rintro pins s σ H xs us Q inv rel ⟨z, rfl, hz, q⟩
  obtain ⟨_, rfl, t, rfl⟩ := vals1 rel
  refine call_list_str (inv.ok.hd calm) z t (fun h' tk acc c kept at_ items => ?_) hz
  have rv := vals_signs items
  have len : ((signs z).map V.str).length ≤ sizeLine := by simpa [signs] using hz
  exact ⟨.ref s.heap.objs.size, _, inv.laid (t' := tk) kept (Nat.le_refl _) (show ObjOk X.prog X.w _ h' _ (.lst _) from ⟨len, acc.toList, c, rv, at_⟩), rfl, q _ (inv.hok.fresh (Nat.le_refl _))⟩
theorem pe_listTxt (m : Bts X.mg) (he : PE X e te) (calm : X.calm = true := by rfl) (hg : Gl X "list" := by rfl) (hs : starEach (e :: []) X.env = (false, eval e X.env) :: starEach [] X.env := by rfl) : PE X (.Call (.Name "list" p) [e] [] pos) (tCB rListS (tCons te tNil)) :=
  pe_callTy (call_list_txt calm) hg m.list bt_list (pa_cons he pa_nil hs) (by decide) (by decide) hs rfl
/-! dicts -/
/-- d[y]: what is asked of the dict -/
def DgK (y : V) (Q : VK) (x : V) : Hp → Prop := fun H => ∃ a v, x = .ref a ∧ DGet H a y (some v) ∧ Q v H
theorem g_dget (h : td σ H fun x H1 => ty σ H1 fun y H2 => DgK y Q x H2) : tDGet td ty σ H Q := h
def DpK (y v : V) (D : Ends) (σ : L2.St) (x : V) : Hp → Prop := fun H => ∃ a H4, x = .ref a ∧ DPut H a y v H4 ∧ D.nx σ H4
theorem g_dput (h : tv σ H fun v H1 => td σ H1 fun x H2 => ty σ H2 fun y H3 => DpK y v D σ x H3) : sDPut td ty tv D σ H := h
theorem units2 {k : Nat} {A : Around} (hr : Room k A) : A.units + 1 < cLine := by have := units65 hr; omega
end
end HC

/-! the head's facts, further ones as tests of the written part -/
namespace HC
open PySem PySem.W PySem.Calls PyProof.Rows He He5 L2
abbrev Tst := Frag → Bool
structure SaysJ (fx : List Tst) (fa : List Fa) (fn : List DefA) (K : Frag) : Prop where
  base : SaysA fa fn K
  also : (fx.all fun t => t K) = true
theorem SaysJ.more {fx : List Tst} {fa : List Fa} {fn : List DefA} {K : Frag} (c : SaysJ fx fa fn K) (i : Nat) {f : Tst} (at_ : fx[i]? = some f := by rfl) : f K = true :=
  (List.all_eq_true.mp c.also) f (List.mem_of_getElem? at_)
end HC

/-! generators: if and for in their bodies; defs and methods that are generators -/
namespace HC
open PyProof.Rows PySem L2 PySem.Spec GenW
section
variable {X : Cx} {test tg iter : Expr} {body orelse : List Stmt} {pos : Pos}
/-- if in a generator -/
def tGIf (c : TT) (t u : TGn) : TGn := fun D ys σ H => c σ H fun b H1 => if b = true then t D ys σ H1 else u D ys σ H1
/-- for in a generator: ys is what is out so far -/
def tGFor (wi : TI) (g : TG) (tb : TGn) : TGn := fun D ys σ H => wi σ H fun J H1 => ∃ W : Nat → Nat → List V → L2.St → Hp → Prop, (∃ m, W 0 m ys σ H1) ∧ ∀ i m ys σ H, W i m ys σ H →
  (J.stop i H ∧ D.nx ys σ H) ∨ (J.go i H ∧ ∃ N : List V → L2.St → Hp → Prop, (∀ ys' σ' H', N ys' σ' H' → ∃ m', m' < m ∧ W (i + 1) m' ys' σ' H') ∧ ∀ x H', J.yld i H x H' → g x σ H' fun σ2 H2 => tb { D with nx := N, ct := N, bk := D.nx } ys σ2 H2)
/-- what the code of a loop does with an exception: it is noted, then it leaves -/
abbrev noted (env : Env) (e : Value) : Sem PySem.Fin := (do noteFrame e env; theTreesLotGoes e : Sem Unit).wrap (fun _ => .raise e) .raise id id
end
end HC

/-! signs of own classes: x op int, x[i], x(..), x != y and x == y by an own __eq__ -/
namespace HC
open PyProof.Rows PySem L2 PySem.Spec
/-- what op between an instance of C and an int asks of the written part -/
structure BinI (K : PySem.W.Frag) (C : Addr) (nm : Str × Str) : Prop where
  self : PySem.W.selfFirst K C = true
  noR : PySem.W.findIn K (.ref C) nm.2 = some none
  i1 : ∃ fo, PySem.W.findIn K (.type "int") nm.1 = some fo
  i2 : ∃ ro, PySem.W.findIn K (.type "int") nm.2 = some ro
  sub : PySem.W.subIn K (.type "int") (.ref C) = some false
section
variable {X : Cx} {k : Nat} {C : Addr} {sp : Sp} {m : Str}
/-- o[i] by an own __getitem__ -/
def tOwnIx (C : Addr) (sp : Sp) (to ti : TE) : TE := fun σ H Q => to σ H fun x H1 => ti σ H1 fun i H2 => ∃ a dx fs, x = V.ref a ∧ H2 a = some (.ins C dx fs) ∧ sp [x, i] H2 Q E0
theorem pe_ownIx {o i : Expr} {to ti : TE} {pos : Pos} (M : MethR X.prog X.w X.K X.mg X.base C "__getitem__" k sp) (fi : ∀ f, Meth X.K C "__getitem__" f → PySem.W.fnIn X.K f = true) (room : Room (k + 1) X.A) (ho : PE X o to) (hi : PE X i ti)
    (plain : ∀ (a : Addr) (v : Value), subscripted i true (.ref a) v = runValue (.builtin "lifetime.subscript" ⟨[.ref a, v], []⟩) := by intro _ _; rfl) : PE X (.Subscript o i pos) (tOwnIx C sp to ti) := by
  constructor
  intro pn s σ H Q inv h
  refine Subscript_ (thn (ho.run pn s σ H _ inv h) ?_)
  rintro u s1 ⟨x, H1, inv1, rx, q1⟩
  refine thn (hi.run pn s1 σ H1 _ inv1 q1) ?_
  rintro v s2 ⟨y, H2, inv2, ry, a, dx, fs, rfl, ha, owed⟩
  cases rx
  obtain ⟨ox, od, isA⟩ := instAt inv2 ha
  obtain ⟨mm, fr⟩ := inv2.fr
  have called := M.fn X.A.in1 X.stack s2 H2 [.ref a, v] [.ref a, y] Q E0 room.in1 inv2.env0.in1 (.cons rfl (.cons ry .nil)) owed
  refine PySem.W.sub_K fr inv2.mod.kin isA M.at_.at_ (fi _ M.at_) M.at_.fn (wpAny_call (codeAny_mono called ?_)) (plain a v)
  rintro (er | fl) s3 got
  · rcases got with ⟨_, _, _, _, _, _, _, _, _, _, _, _, none_leaves⟩
    exact none_leaves.elim
  · cases fl with
    | ret val => exact inv2.after got
    | _ => exact got.elim
def OixK (C : Addr) (sp : Sp) (Q : VK) (x : V) : VK := fun i H2 => ∃ a dx fs, x = V.ref a ∧ H2 a = some (.ins C dx fs) ∧ sp [x, i] H2 Q E0
theorem g_ownIx {to ti : TE} {σ : L2.St} {H : Hp} {Q : VK} (h : to σ H fun x H1 => ti σ H1 (OixK C sp Q x)) : tOwnIx C sp to ti σ H Q := h
/-! == and != by an own __eq__ -/
structure EqO (K : PySem.W.Frag) (C : Addr) : Prop where
  ne : PySem.W.findIn K (.ref C) "__ne__" = some (some (.builtin "object.__ne__"))
  obj : PySem.W.subIn K (.ref C) (.type "object") = some true
end
end HC

/-! head, *rest = list; str(int), int(text), text.split(text), f-strings -/
namespace HC
open PyProof.Rows PySem L2 PySem.Spec
section
variable {X : Cx} {e o t1 t2 : Expr} {te to : TE} {p q pos apos : Pos} {k : Nat} {K : PySem.W.Frag} {H : Hp} {Q : VK} {σ : L2.St}
/-- the text of a number -/
def numS (i : Int) : Str := Str.ofString (toString i)
/-- f'..' of two parts and more -/
def tFs (ts : List TE) : TE := fun σ H Q => tJs ts Str.empty σ H fun out H1 => Q (.str out) H1
def FsK (ts : List TE) (acc : Str) (σ : L2.St) (Q : VK) : VK := fun x H1 => ∃ y : Str, x = .str y ∧ (acc ++ y).length ≤ sizeLine ∧ tJs ts (acc ++ y) σ H1 fun out H2 => Q (.str out) H2
theorem g_fs {t : TE} {ts : List TE} (h : t σ H (FsK ts Str.empty σ Q)) : tFs (t :: ts) σ H Q := h
def FmK (Q : VK) : VK := fun x H1 => (∃ y : Str, x = .str y ∧ y.length ≤ sizeLine ∧ Q (.str y) H1) ∨ ∃ i : Int, x = .int i ∧ i.natAbs.log2 < 1920 ∧ Q (.str (numS i)) H1
theorem g_fmt (h : te σ H (FmK Q)) : tFmt te σ H Q := h
end
end HC

/-! generator methods: their promises, list(o.m(..)); instances called; steps of generator bodies -/
namespace HC
open PyProof.Rows PySem L2 PySem.Spec
section
variable {K : PySem.W.Frag} {P : Program} {w : World} {base : Heap} {mg : Str → Option Value}
/-- the method m of the class at C is a generator that keeps sp -/
structure MethG (P : Program) (w : World) (K : PySem.W.Frag) (mg : Str → Option Value) (base : Heap) (C : Addr) (m : Str) (k : Nat) (sp : SpG) : Prop where
  cl : Cls K C
  ex : ∃ f fd ps, Meth K C m f ∧ GFn P w K mg base k f fd ps sp ∧ Binds K fd ps []
end
section
variable {X : Cx} {k : Nat} {C : Addr} {sp : SpG} {m : Str} {o e : Expr} {es : List Expr} {to : TE} {t : TA} {p q pos apos : Pos} {K : PySem.W.Frag} {H : Hp} {Q : VK} {σ : L2.St}
/-- the object, then the arguments, then what the generator promises -/
def GmK (C : Addr) (m : Str) (sp : SpG) (t : TA) (σ : L2.St) (Q : VK) : VK := fun x H1 => ∃ a dx fs, x = .ref a ∧ H1 a = some (.ins C dx fs) ∧ fs.lookup m = none ∧ t σ H1 fun vs H2 => sp (x :: (vs ++ [])) H2 (fun out H3 => ∀ p, H3 p = none → Q (.ref p) (upd H3 p (.lst out))) E0
theorem g_listM (h : to σ H (GmK C m sp t σ Q)) : tListG (tMethG C m sp [] E0 to t) σ H Q := h
end
section
variable {X : Cx} {k : Nat} {C : Addr} {sp : Sp} {fe e : Expr} {es : List Expr} {tf : TE} {t : TA} {p pos : Pos} {H : Hp} {Q : VK} {σ : L2.St}
def CiK (X : Cx) (C : Addr) (sp : Sp) (t : TA) (σ : L2.St) (Q : VK) : VK := fun y H1 => ∃ a, y = V.ref a ∧ t σ H1 fun vs H2 => StX.InsC X H2 a C ∧ sp (V.ref a :: vs) H2 Q E0
theorem g_callI (h : tf σ H (CiK X C sp t σ Q)) : StX.tCallO X C sp E0 tf t σ H Q := h
theorem insC_of {a dx : Addr} {fs : List (Str × V)} (h : H a = some (.ins C dx fs)) : StX.InsC X H a C := .inr ⟨dx, fs, h⟩
end
/-! steps of a generator's body -/
section
variable {D : GEnds} {ys : List V} {σ : L2.St} {H : Hp} {t u : TGn} {te : TE} {tp : TS} {tc : TT} {g : TG} {ts : TA}
theorem g_gthen (h : t { D with nx := fun ys' σ' H' => u D ys' σ' H' } ys σ H) : tGThen t u D ys σ H := h
theorem g_gplain (h : tp { nx := D.nx ys, rt := D.rt ys, bk := D.bk ys, ct := D.ct ys } σ H) : tPlain tp D ys σ H := h
theorem g_gif (h : tc σ H fun b H1 => if b = true then t D ys σ H1 else u D ys σ H1) : tGIf tc t u D ys σ H := h
theorem g_g0 (h : D.nx ys σ H) : tG0 D ys σ H := h
def GiR2 (g : TG) (tb : TGn) (D : GEnds) (ys : List V) (σ : L2.St) (vs : List V) (H1 : Hp) : Prop := ∃ lo hi, vs = [.int lo, .int hi] ∧ (-(2 ^ 62) ≤ lo ∧ lo < 2 ^ 62 ∧ -(2 ^ 62) ≤ hi ∧ hi < 2 ^ 62) ∧ tGFor (fun _ H2 R => R (Itr lo (hi - lo).toNat) H2) g tb D ys σ H1
theorem g_gforR2 (h : ts σ H (GiR2 g t D ys σ)) : tGFor (iRng2 ts) g t D ys σ H := h
end
end HC

/-! def f(self, *v, kw=d), called without kw -/
namespace HC
open PyProof.Rows PySem L2 PySem.Spec
section
variable {P : Program} {w : World} {K : PySem.W.Frag} {mg : Str → Option Value} {base : Heap} {k : Nat} {f : Addr} {sp : Sp}
end
end HC

/-! exceptions of own classes whose __init__ takes keywords alone -/
namespace HC
open PyProof.Rows PySem Spec HandSPX
/-- at C stands an own class below ValueError; what its line of classes holds -/
structure VeAt (h : Heap) (C : Addr) (o : Obj) (bm : List Value) : Prop where
  obj : ∃ nm q N bs hdct sn sub ab col dd k0 k1 k2 k3 k5, o = excClassObj nm q C N bs bm hdct sn sub ab col dd k0 k1 k2 k3 k5 "ValueError.__new__"
  at_ : h.get? C = some o
  ve : (Value.ref C :: bm).contains (.type "ValueError") = true
  ae : (Value.ref C :: bm).contains (.type "AttributeError") = false
  ne : (Value.ref C :: bm).contains (.type "NameError") = false
  me : (Value.ref C :: bm).contains (.ref C) = true
section
variable {prog : Program} {w : World} {A : Around} {h : Heap} {C : Addr} {o : Obj} {bm : List Value} {kw : List (Str × Value)} {g : Array GenState} {d : Drawn} {t : Nat} {os : OsState}
/-- the object that C(k=v, ..) makes, no argument by place -/
abbrev bare (h : Heap) (C : Addr) : Heap := (h.push (W.kdv_tup [])).push (excO C h.objs.size)
end
end HC
namespace HC
open PyProof.Rows PySem L2 PySem.Spec
/-- C.__init__ is ValueError's, C an own class -/
structure InitV (K : PySem.W.Frag) (mg : Str → Option Value) (b : Str) : Prop where
  ex : ∃ B, mg b = some (.ref B) ∧ PySem.W.typeIn K (.ref B) = some (.type "type") ∧ ClX.CRead K B (.type "type") ∧ PySem.W.findCls K (.ref B) (.type "type") "__init__" = some (.val (.builtin "ValueError.__init__"))
section
variable {X : Cx} {e : Expr} {es : List Expr} {ta : TA} {b x fld : Str} {p p1 p2 pos kpos : Pos}
/-- what the __init__ of an exception with the one field fld keeps -/
def sp_init1 (K : PySem.W.Frag) (C : Addr) (fld : Str) : Sp := fun vs H Q _ => ∃ a v, vs = [.ref a, v] ∧ H a = some (exo a C none) ∧ ∀ dx, H dx = none → dx ≠ a → Q .non (upd (upd H dx (exd dx [(fld, v)])) a (exo a C (some dx)))
end
/-- the exception class x at C: made by C(fld=..), which lays the field and nothing else -/
structure ExcR (P : Program) (w : World) (K : PySem.W.Frag) (mg : Str → Option Value) (base : Heap) (x : Str) (C : Addr) (k : Nat) (fld : Str) : Prop where
  at_ : mg x = some (.ref C)
  oex : OexC K C
  ex : ∃ fI fd, PySem.W.findIn K (.ref C) "__init__" = some (some (.ref fI)) ∧ PySem.W.typeIn K (.ref fI) = some (.type "function") ∧ FnOk P w K mg base (CXW P w) k fI fd ["self", fld] (sp_init1 K C fld) ∧
    KBn K fd ["self", fld] 1 [fld] (fun us ws => us ++ ws) (fun vs zs => vs ++ zs)
section
variable {P : Program} {w : World} {K : PySem.W.Frag} {mg : Str → Option Value} {base : Heap} {f C : Addr} {fd : FuncData} {qual b fld msg : Str} {params : Arguments} {scope : Scope} {j : Nat} {p1 p2 p3 p4 p5 p6 p7 p8 p9 p10 : Pos}
end
section
variable {X : Cx} {x fld : Str} {C : Addr} {k : Nat} {ke : Expr} {tk : TA} {p pos kpos : Pos}
end
end HC

/-! lambdas as values: without a parameter, or with one that has a default; a def that calls what it is given -/
namespace HC
open PyProof.Rows PySem L2 PySem.Spec LamX
/-- a lambda's text -/
structure LF where
  params : Arguments
  body : Expr
  scope : Scope
def LamO (f : Addr) (q : Str) (l : LF) (cl : List (Str × Addr)) (dV : Value) (c : Addr) : HO := .ext fun h => ∃ doc pm ctv : Value, h.get? f = some (PySem.W.kdv_obj "<lambda>" q l.params (.expr l.body) l.scope cl dV doc pm c ctv)
theorem lamO_ne {f c : Addr} {q : Str} {l : LF} {cl : List (Str × Addr)} {dV : Value} (ps : Array Value) : LamO f q l cl dV c ≠ .tbl ps := fun z => by
  unfold LamO at z
  cases z
/-- the value f is the lambda l of the frame env, its default d -/
def IsLam (env : Env) (H : Hp) (f : Addr) (l : LF) (d : Option V) : Prop := ∃ (c : Addr) (dV : Value), H f = some (LamO f (env.qual ++ "<lambda>") l (cloFrom env.cells l.scope.names []) dV c) ∧ H c = some (CodeO c (env.qual ++ "<lambda>")) ∧
  (d = none ∧ dV = .none ∨ ∃ v T0, d = some v ∧ dV = .ref T0 ∧ H T0 = some (.tup [v]))
theorem IsLam.ext {env : Env} {H H' : Hp} {f : Addr} {l : LF} {d : Option V} (x : IsLam env H f l d) (e : ExtN H H') : IsLam env H' f l d := by
  obtain ⟨c, dV, h1, h2, h3⟩ := x
  refine ⟨c, dV, e _ _ h1 lamO_ne, e _ _ h2 codeO_ne, h3.imp id fun ⟨v, T0, a, b, z⟩ => ⟨v, T0, a, b, e _ _ z nofun⟩⟩
section
variable {X : Cx} {σ : L2.St} {H : Hp} {s : Shared} {pins : List (Addr × Obj)}
/-- the object of the lambda is laid and known -/
theorem lam_lay {q : Str} {l : LF} {cl : List (Str × Addr)} {dV doc pm ctv : Value} {c : Addr} {t' : Nat} (inv : L2.Inv X pins σ H s) :
    L2.Inv X pins σ (upd H s.heap.objs.size (LamO s.heap.objs.size q l cl dV c)) { s with heap := s.heap.push (PySem.W.kdv_obj "<lambda>" q l.params (.expr l.body) l.scope cl dV doc pm c ctv), toks := t' } := by
  refine inv.laid (a := s.heap.objs.size) (fun b u e => Heap.get?_push_of_some _ e) (Nat.le_refl _) ?_
  have at_ : (s.heap.push (PySem.W.kdv_obj "<lambda>" q l.params (.expr l.body) l.scope cl dV doc pm c ctv)).get? s.heap.objs.size = some (PySem.W.kdv_obj "<lambda>" q l.params (.expr l.body) l.scope cl dV doc pm c ctv) := Heap.get?_push_size _ rfl
  exact ⟨⟨doc, pm, ctv, at_⟩, ⟨_, at_⟩, fun h1 h2 ⟨a, b, d, z⟩ st => ⟨a, b, d, st _ z⟩⟩
theorem extN_new {H : Hp} {f : Addr} {o : HO} (h : H f = none) : ExtN H (upd H f o) := ExtN.of fun b u e => by rw [upd_ne (ne_of_none e h)]; exact e
theorem tabs_new {T : List (Addr × Str)} {H : Hp} {f : Addr} {o : HO} (h : H f = none) (t : Tabs T H) : Tabs T (upd H f o) := t.ext fun b u e => by rw [upd_ne (ne_of_none e h)]; exact e
theorem lam_tail {T : List (Addr × Str)} {c P : Addr} {l : LF} {dV : Value} {pos : Pos} {E : Value → Shared → Prop} {Q : Value → Shared → Prop} (inv : L2.Inv X pins σ H s) (TB : TabB X.base X.mg c P) (code : X.env.code = .ref c)
    (mem : (P, X.env.qual ++ "<lambda>") ∈ T) (one : ∀ p ∈ T, p.1 = P → p.2 = X.env.qual ++ "<lambda>") (tabs : Tabs T H) (free : ∀ y ∈ l.scope.names, y.2 = .free → ∃ c, X.env.cells.lookup y.1 = some c)
    (h : ∀ (f c' : Addr) (H1 : Hp) (s' : Shared), L2.Inv X pins σ H1 s' → H f = none → (∀ b o, b ≠ P → H b = some o → H1 b = some o) → ExtN H H1 → Tabs T H1 → H1 f = some (LamO f (X.env.qual ++ "<lambda>") l (cloFrom X.env.cells l.scope.names []) dV c') → H1 c' = some (CodeO c' (X.env.qual ++ "<lambda>")) → Q (.ref f) s') :
    wpAny (model X.prog X.w) X.A (makeTail "<lambda>" (X.env.qual ++ "<lambda>") l.params (.expr l.body) l.scope X.env dV .none none pos pos.line) Q E s := by
  obtain ⟨ps, atP, trip, among⟩ := tabs _ mem
  have bP : s.heap.BuiltinsAt X.mg P := TB.bm.keeps inv.bk
  have realP : s.heap.get? P = some { cls := .none, data := .fields ps } := inv.hok P _ atP
  cases found : codeAmong pos ps.toList with
  | none =>
    refine PySem.W.kdv_makeTail (mg := X.mg) (c := c) (P := P) (ps := ps) (closure_ok free) inv.ok.glob (inv.mod.glob.keeps inv.bk) code (TB.code.keeps inv.bk) realP trip found TB.gP bP fun c' ctv doc h' tk but ge lt rec_ tab => ?_
    obtain ⟨c2, oc, vs, t, e2, oc2, dat, val⟩ := rec_
    cases e2
    have size : s.heap.objs.size ≤ h'.objs.size := Nat.le_trans ge (Nat.le_of_lt lt)
    have newC : H c' = none := inv.hok.fresh ge
    have inv1 := inv_table (t' := tk) (more := #[rawInt pos.line, rawInt pos.col, .ref c']) (h' := h') inv atP (fun b o nb e => but b o nb e) tab ge ⟨oc, vs, t, oc2, dat, val⟩
    have ext1 : ExtN H (upd (upd H P (.tbl (ps ++ #[rawInt pos.line, rawInt pos.col, .ref c']))) c' (CodeO c' (X.env.qual ++ "<lambda>"))) := fun b o e n => by
      rw [upd_ne (ne_of_none e newC), upd_ne (fun z => n ps (Option.some.inj (e.symm.trans (by rw [z]; exact atP))))]
      exact e
    have asL : (ps ++ #[rawInt pos.line, rawInt pos.col, .ref c']).toList = ps.toList ++ [rawInt pos.line, rawInt pos.col, .ref c'] := by simp
    have tabs1 : Tabs T (upd (upd H P (.tbl (ps ++ #[rawInt pos.line, rawInt pos.col, .ref c']))) c' (CodeO c' (X.env.qual ++ "<lambda>"))) := fun p hp => by
      by_cases hb : p.1 = P
      · rw [one p hp hb, hb]
        refine ⟨_, by rw [upd_ne (ne_of_none atP newC), upd_same], by rw [asL]; exact PySem.TriplesOk_snoc _ _ _ _ trip, fun p' cv at_ => ?_⟩
        rw [asL] at at_
        rcases among_app _ trip at_ with z | z
        · obtain ⟨c0, e1, e2⟩ := among p' cv z
          exact ⟨c0, e1, ext1 _ _ e2 codeO_ne⟩
        · exact ⟨c', z, upd_same⟩
      · obtain ⟨ps', a1, a2, a3⟩ := tabs p hp
        refine ⟨ps', by rw [upd_ne (ne_of_none a1 newC), upd_ne hb]; exact a1, a2, fun p' cv at_ => ?_⟩
        obtain ⟨c0, e1, e2⟩ := a3 p' cv at_
        exact ⟨c0, e1, ext1 _ _ e2 codeO_ne⟩
    have newF : (upd (upd H P (.tbl (ps ++ #[rawInt pos.line, rawInt pos.col, .ref c']))) c' (CodeO c' (X.env.qual ++ "<lambda>"))) h'.objs.size = none := inv1.hok.fresh (Nat.le_refl _)
    have inv2 := lam_lay (q := X.env.qual ++ "<lambda>") (l := l) (cl := cloFrom X.env.cells l.scope.names []) (dV := dV) (doc := doc) (pm := (X.mg "__name__").getD .none) (ctv := ctv) (c := c') (t' := tk) inv1
    refine h h'.objs.size c' _ _ inv2 (inv.hok.fresh size) (fun b o nb e => by rw [upd_ne (ne_of_none e (inv.hok.fresh size)), upd_ne (ne_of_none e newC), upd_ne nb]; exact e) (ext1.trans (extN_new newF)) (tabs_new newF tabs1) upd_same ?_
    rw [upd_ne (Nat.ne_of_lt lt)]
    exact upd_same
  | some cv =>
    obtain ⟨c', e, at_⟩ := among pos cv found
    subst e
    refine PySem.W.kdv_makeTailHit (mg := X.mg) (c := c) (P := P) (ps := ps) (closure_ok free) inv.ok.glob (inv.mod.glob.keeps inv.bk) code (TB.code.keeps inv.bk) realP trip found bP fun ctv doc h' tk keep size => ?_
    have inv1 : L2.Inv X pins σ H { s with heap := h', toks := tk } := inv.kept keep
    have newF : H h'.objs.size = none := inv1.hok.fresh (Nat.le_refl _)
    have inv2 := lam_lay (q := X.env.qual ++ "<lambda>") (l := l) (cl := cloFrom X.env.cells l.scope.names []) (dV := dV) (doc := doc) (pm := (X.mg "__name__").getD .none) (ctv := ctv) (c := c') (t' := tk) inv1
    refine h h'.objs.size c' _ _ inv2 newF (fun b o _ e => by rw [upd_ne (ne_of_none e newF)]; exact e) (extN_new newF) (tabs_new newF tabs) upd_same ?_
    rw [upd_ne (ne_of_none at_ newF)]
    exact at_
end
/-! ### the lambda's names -/
/-- no name of its own but a parameter that the maker has not: captured ones and globals -/
structure LamN (N : List Str) (sc scope : Scope) : Prop where
  kind : scope.kind = .function
  noco : scope.isCoroutine = false
  nogen : scope.isGenerator = false
  own : ∀ y ∈ scope.names, y.2 ≠ .cell ∧ (y.2 = .local → y.1 ∉ N)
  caught : ∀ y ∈ scope.names, y.2 = .free → sc.names.lookup y.1 = some .cell ∨ sc.names.lookup y.1 = some .free
def lamNB (N : List Str) (sc scope : Scope) : Bool :=
  decide (scope.kind = .function) && !scope.isCoroutine && !scope.isGenerator && scope.names.all fun y => !decide (y.2 = .cell) && (!decide (y.2 = .local) || !N.contains y.1) && (!decide (y.2 = .free) || decide (sc.names.lookup y.1 = some .cell) || decide (sc.names.lookup y.1 = some .free))
theorem lamN_by {N : List Str} {sc scope : Scope} (h : lamNB N sc scope = true) : LamN N sc scope := by
  unfold lamNB at h
  simp only [Bool.and_eq_true, Bool.or_eq_true, Bool.not_eq_true', List.all_eq_true, decide_eq_true_eq, decide_eq_false_iff_not] at h
  rcases h with ⟨⟨⟨h1, h2⟩, h3⟩, h4⟩
  refine ⟨h1, h2, h3, fun y hy => ⟨(h4 y hy).1.1, fun e m => ?_⟩, fun y hy e => ?_⟩
  · rcases (h4 y hy).1.2 with z | z
    · exact z e
    · rw [List.contains_iff_mem.mpr m] at z
      cases z
  · rcases (h4 y hy).2 with (z | z) | z
    · exact absurd e z
    · exact .inl z
    · exact .inr z
theorem LamN.has {X : Cx} {scope : Scope} (L : LamN X.N X.env.scope scope) (ok : X.Ok) : ∀ y ∈ scope.names, y.2 = .free → ∃ c, X.env.cells.lookup y.1 = some c := fun y hy e => (L.caught y hy e).elim (fun k => ok.has _ (.inl k)) fun k => ok.has _ (.inr k)
/-- .. all but the table at P stays -/
def tLamK (P : Addr) (nm : Str) (env : Env) (l : LF) (d : Option V) : TE := fun σ H Q => TabS H P nm ∧ ∀ f H1, H f = none → (∀ b o, b ≠ P → H b = some o → H1 b = some o) → TabS H1 P nm → IsLam env H1 f l d → Q (.ref f) H1
section
variable {X : Cx} {T : List (Addr × Str)} {c P : Addr} {params : Arguments} {body : Expr} {scope : Scope} {pos : Pos}
theorem pe_lam0K (TB : TabB X.base X.mg c P) (code : X.env.code = .ref c) (L : LamN X.N X.env.scope scope) (nod : defaultsOf params X.env = ([], []) := by rfl) :
    PE X (.Lambda params body scope pos) (tLamK P (X.env.qual ++ "<lambda>") X.env ⟨params, body, scope⟩ none) := by
  constructor
  rintro pn s σ H Q inv ⟨tab, k⟩
  refine PySem.W.kla_eval nod ?_
  rw [makeFunction_eq]; simp only [List.zip_nil_right, List.filterMap_nil, List.isEmpty_nil, if_true, pure_bind]
  refine lam_tail (T := [(P, X.env.qual ++ "<lambda>")]) (l := ⟨params, body, scope⟩) inv TB code (List.mem_singleton.mpr rfl) (fun p hp _ => by rw [List.mem_singleton.mp hp]) (fun p hp => by rw [List.mem_singleton.mp hp]; exact tab) (L.has inv.ok) fun f c' H1 s' inv1 new kp ext tabs1 at1 at2 => ?_
  exact ⟨.ref f, H1, inv1, rfl, k f H1 new kp (tabs1 _ (List.mem_singleton.mpr rfl)) ⟨c', .none, at1, at2, .inl ⟨rfl, rfl⟩⟩⟩
theorem pe_lam1K {i : Int} {j : Nat} {ip : Pos} (TB : TabB X.base X.mg c P) (code : X.env.code = .ref c) (L : LamN X.N X.env.scope scope) (dfl : params.defaults = [.Constant (.int i) j ip] := by rfl) (nok : params.kw_defaults = [] := by rfl) :
    PE X (.Lambda params body scope pos) (tLamK P (X.env.qual ++ "<lambda>") X.env ⟨params, body, scope⟩ (some (.int i))) := by
  constructor
  rintro pn s σ H Q inv ⟨tab, k⟩
  have tabs : Tabs [(P, X.env.qual ++ "<lambda>")] H := fun p hp => by rw [List.mem_singleton.mp hp]; exact tab
  refine PySem.W.kdv_lam (by rw [dfl]; rfl) nok ?_
  rw [dfl]
  have ci : PE X (.Constant (.int i) j ip) (tC (.int i)) := pe_int
  refine PySem.W.kdv_all1 (thn (ci.run pn s σ H (fun v H1 => v = .int i ∧ H1 = H) inv ⟨rfl, rfl⟩) ?_)
  rintro u s1 ⟨v, H1, inv1, rel, rfl, rfl⟩
  refine PySem.W.kdv_all0 ?_
  rw [makeFunction_eq]
  simp only [List.zip_nil_right, List.filterMap_nil, List.isEmpty_nil, if_true, pure_bind, List.isEmpty_cons, Bool.false_eq_true, if_false]
  refine wpAny_bind (wpAny_newTextTuple (show _ from ?_))
  have newT : H1 s1.heap.objs.size = none := inv1.hok.fresh (Nat.le_refl _)
  have laid : L2.Inv X pn σ (upd H1 s1.heap.objs.size (.tup [.int i])) { s1 with heap := s1.heap.push { cls := .type "tuple", data := .seq [u].toArray } } := by
    refine inv1.laid (t' := s1.toks) (a := s1.heap.objs.size) (fun b o e => Heap.get?_push_of_some _ e) (Nat.le_refl _) ⟨?_, [u], .cons rel .nil, ?_⟩
    · show 1 ≤ sizeLine
      rw [sizeLine_eq]; omega
    · exact ⟨_, Heap.get?_push_size _ rfl, rfl, _, rfl⟩
  refine lam_tail (l := ⟨params, body, scope⟩) laid TB code (List.mem_singleton.mpr rfl) (fun p hp _ => by rw [List.mem_singleton.mp hp]) (tabs_new newT tabs) (L.has inv.ok) fun f c' H2 s' inv2 new kp ext tabs1 at1 at2 => ?_
  have newF : H1 f = none := by
    cases z : H1 f with
    | none => rfl
    | some o => rw [upd_ne (ne_of_none z newT), z] at new; cases new
  exact ⟨.ref f, H2, inv2, rfl, k f H2 newF (fun b o nb e => kp b o nb (by rw [upd_ne (ne_of_none e newT)]; exact e)) (tabs1 _ (List.mem_singleton.mpr rfl)) ⟨c', _, at1, at2, .inr ⟨_, _, rfl, rfl, ext _ _ upd_same nofun⟩⟩⟩
end

/-! ### the lambda, called -/
/-- how the lambda's parameter is bound, nothing being given -/
def LamB (l : LF) : Option V → Prop
  | none => ∀ (q : Str) (cl : List (Str × Addr)) (doc pm cv ctv : Value), bindArgs (PySem.W.kdv_fn "<lambda>" q l.params (.expr l.body) l.scope cl .none doc pm cv ctv) ⟨[], []⟩ = pure []
  | some _ => ∃ y : Str, l.scope.names.lookup y = some .local ∧ ∀ (q : Str) (cl : List (Str × Addr)) (T0 : Addr) (doc pm cv ctv u : Value), ∃ k, bindArgs (PySem.W.kdv_fn "<lambda>" q l.params (.expr l.body) l.scope cl (.ref T0) doc pm cv ctv) ⟨[], []⟩ = seqItems? (.ref T0) >>= k ∧ k (some #[u]) = pure [(y, u)]
/-- the lambda's body reads as t, in the maker's slots -/
structure BodyR (X : Cx) (k : Nat) (l : LF) (d : Option V) (t : XK → TE) : Prop where
  nm : LamN X.N X.env.scope l.scope
  bd : LamB l d
  rd : ∀ (A : Around) (outer : List Env) (s : Shared) (H : Hp) (E : XK) (f c' : Addr), Room k (A.deeper (lamEnv X l.scope s.heap.objs.size f c')) → PE (lamCx X A outer s H E l.scope f c') l.body (t E)
/-- the maker's cells stand from s to s1 -/
structure KeptC (X : Cx) (s : Shared) (HZ : Hp) (s1 : Shared) : Prop where
  cell : ∀ y c v, X.env.cells.lookup y = some c → s.heap.IsCell c v → s1.heap.IsCell c v
  free : ∀ y c, X.env.cells.lookup y = some c → HZ c = none
section
variable {X : Cx} {σ : L2.St} {H HZ : Hp} {s s1 : Shared} {pins : List (Addr × Obj)}
theorem KeptC.refl (inv : L2.Inv X pins σ H s) : KeptC X s H s := ⟨fun _ _ _ _ z => z, fun y c e => inv.freeC y c e⟩
/-- .. and over a call, or a block whose iterator is none of them -/
theorem KeptC.un {H1 : Hp} {s2 : Shared} {fs fp : List Addr} (k : KeptC X s H1 s1) (inv : L2.Inv X pins σ H s) (un : Un fs fp H1 HZ s1.heap s2.heap) (off : ∀ b ∈ fp, ∀ y c, X.env.cells.lookup y = some c → b ≠ c) : KeptC X s HZ s2 := by
  have out : ∀ y c, X.env.cells.lookup y = some c → c ∉ fp := fun y c e m => off c m y c e rfl
  refine ⟨fun y c v e z => ?_, fun y c e => ?_⟩
  · obtain ⟨o, ho, hd⟩ := k.cell y c v e z
    obtain ⟨sl, q⟩ := un.any ho (k.free y c e) (out y c e)
    exact ⟨_, q, hd⟩
  · obtain ⟨v, z⟩ := inv.cell y c e
    obtain ⟨o, ho, hd⟩ := k.cell y c v e z
    exact un.free c o ho (k.free y c e) (out y c e)
/-- what the lambda caught is the maker's -/
theorem clo_back {scope : Scope} {y : Str} {c : Addr} (inv : L2.Inv X pins σ H s) (L : LamN X.N X.env.scope scope) (e : (cloFrom X.env.cells scope.names []).lookup y = some c) : X.env.cells.lookup y = some c := by
  cases cloFrom_mem (PySem.mem_of_lookup e) with
  | inl no => cases no
  | inr both =>
    obtain ⟨c1, z⟩ := L.has inv.ok _ both.1 rfl
    have z : X.env.cells.lookup y = some c1 := z
    rw [z, show c = c1 by rw [both.2, z] <;> rfl]
theorem clo_has {cells : List (Str × Addr)} {scope : Scope} {y : Str} (e : scope.names.lookup y = some .free) : ∃ c, (cloFrom cells scope.names []).lookup y = some c := mem_lookup (cloFrom_has (PySem.mem_of_lookup e))
theorem lam_okX {A : Around} {outer : List Env} {E : XK} {scope : Scope} {f c' : Addr} (inv : L2.Inv X pins σ H s) (L : LamN X.N X.env.scope scope) (e0 : Env0 X.prog X.w X.K X.mg X.base A outer s1 HZ) (calm : A.handled = none) : (lamCx X A outer s1 HZ E scope f c').Ok where
  mod := e0.mod
  kind := L.kind
  glob := rfl
  blt := rfl
  above := Nat.le_refl _
  inj y z c e1 e2 := inv.ok.inj y z c (clo_back inv L e1) (clo_back inv L e2)
  has y k := k.elim (fun z => absurd rfl (L.own _ (PySem.mem_of_lookup z)).1) fun z => clo_has z
  cab _ _ z _ := nomatch (show false = true from z)
  hd _ := calm
  frames := Around.frames_deeper e0.frames
  stk := .inr ⟨rfl, rfl⟩
  exf _ z := nomatch z
  bs := e0.bs
  bsz := e0.bsz
  noex _ _ _ z := nomatch z
  exfs _ z := nomatch z
  funs := e0.funs
  frf := e0.frf
theorem lam_start3 {A : Around} {outer : List Env} {E : XK} {scope : Scope} {f c' : Addr} {h₁ : Heap} {tk : Nat} {m : Str → Option Value} (inv : L2.Inv X pins σ H s) (L : LamN X.N X.env.scope scope) (e0 : Env0 X.prog X.w X.K X.mg X.base A outer s1 HZ) (calm : A.handled = none)
    (kc : KeptC X s HZ s1) (ns : h₁.Ns s1.heap.objs.size m) (kp : ∀ b o, s1.heap.get? b = some o → h₁.get? b = some o) :
    L2.Inv (lamCx X A outer s1 HZ E scope f c') [] σ HZ { s1 with heap := h₁, toks := tk } where
  ok := lam_okX inv L e0 calm
  os := rfl
  bare := e0.bare
  base := Un.kept kp
  loc := by
    refine ⟨m, ns, fun i y v at_ val vis => ?_⟩
    have at_ : X.N[i]? = some y := at_
    rcases (show Vis scope y from vis) with k | k | k
    · exact absurd (List.mem_of_getElem? at_) ((L.own _ (PySem.mem_of_lookup k)).2 rfl)
    · exact absurd rfl (LamN.own L _ (PySem.mem_of_lookup k)).1
    · have mine := L.caught _ (PySem.mem_of_lookup k) rfl
      obtain ⟨_, _, all⟩ := inv.loc
      obtain ⟨u, ru, way⟩ := all i y v at_ val (.inr mine)
      obtain ⟨c2, e2⟩ := clo_has (cells := X.env.cells) k
      have e1 := clo_back inv L e2
      refine ⟨u, ru, .inr ⟨.inr k, c2, e2, ?_⟩⟩
      rcases way with ⟨own, _⟩ | ⟨_, c3, e3, cell⟩
      · rcases mine with z | z <;> exact nomatch z.symm.trans own
      · obtain rfl : c2 = c3 := Option.some.inj (e1.symm.trans e3)
        obtain ⟨o, ho, dat⟩ := kc.cell y c2 _ e1 cell
        exact ⟨o, kp _ _ ho, dat⟩
  cell y c e := by
    obtain ⟨v, z⟩ := inv.cell y c (clo_back inv L e)
    obtain ⟨o, ho, dat⟩ := kc.cell y c v (clo_back inv L e) z
    exact ⟨v, o, kp _ _ ho, dat⟩
  free := e0.hok.fresh (Nat.le_refl _)
  freeC y c e := kc.free y c (clo_back inv L e)
  pin _ z := nomatch z
  hok := e0.hok.kept kp
  len := inv.len
/-- x(), in the def that got the lambda: Z is that def's context, entered at s0 from the frames st -/
theorem pe_act3 {CXg : CXT} {Eg : XK} {Ng : List Str} {qg : Str} {sg : Scope} {g f : Addr} {cdg : Value} {l : LF} {d : Option V} {k i : Nat} {a : Str} {pn : List (Addr × Obj)} {xe : Value → Shared → Prop} {W : WX} {E : XK} {t : XK → TE} {p1 p2 : Pos} {A0 : Around} {st : List Env} {s0 : Shared} {H0 : Hp}
    (inv : L2.Inv X pins σ H s) (kc : KeptC X s H0 s0) (B : BodyR X k l d t)
    (tk : Takes ((cxOf CXg X.prog X.w X.K X.mg X.base Ng qg sg g cdg A0 st s0 H0 Eg).tr pn xe) W) (room : Room (k + 1) (A0.deeper (envOfC qg sg s0.heap.objs.size g cdg)))
    (hN : Ng[i]? = some a) (hv : Vis sg a) (hd : (a == ("__debug__" : Str)) = false := by decide) (hcd : (a == ("__classdict__" : Str)) = false := by decide) : PE ((cxOf CXg X.prog X.w X.K X.mg X.base Ng qg sg g cdg A0 st s0 H0 Eg).tr pn xe) (.Call (.Name a p1) [] [] p2)
      (fun σZ HZ Q => (∀ cls d H', E cls d H' → W cls d σZ H') ∧ σZ[i]? = some (some (.ref f)) ∧ IsLam X.env HZ f l d ∧ t E σ HZ Q) := by
  constructor
  rintro pinsZ sZ σZ HZ Q invZ ⟨hW, slot, ⟨c', dV, atF, atC, dfl⟩, go⟩
  refine wpAny_Call_Name_kw (thn ((pe_var (pos := p1) (i := i) hN hv hd hcd).run pinsZ sZ σZ HZ (fun v H1 => v = .ref f ∧ H1 = HZ) invZ ⟨.ref f, slot, rfl, rfl⟩) ?_)
  rintro u s1 ⟨v, H1, inv1, rel, rfl, rfl⟩
  cases rel
  obtain ⟨⟨doc, pm, ctv, realF⟩, _, _⟩ := inv1.hok f _ atF
  obtain ⟨⟨oc, vs, tk0, hoc, hdc, hvc⟩, _, _⟩ := inv1.hok c' _ atC
  refine PySem.W.callWith_F0 ⟨_, _, _, _, realF⟩ ?_
  have kc1 : KeptC X s H1 s1 := kc.un inv (fs := frs st) (fp := []) inv1.base (fun b hb => absurd hb (by simp))
  have rc : codeAny (model X.prog X.w) (A0.deeper (envOfC qg sg s0.heap.objs.size g cdg)) (.call (.ref f) ⟨[], []⟩) (CR (L2.CX X.prog X.w) (envOfC qg sg s0.heap.objs.size g cdg :: st) X.prog X.w H1 s1 Q E) s1 := by
    refine PySem.W.kla_callFunE room.depth realF rfl B.nm.noco B.nm.nogen rfl ⟨c', oc, vs, tk0, rfl, hoc, hdc, hvc⟩ ?_
    have enter : ∀ (binds : List (Str × Value)), (∀ y ∈ binds, l.scope.names.lookup y.1 = some .local) →
        wpAny (model X.prog X.w) (A0.deeper (envOfC qg sg s0.heap.objs.size g cdg)).in1 (newFunctionEnv l.scope mainGlobals (cloFrom X.env.cells l.scope.names []) binds ((X.env.qual ++ "<lambda>") ++ ".<locals>.") (some f) (.ref c') none builtinsNs)
          (fun env s₂ => s₂.heap.NoLimit ∧ codeAny (model X.prog X.w) (A0.deeper (envOfC qg sg s0.heap.objs.size g cdg)) (.expr l.body env) (CR (L2.CX X.prog X.w) (envOfC qg sg s0.heap.objs.size g cdg :: st) X.prog X.w H1 s1 Q E) s₂)
          (fun e s' => CR (L2.CX X.prog X.w) (envOfC qg sg s0.heap.objs.size g cdg :: st) X.prog X.w H1 s1 Q E (.error e) s') s1 := fun binds loc => by
      refine wpAny_newFunctionEnv (fun y hy => (B.nm.own y hy).1) loc (fun h₁ ns sb => ⟨inv1.nolimit.fresh _ sb, ?_⟩) B.nm.kind
      show codeAny _ _ (.expr l.body (lamEnv X l.scope s1.heap.objs.size f c')) _ _
      have kp : ∀ b o, s1.heap.get? b = some o → h₁.get? b = some o := fun b o e => sb.extBut b o (Nat.ne_of_lt (Heap.lt_size e)) (Heap.get?_push_of_some _ e)
      have J : L2.Inv (lamCx X (A0.deeper (envOfC qg sg s0.heap.objs.size g cdg)) (envOfC qg sg s0.heap.objs.size g cdg :: st) s1 H1 E l.scope f c') [] σ H1 { s1 with heap := h₁, toks := s1.toks + binds.length } :=
        lam_start3 inv B.nm inv1.env0 room.hd kc1 ns kp
      refine PySem.W.kla_codeExpr (wpAny_mono ((B.rd _ _ s1 H1 E f c' (room.deeper _)).run [] _ _ H1 Q J go) ?_ fun e s' hq => hq)
      rintro v s' ⟨w', H', J', rv, q⟩
      exact ⟨w', _, J'.os, J'.bare, J'.base, J'.hok, rv, q⟩
    have bd := B.bd
    rcases dfl with ⟨rfl, rfl⟩ | ⟨v, T0, rfl, rfl, atT⟩
    · rw [bd]
      exact wpAny_pure (enter [] (by simp))
    · obtain ⟨y, loc, binds⟩ := bd
      obtain ⟨cells, vals, ⟨oT, hT, cT, nT, dT⟩, _⟩ := inv1.tuple (SqT.of atT)
      obtain ⟨u, e, ru⟩ : ∃ u, cells = [u] ∧ L2.RelV v u := by
        cases vals with
        | cons a b => cases b; exact ⟨_, rfl, a⟩
      subst e
      obtain ⟨kk, e1, e2⟩ := binds (X.env.qual ++ "<lambda>") (cloFrom X.env.cells l.scope.names []) T0 doc pm (.ref c') ctv u
      rw [e1]
      refine wpAny_bind (wpAny_seqItems hT dT ?_)
      rw [show ([u].toArray) = #[u] from rfl, e2]
      exact wpAny_pure (enter [(y, u)] (fun z hz => by rw [List.mem_singleton.mp hz]; exact loc))
  refine wpAny_call (codeAny_mono rc ?_)
  rintro (er | fl) s' got
  · exact tk er s' (XE.of_call inv1 (fun cls d H' z => hW cls d H' z) got)
  · cases fl with
    | ret u => exact inv1.after got
    | _ => exact got.elim
end
end HC

/-! a def that tells what a lambda does -/
namespace HC
open PyProof.Rows PySem L2 PySem.Spec LamX
/-! ### a def that calls what it is given -/
/-- the def's body, entered from X with the lambda f: TT, what it makes of the lambda's reading; IsL, what is known of f -/
def Gives (X : Cx) (Ng : List Str) (x : Str) (sg : Scope) (g : Addr) (cdg : Value) (bg : List Stmt) (a : Str) (TT : (XK → Hp → VK → Prop) → Hp → VK → Prop) : Prop :=
  ∀ (f : Addr) (s : Shared) (H : Hp) (Q : VK) (IsL : Hp → Prop) (tl : XK → Hp → VK → Prop),
    (∀ (W : WX) (pn : List (Addr × Obj)) (xe : Value → Shared → Prop) (E : XK) (p1 p2 : Pos), Takes ((cxOf C8.CX0 X.prog X.w X.K X.mg X.base Ng x sg g cdg X.A X.stack s H C8.E0).tr pn xe) W →
      PE ((cxOf C8.CX0 X.prog X.w X.K X.mg X.base Ng x sg g cdg X.A X.stack s H C8.E0).tr pn xe) (.Call (.Name a p1) [] [] p2) (fun σZ HZ Q => (∀ cls d H', E cls d H' → W cls d σZ H') ∧ σZ[0]? = some (some (.ref f)) ∧ IsL HZ ∧ tl E HZ Q)) →
    IsL H → TT tl H Q →
    ∃ ts, PSs (cxOf C8.CX0 X.prog X.w X.K X.mg X.base Ng x sg g cdg X.A X.stack s H C8.E0).nox bg ts ∧ ts { nx := fun _ H' => Q .non H', rt := Q } (L2.start Ng [.ref f]) H
def onOne (R : V → Hp → Prop) : List V → Hp → Prop
  | [v], H => R v H
  | _, _ => False
theorem onOne_inv {R : V → Hp → Prop} {vs : List V} {H : Hp} (h : onOne R vs H) : ∃ v, vs = [v] ∧ R v H :=
  match vs, h with
  | [v], h => ⟨v, rfl, h⟩
def tOut (X : Cx) (k : Nat) (TT : (XK → Hp → VK → Prop) → Hp → VK → Prop) (te : TE) (σ0 : L2.St) : TE := fun σ H Q => te σ H fun v H1 => ∃ f l d t, v = V.ref f ∧ BodyR X k l d t ∧ IsLam X.env H1 f l d ∧ TT (fun E H' Q' => t E σ0 H' Q') H1 Q
section
variable {X : Cx} {TT : (XK → Hp → VK → Prop) → Hp → VK → Prop} {x a : Str} {g : Addr} {fd : FuncData} {k : Nat} {pg : Arguments} {bg : List Stmt} {sg : Scope} {Ng : List Str} {e : Expr} {te : TE} {p pos : Pos}
variable {s0 : Shared} {H0 : Hp} {pins0 : List (Addr × Obj)} {σ0 : L2.St} {scope : Scope} {cenv : Env} {fp : List Addr}
/-- x(e) in a block of X -/
theorem pe_out (at_ : X.mg x = some (.ref g)) (F : FunD X.K x x pg bg sg [] [] g fd) (B : L2.Binds X.K fd [a] []) (Sg : FnScope Ng [a] sg) (hNg : Ng[0]? = some a) (hva : Vis sg a) (hG : ∀ cdg, Gives X Ng x sg g cdg bg a TT) (room : Room (k + 2) X.A)
    (inv0 : L2.Inv X pins0 σ0 H0 s0) (off : ∀ b ∈ fp, ∀ y c, X.env.cells.lookup y = some c → b ≠ c) (he : PE (X.blk s0 H0 scope cenv fp) e te)
    (glob : Gl (X.blk s0 H0 scope cenv fp) x := by rfl) (nodeb : (x == ("__debug__" : Str)) = false := by decide) (hd : (a == ("__debug__" : Str)) = false := by decide) (hcd : (a == ("__classdict__" : Str)) = false := by decide) (one : starEach [e] cenv = [(false, eval e cenv)] := by rfl) :
    PE (X.blk s0 H0 scope cenv fp) (.Call (.Name x p) [e] [] pos) (tOut X k TT te σ0) := by
  obtain ⟨oc, od, dV, kV, doc, pm, an, cdv, ct, osl, rfl, lk, code, _, _⟩ := F.ex
  constructor
  intro pn s σ H Q inv h
  refine wpAny_Call_Name_kw (ld_glob inv glob at_ ?_ nodeb)
  refine PySem.W.callWith_K (h₀ := X.base) inv.ok.mod.kin F.kp (thn ((pa_cons he pa_nil one).run pos pn s σ H (onOne fun v H1 => ∃ f l d t, v = V.ref f ∧ BodyR X k l d t ∧ IsLam X.env H1 f l d ∧ TT (fun E H' Q' => t E σ0 H' Q') H1 Q) inv h) ?_) one (by rfl)
  · rintro us s1 ⟨vs, H1, inv1, rel, one1⟩
    obtain ⟨v, rfl, f, l, d, t, rfl, body, isl, q⟩ := onOne_inv one1
    obtain ⟨_, rfl, rfl⟩ := vals1 rel
    refine ⟨inv1.kIn, ?_⟩
    have kc : KeptC X s0 H1 s1 := (KeptC.refl inv0).un inv0 (fs := frs X.stack) inv1.base off
    have rc : codeAny (model X.prog X.w) X.A (.call (.ref g) ⟨[.ref f], []⟩) (CR C8.CX0 X.stack X.prog X.w H1 s1 Q C8.E0) s1 := by
      refine run_ofS (N := Ng) (ps := [a]) (us := [.ref f]) (vs := [.ref f]) lk code Sg room inv1.env0 (B s1 [.ref f] inv1.kIn rfl) (.cons rfl .nil) rfl fun room' => ?_
      obtain ⟨t', ht', hq'⟩ := hG cdv f s1 H1 Q (fun HZ => IsLam X.env HZ f l d) (fun E H' Q' => t E σ0 H' Q') (fun W pn xe E p1 p2 tk => pe_act3 (i := 0) inv0 kc body tk room' hNg hva hd hcd) isl q
      exact ⟨t', ht'.nox, hq'⟩
    refine wpAny_call (codeAny_mono rc ?_)
    rintro (er | fl) s' got
    · exact (show False from got).elim
    · cases fl with
      | ret u => exact inv1.after got
      | _ => exact got.elim
end
/-! ### a comprehension whose element looks back at the def -/
section
variable {X : Cx}
theorem pe_lcY {elt tg iter : Expr} {ifs : List Expr} {scope : Scope} {own : List (Str × Nat)} {pos : Pos} {wi : TI} {g : TG} {tt : L2.St → TT} {te : L2.St → TE} (calm : X.calm = true) (nodup : X.N.Nodup) (hi : PI X tg iter wi) (ok : BlkOk X.N X.env.scope scope own)
    (hg : ∀ (s : Shared) (H : Hp) (C : Addr) (cl : List (Str × Addr)) (fp : List Addr), PG (X.blk s H scope (compEnvC scope cl C X.env) fp) tg g)
    (ht : ∀ (pins : List (Addr × Obj)) (σ : L2.St) (s : Shared) (H : Hp) (C : Addr) (cl : List (Str × Addr)) (fp : List Addr), L2.Inv X pins σ H s → (∀ b ∈ fp, (b ∈ X.ex ∨ X.s_0.heap.objs.size ≤ b) ∧ ∀ y c, X.env.cells.lookup y = some c → b ≠ c) → PTs (X.blk s H scope (compEnvC scope cl C X.env) fp) ifs (tt σ))
    (he : ∀ (pins : List (Addr × Obj)) (σ : L2.St) (s : Shared) (H : Hp) (C : Addr) (cl : List (Str × Addr)) (fp : List Addr), L2.Inv X pins σ H s → (∀ b ∈ fp, (b ∈ X.ex ∨ X.s_0.heap.objs.size ≤ b) ∧ ∀ y c, X.env.cells.lookup y = some c → b ≠ c) → PE (X.blk s H scope (compEnvC scope cl C X.env) fp) elt (te σ))
    (folds : ∀ x, foldedSetIterable iter X.env x = pure x := by intro _; rfl) :
    PE X (.ListComp elt [⟨tg, iter, ifs, 0⟩] scope pos) (fun σ H Q => tLc wi g (tt σ) (te σ) (own.map (·.2)) σ H Q) := by
  constructor
  intro pins s σ H Q inv h
  rw [eval_ListComp]
  have closed : ∀ y ∈ scope.names, y.2 = .free → ∃ c, X.env.cells.lookup y.1 = some c := fun y hy e => (ok.free y hy e).elim (fun z => inv.ok.has _ (.inl z)) fun z => inv.ok.has _ (.inr z)
  refine wpAny_comprehension_free (use := none) rfl folds (closure_ok closed) ok.kind (fun y hy e => by rw [ok.uniq y hy, e]) (thn (hi.run pins s σ H _ inv h) fun xv s1 got => thn got ?_)
  rintro _ s2 ⟨it, fp, tn, J, H2, rfl, inv2, turns, now, off, q⟩
  refine wpAny_newObj_type (newEnv_comp (show _ from ?_)) (by show 0 ≤ sizeLine; decide)
  obtain ⟨W, ⟨m0, w0⟩, turn⟩ := q s2.heap.objs.size (inv2.hok.fresh (Nat.le_refl _))
  have keep3 : ∀ b o, s2.heap.get? b = some o → (s2.heap.push { cls := .type "list", data := .seq ([] : List Value).toArray }).get? b = some o := fun b o e => Heap.get?_push_of_some _ e
  obtain ⟨s3, e3, D, eD⟩ : ∃ s3 : Shared, s3 = { s2 with heap := s2.heap.push { cls := .type "list", data := .seq ([] : List Value).toArray } } ∧ ∃ D, D = s2.heap.objs.size := ⟨_, rfl, _, rfl⟩
  rw [← e3]
  rw [← eD] at w0 turn ⊢
  have inv3 : L2.Inv X pins σ (upd H2 D (.lst [])) s3 := by
    rw [e3, eD]
    exact inv2.laid (t' := s2.toks) keep3 (Nat.le_refl _) ⟨Nat.zero_le _, [], 0, .nil, Heap.get?_push_size _ rfl⟩
  have keep3' : ∀ b o, s2.heap.get? b = some o → s3.heap.get? b = some o := by rw [e3]; exact keep3
  have low : ∀ b ∈ fp, b < s2.heap.objs.size := fun b hb => Heap.lt_size (turns.obj _ _ now b hb).choose_spec.1
  have off3 : ∀ b ∈ fp, FpOk X pins (upd H2 D (.lst [])) b ∧ b < s3.heap.objs.size := fun b hb => by
    refine ⟨⟨?_, (off b hb).2⟩, ?_⟩
    · rw [upd_ne (by rw [eD]; exact Nat.ne_of_lt (low b hb))]
      exact (off b hb).1
    · obtain ⟨o, z, _⟩ := turns.obj _ _ now b hb
      exact Heap.lt_size (keep3' b o z)
  have now3 : tn 0 s3.heap := turns.keep _ _ _ now fun b _ o e => keep3' b o e
  have cells : ∀ b ∈ fp, (b ∈ X.ex ∨ X.s_0.heap.objs.size ≤ b) ∧ ∀ y c, X.env.cells.lookup y = some c → b ≠ c := fun b hb => ⟨(off3 b hb).1.2.2.2.1, fun y c e => ((off3 b hb).1.2.2.2.2.1 y c e).symm⟩
  have blk := block_start inv3 ok nodup off3
  obtain ⟨H3, eH⟩ : ∃ H3, H3 = upd H2 D (.lst []) := ⟨_, rfl⟩
  rw [← eH] at w0 inv3 off3 blk
  obtain ⟨cl, ecl⟩ : ∃ cl, cl = cellsFrom (s3.heap.objs.size + 1) scope.names (cloFrom X.env.cells scope.names []) := ⟨_, rfl⟩
  have pg := hg s3 H3 s3.heap.objs.size cl fp
  have pe := he pins σ s3 H3 s3.heap.objs.size cl fp inv3 cells
  have yes := ht pins σ s3 H3 s3.heap.objs.size cl fp inv3 cells
  rw [← ecl] at blk
  show codeAny _ _ (.compStart (.ListComp elt [⟨tg, iter, ifs, 0⟩] scope pos) 0 (.ref it) (.ref D) (compEnvC scope (cellsFrom (s3.heap.objs.size + 1) scope.names (cloFrom X.env.cells scope.names [])) s3.heap.objs.size X.env)) _ { s3 with heap := pushCells (s3.heap.push { cls := .type "dict", data := .dict #[] }) scope.names }
  rw [← ecl]
  obtain ⟨ce, ece, cL⟩ : ∃ ce, ce = compEnvC scope cl s3.heap.objs.size X.env ∧ ce.locals = s3.heap.objs.size := ⟨_, rfl, rfl⟩
  rw [← ece] at blk pg pe yes ⊢
  obtain ⟨s4, e4⟩ : ∃ s4 : Shared, s4 = { s3 with heap := pushCells (s3.heap.push { cls := .type "dict", data := .dict #[] }) scope.names } := ⟨_, rfl⟩
  rw [← e4] at blk ⊢
  have now4 : tn 0 s4.heap := turns.keep _ _ _ now3 fun b _ o e => by rw [e4]; exact pushCells_keeps _ _ _ _ (Heap.get?_push_of_some _ e)
  have none3 : ∀ b ∈ fp, H3 b = none := fun b hb => (off3 b hb).1.1
  have still : ∀ {σ' : L2.St} {H' : Hp} {s' : Shared}, L2.Inv (X.blk s3 H3 scope ce fp) [] σ' H' s' → (∀ b ∈ fp, H' b = none) → ∀ b ∈ fp, FpOk (X.blk s3 H3 scope ce fp) [] H' b := fun {σ' H' s'} i' hn b hb =>
    ⟨hn b hb, (i'.ok.exf b hb).1, i'.ok.exfs b hb, .inl hb, (i'.ok.exf b hb).2, fun p hp => absurd (show p ∈ ([] : List (Addr × Obj)) ++ [] from hp) (by simp)⟩
  have back : ∀ (s6 : Shared) (H5 : Hp) (m : Str → Option Value), L2.Inv X pins σ H5 s6 → Q (.ref D) H5 → s6.heap.Ns s3.heap.objs.size m → FpOk X pins H5 s3.heap.objs.size → compPost (model X.prog X.w) X.A X.xe none (EP X pins σ Q) (.ref D) s3.heap.objs.size (.ok .next) s6 := by
    rintro s6 H5 m i6 q6 ns ⟨f0, f1, f2, f3, f4, f5⟩
    exact ⟨m, ns, fun h'' sb => ⟨.ref D, H5, i6.turned (t' := s6.toks) (fun b o hb e => (sb.2 b hb).trans e) f0 f1 f3 f4 f5, rfl, q6⟩⟩
  have loop : codeAny (model X.prog X.w) X.A (.compLoop (.ListComp elt [⟨tg, iter, ifs, 0⟩] scope pos) 0 (.ref it) (.ref D) ce) (compPost (model X.prog X.w) X.A X.xe none (EP X pins σ Q) (.ref D) s3.heap.objs.size) s4 := by
    refine compLoop_any (fun n s' => ∃ i H', L2.Inv (X.blk s3 H3 scope ce fp) [] (wipe σ (own.map (·.2))) H' s' ∧ tn i s'.heap ∧ (∀ b ∈ fp, H' b = none) ∧ W i n H') ?_ m0 ⟨0, H3, blk, now4, none3, w0⟩
    rintro n s5 ⟨i, H5, inv5, now5, none5, w5⟩
    rcases turn i n H5 w5 with ⟨stop, qq⟩ | ⟨go, Nx, less, step⟩
    · refine thnF (turns.done (X.blk s3 H3 scope ce fp) rfl rfl rfl calm i [] s5 _ H5 (fun _ _ => False) inv5 (still inv5 none5) now5 stop) ?_
      rintro _ s6 ⟨rfl, inv6⟩
      obtain ⟨m, ns, _⟩ := inv6.loc
      have ns : s6.heap.Ns ce.locals m := ns
      have nC : H5 ce.locals = none := inv6.free
      rw [cL] at ns nC
      refine back s6 H5 m (inv3.call' (ch := fp) inv6.os inv6.base inv6.hok inv6.bare fun b hb => ?_) qq ns (inv3.fpOk (Nat.le_refl _) nC)
      obtain ⟨_, a1, a2, a3, a4, a5⟩ := (off3 b hb).1
      exact ⟨a3, a1, a4, a5⟩
    · refine thnF (turns.item (X.blk s3 H3 scope ce fp) rfl rfl rfl calm i [] s5 _ H5 (fun _ _ => False) inv5 (still inv5 none5) now5 go) ?_
      rintro _ s6 ⟨u, rfl, h6⟩
      refine thnF h6 ?_
      rintro _ s7 ⟨x, H7, inv7, r7, y7, now7, none7⟩
      refine thnF (pg.run _ s7 _ H7 x u _ (inv7.pinned (still inv7 none7) (turns.obj _ _ now7)) r7 (step x H7 y7)) ?_
      rintro _ s8 ⟨σ8, H8, inv8, wiped, q8⟩
      refine thnF (yes.run _ s8 σ8 H8 _ inv8 q8) ?_
      rintro b s9 ⟨H9, inv9, q9⟩
      have fin : ∀ {s' : Shared} {H' : Hp}, L2.Inv (X.blk s3 H3 scope ce fp) ([] ++ pinsAt fp s7.heap) σ8 H' s' → Nx H' → ∃ m, m < n ∧ ∃ i H', L2.Inv (X.blk s3 H3 scope ce fp) [] (wipe σ (own.map (·.2))) H' s' ∧ tn i s'.heap ∧ (∀ b ∈ fp, H' b = none) ∧ W i m H' := fun {s' H'} i' nx => by
        obtain ⟨m', lt, w'⟩ := less H' nx
        have pin' : ∀ b ∈ fp, ∀ o, s7.heap.get? b = some o → s'.heap.get? b = some o ∧ H' b = none := fun b hb o e => by
          have z := i'.pin (b, o) (List.mem_append_right _ (List.mem_append_right _ (mem_pinsAt hb e)))
          exact ⟨z.1, z.2.1⟩
        have len : (wipe σ (own.map (·.2))).length = σ8.length := by rw [← wiped, wipe_length]
        refine ⟨m', lt, i + 1, H', (i'.unpinned (pins := [])).weak len (fun j v e => ?_), turns.keep _ _ _ now7 fun b hb o e => (pin' b hb o e).1, fun b hb => ?_, w'⟩
        · rw [← wiped] at e
          exact (wipe_some e).1
        · exact (pin' b hb _ (turns.obj _ _ now7 b hb).choose_spec.1).2
      cases b with
      | false =>
        rw [if_neg (by decide)] at q9
        exact fin inv9 q9
      | true =>
        rw [if_pos rfl] at q9
        refine thnF (pe.run _ s9 σ8 H9 _ inv9 q9) ?_
        rintro z s10 ⟨yv, H10, inv10, r10, acc, at10, few, nx⟩
        exact app_ok (X := X.blk s3 H3 scope ce fp) inv10 at10 few r10 fun s11 inv11 => fin inv11 nx
  exact codeAny_compStart_list loop (turns.self X.A 0 _ _ _ now4 loop)
theorem pe_lcX {elt tg iter : Expr} {scope : Scope} {own : List (Str × Nat)} {pos : Pos} {wi : TI} {g : TG} {te : L2.St → TE} (calm : X.calm = true) (nodup : X.N.Nodup) (hi : PI X tg iter wi) (ok : BlkOk X.N X.env.scope scope own)
    (hg : ∀ (s : Shared) (H : Hp) (C : Addr) (cl : List (Str × Addr)) (fp : List Addr), PG (X.blk s H scope (compEnvC scope cl C X.env) fp) tg g)
    (he : ∀ (pins : List (Addr × Obj)) (σ : L2.St) (s : Shared) (H : Hp) (C : Addr) (cl : List (Str × Addr)) (fp : List Addr), L2.Inv X pins σ H s → (∀ b ∈ fp, ∀ y c, X.env.cells.lookup y = some c → b ≠ c) → PE (X.blk s H scope (compEnvC scope cl C X.env) fp) elt (te σ))
    (folds : ∀ x, foldedSetIterable iter X.env x = pure x := by intro _; rfl) :
    PE X (.ListComp elt [⟨tg, iter, [], 0⟩] scope pos) (fun σ H Q => tLc wi g tYes (te σ) (own.map (·.2)) σ H Q) :=
  pe_lcY (tt := fun _ => tYes) calm nodup hi ok hg (fun _ _ _ _ _ _ _ _ _ => pts_nil) (fun pins σ s H C cl fp inv off => he pins σ s H C cl fp inv fun b hb => (off b hb).2) folds
end
end HC

/-! the head's facts where lambdas are made: the tables of some defs' code objects are empty; tests of exception classes -/
namespace HC
open PySem PySem.W PySem.Calls PyProof.Rows He He5 L2
def obsL (fx : List Tst) (fa : List Fa) (fn : List DefA) (tf : List He.Defn) (g : Addr → Option Obj) (K : Frag) : He.AlD × Bool := (obsA fa fn K, (fx.all fun t => t K) && He.tabsB g tf K)
structure SaysL (fx : List Tst) (fa : List Fa) (fn : List DefA) (tf : List He.Defn) (h : Heap) (K : Frag) : Prop where
  j : SaysJ fx fa fn K
  hd : ∀ p ∈ tf, codeHdIn K (He.cT K p).1 (He.cT K p).2 = true
  out : ∀ p ∈ tf, K.lookup (He.cT K p).2 = none
  empty : ∀ p ∈ tf, h.get? (He.cT K p).2 = some { cls := .none, data := .fields #[] }
def obsLG (n : Nat) (fx : List Tst) (fa : List Fa) (fn : List DefA) (tf : List He.Defn) (g : Addr → Option Obj) : He.AlD × Bool := obsL fx fa fn tf g (He.frT g (asA g n))
theorem saysL_of {n : Nat} {fx : List Tst} {fa : List Fa} {fn : List DefA} {tf : List He.Defn} {h : Heap} (e : obsLG n fx fa fn tf h.get? = (valA fn, true)) : SaysL fx fa fn tf h (He.frT h.get? (asA h.get? n)) := by
  have e1 : obsA fa fn (He.frT h.get? (asA h.get? n)) = valA fn := congrArg Prod.fst e
  have e2 : ((fx.all fun t => t (He.frT h.get? (asA h.get? n))) && He.tabsB h.get? tf (He.frT h.get? (asA h.get? n))) = true := congrArg Prod.snd e
  obtain ⟨h1, h2⟩ := ba e2
  have key : ∀ p ∈ tf, codeHdIn (He.frT h.get? (asA h.get? n)) (He.cT (He.frT h.get? (asA h.get? n)) p).1 (He.cT (He.frT h.get? (asA h.get? n)) p).2 = true ∧ ∃ o, h.get? (He.cT (He.frT h.get? (asA h.get? n)) p).2 = some o ∧ He.emptyTab o = true := fun p hp => by
    have ⟨h3, h4⟩ := ba (List.all_eq_true.mp h2 p hp)
    refine ⟨h3, ?_⟩
    split at h4
    · rename_i o q
      exact ⟨o, q, h4⟩
    · cases h4
  refine ⟨⟨e1, h1⟩, fun p hp => (key p hp).1, fun p hp => ?_, fun p hp => ?_⟩
  · obtain ⟨_, o, q, z⟩ := key p hp
    exact He.frT_none q z
  · obtain ⟨_, o, q, z⟩ := key p hp
    rw [q, He.emptyTab_eq z]
def hookL (n : Nat) (fx : List Tst) (fa : List Fa) (fn : List DefA) (tf : List He.Defn) : PySem.W.Hook where
  α := He.AlD × Bool
  obs s := obsLG n fx fa fn tf s.heap.get?
  val _ := (valA fn, true)
  says _ h := ∃ K : Frag, K.In h ∧ SaysL fx fa fn tf h K
  of _ _ both := ⟨_, He.frT_in, saysL_of both⟩
  keeps _ _ _ here up := let ⟨K, inH, says⟩ := here; ⟨K, inH.keeps up, says.j, says.hd, says.out, fun p hp => up _ _ (says.empty p hp)⟩
theorem obsLG_eq {n : Nat} {fx : List Tst} {fa : List Fa} {fn : List DefA} {tf : List He.Defn} {g : Addr → Option Obj} {s : Shared} (same : ∀ a, g a = s.heap.get? a) : obsLG n fx fa fn tf g = (hookL n fx fa fn tf).obs s := congrArg (obsLG n fx fa fn tf) (funext same)
/-- the code of a def of K, known by its place -/
theorem code_at {K : Frag} {p : He.Defn} {x q : PySem.Str} {params : Arguments} {body : List Stmt} {scope : Scope} {dvs : List V} {kws : List (PySem.Str × V)} {fd : FuncData} (F : FunD K x q params body scope dvs kws (He.fAd K p) fd) : fd.code = .ref (He.cT K p).1 := by
  obtain ⟨oc, od, dV, kV, doc, pm, an, cdv, ct, osl, rfl, lk, code, _, _⟩ := F.ex
  obtain ⟨c, e⟩ := He.codeIn_ref code
  have z := He.codeOf_eq lk e
  show cdv = .ref (He.codeOf K p)
  rw [z, e]
/-- the layer's rule for a def, its code object told -/
theorem FunD_okC {P : Program} {w : World} {K : Frag} {mg : PySem.Str → Option Value} {base : Heap} {x qual : PySem.Str} {params : Arguments} {body : List Stmt} {scope : Scope} {dvs : List V} {kws : List (PySem.Str × V)} {f : Addr} {fd : FuncData} {CX : CXT} {N ps : List PySem.Str} {k : Nat} {sp : Sp}
    (F : FunD K x qual params body scope dvs kws f fd) (S : FnScope N ps scope) (len : ∀ vs H Q E, sp vs H Q E → vs.length = ps.length)
    (hbody : ∀ (A : Around) (outer : List Env) (s : Shared) (H : Hp) (vs : List V) (Q : VK) (E : XK), Room k (A.deeper (envOfC qual scope s.heap.objs.size f fd.code)) → sp vs H Q E →
      ∃ t, PSs (cxOf CX P w K mg base N qual scope f fd.code A outer s H E) body t ∧ t { nx := fun _ H' => Q .non H', rt := Q } (start N vs) H) : FnOk P w K mg base CX (k + 1) f fd ps sp := by
  obtain ⟨oc, od, dV, kV, doc, pm, an, cdv, ct, sl, rfl, lk, hcd, _, _⟩ := F.ex
  exact fn_of lk hcd S len fun A outer s H vs Q E hr hsp => hbody A outer s H vs Q E hr hsp
/-! ### tests -/
end HC

/-! what a def or a lambda lets out; tables and lambdas as the heap goes on; steps for raise and lambda -/
namespace HC
open PyProof.Rows PySem L2 PySem.Spec LamX
section
variable {P : Program} {w : World} {K : PySem.W.Frag} {mg : Str → Option Value} {base : Heap} {N : List Str} {qual : Str} {scope : Scope} {f c' : Addr} {cdv : Value} {A : Around} {outer : List Env} {s : Shared} {H : Hp} {E : XK}
theorem tk_def : L2N.Takes (cxOf (CXW P w) P w K mg base N qual scope f cdv A outer s H E) (fun cls d _ H' => E cls d H') := L2N.takes_of rfl rfl rfl rfl
theorem pz_def : Passes (CXW P w) (cxOf (CXW P w) P w K mg base N qual scope f cdv A outer s H E) E := L2N.passes_call tk_def fun _ _ _ _ h => h
theorem po_def : PassesOwn (model P w) (cxOf (CXW P w) P w K mg base N qual scope f cdv A outer s H E).A (cxOf (CXW P w) P w K mg base N qual scope f cdv A outer s H E).env (cxOf (CXW P w) P w K mg base N qual scope f cdv A outer s H E).xe := passes_of (X := cxOf (CXW P w) P w K mg base N qual scope f cdv A outer s H E) rfl
theorem pz_lam {X : Cx} : Passes (CXW X.prog X.w) (lamCx X A outer s H E scope f c') E := fun pins σ H' s' e s2 I c => passes_call (takes_of (X := lamCx X A outer s H E scope f c') rfl rfl rfl rfl) (fun _ _ _ _ h => h) pins σ H' s' e s2 I (cx_less c)
end
/-! ### all but the tables stays -/
section
variable {K : PySem.W.Frag} {H H' : Hp} {T : List (Addr × Str)}
theorem extN_l {a : Addr} {xs : List V} (e : ExtN H H') (h : SqL K H a xs) : SqL K H' a xs := h.imp (fun z => z.imp (fun q => e _ _ q nofun) fun ⟨o, q⟩ => ⟨o, e _ _ q nofun⟩) id
theorem extN_t {a : Addr} {xs : List V} (e : ExtN H H') (h : SqT K H a xs) : SqT K H' a xs := h.imp (fun z => z.imp (fun q => e _ _ q nofun) fun ⟨o, q⟩ => ⟨o, e _ _ q nofun⟩) id
mutual
theorem dp_extN (e : ExtN H H') : ∀ (d : PyData) (v : V), Dp K H v d → Dp K H' v d
  | .none, _, .non => .non
  | .bool _, _, .bl b => .bl b
  | .int _, _, .int i => .int i
  | .str _, _, .str x => .str x
  | .list ds, _, .lst h a => .lst (extN_l e h) (dpa_extN e ds _ a)
  | .tuple ds, _, .tup h a => .tup (extN_t e h) (dpa_extN e ds _ a)
theorem dpa_extN (e : ExtN H H') : ∀ (ds : List PyData) (vs : List V), DpAll K H vs ds → DpAll K H' vs ds
  | [], _, .nil => .nil
  | d :: ds, _, .cons a b => .cons (dp_extN e d _ a) (dpa_extN e ds _ b)
end
end
/-! ### steps -/
section
variable {X : Cx} {K : PySem.W.Frag} {H : Hp} {Q : VK} {σ : L2.St} {D : Ends}
end
end HC

/-! try with clauses with and without a name: what stands when an exception is caught, one lemma for each kind of clause -/
namespace HC
open PyProof.Rows PySem L2 PySem.Spec LamX
/-- one clause: its class, the slot of its name, what its suite does -/
structure Cl where
  c : Value
  i : Option Nat
  ts : Addr → Value → Option Addr → TS
def Cl.set (k : Cl) (σ : L2.St) (v : Option V) : L2.St := match k.i with
  | some i => σ.set i v
  | none => σ
/-- the ends of a suite, its name gone -/
def Cl.ends (k : Cl) (D : Ends) : Ends := { nx := fun σ H => D.nx (k.set σ none) H, rt := D.rt, bk := fun σ H => D.bk (k.set σ none) H, ct := fun σ H => D.ct (k.set σ none) H }
/-- what the clauses wish of an exception of the body -/
def wMix (K : PySem.W.Frag) (Wout : WX) (D : Ends) : List Cl → WX
  | [] => Wout
  | k :: r => fun cls d σ H => ∃ b, PySem.W.exmOne K cls k.c = some b ∧ (b = true → ∀ a, H a = none → k.ts a cls d (k.ends D) (k.set σ (some (.ref a))) H) ∧ (b = false → wMix K Wout D r cls d σ H)
/-- the exception at a is caught: noted, landed, the def's state beneath it -/
structure Caught (X : Cx) (pins : List (Addr × Obj)) (σ : L2.St) (H : Hp) (a : Addr) (cls : Value) (d : Option Addr) (s : Shared) : Prop where
  ex : ∃ (B : Heap) (sI : Shared), L2.Inv X pins σ H sI ∧ (∀ b o, sI.heap.get? b = some o → b ∉ frs X.stack → B.get? b = some o) ∧ sI.heap.UpToSlots s.heap ∧ HandSPX.FlyingZ B X.stack a (Zc cls d) s.heap ∧ s.os = sI.os ∧ AllBare s.gens
  na : H a = none
section
variable {X : Cx} {pins : List (Addr × Obj)} {σ : L2.St} {H : Hp} {a : Addr} {cls : Value} {d : Option Addr} {s : Shared} {D : Ends}
theorem Caught.suite (c : Caught X pins σ H a cls d s) (hs : X.stack = X.env :: X.outer) (hf : X.env.frame = some X.env.locals) : L2.Inv X pins σ H s ∧ ∃ oe vs, s.heap.get? a = some oe ∧ Zc cls d oe ∧ oe.data = .fields vs ∧ L2.Inv (X.suite a ((a, oe) :: (X.pn ++ pins))) [] σ H s := by
  obtain ⟨B, sI, J, nb, up, fly, os, ag⟩ := c.ex
  have I : L2.Inv X pins σ H s := J.landed nb fly.1 up os ag
  obtain ⟨oe, vs, at_, z, dat⟩ := fly.there
  have out : a ∉ frs (X.env :: X.outer) := fun m => by
    obtain ⟨_, o, e, no⟩ := (hs ▸ fly.2.2.1 : s.heap.FunFrames B (X.env :: X.outer)).mem m
    cases at_.symm.trans e
    exact no _ dat
  refine ⟨I, oe, vs, at_, z, dat, I.suite at_ dat c.na (fun e => out (List.mem_filterMap.mpr ⟨X.env, .head _, by rw [hf, e]⟩)) fun m => ?_⟩
  obtain ⟨e, he, q⟩ := List.mem_filterMap.mp m
  exact out (List.mem_filterMap.mpr ⟨e, .tail _ he, q⟩)
/-- .. and lands once more, for a suite -/
theorem Caught.again {A : Around} {Q : Unit → Shared → Prop} {E : Value → Shared → Prop} (c : Caught X pins σ H a cls d s) (k : ∀ h, Caught X pins σ H a cls d { s with heap := h } → Q () { s with heap := h }) : wpAny (model X.prog X.w) A (setFlight (.ref a) none) Q E s := by
  obtain ⟨B, sI, J, nb, up, fly, os, ag⟩ := c.ex
  exact HandSPX.lands_againZ fly fun h fly' up' => k h ⟨⟨B, sI, J, nb, up.trans up', fly', os, ag⟩, c.na⟩
/-- no clause is left: it flies on -/
theorem Caught.on {Wout : WX} (c : Caught X pins σ H a cls d s) (hs : X.stack = X.env :: X.outer) (hf : X.env.frame = some X.env.locals) (tk : Takes X Wout) (w : Wout cls d σ H) : wpAny (model X.prog X.w) X.A (handleBy (.ref a) X.env []) (SP X pins D) X.xe s := by
  obtain ⟨B, sI, J, nb, up, fly, os, ag⟩ := c.ex
  obtain ⟨_, _, _, oe, vs, T, oT, ts, at_, _, dat, first, _⟩ := id fly
  refine wpAny_handleBy_nil ?_
  unfold PySem.passOn
  refine wpAny_bind (wpAny_field at_ dat first (show _ from ?_))
  rw [if_neg (show ¬ (Value.ref T == Value.none) = true by simp)]
  have last : wpAny (model X.prog X.w) X.A (setFlight (.ref a) X.env.frame) (fun _ s4 => wpAny (model X.prog X.w) X.A (throw (.ref a) : Sem Flow) (SP X pins D) X.xe s4) X.xe s := by
    rw [hf]
    have fly' : HandSPX.FlyingZ B (X.env :: X.outer) a (Zc cls d) s.heap := hs ▸ fly
    exact HandSPX.setFlight_upZ fly' fun h4 held up4 => wpAny_throw (tk _ _ ⟨a, B, sI, pins, σ, H, cls, d, rfl, J, nb, up.trans up4, .inr (.inr (by rw [hs]; exact held)), c.na, os, ag, w⟩)
  first | exact wpAny_bind last | exact wpAny_bind (wpAny_pure (wpAny_bind last))
/-- the class of a clause is looked up, and asked -/
theorem Caught.ask {x : Str} {cv : Value} {np : Pos} {b : Bool} {Q : Bool → Shared → Prop} {E : Value → Shared → Prop} (c : Caught X pins σ H a cls d s) (hs : X.stack = X.env :: X.outer) (hf : X.env.frame = some X.env.locals) (nm : Names X x cv) (ex : PySem.W.exmOne X.K cls cv = some b) (q : Q b s) :
    wpAny (model X.prog X.w) (X.A.mark (some (.ref a))) (eval (.Name x np) X.env) (fun v s' => wpAny (model X.prog X.w) (X.A.mark (some (.ref a))) (excMatches (.ref a) v) Q E s') E s := by
  obtain ⟨I, oe, vs, at_, z, dat, S⟩ := c.suite hs hf
  have ty : PySem.W.Looks (model X.prog X.w) s.heap (typeOf (.ref a)) cls := fun A Q E s' k q => wpAny_typeOf_ref (k _ _ at_) (by rw [z.1]; exact q)
  have yes := (PySem.W.exm_one (M := model X.prog X.w) I.kIn ty ex).here (A := X.A.mark (some (.ref a))) (E := E) q
  obtain ⟨gl, nodeb, own | ⟨no, bt, nn⟩⟩ := nm
  · exact ld_glob (X := X.suite a ((a, oe) :: (X.pn ++ pins))) S gl own yes nodeb
  · exact ld_blt (X := X.suite a ((a, oe) :: (X.pn ++ pins))) S gl no bt yes nn nodeb
/-- the clauses of a try and what they do -/
inductive HdsM (X : Cx) : List ExceptHandler → List Cl → Prop
  | nil : HdsM X [] []
  | plain {x : Str} {c : Value} {ts : Addr → Value → Option Addr → TS} {b₀ : Stmt} {suite : List Stmt} {np pos' : Pos} {hds : List ExceptHandler} {l : List Cl} (nm : Names X x c)
      (run : ∀ (a : Addr) (oe : Obj) (cls : Value) (d : Option Addr) (pn : List (Addr × Obj)), Zc cls d oe → (∃ vs, oe.data = .fields vs) → PSs (X.suite a ((a, oe) :: pn)) (b₀ :: suite) (ts a cls d)) (r : HdsM X hds l) : HdsM X (.ExceptHandler (some (.Name x np)) none (b₀ :: suite) pos' :: hds) (⟨c, none, ts⟩ :: l)
  | as_ {x n : Str} {i : Nat} {c : Value} {ts : Addr → Value → Option Addr → TS} {b₀ : Stmt} {suite : List Stmt} {np pos' : Pos} {hds : List ExceptHandler} {l : List Cl} (nm : Names X x c) (nd : X.N.Nodup) (at_ : X.N[i]? = some n) (loc : X.env.kindOf n = some .local)
      (run : ∀ (a : Addr) (oe : Obj) (cls : Value) (d : Option Addr) (pn : List (Addr × Obj)), Zc cls d oe → (∃ vs, oe.data = .fields vs) → PSs (X.suite a ((a, oe) :: pn)) (b₀ :: suite) (ts a cls d)) (r : HdsM X hds l) : HdsM X (.ExceptHandler (some (.Name x np)) (some n) (b₀ :: suite) pos' :: hds) (⟨c, some i, ts⟩ :: l)
theorem caught_run {Wout : WX} {hds : List ExceptHandler} {l : List Cl} (hs : X.stack = X.env :: X.outer) (hf : X.env.frame = some X.env.locals) (tk : Takes X Wout) (ok : X.Ok) (M : HdsM X hds l) (c : Caught X pins σ H a cls d s) (w : wMix X.K Wout D l cls d σ H) :
    wpAny (model X.prog X.w) X.A (handleBy (.ref a) X.env hds) (SP X pins D) X.xe s := by
  induction M with
  | nil => exact c.on hs hf tk w
  | plain nm run r ih =>
    obtain ⟨b, ex, yes, no⟩ := w
    refine wpAny_handleBy_cons (codeAny_handlers_test (c.ask hs hf nm ex ?_)) nofun
    cases b with
    | false => exact ih (no rfl)
    | true =>
      refine codeAny_handlers_suite (c.again fun h c4 => ?_)
      obtain ⟨_, oe, vs, _, z, dat, S⟩ := c4.suite hs hf
      refine wpAny_mono ((run a oe cls d (X.pn ++ pins) z ⟨_, dat⟩).run [] _ _ H _ S (yes rfl a c.na)) (fun fl s6 got => ?_) (fun _ _ z => z.elim)
      cases fl with
      | ret u => exact let ⟨v, σ6, H6, S6, rv, q⟩ := got; ⟨v, σ6, H6, S6.unsuite ok, rv, q⟩
      | _ => exact let ⟨σ6, H6, S6, q⟩ := got; ⟨σ6, H6, S6.unsuite ok, q⟩
  | @as_ x n i cv ts b₀ suite np pos' hds' l' nm nd at_ loc run r ih =>
    obtain ⟨b, ex, yes, no⟩ := w
    refine wpAny_handleBy_cons (codeAny_handlers_test (c.ask hs hf nm ex ?_)) nofun
    cases b with
    | false => exact ih (no rfl)
    | true =>
      refine codeAny_handlers_suite_as (c.again fun h c4 => ?_)
      obtain ⟨_, oe, vs, _, z, dat, S⟩ := c4.suite hs hf
      refine store_ok (X := X.suite a ((a, oe) :: (X.pn ++ pins))) (v := .ref a) S nd at_ (.inl loc) rfl (fun s5 S5 => ?_) (.inr loc)
      refine wpAny_mono ((run a oe cls d (X.pn ++ pins) z ⟨_, dat⟩).run [] s5 _ H _ S5 (yes rfl a c.na)) (fun fl s6 got => ?_) (fun _ _ z => z.elim)
      have bye : ∀ {σ6 : L2.St} {H6 : Hp} {Q : Shared → Prop}, L2.Inv (X.suite a ((a, oe) :: (X.pn ++ pins))) [] σ6 H6 s6 → (∀ s7, L2.Inv X pins (σ6.set i none) H6 s7 → Q s7) →
          wpAny (model X.prog X.w) X.A (bindName X.env n .none >>= fun _ => unbindBehindTheSuite X.env n pos') (fun _ s7 => Q s7) X.xe s6 := fun S6 k => gone_ok (S6.unsuite ok) nd at_ loc k
      cases fl with
      | ret u => exact let ⟨v, σ6, H6, S6, rv, q⟩ := got; bye S6 fun s7 J => ⟨v, _, H6, J, rv, q⟩
      | _ => exact let ⟨σ6, H6, S6, q⟩ := got; bye S6 fun s7 J => ⟨_, H6, J, q⟩
/-- try: body / except A: .. / except B as e: .. -/
theorem ps_try_mix {body : List Stmt} {h₀ : ExceptHandler} {hds : List ExceptHandler} {l : List Cl} {pos : Pos} {tb : WX → TS} {Wout : WX} (hs : X.stack = X.env :: X.outer) (hf : X.env.frame = some X.env.locals) (tk : Takes X Wout)
    (inner : ∀ (W : WX) (pn : List (Addr × Obj)) (xe : Value → Shared → Prop), Takes (X.tr pn xe) W → PassesOwn (model X.prog X.w) X.A X.env xe → PSs (X.tr pn xe) body (tb W)) (M : HdsM X (h₀ :: hds) l) : PS X (.Try body (h₀ :: hds) [] [] pos) (fun D σ H => tb (wMix X.K Wout D l) D σ H) := by
  constructor
  intro pins s σ H D inv h
  have ok := inv.ok
  have catch_ : ∀ u s', XE (X.tr (X.pn ++ pins) fun e s₁ => wpAny (model X.prog X.w) X.A (noteFrame e X.env) (fun _ s₂ => wpAny (model X.prog X.w) X.A (setFlight e none) (fun _ s₃ => wpAny (model X.prog X.w) X.A (handleBy e X.env (h₀ :: hds)) (SP X pins D) X.xe s₃) X.xe s₂) X.xe s₁) (wMix X.K Wout D l) u s' →
      wpAny (model X.prog X.w) X.A (noteFrame u X.env) (fun _ s₂ => wpAny (model X.prog X.w) X.A (setFlight u none) (fun _ s₃ => wpAny (model X.prog X.w) X.A (handleBy u X.env (h₀ :: hds)) (SP X pins D) X.xe s₃) X.xe s₂) X.xe s' := by
    rintro _ s' ⟨a, B, sI, pn', σ', H', cls, d, rfl, J, nb, up, sky, na, os, ag, w⟩
    have air : Sky B (X.env :: X.outer) a (Zc cls d) X.env.locals s'.heap := hs ▸ sky
    refine Sky.land Zc.steady (by rw [ok.frames, hs]) hf air fun h3 fly up3 => ?_
    exact caught_run hs hf tk ok M ⟨⟨B, sI, J.ofTry ok, nb, up.trans up3, hs ▸ fly, os, ag⟩, na⟩ w
  refine wpAny_Try_except (wpAny_mono ((inner (wMix X.K Wout D l) (X.pn ++ pins) _ catch_ PassesOwn.looking).run [] s σ H D (inv.toTry _) h) (fun fl s1 got => ?_) fun _ _ z => z)
  cases fl with
  | next => exact let ⟨σ', H', J, q⟩ := got; wpAny_execs_nil ⟨σ', H', L2.Inv.ofTry J ok, q⟩
  | ret u => exact let ⟨v, σ', H', J, r, q⟩ := got; ⟨v, σ', H', L2.Inv.ofTry J ok, r, q⟩
  | _ => exact let ⟨σ', H', J, q⟩ := got; ⟨σ', H', L2.Inv.ofTry J ok, q⟩
end
/-- x(e) in the maker's own frame -/
theorem pe_outD {X : Cx} {TT : (XK → Hp → VK → Prop) → Hp → VK → Prop} {x a : Str} {g : Addr} {fd : FuncData} {k : Nat} {pg : Arguments} {bg : List Stmt} {sg : Scope} {Ng : List Str} {e : Expr} {te : TE} {p pos : Pos} (at_ : X.mg x = some (.ref g)) (F : FunD X.K x x pg bg sg [] [] g fd) (B : L2.Binds X.K fd [a] [])
    (Sg : FnScope Ng [a] sg) (hNg : Ng[0]? = some a) (hva : Vis sg a) (hG : ∀ cdg, Gives X Ng x sg g cdg bg a TT) (room : Room (k + 2) X.A) (he : PE X e te) (glob : Gl X x := by rfl) (nodeb : (x == ("__debug__" : Str)) = false := by decide) (hd : (a == ("__debug__" : Str)) = false := by decide)
    (hcd : (a == ("__classdict__" : Str)) = false := by decide) (one : starEach [e] X.env = [(false, eval e X.env)] := by rfl) : PE X (.Call (.Name x p) [e] [] pos) (fun σ H Q => tOut X k TT te σ σ H Q) := by
  obtain ⟨oc, od, dV, kV, doc, pm, an, cdv, ct, sl, rfl, lk, code, _, _⟩ := F.ex
  constructor
  intro pn s σ H Q inv h
  refine wpAny_Call_Name_kw (ld_glob inv glob at_ ?_ nodeb)
  refine PySem.W.callWith_K (h₀ := X.base) inv.ok.mod.kin F.kp (thn ((pa_cons he pa_nil one).run pos pn s σ H (onOne fun v H1 => ∃ f l d t, v = V.ref f ∧ BodyR X k l d t ∧ IsLam X.env H1 f l d ∧ TT (fun E H' Q' => t E σ H' Q') H1 Q) inv h) ?_) one (by rfl)
  rintro us s1 ⟨vs, H1, inv1, rel, got1⟩
  obtain ⟨v, rfl, f, l, d, t, rfl, body, isl, q⟩ := onOne_inv got1
  obtain ⟨_, rfl, rfl⟩ := vals1 rel
  refine ⟨inv1.kIn, wpAny_call (codeAny_mono (run_ofS (CX := C8.CX0) (Q := Q) (E := C8.E0) (N := Ng) (ps := [a]) (us := [.ref f]) (vs := [.ref f]) lk code Sg room inv1.env0 (B s1 [.ref f] inv1.kIn rfl) (.cons rfl .nil) rfl fun room' => ?_) ?_)⟩
  · obtain ⟨t', ht', hq'⟩ := hG cdv f s1 H1 Q (fun HZ => IsLam X.env HZ f l d) (fun E H' Q' => t E σ H' Q') (fun W pn xe E p1 p2 tk => pe_act3 (i := 0) inv1 (KeptC.refl inv1) body tk room' hNg hva hd hcd) isl q
    exact ⟨t', ht'.nox, hq'⟩
  · rintro (er | fl) s' got
    · exact (show False from got).elim
    · cases fl with
      | ret u => exact inv1.after got
      | _ => exact got.elim
end HC

/-! what a caught exception is asked; exceptions with more than one field; list.count of plain values -/
namespace HC
open PyProof.Rows PySem L2 PySem.Spec LamX
/-! ### isinstance of the exception that a suite holds -/
section
variable {X : Cx} {a : Addr} {oe : Obj} {pn : List (Addr × Obj)} {cls : Value} {d : Option Addr}
end
/-! ### list.count of plain values -/
/-! ### exceptions with some fields, all given by keyword -/
def sp_initN (K : PySem.W.Frag) (C : Addr) (fo : List V → List (Str × V)) (n : Nat) : Sp := fun vs H Q _ => ∃ a zs, vs = .ref a :: zs ∧ zs.length = n ∧ H a = some (exo a C none) ∧
  ∀ dx H', H dx = none → dx ≠ a → H' a = some (exo a C (some dx)) → H' dx = some (exd dx (fo zs)) → (∀ c, c ≠ a → c ≠ dx → H' c = H c) → Q .non H'
structure ExcN (P : Program) (w : World) (K : PySem.W.Frag) (mg : Str → Option Value) (base : Heap) (x : Str) (C : Addr) (k : Nat) (flds : List Str) (fo : List V → List (Str × V)) : Prop where
  at_ : mg x = some (.ref C)
  oex : OexC K C
  ex : ∃ fI fd, PySem.W.findIn K (.ref C) "__init__" = some (some (.ref fI)) ∧ PySem.W.typeIn K (.ref fI) = some (.type "function") ∧ FnOk P w K mg base (CXW P w) k fI fd ("self" :: flds) (sp_initN K C fo flds.length) ∧
    KBn K fd ("self" :: flds) 1 flds (fun us ws => us ++ ws) (fun vs zs => vs ++ zs)
section
variable {P : Program} {w : World} {K : PySem.W.Frag} {mg : Str → Option Value} {base : Heap} {f C : Addr} {fd : FuncData} {qual b f1 f2 msg : Str} {params : Arguments} {scope : Scope} {j : Nat} {p1 p2 p3 p4 p5 p6 p7 p8 p9 p10 q7 q8 q9 q10 : Pos}
end
section
variable {X : Cx} {x : Str} {C : Addr} {k : Nat} {ks : List Keyword} {tk : TA} {p pos : Pos} {flds : List Str} {fo : List V → List (Str × V)}
end
/-! ### an own exception without __init__, made with a text -/
abbrev veLine : List Value := [.type "ValueError", .type "Exception", .type "BaseException", .type "object"]
structure ExcT (K : PySem.W.Frag) (mg : Str → Option Value) (x : Str) (C : Addr) : Prop where
  at_ : mg x = some (.ref C)
  exI : PySem.W.excIn K C veLine "ValueError.__new__" = true
  kept : PySem.W.keepIn K (.ref C) = true
  base : PySem.W.subIn K (.ref C) (.type "BaseException") = some true
  meta_ : PySem.W.typeIn K (.ref C) = some (.type "type")
def excTB (K : PySem.W.Frag) (C : Addr) : Bool := PySem.W.excIn K C veLine "ValueError.__new__" && (PySem.W.keepIn K (.ref C) && (decide (PySem.W.subIn K (.ref C) (.type "BaseException") = some true) && decide (PySem.W.typeIn K (.ref C) = some (.type "type"))))
theorem excTB_ok {K : PySem.W.Frag} {mg : Str → Option Value} {x : Str} {C : Addr} (at_ : mg x = some (.ref C)) (h : excTB K C = true) : ExcT K mg x C := by
  simp only [excTB, Bool.and_eq_true, decide_eq_true_eq] at h
  exact ⟨at_, h.1, h.2.1, h.2.2.1, h.2.2.2⟩
theorem pmk_px {X : Cx} {x m : Str} {C : Addr} {j : Nat} {p p2 pos : Pos} (R : ExcT X.K X.mg x C) (glob : Gl X x := by rfl) (nodeb : (x == ("__debug__" : Str)) = false := by decide) : L2N.PMk X (.Call (.Name x p) [.Constant (.str m) j p2] [] pos) (fun _ H Q => Q (.ref C) none H) :=
  L2N.pmk_own PySem.F.excBase_ValueError R.exI R.at_ R.kept (raises_own R.base R.meta_) glob nodeb
end HC

/-! ### the head's facts where a dict of the module is asked too -/
namespace HC
open PySem PySem.W PySem.Calls PyProof.Rows He He5 L2
abbrev AlW : Type := (He.AlD × Bool) × List (Option (List (Option (PySem.Str × Int))))
def obsLW (n : Nat) (fx : List Tst) (fa : List Fa) (fn : List DefA) (tf : List He.Defn) (ts : List He.Tab) (g : Addr → Option Obj) : AlW := (obsLG n fx fa fn tf g, ts.map fun t => He.dicW (He.frT g (asA g n)) (t.1 (He.frT g (asA g n))))
structure SaysLW (fx : List Tst) (fa : List Fa) (fn : List DefA) (tf : List He.Defn) (ts : List He.Tab) (w : World) (h : Heap) (K : Frag) : Prop where
  l : SaysL fx fa fn tf h K
  tab : ∀ (i : Nat) (t : He.Tab), ts[i]? = some t → ∃ es n, KDict K w (t.1 K) es n
end HC

/-! ### the head's run by parts: each run asks some of the facts -/
namespace HC
open PySem PySem.W PySem.Calls PyProof.Rows He He5 L2 HandSHeadRun
def RunOb (r : OpenRow) {α : Type} (ob : SharedT → α) (v : α) (M : Nat) (w : World) : Prop := ∀ os : OsState, (endF (stepQ (denQ tabQ) r.prog w) M r.prog w os).map ob = some v
theorem RunOb.two {r : OpenRow} {α β γ : Type} {o1 : SharedT → α} {o2 : SharedT → β} {o : SharedT → γ} {v1 : α} {v2 : β} {v : γ} {M : Nat} {w : World} (f : α → β → γ) (h1 : RunOb r o1 v1 M w) (h2 : RunOb r o2 v2 M w) (e : ∀ s, o s = f (o1 s) (o2 s)) (ev : v = f v1 v2) : RunOb r o v M w := fun os => by
  obtain ⟨s, q, q1⟩ := Option.map_eq_some_iff.mp (h1 os)
  have q2 := h2 os
  rw [q] at q2 ⊢
  have q2 : o2 s = v2 := Option.some.inj q2
  rw [Option.map_some, e s, q1, q2, ev]
/-! the values asked in a form of their own (the kernel tries two maps' functions against one another first, which costs much) -/
noncomputable def mapV (l : List DefA) : List He5.FnW := List.rec [] (fun d _ r => d.val :: r) l
theorem mapV_eq : ∀ l : List DefA, mapV l = l.map DefA.val
  | [] => rfl
  | d :: r => congrArg (d.val :: ·) (mapV_eq r)
noncomputable def mapT (w : World) (l : List He.Tab) : List (Option (List (Option (PySem.Str × Int)))) := List.rec [] (fun t _ r => some (He.keysIn w.params t.2) :: r) l
theorem mapT_eq (w : World) : ∀ l : List He.Tab, mapT w l = l.map fun t => some (He.keysIn w.params t.2)
  | [] => rfl
  | d :: r => congrArg (some (He.keysIn w.params d.2) :: ·) (mapT_eq w r)
/-- facts, with the tables asked -/
def RunL (r : OpenRow) (n : Nat) (fx : List Tst) (fa : List Fa) (fn : List DefA) (tf : List He.Defn) (M : Nat) (w : World) : Prop :=
  RunOb r (fun s => obsLG n fx fa fn tf (getT s)) ((true, mapV fn), true) M w
def RunW (r : OpenRow) (n : Nat) (fx : List Tst) (fa : List Fa) (fn : List DefA) (tf : List He.Defn) (ts : List He.Tab) (M : Nat) (w : World) : Prop :=
  RunOb r (fun s => obsLW n fx fa fn tf ts (getT s)) (((true, mapV fn), true), mapT w ts) M w
theorem RunL.eq {r : OpenRow} {n : Nat} {fx : List Tst} {fa : List Fa} {fn : List DefA} {tf : List He.Defn} {M : Nat} {w : World} (h : RunL r n fx fa fn tf M w) : RunOb r (fun s => obsLG n fx fa fn tf (getT s)) (valA fn, true) M w := by
  unfold RunL at h
  rw [mapV_eq] at h
  exact h
theorem RunW.eq {r : OpenRow} {n : Nat} {fx : List Tst} {fa : List Fa} {fn : List DefA} {tf : List He.Defn} {ts : List He.Tab} {M : Nat} {w : World} (h : RunW r n fx fa fn tf ts M w) : RunOb r (fun s => obsLW n fx fa fn tf ts (getT s)) ((valA fn, true), ts.map fun t => some (He.keysIn w.params t.2)) M w := by
  unfold RunW at h
  rw [mapV_eq, mapT_eq] at h
  exact h
section
variable {r : OpenRow} {q : Program} {M : Nat} {w : World} {loose : List PySem.Str} {n : Nat} {fx : List Tst} {fa : List Fa} {fn : List DefA} {tf : List He.Defn} {ts : List He.Tab}
end
end HC

namespace HC
open PyProof.Rows PySem L2 PySem.Spec
def top (i : Nat) : Stmt := PySem.Challenge.pw_harvestcarts_k07_harmonic_rules.main.body.getD i (.Pass ⟨0, 0, 0, 0⟩)
def sp_law (K : PySem.W.Frag) (P0 : Addr) : Sp := fun vs H Q _ => ∃ (a : Addr) (ns : List Int), vs = [.ref a] ∧ SqL K H a (ns.map V.int) ∧ ns.length ≤ 63 ∧ H P0 = some (.tbl #[]) ∧ ∀ H', Q (.bl true) H'
abbrev s_validate_number : Stmt := top 14
abbrev N_validate_number : List Str := ["number", "smallest", "largest"]
theorem sc_validate_number : FnScope N_validate_number ["number", "smallest", "largest"] (defScope s_validate_number) := ⟨rfl, rfl, rfl, by decide +kernel, rfl, by decide +kernel, by decide +kernel⟩
abbrev s_Farm_names : Stmt := inClass (top 17) 5
abbrev N_Farm_names : List Str := ["self", "name", "limit"]
theorem sc_Farm_names : FnScope N_Farm_names ["self"] (defScope s_Farm_names) := ⟨rfl, rfl, rfl, by decide +kernel, rfl, by decide +kernel, by decide +kernel⟩
abbrev s_Farm_limits : Stmt := inClass (top 17) 6
abbrev N_Farm_limits : List Str := ["self", "name", "limit"]
theorem sc_Farm_limits : FnScope N_Farm_limits ["self"] (defScope s_Farm_limits) := ⟨rfl, rfl, rfl, by decide +kernel, rfl, by decide +kernel, by decide +kernel⟩
abbrev s_Farm_fields : Stmt := inClass (top 17) 4
abbrev N_Farm_fields : List Str := ["self"]
theorem sc_Farm_fields : FnScope N_Farm_fields ["self"] (defScope s_Farm_fields) := ⟨rfl, rfl, rfl, by decide +kernel, rfl, by decide +kernel, by decide +kernel⟩
abbrev s_is_name : Stmt := top 15
abbrev N_is_name : List Str := ["name", "letter"]
theorem sc_is_name : FnScope N_is_name ["name"] (defScope s_is_name) := ⟨rfl, rfl, rfl, by decide +kernel, rfl, by decide +kernel, by decide +kernel⟩
abbrev s_Farm___init__ : Stmt := inClass (top 17) 2
abbrev N_Farm___init__ : List Str := ["self", "fields", "states", "index", "name", "limit", "earlier", "other"]
theorem sc_Farm___init__ : FnScope N_Farm___init__ ["self", "fields"] (defScope s_Farm___init__) := ⟨rfl, rfl, rfl, by decide +kernel, rfl, by decide +kernel, by decide +kernel⟩
abbrev s_Farm___add__ : Stmt := inClass (top 17) 13
abbrev N_Farm___add__ : List Str := ["self", "other", "fields"]
theorem sc_Farm___add__ : FnScope N_Farm___add__ ["self", "other"] (defScope s_Farm___add__) := ⟨rfl, rfl, rfl, by decide +kernel, rfl, by decide +kernel, by decide +kernel⟩
abbrev s_Farm___getitem__ : Stmt := inClass (top 17) 10
abbrev N_Farm___getitem__ : List Str := ["self", "name", "known", "limit"]
theorem sc_Farm___getitem__ : FnScope N_Farm___getitem__ ["self", "name"] (defScope s_Farm___getitem__) := ⟨rfl, rfl, rfl, by decide +kernel, rfl, by decide +kernel, by decide +kernel⟩
abbrev s_law_start : Stmt := top 22
abbrev N_law_start : List Str := ["_law_script", "_law_mixed", "_law_cell"]
theorem sc_law_start : FnScope N_law_start ["_law_script"] (defScope s_law_start) := ⟨rfl, rfl, rfl, by decide +kernel, rfl, by decide +kernel, by decide +kernel⟩
abbrev s_law_drawn : Stmt := top 23
abbrev N_law_drawn : List Str := ["_law_state", "_law_count", "_law_result", "_law_cell"]
theorem sc_law_drawn : FnScope N_law_drawn ["_law_state", "_law_count"] (defScope s_law_drawn) := ⟨rfl, rfl, rfl, by decide +kernel, rfl, by decide +kernel, by decide +kernel⟩
abbrev s_greatest_divisor : Stmt := top 16
abbrev N_greatest_divisor : List Str := ["one", "other"]
theorem sc_greatest_divisor : FnScope N_greatest_divisor ["one", "other"] (defScope s_greatest_divisor) := ⟨rfl, rfl, rfl, by decide +kernel, rfl, by decide +kernel, by decide +kernel⟩
abbrev s_Farm_share : Stmt := inClass (top 17) 7
abbrev N_Farm_share : List Str := ["self", "top", "bottom", "name", "limit", "divisor"]
theorem sc_Farm_share : FnScope N_Farm_share ["self"] (defScope s_Farm_share) := ⟨rfl, rfl, rfl, by decide +kernel, rfl, by decide +kernel, by decide +kernel⟩
abbrev s_is_harmonic : Stmt := top 19
abbrev N_is_harmonic : List Str := ["farm", "limits", "one", "other"]
theorem sc_is_harmonic : FnScope N_is_harmonic ["farm"] (defScope s_is_harmonic) := ⟨rfl, rfl, rfl, by decide +kernel, rfl, by decide +kernel, by decide +kernel⟩
abbrev s_Rule___init__ : Stmt := inClass (top 20) 0
abbrev N_Rule___init__ : List Str := ["self", "farm", "carts", "top", "bottom", "free", "cart", "limit", "place", "rest", "size", "step", "turn"]
theorem sc_Rule___init__ : FnScope N_Rule___init__ ["self", "farm", "carts"] (defScope s_Rule___init__) := ⟨rfl, rfl, rfl, by decide +kernel, rfl, by decide +kernel, by decide +kernel⟩
abbrev s_Rule___getitem__ : Stmt := inClass (top 20) 2
abbrev N_Rule___getitem__ : List Str := ["self", "name"]
theorem sc_Rule___getitem__ : FnScope N_Rule___getitem__ ["self", "name"] (defScope s_Rule___getitem__) := ⟨rfl, rfl, rfl, by decide +kernel, rfl, by decide +kernel, by decide +kernel⟩
abbrev s_Rule___call__ : Stmt := inClass (top 20) 1
abbrev N_Rule___call__ : List Str := ["self", "day", "found", "name", "cart", "rest"]
theorem sc_Rule___call__ : FnScope N_Rule___call__ ["self", "day"] (defScope s_Rule___call__) := ⟨rfl, rfl, rfl, by decide +kernel, rfl, by decide +kernel, by decide +kernel⟩
abbrev s_Rule_count : Stmt := inClass (top 20) 4
abbrev N_Rule_count : List Str := ["self", "name", "days", "rest", "limit"]
theorem sc_Rule_count : FnScope N_Rule_count ["self", "name", "days"] (defScope s_Rule_count) := ⟨rfl, rfl, rfl, by decide +kernel, rfl, by decide +kernel, by decide +kernel⟩
abbrev s_law_same : Stmt := top 24
abbrev N_law_same : List Str := ["_law_result", "_law_expected", "_law_k"]
theorem sc_law_same : FnScope N_law_same ["_law_result", "_law_expected"] (defScope s_law_same) := ⟨rfl, rfl, rfl, by decide +kernel, rfl, by decide +kernel, by decide +kernel⟩
abbrev s_law_outcome : Stmt := top 25
abbrev N_law_outcome : List Str := ["_law_work"]
theorem sc_law_outcome : FnScope N_law_outcome ["_law_work"] (defScope s_law_outcome) := ⟨rfl, rfl, rfl, by decide +kernel, rfl, by decide +kernel, by decide +kernel⟩
abbrev s_law_limits : Stmt := top 26
abbrev N_law_limits : List Str := ["_law_state", "_law_chain", "_law_limits_here", "_law_product", "_law_k", "_law_limit"]
theorem sc_law_limits : FnScope N_law_limits ["_law_state"] (defScope s_law_limits) := ⟨rfl, rfl, rfl, by decide +kernel, rfl, by decide +kernel, by decide +kernel⟩
abbrev s_law_sorted_divides : Stmt := top 27
abbrev N_law_sorted_divides : List Str := ["_law_limits_here", "_law_ordered", "_law_k"]
theorem sc_law_sorted_divides : FnScope N_law_sorted_divides ["_law_limits_here"] (defScope s_law_sorted_divides) := ⟨rfl, rfl, rfl, by decide +kernel, rfl, by decide +kernel, by decide +kernel⟩
abbrev s_law_rule_is_good : Stmt := top 28
abbrev N_law_rule_is_good : List Str := ["_law_rule", "_law_names", "_law_limits_here", "_law_carts", "_law_classes", "_law_name", "_law_k", "_law_cart", "_law_rest", "_law_m", "_law_step"]
theorem sc_law_rule_is_good : FnScope N_law_rule_is_good ["_law_rule", "_law_names", "_law_limits_here", "_law_carts"] (defScope s_law_rule_is_good) := ⟨rfl, rfl, rfl, by decide +kernel, rfl, by decide +kernel, by decide +kernel⟩
abbrev s_law_days_are_good : Stmt := top 29
abbrev N_law_days_are_good : List Str := ["_law_rule", "_law_names", "_law_limits_here", "_law_start_here", "_law_day", "_law_found", "_law_k", "_law_cart", "_law_name", "_law_rest", "_law_count"]
theorem sc_law_days_are_good : FnScope N_law_days_are_good ["_law_rule", "_law_names", "_law_limits_here", "_law_start_here"] (defScope s_law_days_are_good) := ⟨rfl, rfl, rfl, by decide +kernel, rfl, by decide +kernel, by decide +kernel⟩
abbrev s_law : Stmt := top 30
abbrev N_law : List Str := ["_law_script", "_law_state", "_law_turn", "_law_limits_here", "_law_carts", "_law_names", "_law_farm", "_law_k", "_law_harmonic", "_law_found", "_law_product", "_law_limit", "_law_start_here", "_law_works", "_law_work"]
theorem sc_law : FnScope N_law ["_law_script"] (defScope s_law) := ⟨rfl, rfl, rfl, by decide +kernel, rfl, by decide +kernel, by decide +kernel⟩
end HC
namespace HC
open PyProof.Rows PySem L2 PySem.Spec

def endFx : List Tst := [fun K => propB K (He.ga K "Farm") "names",
  fun K => propB K (He.ga K "Farm") "limits",
  fun K => propB K (He.ga K "Farm") "fields",
  fun K => propB K (He.ga K "Farm") "share",
  fun K => gconB K (He.ga K "Farm") "MAX_FIELDS" (.int 6),
  fun K => gconB K (He.ga K "Farm") "MAX_STATES" (.int 4000),
  fun K => excTB K (He.ga K "InvalidNumber"),
  fun K => excTB K (He.ga K "NotHarmonic"),
  fun K => excTB K (He.ga K "TooFewCarts"),
  fun K => PySem.W.selfFirst K (He.ga K "Farm"),
  fun K => decide (PySem.W.exmOne K (.ref (He.ga K "InvalidNumber")) (.ref (He.ga K "InvalidNumber")) = some true),
  fun K => decide (PySem.W.exmOne K (.ref (He.ga K "InvalidNumber")) (.ref (He.ga K "NotHarmonic")) = some false),
  fun K => decide (PySem.W.exmOne K (.ref (He.ga K "InvalidNumber")) (.ref (He.ga K "TooFewCarts")) = some false),
  fun K => decide (PySem.W.exmOne K (.ref (He.ga K "NotHarmonic")) (.ref (He.ga K "InvalidNumber")) = some false),
  fun K => decide (PySem.W.exmOne K (.ref (He.ga K "NotHarmonic")) (.ref (He.ga K "NotHarmonic")) = some true),
  fun K => decide (PySem.W.exmOne K (.ref (He.ga K "NotHarmonic")) (.ref (He.ga K "TooFewCarts")) = some false),
  fun K => decide (PySem.W.exmOne K (.ref (He.ga K "TooFewCarts")) (.ref (He.ga K "InvalidNumber")) = some false),
  fun K => decide (PySem.W.exmOne K (.ref (He.ga K "TooFewCarts")) (.ref (He.ga K "NotHarmonic")) = some false),
  fun K => decide (PySem.W.exmOne K (.ref (He.ga K "TooFewCarts")) (.ref (He.ga K "TooFewCarts")) = some true),
  fun K => decide ((He.ga K "InvalidNumber") ≠ (He.ga K "NotHarmonic")),
  fun K => decide ((He.ga K "InvalidNumber") ≠ (He.ga K "TooFewCarts")),
  fun K => decide ((He.ga K "NotHarmonic") ≠ (He.ga K "TooFewCarts"))]
def endFa : List He.Fa := [.free "len",
  .free "abs",
  .free "min",
  .free "max",
  .free "all",
  .free "any",
  .free "sum",
  .free "isinstance",
  .free "list",
  .free "tuple",
  .free "int",
  .free "str",
  .free "bool",
  .free "dict",
  .free "range",
  .free "enumerate",
  .free "zip",
  .free "sorted",
  .free "set",
  .str "LETTERS" "abcdefghijklmnopqrstuvwxyz",
  .int "MAX_LETTERS" 8,
  .int "MAX_LIMIT" 30,
  .int "MAX_DAY" 1000000000000000000,
  .glo "Farm",
  .cls "Farm",
  .glo "Rule",
  .cls "Rule",
  .glo "is_name",
  .glo "validate_number",
  .glo "greatest_divisor",
  .glo "is_harmonic",
  .glo "_law_start",
  .glo "_law_drawn",
  .glo "_law_same",
  .glo "_law_outcome",
  .glo "_law_limits",
  .glo "_law_sorted_divides",
  .glo "_law_rule_is_good",
  .glo "_law_days_are_good",
  .glo "law",
  .glo "InvalidNumber",
  .glo "NotHarmonic",
  .glo "TooFewCarts",
  .glo "_law_outcome",
  .noat "Farm" "rows",
  .noat "Rule" "farm",
  .noat "Rule" "classes",
  .meth "Farm" "__add__",
  .meth "Farm" "__getitem__",
  .meth "Rule" "__call__",
  .meth "Rule" "__getitem__",
  .meth "Rule" "count",
  .mkr "Farm",
  .mkr "Rule"]
def endFn : List He5.DefA := [⟨fun K => He.ga K "is_name", "is_name", "is_name", defArgs s_is_name, defBody s_is_name, defScope s_is_name, [], []⟩,
  ⟨fun K => He.ga K "validate_number", "validate_number", "validate_number", defArgs s_validate_number, defBody s_validate_number, defScope s_validate_number, [], []⟩,
  ⟨fun K => He.ga K "greatest_divisor", "greatest_divisor", "greatest_divisor", defArgs s_greatest_divisor, defBody s_greatest_divisor, defScope s_greatest_divisor, [], []⟩,
  ⟨fun K => He.ga K "is_harmonic", "is_harmonic", "is_harmonic", defArgs s_is_harmonic, defBody s_is_harmonic, defScope s_is_harmonic, [], []⟩,
  ⟨fun K => He.ga K "_law_start", "_law_start", "_law_start", defArgs s_law_start, defBody s_law_start, defScope s_law_start, [], []⟩,
  ⟨fun K => He.ga K "_law_drawn", "_law_drawn", "_law_drawn", defArgs s_law_drawn, defBody s_law_drawn, defScope s_law_drawn, [], []⟩,
  ⟨fun K => He.ga K "_law_same", "_law_same", "_law_same", defArgs s_law_same, defBody s_law_same, defScope s_law_same, [], []⟩,
  ⟨fun K => He.ga K "_law_outcome", "_law_outcome", "_law_outcome", defArgs s_law_outcome, defBody s_law_outcome, defScope s_law_outcome, [], []⟩,
  ⟨fun K => He.ga K "_law_limits", "_law_limits", "_law_limits", defArgs s_law_limits, defBody s_law_limits, defScope s_law_limits, [], []⟩,
  ⟨fun K => He.ga K "_law_sorted_divides", "_law_sorted_divides", "_law_sorted_divides", defArgs s_law_sorted_divides, defBody s_law_sorted_divides, defScope s_law_sorted_divides, [], []⟩,
  ⟨fun K => He.ga K "_law_rule_is_good", "_law_rule_is_good", "_law_rule_is_good", defArgs s_law_rule_is_good, defBody s_law_rule_is_good, defScope s_law_rule_is_good, [], []⟩,
  ⟨fun K => He.ga K "_law_days_are_good", "_law_days_are_good", "_law_days_are_good", defArgs s_law_days_are_good, defBody s_law_days_are_good, defScope s_law_days_are_good, [], []⟩,
  ⟨fun K => He.ga K "law", "law", "law", defArgs s_law, defBody s_law, defScope s_law, [], []⟩,
  ⟨fun K => He.ma K (He.ga K "Farm") "__add__", "__add__", "Farm.__add__", defArgs s_Farm___add__, defBody s_Farm___add__, defScope s_Farm___add__, [], []⟩,
  ⟨fun K => He.ma K (He.ga K "Farm") "__getitem__", "__getitem__", "Farm.__getitem__", defArgs s_Farm___getitem__, defBody s_Farm___getitem__, defScope s_Farm___getitem__, [], []⟩,
  ⟨fun K => He.ma K (He.ga K "Rule") "__call__", "__call__", "Rule.__call__", defArgs s_Rule___call__, defBody s_Rule___call__, defScope s_Rule___call__, [], []⟩,
  ⟨fun K => He.ma K (He.ga K "Rule") "__getitem__", "__getitem__", "Rule.__getitem__", defArgs s_Rule___getitem__, defBody s_Rule___getitem__, defScope s_Rule___getitem__, [], []⟩,
  ⟨fun K => He.ma K (He.ga K "Rule") "count", "count", "Rule.count", defArgs s_Rule_count, defBody s_Rule_count, defScope s_Rule_count, [], []⟩,
  ⟨fun K => He.ma K (He.ga K "Farm") "__init__", "__init__", "Farm.__init__", defArgs s_Farm___init__, defBody s_Farm___init__, defScope s_Farm___init__, [], []⟩,
  ⟨fun K => He.ma K (He.ga K "Rule") "__init__", "__init__", "Rule.__init__", defArgs s_Rule___init__, defBody s_Rule___init__, defScope s_Rule___init__, [], []⟩,
  ⟨fun K => pgA K (He.ga K "Farm") "names", "names", "Farm.names", defArgs s_Farm_names, defBody s_Farm_names, defScope s_Farm_names, [], []⟩,
  ⟨fun K => pgA K (He.ga K "Farm") "limits", "limits", "Farm.limits", defArgs s_Farm_limits, defBody s_Farm_limits, defScope s_Farm_limits, [], []⟩,
  ⟨fun K => pgA K (He.ga K "Farm") "fields", "fields", "Farm.fields", defArgs s_Farm_fields, defBody s_Farm_fields, defScope s_Farm_fields, [], []⟩,
  ⟨fun K => pgA K (He.ga K "Farm") "share", "share", "Farm.share", defArgs s_Farm_share, defBody s_Farm_share, defScope s_Farm_share, [], []⟩]
def endTf : List He.Defn := [("law", none)]
abbrev endR : PySem.W.OpenRow := PySem.W.OpenLaw.row PySem.Challenge.rw_harvestcarts_k07_harmonic_rules
abbrev endHk : PySem.W.Hook := hookL 5 endFx endFa endFn endTf
def endOb (s : PySem.W.SharedT) : He.AlD × Bool := obsLG 5 endFx endFa endFn endTf (HandSHeadRun.getT s)
theorem endOb_eq (s : PySem.W.SharedT) : endOb s = endHk.obs s.abs := obsLG_eq (HandSHeadRun.getT_eq s)
def endNames0 : List Str := ["_wall", "FarmError", "InvalidFarm", "TooManyStates", "UnknownField", "InvalidNumber", "NotHarmonic", "TooFewCarts", "LETTERS", "MAX_LETTERS", "MAX_LIMIT", "MAX_DAY", "validate_number", "is_name", "greatest_divisor", "Farm", "is_harmonic", "Rule", "_law_start", "_law_drawn"]
def endNames1 : List Str := ["_law_same", "_law_outcome", "_law_limits", "_law_sorted_divides", "_law_rule_is_good", "_law_days_are_good"]
def endNames : List Str := endNames0 ++ endNames1
theorem endRun (w : World) : HandSHeadRun.RunEq endR (PySem.W.view endR.prog [30]) endHk endOb 40000 endNames w := by
  intro os
  kernel_rfl
abbrev EndStmt : Prop := ∀ {P : Program} {w : World} {K : PySem.W.Frag} {h : Heap} {mg : Str → Option Value} {f : Addr} (X : K.In h) (G : h.Ns mainGlobals mg) (hfa : mg ("law" : Str) = some (.ref f)) (cc : SaysL endFx endFa endFn endTf h K), ∃ fd : FuncData, (∀ (s : Shared) (v : Value), BindsTo s fd ⟨[v], []⟩ [("_law_script", v)]) ∧ ∀ base : Heap, K.In base → base.Ns mainGlobals mg → (∀ p ∈ endTf.map (He.cT K), LamX.TabB base mg p.1 p.2) → FnOk P w K mg base CX0 26 f fd ["_law_script"] (sp_law K (He.cT K ("law", none)).2)
end HC
open PySem PySem.W PySem.Calls PyProof.Rows in
set_option maxRecDepth 100000 in set_option maxHeartbeats 0 in
theorem HC.endHead (hF : HC.EndStmt) : PySem.Challenge.rw_harvestcarts_k07_harmonic_rules.Holds := by
  unfold HC.EndStmt at hF
  w_on; o_law
  refine HandSHeadRun.head_any (r := OpenLaw.row PySem.Challenge.rw_harvestcarts_k07_harmonic_rules) (q := view (OpenLaw.row PySem.Challenge.rw_harvestcarts_k07_harmonic_rules).prog [30]) (H := HC.endHk) (ob := HC.endOb) (M := 40000) (loose := HC.endNames) (d := HandSHeadRun.topDef (OpenLaw.row PySem.Challenge.rw_harvestcarts_k07_harmonic_rules).prog 30) (kwd := []) HC.endOb_eq
    (by kernel_rfl) (fun s => by kernel_rfl) HC.endRun (by kernel_rfl) (by kernel_rfl) (by kernel_rfl) (by rfl) (by first | assumption | decide +kernel) (by decide +kernel) ⟨rfl, rfl, rfl, rfl, rfl, by decide +kernel⟩ ?hw ?hc
  case hw => w_witness2
  case hc =>
    refine LamX.walk_ofTsE (l := PySem.Challenge.rw_harvestcarts_k07_harmonic_rules) (n := 63) (k := 26) (x := "_law_script") (CX := fun _ => L2.CX0) rfl (by decide) (by kernel_rfl) ⟨rfl, by decide, by decide⟩ ?F (fun _ _ _ _ _ z => z)
    intro w mg fa h Y G hmg0
    obtain ⟨K, KX, c⟩ := Y
    have hmg : mg (PySem.Str.ofString "law") = some (.ref fa) := by
      have e : (HandSHeadRun.topDef (OpenLaw.row PySem.Challenge.rw_harvestcarts_k07_harmonic_rules).prog 30).name = ("law" : PySem.Str) := by kernel_rfl
      rw [← e]
      exact hmg0
    obtain ⟨fd, hb, hF⟩ := hF (P := (PySem.Challenge.rw_harvestcarts_k07_harmonic_rules).prog) (w := w) KX G hmg c
    have back : ∀ {p : Addr × Addr}, p ∈ HC.endTf.map (He.cT K) → ∃ q ∈ HC.endTf, He.cT K q = p := fun hp => List.mem_map.mp hp
    refine ⟨K, KX, fd, HC.endTf.map (He.cT K), HC.sp_law K (He.cT K ("law", none)).2, fun p hp => ?_, fun p hp => ?_, fun p hp => ?_, hb, fun H a ns hl _ hTb hS => ⟨a, ns, rfl, hS, hl, hTb _ (List.mem_map.mpr ⟨("law", none), by simp [HC.endTf], rfl⟩), fun _ => rfl⟩, hF⟩
    · obtain ⟨q, hq, rfl⟩ := back hp; exact c.empty q hq
    · obtain ⟨q, hq, rfl⟩ := back hp; exact c.out q hq
    · obtain ⟨q, hq, rfl⟩ := back hp; exact codeHd_of_K KX (c.hd q hq)
/-! len(set(e)) of texts that may be alike, e a tuple or a list -/
namespace HC
open PyProof.Rows PySem L2 PySem.Spec
/-- the texts of a list, each once -/
def accD (l : List Str) : List Str := l.foldl (fun acc z => if z ∈ acc then acc else z :: acc) []
/-- how many there are -/
def dst (l : List Str) : Nat := (accD l).length
section
variable {P : Program} {w : World} {A : Around} {E : Value → Shared → Prop} {s : Shared} {I S : Addr} {fp wr : List Addr} {Pv : Nat → Value → Prop} {St : Nat → Heap → Prop} {R : Result → Shared → Prop}
end
end HC

/-! tuple * n, n at least 1 -/
namespace HC
open PyProof.Rows PySem L2 PySem.Spec
end HC

/-! a tuple that was made by tuple(list): its object is told, so its methods can be called -/
namespace HC
open PyProof.Rows PySem L2 PySem.Spec
/-- a tuple whose object is known to bear no dict -/
def Bare (H : Hp) (a : Addr) (xs : List V) : Prop := ∃ o : Obj, H a = some (.frz o (.tup xs)) ∧ o.dict = none
theorem Bare.sq {K : PySem.W.Frag} {H : Hp} {a : Addr} {xs : List V} (h : Bare H a xs) : SqT K H a xs := let ⟨o, e, _⟩ := h; .inl (.inr ⟨o, e⟩)
theorem Bare.same {H H' : Hp} {a : Addr} {xs : List V} (e : Same H H') (h : Bare H a xs) : Bare H' a xs := let ⟨o, h1, h2⟩ := h; ⟨o, e _ _ h1, h2⟩
section
variable {X : Cx} {o e : Expr} {to te : TE} {apos cpos p pos : Pos}
end
end HC

/-! ### data, and what a piece of code does to data: the heap behind it is told once, here -/
namespace HC
open PyProof.Rows PySem L2 PySem.Spec
/-- a value with all that hangs on it -/
inductive Da where
  | non | bl (b : Bool) | int (i : Int) | str (x : Str)
  | tup (xs : List Da) | lst (xs : List Da)
  | obj (C : Addr) (fs : List (Str × Da))
  | dK (kvs : List (Key × Da)) | dT (kvs : List (List Key × Da)) | scr (xs : List Int) | btup (xs : List Da)
/-- a dict that is locked or unlocked -/
inductive Lk : HO → HO → Prop
  | refl (o : HO) : Lk o o
  | lock (ob : Obj) (kvs : List (Key × V)) : Lk (.dK kvs) (.frz ob (.dK kvs))
  | free (ob : Obj) (kvs : List (Key × V)) : Lk (.frz ob (.dK kvs)) (.dK kvs)
/-- the list at a is written for good, or it stands and may not change -/
def ScrAt (K : PySem.W.Frag) (S : Addr → Prop) (H : Hp) (a : Addr) (vs : List V) : Prop := (¬ S a ∧ Rd H a (.lst vs)) ∨ ∀ H', SqL K H' a vs
theorem ScrAt.of {K : PySem.W.Frag} {S : Addr → Prop} {H : Hp} {a : Addr} {vs : List V} (n : ¬ S a) (h : SqL K H a vs) : ScrAt K S H a vs := h.elim (fun h => .inl ⟨n, h⟩) fun h => .inr fun _ => .inr h
theorem ScrAt.sq {K : PySem.W.Frag} {S : Addr → Prop} {H : Hp} {a : Addr} {vs : List V} (h : ScrAt K S H a vs) : SqL K H a vs := h.elim (fun h => .inl h.2) fun h => h H
mutual
/-- v stands for x; S: the addresses that may still change -/
inductive De (K : PySem.W.Frag) (S : Addr → Prop) (H : Hp) : V → Da → Prop
  | non : De K S H .non .non
  | bl (b : Bool) : De K S H (.bl b) (.bl b)
  | int (i : Int) : De K S H (.int i) (.int i)
  | str {x : Str} : PyData.strOk x = true → De K S H (.str x) (.str x)
  | tup {a : Addr} {vs : List V} {xs : List Da} : H a = some (.tup vs) → DeAll K S H vs xs → De K S H (.ref a) (.tup xs)
  | lst {a : Addr} {vs : List V} {xs : List Da} : ¬ S a → H a = some (.lst vs) → DeAll K S H vs xs → De K S H (.ref a) (.lst xs)
  | btup {a : Addr} {o : Obj} {vs : List V} {xs : List Da} : ¬ S a → H a = some (.frz o (.tup vs)) → o.dict = none → DeAll K S H vs xs → De K S H (.ref a) (.btup xs)
  | scr {a : Addr} {xs : List Int} : ScrAt K S H a (xs.map V.int) → De K S H (.ref a) (.scr xs)
  | obj {a C dx : Addr} {gs : List (Str × V)} {fs : List (Str × Da)} : ¬ S a → H a = some (.ins C dx gs) → gs.map (·.1) = fs.map (·.1) → DeAll K S H (gs.map (·.2)) (fs.map (·.2)) → De K S H (.ref a) (.obj C fs)
  | dK {a : Addr} {gs : List (Key × V)} {fs : List (Key × Da)} : ¬ S a → Rd H a (.dK gs) → gs.map (·.1) = fs.map (·.1) → DeAll K S H (gs.map (·.2)) (fs.map (·.2)) → De K S H (.ref a) (.dK fs)
  | dT {a : Addr} {ob : Obj} {gs : List (List Key × V)} {fs : List (List Key × Da)} : ¬ S a → H a = some (.frz ob (.dT gs)) → gs.map (·.1) = fs.map (·.1) → DeAll K S H (gs.map (·.2)) (fs.map (·.2)) → De K S H (.ref a) (.dT fs)
inductive DeAll (K : PySem.W.Frag) (S : Addr → Prop) (H : Hp) : List V → List Da → Prop
  | nil : DeAll K S H [] []
  | cons {v : V} {vs : List V} {x : Da} {xs : List Da} : De K S H v x → DeAll K S H vs xs → DeAll K S H (v :: vs) (x :: xs)
end
/-- from S, H to S', H': what S does not hold stands (but for locks), what F holds stands -/
structure Ev (K : PySem.W.Frag) (S S' : Addr → Prop) (H H' : Hp) (F : List Addr) : Prop where
  sub : ∀ b, S' b → S b ∨ H b = none
  keep : ∀ b o, ¬ S b → H b = some o → ∃ o', H' b = some o' ∧ Lk o o'
  own : ∀ b o, b ∈ F → H b = some o → H' b = some o
  tk : ∀ a xs, H a = some (.tup xs) → H' a = some (.tup xs)
theorem lk_lst {xs : List V} {o : HO} (h : Lk (.lst xs) o) : o = .lst xs := by cases h; rfl
theorem lk_flst {ob : Obj} {xs : List V} {o : HO} (h : Lk (.frz ob (.lst xs)) o) : o = .frz ob (.lst xs) := by cases h; rfl
theorem lk_ftup {ob : Obj} {xs : List V} {o : HO} (h : Lk (.frz ob (.tup xs)) o) : o = .frz ob (.tup xs) := by cases h; rfl
theorem lk_fdT {ob : Obj} {kvs : List (List Key × V)} {o : HO} (h : Lk (.frz ob (.dT kvs)) o) : o = .frz ob (.dT kvs) := by cases h; rfl
theorem lk_ins {C dx : Addr} {fs : List (Str × V)} {o : HO} (h : Lk (.ins C dx fs) o) : o = .ins C dx fs := by cases h; rfl
section
variable {K : PySem.W.Frag} {S S' S'' : Addr → Prop} {H H' H'' : Hp} {F F' F1 F2 : List Addr} {v w : V} {vs ws : List V} {x y : Da} {xs ys : List Da}
theorem Ev.off (e : Ev K S S' H H' F) {a : Addr} {o : HO} (n : ¬ S a) (h : H a = some o) : ¬ S' a := fun z => (e.sub a z).elim n fun q => by rw [h] at q; cases q
theorem Ev.lst (e : Ev K S S' H H' F) {a : Addr} {xs : List V} (n : ¬ S a) (h : H a = some (.lst xs)) : H' a = some (.lst xs) := by
  obtain ⟨o, h1, h2⟩ := e.keep _ _ n h
  cases lk_lst h2
  exact h1
theorem Ev.scr (e : Ev K S S' H H' F) {a : Addr} {ob : Obj} {xs : List V} (n : ¬ S a) (h : H a = some (.frz ob (.lst xs))) : H' a = some (.frz ob (.lst xs)) := by
  obtain ⟨o, h1, h2⟩ := e.keep _ _ n h
  cases lk_flst h2
  exact h1
theorem Ev.scrAt (e : Ev K S S' H H' F) {a : Addr} {xs : List V} (h : ScrAt K S H a xs) : ScrAt K S' H' a xs := by
  rcases h with ⟨n, h | ⟨o, h⟩⟩ | h
  · exact .inl ⟨e.off n h, .inl (e.lst n h)⟩
  · exact .inl ⟨e.off n h, .inr ⟨o, e.scr n h⟩⟩
  · exact .inr h
theorem Ev.btup (e : Ev K S S' H H' F) {a : Addr} {ob : Obj} {xs : List V} (n : ¬ S a) (h : H a = some (.frz ob (.tup xs))) : H' a = some (.frz ob (.tup xs)) := by
  obtain ⟨o, h1, h2⟩ := e.keep _ _ n h
  cases lk_ftup h2
  exact h1
theorem Ev.ins (e : Ev K S S' H H' F) {a C dx : Addr} {fs : List (Str × V)} (n : ¬ S a) (h : H a = some (.ins C dx fs)) : H' a = some (.ins C dx fs) := by
  obtain ⟨o, h1, h2⟩ := e.keep _ _ n h
  cases lk_ins h2
  exact h1
theorem Ev.dK (e : Ev K S S' H H' F) {a : Addr} {kvs : List (Key × V)} (n : ¬ S a) (h : Rd H a (.dK kvs)) : ¬ S' a ∧ Rd H' a (.dK kvs) := by
  rcases h with h | ⟨q, h⟩
  · obtain ⟨o, h1, h2⟩ := e.keep _ _ n h
    refine ⟨e.off n h, ?_⟩
    cases h2 with
    | refl => exact .inl h1
    | lock ob => exact .inr ⟨ob, h1⟩
  · obtain ⟨o, h1, h2⟩ := e.keep _ _ n h
    refine ⟨e.off n h, ?_⟩
    cases h2 with
    | refl => exact .inr ⟨q, h1⟩
    | free => exact .inl h1
theorem Ev.fdT (e : Ev K S S' H H' F) {a : Addr} {ob : Obj} {kvs : List (List Key × V)} (n : ¬ S a) (h : H a = some (.frz ob (.dT kvs))) : H' a = some (.frz ob (.dT kvs)) := by
  obtain ⟨o, h1, h2⟩ := e.keep _ _ n h
  cases lk_fdT h2
  exact h1
theorem ev_both (e : Ev K S S' H H' F) : (∀ {v x}, De K S H v x → De K S' H' v x) ∧ ∀ {vs xs}, DeAll K S H vs xs → DeAll K S' H' vs xs := by
  have c1 := @De.rec K S H (fun v x _ => De K S' H' v x) (fun vs xs _ => DeAll K S' H' vs xs) .non (fun b => .bl b) (fun i => .int i) (fun h => .str h) (fun h _ r => .tup (e.tk _ _ h) r)
    (fun n h _ r => .lst (e.off n h) (e.lst n h) r) (fun n h d _ r => .btup (e.off n h) (e.btup n h) d r) (fun h => .scr (e.scrAt h)) (fun n h m _ r => .obj (e.off n h) (e.ins n h) m r) (fun n h m _ r => .dK (e.dK n h).1 (e.dK n h).2 m r) (fun n h m _ r => .dT (e.off n h) (e.fdT n h) m r) .nil (fun _ _ a b => .cons a b)
  have c2 := @DeAll.rec K S H (fun v x _ => De K S' H' v x) (fun vs xs _ => DeAll K S' H' vs xs) .non (fun b => .bl b) (fun i => .int i) (fun h => .str h) (fun h _ r => .tup (e.tk _ _ h) r)
    (fun n h _ r => .lst (e.off n h) (e.lst n h) r) (fun n h d _ r => .btup (e.off n h) (e.btup n h) d r) (fun h => .scr (e.scrAt h)) (fun n h m _ r => .obj (e.off n h) (e.ins n h) m r) (fun n h m _ r => .dK (e.dK n h).1 (e.dK n h).2 m r) (fun n h m _ r => .dT (e.off n h) (e.fdT n h) m r) .nil (fun _ _ a b => .cons a b)
  exact ⟨fun h => c1 h, fun h => c2 h⟩
theorem De.ev (h : De K S H v x) (e : Ev K S S' H H' F) : De K S' H' v x := (ev_both e).1 h
theorem DeAll.ev (h : DeAll K S H vs xs) (e : Ev K S S' H H' F) : DeAll K S' H' vs xs := (ev_both e).2 h
theorem Ev.mono (e : Ev K S S' H H' F) (h : ∀ b ∈ F', b ∈ F) : Ev K S S' H H' F' := ⟨e.sub, e.keep, fun b o z => e.own b o (h b z), e.tk⟩
theorem Ev.same (s : Same H H') : Ev K S S H H' F := ⟨fun _ z => .inl z, fun b o _ h => ⟨o, s b o h, .refl o⟩, fun b o _ h => s b o h, fun a _ h => s a _ h⟩
theorem Ev.less (h : ∀ b, S' b → S b) : Ev K S S' H H F := ⟨fun b z => .inl (h b z), fun b o _ h => ⟨o, h, .refl o⟩, fun b o _ h => h, fun _ _ h => h⟩
theorem DeAll.len : ∀ {vs : List V} {xs : List Da}, DeAll K S H vs xs → vs.length = xs.length
  | _, _, .nil => rfl
  | _, _, .cons _ b => congrArg Nat.succ (DeAll.len b)
theorem DeAll.app : ∀ {vs ws : List V} {xs ys : List Da}, DeAll K S H vs xs → DeAll K S H ws ys → DeAll K S H (vs ++ ws) (xs ++ ys)
  | _, _, _, _, .nil, s => s
  | _, _, _, _, .cons r t, s => .cons r (DeAll.app t s)
theorem DeAll.at {i : Nat} {vs : List V} {xs : List Da} {v : V} (h : DeAll K S H vs xs) (e : vs[i]? = some v) : ∃ x, xs[i]? = some x ∧ De K S H v x :=
  match i, h, e with
  | 0, .cons a _, e => ⟨_, rfl, Option.some.inj e ▸ a⟩
  | j + 1, .cons _ b, e => DeAll.at (i := j) b e
theorem DeAll.atD {i : Nat} {vs : List V} {xs : List Da} {x : Da} (h : DeAll K S H vs xs) (e : xs[i]? = some x) : ∃ v, vs[i]? = some v ∧ De K S H v x :=
  match i, h, e with
  | 0, .cons a _, e => ⟨_, rfl, Option.some.inj e ▸ a⟩
  | j + 1, .cons _ b, e => DeAll.atD (i := j) b e
theorem DeAll.take : ∀ {vs : List V} {xs : List Da} (n : Nat), DeAll K S H vs xs → DeAll K S H (vs.take n) (xs.take n)
  | _, _, 0, _ => .nil
  | _, _, _ + 1, .nil => .nil
  | _, _, n + 1, .cons r t => .cons r (DeAll.take n t)
theorem DeAll.drop : ∀ {vs : List V} {xs : List Da} (n : Nat), DeAll K S H vs xs → DeAll K S H (vs.drop n) (xs.drop n)
  | _, _, 0, r => r
  | _, _, _ + 1, .nil => .nil
  | _, _, n + 1, .cons _ t => DeAll.drop n t
end
/-- what a name or an item holds: nothing that is known; data; a value as it is; a tuple of such -/
inductive Sl where
  | no | da (x : Da) | raw (v : V) | tup (ys : List Sl)
mutual
inductive VOk (K : PySem.W.Frag) (S : Addr → Prop) (H : Hp) : V → Sl → Prop
  | da {v : V} {x : Da} : De K S H v x → VOk K S H v (.da x)
  | raw (v : V) : VOk K S H v (.raw v)
  | tup {a : Addr} {vs : List V} {ys : List Sl} : H a = some (.tup vs) → VAll K S H vs ys → VOk K S H (.ref a) (.tup ys)
inductive VAll (K : PySem.W.Frag) (S : Addr → Prop) (H : Hp) : List V → List Sl → Prop
  | nil : VAll K S H [] []
  | cons {v : V} {vs : List V} {y : Sl} {ys : List Sl} : VOk K S H v y → VAll K S H vs ys → VAll K S H (v :: vs) (y :: ys)
end
/-- a slot -/
inductive SlOk (K : PySem.W.Frag) (S : Addr → Prop) (H : Hp) : Option V → Sl → Prop
  | no (o : Option V) : SlOk K S H o .no
  | some {v : V} {y : Sl} : VOk K S H v y → SlOk K S H (some v) y
section
variable {K : PySem.W.Frag} {S S' S'' : Addr → Prop} {H H' H'' : Hp} {F F' F1 F2 : List Addr} {v w : V} {vs ws : List V} {y : Sl} {ys zs : List Sl} {xs : List Da}
theorem vo_both (e : Ev K S S' H H' F) : (∀ {v x}, VOk K S H v x → VOk K S' H' v x) ∧ ∀ {vs xs}, VAll K S H vs xs → VAll K S' H' vs xs := by
  have c1 := @VOk.rec K S H (fun v x _ => VOk K S' H' v x) (fun vs xs _ => VAll K S' H' vs xs) (fun h => .da (h.ev e)) (fun v => .raw v) (fun h _ r => .tup (e.tk _ _ h) r) .nil (fun _ _ a b => .cons a b)
  have c2 := @VAll.rec K S H (fun v x _ => VOk K S' H' v x) (fun vs xs _ => VAll K S' H' vs xs) (fun h => .da (h.ev e)) (fun v => .raw v) (fun h _ r => .tup (e.tk _ _ h) r) .nil (fun _ _ a b => .cons a b)
  exact ⟨fun h => c1 h, fun h => c2 h⟩
theorem VOk.ev (h : VOk K S H v y) (e : Ev K S S' H H' F) : VOk K S' H' v y := (vo_both e).1 h
theorem VAll.ev (h : VAll K S H vs ys) (e : Ev K S S' H H' F) : VAll K S' H' vs ys := (vo_both e).2 h
theorem VAll.len : ∀ {vs : List V} {ys : List Sl}, VAll K S H vs ys → vs.length = ys.length
  | _, _, .nil => rfl
  | _, _, .cons _ b => congrArg Nat.succ (VAll.len b)
theorem VAll.app : ∀ {vs ws : List V} {ys zs : List Sl}, VAll K S H vs ys → VAll K S H ws zs → VAll K S H (vs ++ ws) (ys ++ zs)
  | _, _, _, _, .nil, s => s
  | _, _, _, _, .cons r t, s => .cons r (VAll.app t s)
theorem VAll.at {i : Nat} {vs : List V} {ys : List Sl} {v : V} (h : VAll K S H vs ys) (e : vs[i]? = some v) : ∃ y, ys[i]? = some y ∧ VOk K S H v y :=
  match i, h, e with
  | 0, .cons a _, e => ⟨_, rfl, Option.some.inj e ▸ a⟩
  | j + 1, .cons _ b, e => VAll.at (i := j) b e
theorem VAll.atD {i : Nat} {vs : List V} {ys : List Sl} {y : Sl} (h : VAll K S H vs ys) (e : ys[i]? = some y) : ∃ v, vs[i]? = some v ∧ VOk K S H v y :=
  match i, h, e with
  | 0, .cons a _, e => ⟨_, rfl, Option.some.inj e ▸ a⟩
  | j + 1, .cons _ b, e => VAll.atD (i := j) b e
theorem VAll.take : ∀ {vs : List V} {ys : List Sl} (n : Nat), VAll K S H vs ys → VAll K S H (vs.take n) (ys.take n)
  | _, _, 0, _ => .nil
  | _, _, _ + 1, .nil => .nil
  | _, _, n + 1, .cons r t => .cons r (VAll.take n t)
theorem VAll.drop : ∀ {vs : List V} {ys : List Sl} (n : Nat), VAll K S H vs ys → VAll K S H (vs.drop n) (ys.drop n)
  | _, _, 0, r => r
  | _, _, _ + 1, .nil => .nil
  | _, _, n + 1, .cons _ t => VAll.drop n t
theorem VAll.set : ∀ {vs : List V} {ys : List Sl} (n : Nat) {v : V} {y : Sl}, VAll K S H vs ys → VOk K S H v y → VAll K S H (vs.set n v) (ys.set n y)
  | _, _, _, _, _, .nil, _ => .nil
  | _, _, 0, _, _, .cons _ t, h => .cons h t
  | _, _, n + 1, _, _, .cons r t, h => .cons r (VAll.set n t h)
theorem VAll.erase : ∀ {vs : List V} {ys : List Sl} (n : Nat), VAll K S H vs ys → VAll K S H (vs.eraseIdx n) (ys.eraseIdx n)
  | _, _, _, .nil => .nil
  | _, _, 0, .cons _ t => t
  | _, _, n + 1, .cons r t => .cons r (VAll.erase n t)
theorem VAll.das : ∀ {vs : List V} {xs : List Da}, VAll K S H vs (xs.map .da) → DeAll K S H vs xs
  | _, [], .nil => .nil
  | _, _ :: _, .cons (.da h) t => .cons h (VAll.das t)
theorem DeAll.vall : ∀ {vs : List V} {xs : List Da}, DeAll K S H vs xs → VAll K S H vs (xs.map .da)
  | _, _, .nil => .nil
  | _, _, .cons h t => .cons (.da h) (DeAll.vall t)
theorem SlOk.ev {o : Option V} (h : SlOk K S H o y) (e : Ev K S S' H H' F) : SlOk K S' H' o y := by
  cases h with
  | no => exact .no _
  | some h => exact .some (h.ev e)
theorem VOk.slot (h : VOk K S H v y) : SlOk K S H (some v) y := .some h
end
abbrev Slots (K : PySem.W.Frag) (S : Addr → Prop) (H : Hp) : L2.St → List Sl → Prop := Paired (SlOk K S H)
theorem paired_imp {α β : Type} {P Q : α → β → Prop} (h : ∀ a b, P a b → Q a b) : ∀ {xs : List α} {ys : List β}, Paired P xs ys → Paired Q xs ys
  | _, _, .nil => .nil
  | _, _, .cons a b => .cons (h _ _ a) (paired_imp h b)
theorem paired_get1 {α β : Type} {P : α → β → Prop} {i : Nat} {y : β} : ∀ {xs : List α} {ys : List β}, Paired P xs ys → ys[i]? = some y → ∃ x, xs[i]? = some x ∧ P x y := by
  induction i with
  | zero =>
    intro xs ys h e
    cases h with
    | nil => cases e
    | cons a b => exact ⟨_, rfl, Option.some.inj e ▸ a⟩
  | succ j ih =>
    intro xs ys h e
    cases h with
    | nil => cases e
    | cons a b => exact ih b e
theorem paired_set {α β : Type} {P : α → β → Prop} {a : α} {b : β} (p : P a b) : ∀ {xs : List α} {ys : List β} (i : Nat), Paired P xs ys → Paired P (xs.set i a) (ys.set i b)
  | _, _, _, .nil => .nil
  | _, _, 0, .cons _ t => .cons p t
  | _, _, i + 1, .cons r t => .cons r (paired_set p i t)
theorem Slots.ev {K : PySem.W.Frag} {S S' : Addr → Prop} {H H' : Hp} {F : List Addr} {σ : L2.St} {sl : List Sl} (h : Slots K S H σ sl) (e : Ev K S S' H H' F) : Slots K S' H' σ sl := paired_imp (fun _ _ z => z.ev e) h
/-! ### things that may change -/
/-- a thing that may change: what it is, and that it stands as long as its own addresses and what never changes stand -/
structure Rs (K : PySem.W.Frag) where
  p : (Addr → Prop) → Hp → List Addr → Prop
  stb : ∀ {S S' : Addr → Prop} {H H' : Hp} {F : List Addr}, p S H F → Ev K S S' H H' F → p S' H' F
def Sep (K : PySem.W.Frag) (S : Addr → Prop) (H : Hp) : List (Rs K) → List Addr → Prop
  | [], F => F = []
  | R :: rs, F => ∃ F1 F2, F = F1 ++ F2 ∧ R.p S H F1 ∧ Sep K S H rs F2
def Mu (S0 : Addr → Prop) (F : List Addr) : Addr → Prop := fun b => S0 b ∨ b ∈ F
/-- the things of rs stand, their addresses are F; S0: what the callers may change -/
structure At (K : PySem.W.Frag) (S0 : Addr → Prop) (H : Hp) (rs : List (Rs K)) (F : List Addr) : Prop where
  sep : Sep K (Mu S0 F) H rs F
  nd : F.Nodup
  off : ∀ b ∈ F, ¬ S0 b
  liv : ∀ b, Mu S0 F b → NotT (H b) ∧ H b ≠ none
structure Stp (F : List Addr) (H : Hp) (F' : List Addr) (H' : Hp) : Prop where
  keep : ∀ b o, b ∉ F → H b = some o → H' b = some o
  new : ∀ b ∈ F', b ∈ F ∨ H b = none
section
variable {K : PySem.W.Frag} {S S' S0 : Addr → Prop} {H H' H1 H2 : Hp} {F F' F1 F2 : List Addr} {rs rs' : List (Rs K)}
theorem Sep.ev : ∀ {rs : List (Rs K)} {F G : List Addr}, Sep K S H rs F → Ev K S S' H H' G → (∀ b ∈ F, b ∈ G) → Sep K S' H' rs F
  | [], _, _, h, _, _ => h
  | _ :: _, _, _, ⟨F1, F2, e, h1, h2⟩, ev, m => ⟨F1, F2, e, Rs.stb _ h1 (ev.mono fun b hb => m b (by rw [e]; exact List.mem_append_left _ hb)), Sep.ev h2 ev fun b hb => m b (by rw [e]; exact List.mem_append_right _ hb)⟩
theorem Sep.app : ∀ {rs rs' : List (Rs K)} {F F' : List Addr}, Sep K S H rs F → Sep K S H rs' F' → Sep K S H (rs ++ rs') (F ++ F')
  | [], _, F, _, h, h' => by cases h; exact h'
  | _ :: _, _, _, F', ⟨F1, F2, e, h1, h2⟩, h' => ⟨F1, F2 ++ F', by rw [e, List.append_assoc], h1, Sep.app h2 h'⟩
theorem Sep.split : ∀ {rs rs' : List (Rs K)} {F : List Addr}, Sep K S H (rs ++ rs') F → ∃ F1 F2, F = F1 ++ F2 ∧ Sep K S H rs F1 ∧ Sep K S H rs' F2
  | [], _, F, h => ⟨[], F, rfl, rfl, h⟩
  | R :: rs, _, F, ⟨F1, F2, e, h1, h2⟩ => by
    obtain ⟨G1, G2, e2, a, b⟩ := Sep.split h2
    exact ⟨F1 ++ G1, G2, by rw [e, e2, List.append_assoc], ⟨F1, G1, rfl, h1, a⟩, b⟩
theorem Sep.perm (p : rs.Perm rs') : ∀ {F : List Addr}, Sep K S H rs F → ∃ F', F.Perm F' ∧ Sep K S H rs' F' := by
  induction p with
  | nil => exact fun h => ⟨_, .refl _, h⟩
  | cons R p ih =>
    rintro F ⟨F1, F2, rfl, h1, h2⟩
    obtain ⟨F', q, h⟩ := ih h2
    exact ⟨F1 ++ F', q.append_left F1, F1, F', rfl, h1, h⟩
  | swap R R' l =>
    rintro F ⟨F1, F2, rfl, h1, G1, G2, rfl, h2, h3⟩
    refine ⟨G1 ++ (F1 ++ G2), ?_, G1, F1 ++ G2, rfl, h2, F1, G2, rfl, h1, h3⟩
    rw [← List.append_assoc]; rw [← List.append_assoc]
    exact (List.perm_append_comm).append_right G2
  | trans p q ih1 ih2 =>
    intro F h
    obtain ⟨F1, q1, h1⟩ := ih1 h
    obtain ⟨F2, q2, h2⟩ := ih2 h1
    exact ⟨F2, q1.trans q2, h2⟩
theorem mu_perm (p : F.Perm F') : Mu S0 F = Mu S0 F' := funext fun b => propext ⟨fun h => h.imp id p.mem_iff.mp, fun h => h.imp id p.mem_iff.mpr⟩
theorem mu_app : Mu (Mu S0 F2) F1 = Mu S0 (F1 ++ F2) := funext fun b => propext (by
  unfold Mu
  rw [List.mem_append]
  exact ⟨fun h => h.elim (fun z => z.imp id .inr) fun z => .inr (.inl z), fun h => h.elim (fun z => .inl (.inl z)) fun z => z.elim .inr fun q => .inl (.inr q)⟩)
theorem At.perm (A : At K S0 H rs F) (p : rs.Perm rs') : ∃ F', F.Perm F' ∧ At K S0 H rs' F' := by
  obtain ⟨F', q, h⟩ := A.sep.perm p
  refine ⟨F', q, ?_, q.nodup_iff.mp A.nd, fun b hb => A.off b (q.mem_iff.mpr hb), fun b hb => A.liv b (by rw [mu_perm q]; exact hb)⟩
  rw [← mu_perm q]; exact h
theorem Stp.refl (F : List Addr) (H : Hp) : Stp F H F H := ⟨fun _ _ _ h => h, fun _ h => .inl h⟩
theorem Stp.trans (a : Stp F H F1 H1) (b : Stp F1 H1 F2 H2) : Stp F H F2 H2 := by
  refine ⟨fun c o n h => b.keep c o (fun z => (a.new c z).elim n fun q => by rw [h] at q; cases q) (a.keep c o n h), fun c hc => ?_⟩
  rcases b.new c hc with z | z
  · exact a.new c z
  · by_cases n : c ∈ F
    · exact .inl n
    · refine .inr ?_
      cases q : H c with
      | none => rfl
      | some o => rw [a.keep c o n q] at z; cases z
theorem Stp.perm (a : Stp F H F' H') (p : F.Perm F1) (q : F'.Perm F2) : Stp F1 H F2 H' := ⟨fun b o n h => a.keep b o (fun z => n (p.mem_iff.mp z)) h, fun b hb => (a.new b (q.mem_iff.mpr hb)).imp p.mem_iff.mp id⟩
theorem Stp.less (a : Stp F H F' H') (q : ∀ b ∈ F1, b ∈ F') : Stp F H F1 H' := ⟨a.keep, fun b hb => a.new b (q b hb)⟩
theorem Stp.same (s : Same H H') : Stp F H F H' := ⟨fun b o _ h => s b o h, fun _ h => .inl h⟩
theorem At.tk (A : At K S0 H rs F) (st : Stp F H F' H') : ∀ a xs, H a = some (.tup xs) → H' a = some (.tup xs) := fun a xs h => st.keep a _ (fun m => by
  have n := (A.liv a (.inr m)).1
  rw [h] at n
  exact n) h
theorem Stp.ev (st : Stp F H F' H') (A : At K S0 H rs F) : Ev K (Mu S0 F) (Mu S0 F') H H' [] :=
  ⟨fun b h => h.elim (fun z => .inl (.inl z)) fun z => (st.new b z).imp .inr id, fun b o n h => ⟨o, st.keep b o (fun m => n (.inr m)) h, .refl o⟩, fun b o m h => (nomatch m), A.tk st⟩
theorem At.same (A : At K S0 H rs F) (s : Same H H') : At K S0 H' rs F := by
  refine ⟨A.sep.ev (Ev.same s) fun b h => h, A.nd, A.off, fun b hb => ?_⟩
  obtain ⟨n, l⟩ := A.liv b hb
  cases q : H b with
  | none => exact absurd q l
  | some o => rw [s b o q]; rw [q] at n; exact ⟨n, nofun⟩
/-- what the callers hold stands; the things of rc are handed on -/
theorem At.call {rc rf : List (Rs K)} (A : At K S0 H (rc ++ rf) F) : ∃ Fc Ff, F = Fc ++ Ff ∧ At K (Mu S0 Ff) H rc Fc ∧ Mu (Mu S0 Ff) Fc = Mu S0 F ∧ Sep K (Mu S0 F) H rf Ff := by
  obtain ⟨Fc, Ff, rfl, h1, h2⟩ := A.sep.split
  have e : Mu (Mu S0 Ff) Fc = Mu S0 (Fc ++ Ff) := mu_app
  refine ⟨Fc, Ff, rfl, ⟨by rw [e]; exact h1, (List.nodup_append.mp A.nd).1, fun b hb => ?_, fun b hb => A.liv b (by rw [← e]; exact hb)⟩, e, h2⟩
  rintro (z | z)
  · exact A.off b (List.mem_append_left _ hb) z
  · exact (List.nodup_append.mp A.nd).2.2 b hb b z rfl
theorem At.back {rc rf rc' : List (Rs K)} {Fc Ff Fc' : List Addr} (A : At K S0 H (rc ++ rf) (Fc ++ Ff)) (hf : Sep K (Mu S0 (Fc ++ Ff)) H rf Ff) (st : Stp Fc H Fc' H') (B : At K (Mu S0 Ff) H' rc' Fc') : At K S0 H' (rc' ++ rf) (Fc' ++ Ff) ∧ Stp (Fc ++ Ff) H (Fc' ++ Ff) H' := by
  have e : Mu (Mu S0 Ff) Fc' = Mu S0 (Fc' ++ Ff) := mu_app
  have dis : ∀ b, b ∈ Ff → b ∉ Fc := fun b hb hc => (List.nodup_append.mp A.nd).2.2 b hc b hb rfl
  have st2 : Stp (Fc ++ Ff) H (Fc' ++ Ff) H' := by
    refine ⟨fun b o n h => st.keep b o (fun z => n (List.mem_append_left _ z)) h, fun b hb => ?_⟩
    rcases List.mem_append.mp hb with z | z
    · exact (st.new b z).imp (List.mem_append_left _) id
    · exact .inl (List.mem_append_right _ z)
  refine ⟨⟨?_, ?_, ?_, fun b hb => B.liv b (by rw [e]; exact hb)⟩, st2⟩
  · refine Sep.app (by rw [← e]; exact B.sep) (hf.ev (G := Ff) ⟨(st2.ev A).sub, (st2.ev A).keep, fun b o n h => st.keep b o (dis b n) h, A.tk st2⟩ fun b h => h)
  · refine List.nodup_append.mpr ⟨B.nd, (List.nodup_append.mp A.nd).2.1, fun b hb c hc q => ?_⟩
    subst q
    exact B.off b hb (.inr hc)
  · intro b hb
    rcases List.mem_append.mp hb with z | z
    · exact fun q => B.off b z (.inl q)
    · exact A.off b (List.mem_append_right _ z)
/-- things are let go -/
theorem At.drop {rc rf : List (Rs K)} (A : At K S0 H (rc ++ rf) F) : ∃ Ff, (∀ b ∈ Ff, b ∈ F) ∧ At K S0 H rf Ff := by
  obtain ⟨Fc, Ff, rfl, h1, h2⟩ := A.sep.split
  have lift : ∀ b, Mu S0 Ff b → Mu S0 (Fc ++ Ff) b := fun b z => z.imp id (List.mem_append_right _)
  exact ⟨Ff, fun b hb => List.mem_append_right _ hb, h2.ev (G := Ff) (Ev.less lift) (fun b h => h), (List.nodup_append.mp A.nd).2.1, fun b hb => A.off b (List.mem_append_right _ hb), fun b hb => A.liv b (lift b hb)⟩
/-- a new thing -/
theorem At.new {R : Rs K} {G : List Addr} (A : At K S0 H rs F) (s : Same H H') (hG : ∀ b ∈ G, H b = none) (nd : G.Nodup) (lv : ∀ b ∈ G, NotT (H' b) ∧ H' b ≠ none) (hR : R.p (Mu S0 (G ++ F)) H' G) : At K S0 H' (R :: rs) (G ++ F) ∧ Stp F H (G ++ F) H' := by
  have old : ∀ b, Mu S0 F b → H b ≠ none := fun b z => (A.liv b z).2
  refine ⟨⟨⟨G, F, rfl, hR, ?_⟩, ?_, ?_, ?_⟩, fun b o _ h => s b o h, fun b hb => ?_⟩
  · refine A.sep.ev (G := F) ⟨fun b z => ?_, fun b o n h => ⟨o, s b o h, .refl o⟩, fun b o _ h => s b o h, fun a _ h => s a _ h⟩ fun b h => h
    rcases z with z | z
    · exact .inl (.inl z)
    · rcases List.mem_append.mp z with z | z
      · exact .inr (hG b z)
      · exact .inl (.inr z)
  · refine List.nodup_append.mpr ⟨nd, A.nd, fun b hb c hc q => ?_⟩
    subst q
    exact old b (.inr hc) (hG b hb)
  · intro b hb
    rcases List.mem_append.mp hb with z | z
    · exact fun q => old b (.inl q) (hG b z)
    · exact A.off b z
  · rintro b (z | z)
    · exact (A.same s).liv b (.inl z)
    · rcases List.mem_append.mp z with z | z
      · exact lv b z
      · exact (A.same s).liv b (.inr z)
  · rcases List.mem_append.mp hb with z | z
    · exact .inr (hG b z)
    · exact .inl z
end
/-- R is among rs, rs' are the others -/
inductive Ext {K : PySem.W.Frag} (R : Rs K) : List (Rs K) → List (Rs K) → Prop
  | here {rs : List (Rs K)} : Ext R (R :: rs) rs
  | there {R' : Rs K} {rs rs' : List (Rs K)} : Ext R rs rs' → Ext R (R' :: rs) (R' :: rs')
/-- R is replaced by R' -/
inductive Rep {K : PySem.W.Frag} (R R' : Rs K) : List (Rs K) → List (Rs K) → Prop
  | here {rs : List (Rs K)} : Rep R R' (R :: rs) (R' :: rs)
  | there {R1 : Rs K} {rs rs' : List (Rs K)} : Rep R R' rs rs' → Rep R R' (R1 :: rs) (R1 :: rs')
inductive Gets {K : PySem.W.Frag} : List (Rs K) → List (Rs K) → List (Rs K) → Prop
  | nil {rs : List (Rs K)} : Gets [] rs rs
  | cons {R : Rs K} {rc rs rs1 rf : List (Rs K)} : Ext R rs rs1 → Gets rc rs1 rf → Gets (R :: rc) rs rf
section
variable {K : PySem.W.Frag} {R R' : Rs K} {rs rs' rc rf : List (Rs K)}
theorem Ext.perm (h : Ext R rs rs') : rs.Perm (R :: rs') := by
  induction h with
  | here => exact .refl _
  | there _ ih => exact (ih.cons _).trans (.swap _ _ _)
theorem Gets.perm (h : Gets rc rs rf) : rs.Perm (rc ++ rf) := by
  induction h with
  | nil => exact .refl _
  | cons e _ ih => exact e.perm.trans (ih.cons _)
theorem Rep.perms (h : Rep R R' rs rs') : ∃ r, rs.Perm (R :: r) ∧ rs'.Perm (R' :: r) := by
  induction h with
  | here => exact ⟨_, .refl _, .refl _⟩
  | there _ ih =>
    obtain ⟨r, a, b⟩ := ih
    exact ⟨_ :: r, (a.cons _).trans (.swap _ _ _), (b.cons _).trans (.swap _ _ _)⟩
end
/-- an exception: its class, its fields -/
structure Exn where
  cls : Addr
  fs : Option (List (Str × Da))
def ExOk (K : PySem.W.Frag) (S : Addr → Prop) (H : Hp) (u : Value) (d : Option Addr) (x : Exn) : Prop :=
  u = .ref x.cls ∧ match x.fs with
    | none => d = none
    | some fs => ∃ a gs, d = some a ∧ H a = some (.xd gs) ∧ gs.map (·.1) = fs.map (·.1) ∧ DeAll K S H (gs.map (·.2)) (fs.map (·.2)) ∧ ¬ S a
/-- where the code stands -/
structure Now (K : PySem.W.Frag) (S0 : Addr → Prop) (σ : L2.St) (H : Hp) (sl : List Sl) (rs : List (Rs K)) (F : List Addr) : Prop where
  at_ : At K S0 H rs F
  sl : Slots K (Mu S0 F) H σ sl
section
variable {K : PySem.W.Frag} {S S' S0 : Addr → Prop} {H H' H1 H2 : Hp} {F F' F1 F2 : List Addr} {rs rs' rc rf : List (Rs K)} {v : V} {y : Sl} {σ : L2.St} {sl : List Sl}
theorem Now.step (N : Now K S0 σ H sl rs F) (st : Stp F H F' H') (A : At K S0 H' rs' F') : Now K S0 σ H' sl rs' F' := ⟨A, N.sl.ev (st.ev N.at_)⟩
theorem Now.same (N : Now K S0 σ H sl rs F) (s : Same H H') : Now K S0 σ H' sl rs F := N.step (Stp.same s) (N.at_.same s)
theorem Now.perm (N : Now K S0 σ H sl rs F) (p : rs.Perm rs') : ∃ F', F.Perm F' ∧ Now K S0 σ H sl rs' F' := by
  obtain ⟨F', q, A⟩ := N.at_.perm p
  exact ⟨F', q, A, by rw [← mu_perm q]; exact N.sl⟩
theorem Now.set (N : Now K S0 σ H sl rs F) (h : VOk K (Mu S0 F) H v y) (i : Nat) : Now K S0 (σ.set i (some v)) H (sl.set i y) rs F := ⟨N.at_, paired_set (.some h) i N.sl⟩
end
end HC

/-! ### lists, instances, dicts that may change; letting go, freezing; readings of data -/
namespace HC
open PyProof.Rows PySem L2 PySem.Spec
section
variable {K : PySem.W.Frag} {S S' S0 : Addr → Prop} {H H' H1 H2 : Hp} {F F' F1 F2 G : List Addr} {rs rs' rc rf : List (Rs K)} {v : V} {y : Sl} {σ : L2.St} {sl : List Sl}
/-- the list at a -/
def lstR (a : Addr) (ys : List Sl) : Rs K where
  p S H F := F = [a] ∧ ∃ vs, H a = some (.lst vs) ∧ VAll K S H vs ys
  stb := fun {S S' H H' F} h e => by
    obtain ⟨rfl, vs, h1, h2⟩ := h
    exact ⟨rfl, vs, e.own _ _ (List.mem_singleton.mpr rfl) h1, h2.ev e⟩
/-- the instance at a -/
def objR (a C : Addr) (fs : List (Str × Sl)) : Rs K where
  p S H F := F = [a] ∧ ∃ dx gs, H a = some (.ins C dx gs) ∧ gs.map (·.1) = fs.map (·.1) ∧ VAll K S H (gs.map (·.2)) (fs.map (·.2))
  stb := fun {S S' H H' F} h e => by
    obtain ⟨rfl, dx, gs, h1, h2, h3⟩ := h
    exact ⟨rfl, dx, gs, e.own _ _ (List.mem_singleton.mpr rfl) h1, h2, h3.ev e⟩
/-- the dict at a -/
def dctR (a : Addr) (kvs : List (Key × Sl)) : Rs K where
  p S H F := F = [a] ∧ ∃ gs, H a = some (.dK gs) ∧ gs.map (·.1) = kvs.map (·.1) ∧ VAll K S H (gs.map (·.2)) (kvs.map (·.2))
  stb := fun {S S' H H' F} h e => by
    obtain ⟨rfl, gs, h1, h2, h3⟩ := h
    exact ⟨rfl, gs, e.own _ _ (List.mem_singleton.mpr rfl) h1, h2, h3.ev e⟩
def dctT (a : Addr) (kvs : List (List Key × Sl)) : Rs K where
  p S H F := F = [a] ∧ ∃ gs, H a = some (.dT gs) ∧ gs.map (·.1) = kvs.map (·.1) ∧ VAll K S H (gs.map (·.2)) (kvs.map (·.2))
  stb := fun {S S' H H' F} h e => by
    obtain ⟨rfl, gs, h1, h2, h3⟩ := h
    exact ⟨rfl, gs, e.own _ _ (List.mem_singleton.mpr rfl) h1, h2, h3.ev e⟩
theorem At.get {R : Rs K} (A : At K S0 H rs F) (e : Ext R rs rs') : ∃ G, R.p (Mu S0 F) H G ∧ ∀ b ∈ G, b ∈ F := by
  obtain ⟨F', q, A'⟩ := A.perm e.perm
  obtain ⟨F1, F2, rfl, h, _⟩ := A'.sep
  exact ⟨F1, by rw [mu_perm q]; exact h, fun b hb => q.mem_iff.mpr (List.mem_append_left _ hb)⟩
theorem At.lst {a : Addr} {ys : List Sl} (A : At K S0 H rs F) (e : Ext (lstR a ys) rs rs') : ∃ vs, H a = some (.lst vs) ∧ VAll K (Mu S0 F) H vs ys ∧ a ∈ F := by
  obtain ⟨G, ⟨rfl, vs, h1, h2⟩, h3⟩ := A.get e
  exact ⟨vs, h1, h2, h3 a (List.mem_singleton.mpr rfl)⟩
theorem At.obj {a C : Addr} {fs : List (Str × Sl)} (A : At K S0 H rs F) (e : Ext (objR a C fs) rs rs') : ∃ dx gs, H a = some (.ins C dx gs) ∧ gs.map (·.1) = fs.map (·.1) ∧ VAll K (Mu S0 F) H (gs.map (·.2)) (fs.map (·.2)) ∧ a ∈ F := by
  obtain ⟨G, ⟨rfl, dx, gs, h1, h2, h4⟩, h3⟩ := A.get e
  exact ⟨dx, gs, h1, h2, h4, h3 a (List.mem_singleton.mpr rfl)⟩
theorem At.dct {a : Addr} {fs : List (Key × Sl)} (A : At K S0 H rs F) (e : Ext (dctR a fs) rs rs') : ∃ gs, H a = some (.dK gs) ∧ gs.map (·.1) = fs.map (·.1) ∧ VAll K (Mu S0 F) H (gs.map (·.2)) (fs.map (·.2)) ∧ a ∈ F := by
  obtain ⟨G, ⟨rfl, gs, h1, h2, h4⟩, h3⟩ := A.get e
  exact ⟨gs, h1, h2, h4, h3 a (List.mem_singleton.mpr rfl)⟩
theorem At.dctT {a : Addr} {fs : List (List Key × Sl)} (A : At K S0 H rs F) (e : Ext (dctT a fs) rs rs') : ∃ gs, H a = some (.dT gs) ∧ gs.map (·.1) = fs.map (·.1) ∧ VAll K (Mu S0 F) H (gs.map (·.2)) (fs.map (·.2)) ∧ a ∈ F := by
  obtain ⟨G, ⟨rfl, gs, h1, h2, h4⟩, h3⟩ := A.get e
  exact ⟨gs, h1, h2, h4, h3 a (List.mem_singleton.mpr rfl)⟩
/-- the object at a is written -/
theorem At.write {R R' : Rs K} {a : Addr} {o : HO} (A : At K S0 H rs F) (rep : Rep R R' rs rs') (nt : NotT (some o)) (ha : ∀ G, R.p (Mu S0 F) H G → G = [a]) (hR : Ev K (Mu S0 F) (Mu S0 F) H (upd H a o) [] → R'.p (Mu S0 F) (upd H a o) [a]) :
    ∃ F', F.Perm F' ∧ At K S0 (upd H a o) rs' F' ∧ Stp F H F' (upd H a o) := by
  obtain ⟨r, p1, p2⟩ := rep.perms
  obtain ⟨F1, q1, A1⟩ := A.perm p1
  obtain ⟨G, F2, rfl, hG, hr⟩ := A1.sep
  rw [← mu_perm q1] at hG hr
  obtain rfl := ha G hG
  have mem : a ∈ F := q1.mem_iff.mpr (List.mem_append_left _ (List.mem_singleton.mpr rfl))
  have st : Stp F H ([a] ++ F2) (upd H a o) := ⟨fun b u n h => by rw [upd_ne (fun e => n (by rw [e]; exact mem))]; exact h, fun b hb => .inl (q1.mem_iff.mpr hb)⟩
  have ev0 : Ev K (Mu S0 F) (Mu S0 F) H (upd H a o) [] := by
    have := st.ev A
    rwa [← mu_perm q1] at this
  have dis : ∀ b ∈ F2, b ≠ a := fun b hb e => (List.nodup_append.mp A1.nd).2.2 a (List.mem_singleton.mpr rfl) b hb e.symm
  have B : At K S0 (upd H a o) (R' :: r) ([a] ++ F2) := by
    refine ⟨⟨[a], F2, rfl, by rw [← mu_perm q1]; exact hR ev0, ?_⟩, A1.nd, A1.off, fun b hb => ?_⟩
    · rw [← mu_perm q1]
      exact hr.ev (G := F2) ⟨ev0.sub, ev0.keep, fun b u hb h => by rw [upd_ne (dis b hb)]; exact h, ev0.tk⟩ fun _ h => h
    · by_cases e : b = a
      · subst e; rw [upd_same]; exact ⟨nt, nofun⟩
      · rw [upd_ne e]; exact A1.liv b hb
  obtain ⟨F', q2, C⟩ := B.perm p2.symm
  exact ⟨F', q1.trans q2, C, st.perm (.refl _) q2⟩
/-! ghost steps: nothing runs, what is known is told otherwise -/
def Gh (sl : List Sl) (rs : List (Rs K)) (sl' : List Sl) (rs' : List (Rs K)) : Prop := ∀ S0 σ H F, Now K S0 σ H sl rs F → ∃ F', (∀ b ∈ F', b ∈ F) ∧ Now K S0 σ H sl' rs' F'
def GhV (y : Sl) (rs : List (Rs K)) (y' : Sl) (rs' : List (Rs K)) : Prop := ∀ S0 H F v, At K S0 H rs F → VOk K (Mu S0 F) H v y → ∃ F', (∀ b ∈ F', b ∈ F) ∧ At K S0 H rs' F' ∧ VOk K (Mu S0 F') H v y'
theorem Gh.refl {sl : List Sl} {rs : List (Rs K)} : Gh sl rs sl rs := fun _ _ _ F N => ⟨F, fun _ h => h, N⟩
theorem GhV.refl {y : Sl} {rs : List (Rs K)} : GhV y rs y rs := fun _ _ F _ A r => ⟨F, fun _ h => h, A, r⟩
theorem Gh.trans {sl sl1 sl2 : List Sl} {rs rs1 rs2 : List (Rs K)} (a : Gh sl rs sl1 rs1) (b : Gh sl1 rs1 sl2 rs2) : Gh sl rs sl2 rs2 := fun S0 σ H F N => by
  obtain ⟨F1, h1, N1⟩ := a S0 σ H F N
  obtain ⟨F2, h2, N2⟩ := b S0 σ H F1 N1
  exact ⟨F2, fun b hb => h1 b (h2 b hb), N2⟩
theorem GhV.trans {y y1 y2 : Sl} {rs rs1 rs2 : List (Rs K)} (a : GhV y rs y1 rs1) (b : GhV y1 rs1 y2 rs2) : GhV y rs y2 rs2 := fun S0 H F v A r => by
  obtain ⟨F1, h1, A1, r1⟩ := a S0 H F v A r
  obtain ⟨F2, h2, A2, r2⟩ := b S0 H F1 v A1 r1
  exact ⟨F2, fun b hb => h1 b (h2 b hb), A2, r2⟩
theorem At.gets (A : At K S0 H rs F) (g : Gets rc rs rf) : ∃ F', (∀ b ∈ F', b ∈ F) ∧ At K S0 H rc F' := by
  obtain ⟨F1, q, A1⟩ := A.perm (g.perm.trans List.perm_append_comm)
  obtain ⟨F2, h, A2⟩ := A1.drop
  exact ⟨F2, fun b hb => q.mem_iff.mpr (h b hb), A2⟩
theorem mu_less (h : ∀ b ∈ F', b ∈ F) : ∀ b, Mu S0 F' b → Mu S0 F b := fun b z => z.imp id (h b)
theorem Gh.gets (g : Gets rc rs rf) : Gh sl rs sl rc := fun S0 σ H F N => by
  obtain ⟨F', h, A⟩ := N.at_.gets g
  exact ⟨F', h, A, N.sl.ev (F := []) (Ev.less (mu_less h))⟩
theorem GhV.gets (g : Gets rc rs rf) : GhV y rs y rc := fun S0 H F v A r => by
  obtain ⟨F', h, A⟩ := A.gets g
  exact ⟨F', h, A, r.ev (F := []) (Ev.less (mu_less h))⟩
/-- what may be frozen: the thing is let go, the value v stands for x from then on -/
def Fr (R : Rs K) (v : V) (x : Da) : Prop := ∀ S0 H rs F, At K S0 H (R :: rs) F → ∃ F', (∀ b ∈ F', b ∈ F) ∧ At K S0 H rs F' ∧ De K (Mu S0 F') H v x
theorem fr_of {R : Rs K} {a : Addr} {x : Da} (h1 : ∀ S H G, R.p S H G → G = [a]) (h2 : ∀ S S' H, R.p S H [a] → (∀ b, S' b → S b) → ¬ S' a → De K S' H (.ref a) x) : Fr R (.ref a) x := fun S0 H rs F A => by
  obtain ⟨F', h, A'⟩ := (show At K S0 H ([R] ++ rs) F from A).drop
  obtain ⟨G, F2, e, hG, hs⟩ := A.sep
  have eG := h1 _ _ _ hG
  subst eG
  refine ⟨F2, fun b hb => by rw [e]; exact List.mem_append_right _ hb, ?_, ?_⟩
  · obtain ⟨Fc, Ff, e2, h1', h2'⟩ := (show Sep K (Mu S0 F) H ([R] ++ rs) F from A.sep).split
    have lift : ∀ b, Mu S0 F2 b → Mu S0 F b := mu_less fun b hb => by rw [e]; exact List.mem_append_right _ hb
    exact ⟨hs.ev (G := F2) (Ev.less lift) (fun b h => h), by have := A.nd; rw [e] at this; exact (List.nodup_append.mp this).2.1, fun b hb => A.off b (by rw [e]; exact List.mem_append_right _ hb), fun b hb => A.liv b (lift b hb)⟩
  · refine h2 (Mu S0 F) _ H hG (mu_less fun b hb => by rw [e]; exact List.mem_append_right _ hb) ?_
    have nd := A.nd
    rw [e] at nd
    rintro (z | z)
    · exact A.off a (by rw [e]; exact List.mem_append_left _ (List.mem_singleton.mpr rfl)) z
    · exact (List.nodup_append.mp nd).2.2 a (List.mem_singleton.mpr rfl) a z rfl
theorem fr_lst {a : Addr} {xs : List Da} : Fr (lstR (K := K) a (xs.map .da)) (.ref a) (.lst xs) :=
  fr_of (fun S H G h => h.1) fun S S' H h l n => by
    obtain ⟨_, vs, h1, h2⟩ := h
    exact .lst n h1 (h2.das.ev (F := []) (Ev.less l))
theorem fr_obj {a C : Addr} {fs : List (Str × Da)} : Fr (objR (K := K) a C (fs.map fun f => (f.1, .da f.2))) (.ref a) (.obj C fs) :=
  fr_of (fun S H G h => h.1) fun S S' H h l n => by
    obtain ⟨_, dx, gs, h1, h2, h3⟩ := h
    refine .obj n h1 (by rw [h2, List.map_map]; rfl) (DeAll.ev (F := []) (VAll.das ?_) (Ev.less l))
    rw [List.map_map] at h3 ⊢
    exact h3
theorem fr_dct {a : Addr} {fs : List (Key × Da)} : Fr (dctR (K := K) a (fs.map fun f => (f.1, .da f.2))) (.ref a) (.dK fs) :=
  fr_of (fun S H G h => h.1) fun S S' H h l n => by
    obtain ⟨_, gs, h1, h2, h3⟩ := h
    refine .dK n (.inl h1) (by rw [h2, List.map_map]; rfl) (DeAll.ev (F := []) (VAll.das ?_) (Ev.less l))
    rw [List.map_map] at h3 ⊢
    exact h3
/-- v told as x, or as it was -/
inductive Fz (v : V) (x : Da) : Sl → Sl → Prop
  | fz : Fz v x (.raw v) (.da x)
  | same (y : Sl) : Fz v x y y
  | no (y : Sl) : Fz v x y .no
theorem VOk.fz {u : V} {x : Da} {y' : Sl} (h : VOk K S H u y) (d : De K S H v x) (f : Fz v x y y') (hn : y' ≠ .no) : VOk K S H u y' := by
  cases f with
  | fz => cases h; exact .da d
  | same => exact h
  | no => exact absurd rfl hn
theorem SlOk.fz {o : Option V} {x : Da} {y' : Sl} (h : SlOk K S H o y) (d : De K S H v x) (f : Fz v x y y') : SlOk K S H o y' := by
  cases f with
  | fz =>
    cases h with
    | some h => cases h; exact .some (.da d)
  | same => exact h
  | no => exact .no _
theorem slots_fz {x : Da} (d : De K S H v x) : ∀ {sl sl' : List Sl} {σ : L2.St}, Slots K S H σ sl → Paired (Fz v x) sl sl' → Slots K S H σ sl'
  | _, _, _, .nil, .nil => .nil
  | _, _, _, .cons h t, .cons f g => .cons (h.fz d f) (slots_fz d t g)
theorem Gh.frz {R : Rs K} {x : Da} {sl' : List Sl} (f : Fr R v x) (e : Ext R rs rs') (z : Paired (Fz v x) sl sl') : Gh sl rs sl' rs' := fun S0 σ H F N => by
  obtain ⟨F1, q, N1⟩ := N.perm e.perm
  obtain ⟨F2, h, A, d⟩ := f S0 H rs' F1 N1.at_
  exact ⟨F2, fun b hb => q.mem_iff.mpr (h b hb), A, slots_fz d (N1.sl.ev (F := []) (Ev.less (mu_less h))) z⟩
theorem GhV.frz {R : Rs K} {x : Da} (f : Fr R v x) (e : Ext R rs rs') : GhV (.raw v) rs (.da x) rs' := fun S0 H F u A r => by
  obtain ⟨F1, q, A1⟩ := A.perm e.perm
  obtain ⟨F2, h, A2, d⟩ := f S0 H rs' F1 A1
  cases r
  exact ⟨F2, fun b hb => q.mem_iff.mpr (h b hb), A2, .da d⟩
/-! ### readings of data -/
variable (K) in
abbrev XD := Exn → List (Rs K) → Prop
variable (K) in
abbrev QD := Sl → List (Rs K) → Prop
variable (K) in
abbrev TD := List Sl → List (Rs K) → XD K → QD K → Prop
variable (K) in
abbrev TDb := List Sl → List (Rs K) → XD K → (Bool → List (Rs K) → Prop) → Prop
variable (K) in
abbrev TDa := List Sl → List (Rs K) → XD K → (List Sl → List (Rs K) → Prop) → Prop
variable (K) in
abbrev TDg := Sl → List Sl → List (Rs K) → (List Sl → List (Rs K) → Prop) → Prop
variable (K) in
abbrev TDgs := List Sl → List Sl → List (Rs K) → (List Sl → List (Rs K) → Prop) → Prop
variable (K) in
abbrev TDi := List Sl → List (Rs K) → XD K → (List Sl → (List (Rs K) → Prop) → List (Rs K) → Prop) → Prop
variable (K) in
abbrev TDo := List Sl → List (Rs K) → XD K → (Option Int → List (Rs K) → Prop) → Prop
variable (K) in
structure DEnds where
  nx : List Sl → List (Rs K) → Prop
  rt : QD K
  xc : XD K
  bk : List Sl → List (Rs K) → Prop := fun _ _ => False
  ct : List Sl → List (Rs K) → Prop := fun _ _ => False
variable (K) in
abbrev TDs := DEnds K → List Sl → List (Rs K) → Prop
def Out (S0 : Addr → Prop) (F : List Addr) (H : Hp) (q : QD K) (Q : VK) : Prop := ∀ v y rs' F' H', Stp F H F' H' → At K S0 H' rs' F' → VOk K (Mu S0 F') H' v y → q y rs' → Q v H'
def OutX (S0 : Addr → Prop) (F : List Addr) (H : Hp) (xc : XD K) (E : XK) : Prop := ∀ x u d rs' F' H', Stp F H F' H' → At K S0 H' rs' F' → ExOk K (Mu S0 F') H' u d x → xc x rs' → E u d H'
def OutS (S0 : Addr → Prop) (F : List Addr) (H : Hp) (q : List Sl → List (Rs K) → Prop) (Q : L2.St → Hp → Prop) : Prop := ∀ σ' sl' rs' F' H', Stp F H F' H' → Now K S0 σ' H' sl' rs' F' → q sl' rs' → Q σ' H'
def OutB {α : Type} (S0 : Addr → Prop) (F : List Addr) (H : Hp) (q : α → List (Rs K) → Prop) (Q : α → Hp → Prop) : Prop := ∀ b rs' F' H', Stp F H F' H' → At K S0 H' rs' F' → q b rs' → Q b H'
def OutA (S0 : Addr → Prop) (F : List Addr) (H : Hp) (q : List Sl → List (Rs K) → Prop) (Q : List V → Hp → Prop) : Prop := ∀ vs ys rs' F' H', Stp F H F' H' → At K S0 H' rs' F' → VAll K (Mu S0 F') H' vs ys → q ys rs' → Q vs H'
/-- the iterator J hands out ys, as long as g holds of what may change -/
def DIt (S : Addr → Prop) (H1 : Hp) (J : It) (ys : List Sl) (g : List (Rs K) → Prop) : Prop := ∀ S0 H rs F, At K S0 H rs F → Ev K S (Mu S0 F) H1 H [] → g rs → ∀ i, (∀ y, ys[i]? = some y → J.go i H ∧ ∀ x H', J.yld i H x H' → Same H H' ∧ VOk K (Mu S0 F) H' x y) ∧ (i = ys.length → J.stop i H)
def OutI (S0 : Addr → Prop) (F : List Addr) (H : Hp) (q : List Sl → (List (Rs K) → Prop) → List (Rs K) → Prop) (R : It → Hp → Prop) : Prop := ∀ J ys g rs' F' H', Stp F H F' H' → At K S0 H' rs' F' → DIt (Mu S0 F') H' J ys g → q ys g rs' → R J H'
def LE (E : XK) (t : TD K) : TE := fun σ H Q => ∃ S0 sl rs F xc q, Now K S0 σ H sl rs F ∧ t sl rs xc q ∧ Out S0 F H q Q ∧ OutX S0 F H xc E
def LT (E : XK) (t : TDb K) : TT := fun σ H Q => ∃ S0 sl rs F xc q, Now K S0 σ H sl rs F ∧ t sl rs xc q ∧ OutB S0 F H q Q ∧ OutX S0 F H xc E
def LA (E : XK) (t : TDa K) : TA := fun σ H Q => ∃ S0 sl rs F xc q, Now K S0 σ H sl rs F ∧ t sl rs xc q ∧ OutA S0 F H q Q ∧ OutX S0 F H xc E
def LO (E : XK) (t : TDo K) : TO := fun σ H Q => ∃ S0 sl rs F xc q, Now K S0 σ H sl rs F ∧ t sl rs xc q ∧ OutB S0 F H q Q ∧ OutX S0 F H xc E
def LI (E : XK) (t : TDi K) : TI := fun σ H R => ∃ S0 sl rs F xc q, Now K S0 σ H sl rs F ∧ t sl rs xc q ∧ OutI S0 F H q R ∧ OutX S0 F H xc E
def LG (t : TDg K) : TG := fun v σ H Q => ∃ S0 sl rs F y q, Now K S0 σ H sl rs F ∧ VOk K (Mu S0 F) H v y ∧ t y sl rs q ∧ OutS S0 F H q Q
def LS (E : XK) (t : TDs K) : TS := fun D σ H => ∃ S0 sl rs F d, Now K S0 σ H sl rs F ∧ t d sl rs ∧ OutS S0 F H d.nx D.nx ∧ OutS S0 F H d.bk D.bk ∧ OutS S0 F H d.ct D.ct ∧ Out S0 F H d.rt D.rt ∧ OutX S0 F H d.xc E
/-- a def's promise, by data -/
abbrev SpD (K : PySem.W.Frag) := List Sl → List (Rs K) → XD K → QD K → Prop
def spD (D : SpD K) : Sp := fun vs H Q E => ∃ S0 as rs F xc q, At K S0 H rs F ∧ VAll K (Mu S0 F) H vs as ∧ D as rs xc q ∧ Out S0 F H q Q ∧ OutX S0 F H xc E
variable {E : XK} {xc : XD K} {q : QD K} {Q : VK}
theorem OutX.after (h : OutX S0 F H xc E) (st : Stp F H F' H') : OutX S0 F' H' xc E := fun x u d rs' F2 H2 st2 => h x u d rs' F2 H2 (st.trans st2)
theorem Out.after (h : Out S0 F H q Q) (st : Stp F H F' H') : Out S0 F' H' q Q := fun x u rs' F2 H2 st2 => h x u rs' F2 H2 (st.trans st2)
theorem OutS.after {q : List Sl → List (Rs K) → Prop} {Q : L2.St → Hp → Prop} (h : OutS S0 F H q Q) (st : Stp F H F' H') : OutS S0 F' H' q Q := fun x u rs' F2 H2 st2 => h x u rs' F2 H2 (st.trans st2)
theorem OutA.after {q : List Sl → List (Rs K) → Prop} {Q : List V → Hp → Prop} (h : OutA S0 F H q Q) (st : Stp F H F' H') : OutA S0 F' H' q Q := fun x u rs' F2 H2 st2 => h x u rs' F2 H2 (st.trans st2)
theorem OutB.after {α : Type} {q : α → List (Rs K) → Prop} {Q : α → Hp → Prop} (h : OutB S0 F H q Q) (st : Stp F H F' H') : OutB S0 F' H' q Q := fun x rs' F2 H2 st2 => h x rs' F2 H2 (st.trans st2)
theorem OutI.after {q : List Sl → (List (Rs K) → Prop) → List (Rs K) → Prop} {R : It → Hp → Prop} (h : OutI S0 F H q R) (st : Stp F H F' H') : OutI S0 F' H' q R := fun x u g rs' F2 H2 st2 => h x u g rs' F2 H2 (st.trans st2)
theorem LE.use {t : TD K} (N : Now K S0 σ H sl rs F) (h : t sl rs xc q) (kx : OutX S0 F H xc E) (k : ∀ v y rs' F' H', Stp F H F' H' → Now K S0 σ H' sl rs' F' → VOk K (Mu S0 F') H' v y → q y rs' → Q v H') : LE E t σ H Q :=
  ⟨S0, sl, rs, F, xc, q, N, h, fun v y rs' F' H' st A r z => k v y rs' F' H' st (N.step st A) r z, kx⟩
theorem LT.use {t : TDb K} {q : Bool → List (Rs K) → Prop} {Q : Bool → Hp → Prop} (N : Now K S0 σ H sl rs F) (h : t sl rs xc q) (kx : OutX S0 F H xc E) (k : ∀ b rs' F' H', Stp F H F' H' → Now K S0 σ H' sl rs' F' → q b rs' → Q b H') : LT E t σ H Q :=
  ⟨S0, sl, rs, F, xc, q, N, h, fun b rs' F' H' st A z => k b rs' F' H' st (N.step st A) z, kx⟩
theorem LO.use {t : TDo K} {q : Option Int → List (Rs K) → Prop} {Q : Option Int → Hp → Prop} (N : Now K S0 σ H sl rs F) (h : t sl rs xc q) (kx : OutX S0 F H xc E) (k : ∀ b rs' F' H', Stp F H F' H' → Now K S0 σ H' sl rs' F' → q b rs' → Q b H') : LO E t σ H Q :=
  ⟨S0, sl, rs, F, xc, q, N, h, fun b rs' F' H' st A z => k b rs' F' H' st (N.step st A) z, kx⟩
theorem LA.use {t : TDa K} {q : List Sl → List (Rs K) → Prop} {Q : List V → Hp → Prop} (N : Now K S0 σ H sl rs F) (h : t sl rs xc q) (kx : OutX S0 F H xc E) (k : ∀ vs ys rs' F' H', Stp F H F' H' → Now K S0 σ H' sl rs' F' → VAll K (Mu S0 F') H' vs ys → q ys rs' → Q vs H') : LA E t σ H Q :=
  ⟨S0, sl, rs, F, xc, q, N, h, fun v y rs' F' H' st A r z => k v y rs' F' H' st (N.step st A) r z, kx⟩
theorem LI.use {t : TDi K} {q : List Sl → (List (Rs K) → Prop) → List (Rs K) → Prop} {R : It → Hp → Prop} (N : Now K S0 σ H sl rs F) (h : t sl rs xc q) (kx : OutX S0 F H xc E) (k : ∀ J ys g rs' F' H', Stp F H F' H' → Now K S0 σ H' sl rs' F' → DIt (Mu S0 F') H' J ys g → q ys g rs' → R J H') : LI E t σ H R :=
  ⟨S0, sl, rs, F, xc, q, N, h, fun v y g rs' F' H' st A r z => k v y g rs' F' H' st (N.step st A) r z, kx⟩
theorem LG.use {t : TDg K} {q : List Sl → List (Rs K) → Prop} {Q : L2.St → Hp → Prop} (N : Now K S0 σ H sl rs F) (r : VOk K (Mu S0 F) H v y) (h : t y sl rs q) (k : OutS S0 F H q Q) : LG t v σ H Q := ⟨S0, sl, rs, F, y, q, N, r, h, k⟩
theorem LS.use {t : TDs K} {d : DEnds K} {D : Ends} (N : Now K S0 σ H sl rs F) (h : t d sl rs) (k1 : OutS S0 F H d.nx D.nx) (k2 : OutS S0 F H d.bk D.bk) (k3 : OutS S0 F H d.ct D.ct) (k4 : Out S0 F H d.rt D.rt) (k5 : OutX S0 F H d.xc E) : LS E t D σ H := ⟨S0, sl, rs, F, d, N, h, k1, k2, k3, k4, k5⟩
end
end HC

/-! ### expressions of data -/
namespace HC
open PyProof.Rows PySem L2 PySem.Spec
section
variable {K : PySem.W.Frag} {S S' S0 : Addr → Prop} {H H' H1 H2 : Hp} {F F' F1 F2 G : List Addr} {rs rs' rc rf : List (Rs K)} {v u : V} {y z : Sl} {σ : L2.St} {sl : List Sl} {x : Da}
theorem At.fresh (A : At K S0 H rs F) {p : Addr} (h : H p = none) : ¬ Mu S0 F p := fun m => (A.liv p m).2 h
/-- v's own object is as x says, now -/
inductive Top (K : PySem.W.Frag) (S : Addr → Prop) (H : Hp) : V → Da → Prop
  | da {v : V} {x : Da} : De K S H v x → Top K S H v x
  | lst {a : Addr} {vs : List V} {xs : List Da} : H a = some (.lst vs) → DeAll K S H vs xs → Top K S H (.ref a) (.lst xs)
  | obj {a C dx : Addr} {gs : List (Str × V)} {fs : List (Str × Da)} : H a = some (.ins C dx gs) → gs.map (·.1) = fs.map (·.1) → DeAll K S H (gs.map (·.2)) (fs.map (·.2)) → Top K S H (.ref a) (.obj C fs)
  | dK {a : Addr} {gs : List (Key × V)} {fs : List (Key × Da)} : H a = some (.dK gs) → gs.map (·.1) = fs.map (·.1) → DeAll K S H (gs.map (·.2)) (fs.map (·.2)) → Top K S H (.ref a) (.dK fs)
  | dT {a : Addr} {gs : List (List Key × V)} {fs : List (List Key × Da)} : H a = some (.dT gs) → gs.map (·.1) = fs.map (·.1) → DeAll K S H (gs.map (·.2)) (fs.map (·.2)) → Top K S H (.ref a) (.dT fs)
/-- what y stands for, now -/
inductive See (rs : List (Rs K)) : Sl → Da → Prop
  | da (x : Da) : See rs (.da x) x
  | lst {a : Addr} {xs : List Da} {rs' : List (Rs K)} : Ext (lstR a (xs.map .da)) rs rs' → See rs (.raw (.ref a)) (.lst xs)
  | obj {a C : Addr} {fs : List (Str × Da)} {rs' : List (Rs K)} : Ext (objR a C (fs.map fun f => (f.1, .da f.2))) rs rs' → See rs (.raw (.ref a)) (.obj C fs)
  | dK {a : Addr} {fs : List (Key × Da)} {rs' : List (Rs K)} : Ext (dctR a (fs.map fun f => (f.1, .da f.2))) rs rs' → See rs (.raw (.ref a)) (.dK fs)
  | dT {a : Addr} {fs : List (List Key × Da)} {rs' : List (Rs K)} : Ext (dctT a (fs.map fun f => (f.1, .da f.2))) rs rs' → See rs (.raw (.ref a)) (.dT fs)
theorem das2 {α : Type} {vs : List V} {fs : List (α × Da)} (h : VAll K S H vs ((fs.map fun f => (f.1, Sl.da f.2)).map (·.2))) : DeAll K S H vs (fs.map (·.2)) := by
  refine VAll.das ?_
  rw [List.map_map] at h ⊢
  exact h
theorem See.top (s : See rs y x) (A : At K S0 H rs F) (r : VOk K (Mu S0 F) H v y) : Top K (Mu S0 F) H v x := by
  cases s with
  | da => cases r with | da h => exact .da h
  | lst e =>
    cases r
    obtain ⟨vs, h1, h2, _⟩ := A.lst e
    exact .lst h1 h2.das
  | obj e =>
    cases r
    obtain ⟨dx, gs, h1, h2, h3, _⟩ := A.obj e
    exact .obj h1 (by rw [h2, List.map_map]; rfl) (das2 h3)
  | dK e =>
    cases r
    obtain ⟨gs, h1, h2, h3, _⟩ := A.dct e
    exact .dK h1 (by rw [h2, List.map_map]; rfl) (das2 h3)
  | dT e =>
    cases r
    obtain ⟨gs, h1, h2, h3, _⟩ := A.dctT e
    exact .dT h1 (by rw [h2, List.map_map]; rfl) (das2 h3)
theorem Top.i {i : Int} (t : Top K S H v (.int i)) : v = .int i := by cases t with | da h => cases h; rfl
theorem Top.b {i : Bool} (t : Top K S H v (.bl i)) : v = .bl i := by cases t with | da h => cases h; rfl
theorem Top.s {i : Str} (t : Top K S H v (.str i)) : v = .str i ∧ PyData.strOk i = true := by cases t with | da h => cases h; exact ⟨rfl, by assumption⟩
theorem Top.n (t : Top K S H v .non) : v = .non := by cases t with | da h => cases h; rfl
theorem Top.t {xs : List Da} (t : Top K S H v (.tup xs)) : ∃ a vs, v = .ref a ∧ H a = some (.tup vs) ∧ DeAll K S H vs xs := by cases t with | da h => cases h with | tup h1 h2 => exact ⟨_, _, rfl, h1, h2⟩
theorem Top.bt {xs : List Da} (t : Top K S H v (.btup xs)) : ∃ a vs o, v = .ref a ∧ H a = some (.frz o (.tup vs)) ∧ o.dict = none ∧ DeAll K S H vs xs := by cases t with | da h => cases h with | btup n h1 h2 h3 => exact ⟨_, _, _, rfl, h1, h2, h3⟩
theorem Top.l {xs : List Da} (t : Top K S H v (.lst xs)) : ∃ a vs, v = .ref a ∧ H a = some (.lst vs) ∧ DeAll K S H vs xs := by
  cases t with
  | da h => cases h with | lst _ h1 h2 => exact ⟨_, _, rfl, h1, h2⟩
  | lst h1 h2 => exact ⟨_, _, rfl, h1, h2⟩
theorem Top.sc {xs : List Int} (t : Top K S H v (.scr xs)) : ∃ a, v = .ref a ∧ SqL K H a (xs.map V.int) := by cases t with | da h => cases h with | scr h => exact ⟨_, rfl, h.sq⟩
theorem Top.o {C : Addr} {fs : List (Str × Da)} (t : Top K S H v (.obj C fs)) : ∃ a dx gs, v = .ref a ∧ H a = some (.ins C dx gs) ∧ gs.map (·.1) = fs.map (·.1) ∧ DeAll K S H (gs.map (·.2)) (fs.map (·.2)) := by
  cases t with
  | da h => cases h with | obj _ h1 h2 h3 => exact ⟨_, _, _, rfl, h1, h2, h3⟩
  | obj h1 h2 h3 => exact ⟨_, _, _, rfl, h1, h2, h3⟩
theorem Top.dt {fs : List (List Key × Da)} (t : Top K S H v (.dT fs)) : ∃ a gs, v = .ref a ∧ Rd H a (.dT gs) ∧ gs.map (·.1) = fs.map (·.1) ∧ DeAll K S H (gs.map (·.2)) (fs.map (·.2)) := by
  cases t with
  | da h => cases h with | dT _ h1 h2 h3 => exact ⟨_, _, rfl, .inr ⟨_, h1⟩, h2, h3⟩
  | dT h1 h2 h3 => exact ⟨_, _, rfl, .inl h1, h2, h3⟩
/-! rules of operators by data -/
/-- a pure operation of two data -/
abbrev G2 := Da → Da → (Da → Prop) → Prop
abbrev G1 := Da → (Da → Prop) → Prop
/-- nothing that may change is free -/
abbrev Liv (S : Addr → Prop) (H : Hp) : Prop := ∀ b, S b → H b ≠ none
def Pu2 (K : PySem.W.Frag) (r : R2) (g : G2) : Prop := ∀ (S : Addr → Prop) (H : Hp) (v w : V) (x y : Da) (q : Da → Prop) (Q : VK), Liv S H → Top K S H v x → Top K S H w y → g x y q → (∀ u z H', Same H H' → De K S H' u z → q z → Q u H') → r v w H Q
/-- an operation of two slots' values -/
abbrev A2 (K : PySem.W.Frag) := Sl → Sl → List (Rs K) → QD K → Prop
abbrev A1 (K : PySem.W.Frag) := Sl → List (Rs K) → QD K → Prop
abbrev AN (K : PySem.W.Frag) := List Sl → List (Rs K) → QD K → Prop
def Act2 (K : PySem.W.Frag) (r : R2) (g : A2 K) : Prop := ∀ (S0 : Addr → Prop) (H : Hp) (rs : List (Rs K)) (F : List Addr) (v w : V) (y z : Sl) (q : QD K) (Q : VK), At K S0 H rs F → VOk K (Mu S0 F) H v y → VOk K (Mu S0 F) H w z → g y z rs q → Out S0 F H q Q → r v w H Q
def ActN (K : PySem.W.Frag) (r : List V → Hp → VK → Prop) (g : AN K) : Prop := ∀ (S0 : Addr → Prop) (H : Hp) (rs : List (Rs K)) (F : List Addr) (vs : List V) (ys : List Sl) (q : QD K) (Q : VK), At K S0 H rs F → VAll K (Mu S0 F) H vs ys → g ys rs q → Out S0 F H q Q → r vs H Q
def p2 (g : G2) : A2 K := fun y z rs q => ∃ x1 x2, See rs y x1 ∧ See rs z x2 ∧ g x1 x2 fun x => q (.da x) rs
def p1 (g : G1) : A1 K := fun y rs q => ∃ x1, See rs y x1 ∧ g x1 fun x => q (.da x) rs
theorem pu2 {r : R2} {g : G2} (h : Pu2 K r g) : Act2 K r (p2 g) := fun S0 H rs F v w y z q Q A r1 r2 ⟨x1, x2, s1, s2, h3⟩ k =>
  h (Mu S0 F) H v w x1 x2 _ Q (fun b m => (A.liv b m).2) (s1.top A r1) (s2.top A r2) h3 fun u x H' s d z => k u (.da x) rs F H' (Stp.same s) (A.same s) (.da d) z
end
section
variable {X : Cx} {K : PySem.W.Frag} {E : XK} {a b c e o : Expr} {es : List Expr} {pos : Pos} {ta tb tc td te : TD K} {tA tB : TDb K} {ts : TDa K}
theorem pe_weak {t t' : TE} (h : PE X e t) (i : ∀ σ H Q, t' σ H Q → t σ H Q) : PE X e t' := ⟨fun pn s σ H Q inv h' => h.run pn s σ H Q inv (i σ H Q h')⟩
theorem pt_weak {t t' : TT} (h : PT X e t) (i : ∀ σ H Q, t' σ H Q → t σ H Q) : PT X e t' := ⟨fun pn s σ H Q inv h' => h.run pn s σ H Q inv (i σ H Q h')⟩
theorem pw_weak {t t' : TT} (h : PW X e t) (i : ∀ σ H Q, t' σ H Q → t σ H Q) : PW X e t' := ⟨fun wh pn s σ H Q inv h' => h.run wh pn s σ H Q inv (i σ H Q h')⟩
theorem pa_weak {t t' : TA} (h : PA X es t) (i : ∀ σ H Q, t' σ H Q → t σ H Q) : PA X es t' := ⟨fun p pn s σ H Q inv h' => h.run p pn s σ H Q inv (i σ H Q h')⟩
/-- what a slot must be to be read -/
def Kn : Sl → Prop
  | .no => False
  | _ => True
def dVar (i : Nat) : TD K := fun sl rs xc q => ∃ y, sl[i]? = some y ∧ Kn y ∧ q y rs
theorem d_var {i : Nat} (h : PE X e (tVar i)) : PE X e (LE E (dVar (K := K) i)) := pe_weak h fun σ H Q ⟨S0, sl, rs, F, xc, q, N, ⟨y, e, kn, h⟩, k, _⟩ => by
  obtain ⟨o, e1, r⟩ := paired_get1 N.sl e
  cases r with
  | no => exact kn.elim
  | some r => exact ⟨_, e1, k _ _ rs F H (Stp.refl _ _) N.at_ r h⟩
def dC (x : Da) : TD K := fun _ rs _ q => q (.da x) rs
theorem d_c {v : V} {x : Da} (h : PE X e (tC v)) (r : ∀ (S : Addr → Prop) H, De K S H v x) : PE X e (LE E (dC (K := K) x)) := pe_weak h fun σ H Q ⟨S0, sl, rs, F, xc, q, N, h, k, _⟩ => k _ _ rs F H (Stp.refl _ _) N.at_ (.da (r _ _)) h
def dR (v : V) : TD K := fun _ rs _ q => q (.raw v) rs
theorem d_int {i : Int} (h : PE X e (tC (.int i))) : PE X e (LE E (dC (K := K) (.int i))) := d_c h fun _ _ => .int i
theorem d_bl {i : Bool} (h : PE X e (tC (.bl i))) : PE X e (LE E (dC (K := K) (.bl i))) := d_c h fun _ _ => .bl i
theorem d_non (h : PE X e (tC .non)) : PE X e (LE E (dC (K := K) .non)) := d_c h fun _ _ => .non
theorem d_str {x : Str} (h : PE X e (tC (.str x))) (ok : PyData.strOk x = true := by decide +kernel) : PE X e (LE E (dC (K := K) (.str x))) := d_c h fun _ _ => .str ok
/-- an operator, at a reading that is known -/
def dB (g : A2 K) (ta tb : TD K) : TD K := fun sl rs xc q => ta sl rs xc fun y rs1 => tb sl rs1 xc fun z rs2 => g y z rs2 q
theorem le_op {r : R2} {g : A2 K} (h : Act2 K r g) {σ : L2.St} {H : Hp} {Q : VK} (l : LE E (dB g ta tb) σ H Q) : tOp r (LE E ta) (LE E tb) σ H Q := by
  obtain ⟨S0, sl, rs, F, xc, q, N, t, k, kx⟩ := l
  refine LE.use N t kx fun v y rs1 F1 H1 st1 N1 r1 t1 => LE.use N1 t1 (kx.after st1) fun w z rs2 F2 H2 st2 N2 r2 t2 => ?_
  exact h S0 H2 rs2 F2 v w y z q Q N2.at_ (r1.ev (st2.ev N1.at_)) r2 t2 (k.after (st1.trans st2))
theorem d_op {op : Operator} {r : R2} {g : A2 K} (ho : OpR X (binaryOp op) r) (h : Act2 K r g) (ha : PE X a (LE E ta)) (hb : PE X b (LE E tb)) : PE X (.BinOp a op b pos) (LE E (dB g ta tb)) := pe_weak (pe_op ho ha hb) fun _ _ _ => le_op h
def dU (g : A1 K) (ta : TD K) : TD K := fun sl rs xc q => ta sl rs xc fun y rs1 => g y rs1 q
theorem d_cmp {op : CmpOp} {r : R2} {g : A2 K} (ho : OpR X (compareOp op) r) (h : Act2 K r g) (ha : PE X a (LE E ta)) (hb : PE X b (LE E tb)) (hm : behindInMarks op b = false := by first | exact nobehind _ (by decide) (by decide) | rfl) : PE X (.Compare a [op] [b] pos) (LE E (dB g ta tb)) := pe_weak (pe_cmpR ho ha hb hm) fun _ _ _ => le_op h
/-- a test of a value -/
def isB (q : Bool → List (Rs K) → Prop) : QD K := fun y rs => ∃ c, y = .da (.bl c) ∧ q c rs
def dT (ta : TD K) : TDb K := fun sl rs xc q => ta sl rs xc (isB q)
theorem le_test {t : TE} (i : ∀ σ H Q, LE E ta σ H Q → t σ H Q) {σ : L2.St} {H : Hp} {Q : Bool → Hp → Prop} (l : LT E (dT ta) σ H Q) : tTest t σ H Q := by
  obtain ⟨S0, sl, rs, F, xc, q, N, t, k, kx⟩ := l
  refine i _ _ _ (LE.use N t kx fun v y rs1 F1 H1 st1 N1 r1 t1 => ?_)
  obtain ⟨c, rfl, t1⟩ := t1
  cases r1 with
  | da r1 => cases r1; exact ⟨c, rfl, k c rs1 F1 H1 st1 N1.at_ t1⟩
theorem dt_cmp {op : CmpOp} {r : R2} {g : A2 K} (ho : OpR X (compareOp op) r) (h : Act2 K r g) (ha : PE X a (LE E ta)) (hb : PE X b (LE E tb)) (hm : behindInMarks op b = false := by first | exact nobehind _ (by decide) (by decide) | rfl) : PT X (.Compare a [op] [b] pos) (LT E (dT (dB g ta tb))) := pt_weak (pt_cmpR ho ha hb hm) fun _ _ _ => le_test fun _ _ _ => le_op h
theorem dt_val (h : PE X e (LE E te)) (he : ∀ whole, isTrue e X.env whole = (do let v ← whole; standAt e.pos; holding [v] (truthy v)) := by intro _; rfl) : PT X e (LT E (dT te)) := pt_weak (pt_val h he) fun _ _ _ => le_test fun _ _ _ h => h
def dChain (g g' : A2 K) (ta tb tc : TD K) : TD K := fun sl rs xc q => ta sl rs xc fun y rs1 => tb sl rs1 xc fun z rs2 => g y z rs2 (isB fun c rs3 => if c = true then tc sl rs3 xc fun u rs4 => g' z u rs4 q else q (.da (.bl false)) rs3)
theorem le_chain {r r' : R2} {g g' : A2 K} (h : Act2 K r g) (h' : Act2 K r' g') {σ : L2.St} {H : Hp} {Q : VK} (l : LE E (dChain g g' ta tb tc) σ H Q) : tChain r r' (LE E ta) (LE E tb) (LE E tc) σ H Q := by
  obtain ⟨S0, sl, rs, F, xc, q, N, t, k, kx⟩ := l
  refine LE.use N t kx fun v y rs1 F1 H1 st1 N1 r1 t1 => LE.use N1 t1 (kx.after st1) fun w z rs2 F2 H2 st2 N2 r2 t2 => ?_
  have k2 := k.after (st1.trans st2)
  have kx2 := kx.after (st1.trans st2)
  refine h S0 H2 rs2 F2 v w y z _ _ N2.at_ (r1.ev (st2.ev N1.at_)) r2 t2 ?_
  rintro b yb rs3 F3 H3 st3 A3 rb ⟨c, rfl, t3⟩
  cases rb with
  | da rb =>
    cases rb
    refine ⟨c, rfl, ?_⟩
    have N3 := N2.step st3 A3
    cases c with
    | false => exact iteF (k2 _ _ rs3 F3 H3 st3 A3 (.da (.bl _)) (by simpa using t3))
    | true =>
      refine iteT (LE.use N3 (by simpa using t3) (kx2.after st3) fun u yu rs4 F4 H4 st4 N4 r4 t4 => ?_)
      exact h' S0 H4 rs4 F4 w u z yu q Q N4.at_ ((r2.ev (st3.ev N2.at_)).ev (st4.ev N3.at_)) r4 t4 ((k2.after st3).after st4)
theorem d_chain {op op' : CmpOp} {r r' : R2} {g g' : A2 K} (ho : OpR X (compareOp op) r) (h : Act2 K r g) (ho' : OpR X (compareOp op') r') (h' : Act2 K r' g') (ha : PE X a (LE E ta)) (hb : PE X b (LE E tb)) (hc : PE X c (LE E tc)) (hm : lastMarks [op, op'] [b, c] = false := by with_unfolding_all rfl) :
    PE X (.Compare a [op, op'] [b, c] pos) (LE E (dChain g g' ta tb tc)) := pe_weak (pe_chain ho ho' ha hb hc hm) fun _ _ _ => le_chain h h'
theorem dt_chain {op op' : CmpOp} {r r' : R2} {g g' : A2 K} (ho : OpR X (compareOp op) r) (h : Act2 K r g) (ho' : OpR X (compareOp op') r') (h' : Act2 K r' g') (ha : PE X a (LE E ta)) (hb : PE X b (LE E tb)) (hc : PE X c (LE E tc)) (hm : lastMarks [op, op'] [b, c] = false := by with_unfolding_all rfl) :
    PT X (.Compare a [op, op'] [b, c] pos) (LT E (dT (dChain g g' ta tb tc))) := pt_weak (pt_chain ho ho' ha hb hc hm) fun _ _ _ => le_test fun _ _ _ => le_chain h h'
/-! and, or, not, if -/
def dAnd (tA tB : TDb K) : TDb K := fun sl rs xc q => tA sl rs xc fun c rs1 => if c = true then tB sl rs1 xc q else q false rs1
def dOr (tA tB : TDb K) : TDb K := fun sl rs xc q => tA sl rs xc fun c rs1 => if c = true then q true rs1 else tB sl rs1 xc q
def dNot (tA : TDb K) : TDb K := fun sl rs xc q => tA sl rs xc fun c rs1 => q (!c) rs1
theorem le_and {σ : L2.St} {H : Hp} {Q : Bool → Hp → Prop} (l : LT E (dAnd tA tB) σ H Q) : tAnd (LT E tA) (LT E tB) σ H Q := by
  obtain ⟨S0, sl, rs, F, xc, q, N, t, k, kx⟩ := l
  refine LT.use N t kx fun c rs1 F1 H1 st1 N1 t1 => ?_
  cases c with
  | true => exact iteT (LT.use N1 (by simpa using t1) (kx.after st1) fun c rs2 F2 H2 st2 N2 t2 => k c rs2 F2 H2 (st1.trans st2) N2.at_ t2)
  | false => exact iteF (k false rs1 F1 H1 st1 N1.at_ (by simpa using t1))
theorem le_or {σ : L2.St} {H : Hp} {Q : Bool → Hp → Prop} (l : LT E (dOr tA tB) σ H Q) : tOr (LT E tA) (LT E tB) σ H Q := by
  obtain ⟨S0, sl, rs, F, xc, q, N, t, k, kx⟩ := l
  refine LT.use N t kx fun c rs1 F1 H1 st1 N1 t1 => ?_
  cases c with
  | false => exact iteF (LT.use N1 (by simpa using t1) (kx.after st1) fun c rs2 F2 H2 st2 N2 t2 => k c rs2 F2 H2 (st1.trans st2) N2.at_ t2)
  | true => exact iteT (k true rs1 F1 H1 st1 N1.at_ (by simpa using t1))
variable {rest : List Expr}
theorem dw_and1 (ha : PT X a (LT E tA)) : PW X (.BoolOp .And [a] pos) (LT E tA) := pw_and1 ha
theorem dw_or1 (ha : PT X a (LT E tA)) : PW X (.BoolOp .Or [a] pos) (LT E tA) := pw_or1 ha
theorem dw_and (ha : PT X a (LT E tA)) (hb : PW X (.BoolOp .And (b :: rest) pos) (LT E tB)) : PW X (.BoolOp .And (a :: b :: rest) pos) (LT E (dAnd tA tB)) := pw_weak (pw_and ha hb) fun _ _ _ => le_and
theorem dw_or (ha : PT X a (LT E tA)) (hb : PW X (.BoolOp .Or (b :: rest) pos) (LT E tB)) : PW X (.BoolOp .Or (a :: b :: rest) pos) (LT E (dOr tA tB)) := pw_weak (pw_or ha hb) fun _ _ _ => le_or
theorem dt_not (ha : PT X a (LT E tA)) : PT X (.UnaryOp .Not a pos) (LT E (dNot tA)) := pt_weak (pt_not ha) fun _ _ _ ⟨S0, sl, rs, F, xc, q, N, t, k, kx⟩ => LT.use N t kx fun c rs1 F1 H1 st1 N1 t1 => k (!c) rs1 F1 H1 st1 N1.at_ t1
def dAndV (ta tb : TD K) : TD K := fun sl rs xc q => ta sl rs xc (isB fun c rs1 => if c = true then tb sl rs1 xc q else q (.da (.bl false)) rs1)
def dOrV (ta tb : TD K) : TD K := fun sl rs xc q => ta sl rs xc (isB fun c rs1 => if c = true then q (.da (.bl true)) rs1 else tb sl rs1 xc q)
def dNotV (ta : TD K) : TD K := fun sl rs xc q => ta sl rs xc (isB fun c rs1 => q (.da (.bl (!c))) rs1)
theorem d_and (ha : PE X a (LE E ta)) (hb : PE X (.BoolOp .And (b :: rest) pos) (LE E tb)) : PE X (.BoolOp .And (a :: b :: rest) pos) (LE E (dAndV ta tb)) := pe_weak (pe_and ha hb) fun σ H Q ⟨S0, sl, rs, F, xc, q, N, t, k, kx⟩ =>
  LE.use N t kx fun v y rs1 F1 H1 st1 N1 r1 t1 => by
    obtain ⟨c, rfl, t1⟩ := t1
    cases r1 with
    | da r1 =>
      cases r1
      refine ⟨c, rfl, ?_⟩
      cases c with
      | true => exact iteT (LE.use N1 (by simpa using t1) (kx.after st1) fun v y rs2 F2 H2 st2 N2 r2 t2 => k v y rs2 F2 H2 (st1.trans st2) N2.at_ r2 t2)
      | false => exact iteF (k _ _ rs1 F1 H1 st1 N1.at_ (.da (.bl _)) (by simpa using t1))
def dIf (tA : TDb K) (ta tb : TD K) : TD K := fun sl rs xc q => tA sl rs xc fun c rs1 => if c = true then ta sl rs1 xc q else tb sl rs1 xc q
theorem d_if (hc : PT X c (LT E tA)) (ha : PE X a (LE E ta)) (hb : PE X b (LE E tb)) : PE X (.IfExp c a b pos) (LE E (dIf tA ta tb)) := pe_weak (pe_ifExp hc ha hb) fun σ H Q ⟨S0, sl, rs, F, xc, q, N, t, k, kx⟩ =>
  LT.use N t kx fun c rs1 F1 H1 st1 N1 t1 => by
    have k1 := k.after st1
    cases c with
    | true => exact iteT (LE.use N1 (by simpa using t1) (kx.after st1) fun v y rs2 F2 H2 st2 N2 r2 t2 => k1 v y rs2 F2 H2 st2 N2.at_ r2 t2)
    | false => exact iteF (LE.use N1 (by simpa using t1) (kx.after st1) fun v y rs2 F2 H2 st2 N2 r2 t2 => k1 v y rs2 F2 H2 st2 N2.at_ r2 t2)
/-! argument lists, displays -/
def dNil : TDa K := fun _ rs _ q => q [] rs
def dCons (ta : TD K) (tr : TDa K) : TDa K := fun sl rs xc q => ta sl rs xc fun y rs1 => tr sl rs1 xc fun ys rs2 => q (y :: ys) rs2
theorem da_nil : PA X [] (LA E (dNil (K := K))) := pa_weak pa_nil fun σ H Q ⟨S0, sl, rs, F, xc, q, N, t, k, kx⟩ => k _ _ rs F H (Stp.refl _ _) N.at_ .nil t
theorem le_cons {σ : L2.St} {H : Hp} {Q : List V → Hp → Prop} (l : LA E (dCons ta ts) σ H Q) : tCons (LE E ta) (LA E ts) σ H Q := by
  obtain ⟨S0, sl, rs, F, xc, q, N, t, k, kx⟩ := l
  exact LE.use N t kx fun v y rs1 F1 H1 st1 N1 r1 t1 => LA.use N1 t1 (kx.after st1) fun vs ys rs2 F2 H2 st2 N2 r2 t2 => k _ _ rs2 F2 H2 (st1.trans st2) N2.at_ (.cons (r1.ev (st2.ev N1.at_)) r2) t2
theorem da_cons (he : PE X e (LE E te)) (hr : PA X es (LA E ts)) (hs : starEach (e :: es) X.env = (false, eval e X.env) :: starEach es X.env := by rfl) : PA X (e :: es) (LA E (dCons te ts)) := pa_weak (pa_cons he hr hs) fun _ _ _ => le_cons
/-- the data of a list of slots' values -/
def allDa : List Sl → Option (List Da)
  | [] => some []
  | .da x :: r => (allDa r).map (x :: ·)
  | _ :: _ => none
theorem allDa_eq : ∀ {ys : List Sl} {xs : List Da}, allDa ys = some xs → ys = xs.map .da
  | [], xs, h => by cases h; rfl
  | .da x :: r, xs, h => by
    cases q : allDa r with
    | none => rw [show allDa (.da x :: r) = (allDa r).map (x :: ·) from rfl, q] at h; cases h
    | some zs =>
      rw [show allDa (.da x :: r) = (allDa r).map (x :: ·) from rfl, q] at h
      cases h
      rw [allDa_eq q]; rfl
  | .no :: _, _, h => by cases h
  | .raw _ :: _, _, h => by cases h
  | .tup _ :: _, _, h => by cases h
def mkT (ys : List Sl) : Sl := match allDa ys with
  | some xs => .da (.tup xs)
  | none => .tup ys
theorem mkT_ok {S : Addr → Prop} {H : Hp} {p : Addr} {vs : List V} {ys : List Sl} (h : H p = some (.tup vs)) (r : VAll K S H vs ys) : VOk K S H (.ref p) (mkT ys) := by
  unfold mkT
  split
  · rename_i xs e
    rw [allDa_eq e] at r
    exact .da (.tup h r.das)
  · exact .tup h r
theorem mkT_da (xs : List Da) : mkT (xs.map .da) = .da (.tup xs) := by
  have : allDa (xs.map .da) = some xs := by
    induction xs with
    | nil => rfl
    | cons x r ih => show (allDa (r.map .da)).map (x :: ·) = _; rw [ih]; rfl
  unfold mkT
  rw [this]
def dTup (ts : TDa K) : TD K := fun sl rs xc q => ts sl rs xc fun ys rs1 => ys.length ≤ sizeLine ∧ q (mkT ys) rs1
theorem d_tup {x1} (h : PA X es (LA E ts)) : PE X (.Tuple es x1 pos) (LE E (dTup ts)) := pe_weak (pe_tup h) fun σ H Q ⟨S0, sl, rs, F, xc, q, N, t, k, kx⟩ =>
  LA.use N t kx fun vs ys rs1 F1 H1 st1 N1 r1 ⟨hz, t1⟩ => ⟨by rw [r1.len]; exact hz, fun p hp => by
    have s : Same H1 (upd H1 p (.tup vs)) := same_new hp
    exact k _ _ rs1 F1 _ (st1.trans (Stp.same s)) (N1.at_.same s) (mkT_ok upd_same (r1.ev (Ev.same (F := []) s))) t1⟩
/-- a list display: data -/
def dLst (ts : TDa K) : TD K := fun sl rs xc q => ts sl rs xc fun ys rs1 => ys.length ≤ sizeLine ∧ ∃ xs, allDa ys = some xs ∧ q (.da (.lst xs)) rs1
theorem d_lst (h : PA X es (LA E ts)) : PE X (.List es pos) (LE E (dLst ts)) := pe_weak (pe_lst h) fun σ H Q ⟨S0, sl, rs, F, xc, q, N, t, k, kx⟩ =>
  LA.use N t kx fun vs ys rs1 F1 H1 st1 N1 r1 ⟨hz, xs, ex, t1⟩ => ⟨by rw [r1.len]; exact hz, fun p hp => by
    have s : Same H1 (upd H1 p (.lst vs)) := same_new hp
    rw [allDa_eq ex] at r1
    exact k _ _ rs1 F1 _ (st1.trans (Stp.same s)) (N1.at_.same s) (.da (.lst (N1.at_.fresh hp) upd_same (r1.das.ev (Ev.same (F := []) s)))) t1⟩
/-- a list display: a thing that may change -/
def dLstR (ts : TDa K) : TD K := fun sl rs xc q => ts sl rs xc fun ys rs1 => ys.length ≤ sizeLine ∧ ∀ a, q (.raw (.ref a)) (lstR a ys :: rs1)
theorem at_newL {S0 : Addr → Prop} {H : Hp} {rs : List (Rs K)} {F : List Addr} {p : Addr} {vs : List V} {ys : List Sl} (A : At K S0 H rs F) (hp : H p = none) (r : VAll K (Mu S0 F) H vs ys) : At K S0 (upd H p (.lst vs)) (lstR p ys :: rs) ([p] ++ F) ∧ Stp F H ([p] ++ F) (upd H p (.lst vs)) := by
  have s : Same H (upd H p (.lst vs)) := same_new hp
  refine A.new s (fun b hb => by rw [List.mem_singleton.mp hb]; exact hp) (by simp) (fun b hb => by rw [List.mem_singleton.mp hb, upd_same]; exact ⟨trivial, nofun⟩) ⟨rfl, vs, upd_same, r.ev (F := []) ⟨fun b z => ?_, fun b o _ h => ⟨o, s b o h, .refl o⟩, fun b o m h => (nomatch m), fun a _ h => s a _ h⟩⟩
  rcases z with z | z
  · exact .inl (.inl z)
  · rcases List.mem_append.mp z with z | z
    · rw [List.mem_singleton.mp z]; exact .inr hp
    · exact .inl (.inr z)
theorem d_lstR (h : PA X es (LA E ts)) : PE X (.List es pos) (LE E (dLstR ts)) := pe_weak (pe_lst h) fun σ H Q ⟨S0, sl, rs, F, xc, q, N, t, k, kx⟩ =>
  LA.use N t kx fun vs ys rs1 F1 H1 st1 N1 r1 ⟨hz, t1⟩ => ⟨by rw [r1.len]; exact hz, fun p hp => by
    obtain ⟨A, st⟩ := at_newL N1.at_ hp r1
    exact k _ _ _ _ _ (st1.trans st) A (.raw _) (t1 p)⟩
/-! calls of built-ins -/
def dCB (g : AN K) (ts : TDa K) : TD K := fun sl rs xc q => ts sl rs xc fun ys rs1 => g ys rs1 q
theorem d_cb {r : List V → Hp → VK → Prop} {g : AN K} (h : PE X e (tCB r (LA E ts))) (ok : ActN K r g) : PE X e (LE E (dCB g ts)) := pe_weak h fun σ H Q ⟨S0, sl, rs, F, xc, q, N, t, k, kx⟩ =>
  LA.use N t kx fun vs ys rs1 F1 H1 st1 N1 r1 t1 => ok S0 H1 rs1 F1 vs ys q Q N1.at_ r1 t1 (k.after st1)
end
end HC

/-! ### statements, targets, loops, comprehensions of data -/
namespace HC
open PyProof.Rows PySem L2 PySem.Spec
section
variable {X : Cx} {K : PySem.W.Frag} {E : XK} {a b c e o : Expr} {es : List Expr} {pos : Pos} {ta tb tc td te : TD K} {tA tB : TDb K} {ts : TDa K} {st : Stmt} {rest : List Stmt} {t u : TDs K}
theorem ps_weak {t t' : TS} (h : PS X st t) (i : ∀ D σ H, t' D σ H → t D σ H) : PS X st t' := ⟨fun pn s σ H D inv h' => h.run pn s σ H D inv (i D σ H h')⟩
theorem pss_weak {t t' : TS} (h : PSs X rest t) (i : ∀ D σ H, t' D σ H → t D σ H) : PSs X rest t' := ⟨fun pn s σ H D inv h' => h.run pn s σ H D inv (i D σ H h')⟩
theorem pi_weak {tg : Expr} {t t' : TI} (h : PI X tg e t) (i : ∀ σ H R, t' σ H R → t σ H R) : PI X tg e t' := ⟨fun pn s σ H R inv h' => h.run pn s σ H R inv (i σ H R h')⟩
/-! blocks -/
def dNext : TDs K := fun d sl rs => d.nx sl rs
def dSeq (t u : TDs K) : TDs K := fun d sl rs => t { d with nx := u d } sl rs
theorem dss_nil : PSs X [] (LS E (dNext (K := K))) := pss_weak pss_nil fun D σ H ⟨S0, sl, rs, F, d, N, h, k1, k2, k3, k4, k5⟩ => k1 σ sl rs F H (Stp.refl _ _) N h
theorem le_seq {D : Ends} {σ : L2.St} {H : Hp} (l : LS E (dSeq t u) D σ H) : tSeq (LS E t) (LS E u) D σ H := by
  obtain ⟨S0, sl, rs, F, d, N, h, k1, k2, k3, k4, k5⟩ := l
  exact LS.use (d := { d with nx := u d }) N h (fun σ' sl' rs' F' H' st N' h' => LS.use N' h' (k1.after st) (k2.after st) (k3.after st) (k4.after st) (k5.after st)) k2 k3 k4 k5
theorem dss_cons (h1 : PS X st (LS E t)) (h2 : PSs X rest (LS E u)) : PSs X (st :: rest) (LS E (dSeq t u)) := pss_weak (pss_cons h1 h2) fun _ _ _ => le_seq
theorem dss_one (h1 : PS X st (LS E t)) : PSs X [st] (LS E t) := pss_one h1
def dDrop (te : TD K) : TDs K := fun d sl rs => te sl rs d.xc fun _ rs1 => d.nx sl rs1
theorem ds_expr (he : PE X e (LE E te)) (hs : swapsWith e none pos.line X.env = pure false := by rfl) : PS X (.Expr e pos) (LS E (dDrop te)) := ps_weak (ps_expr he hs) fun D σ H ⟨S0, sl, rs, F, d, N, h, k1, k2, k3, k4, k5⟩ =>
  LE.use N h k5 fun v y rs1 F1 H1 st1 N1 r1 t1 => k1 σ sl rs1 F1 H1 st1 N1 t1
def dRet (te : TD K) : TDs K := fun d sl rs => te sl rs d.xc d.rt
theorem ds_ret (he : PE X e (LE E te)) : PS X (.Return (some e) pos) (LS E (dRet te)) := ps_weak (ps_ret he) fun D σ H ⟨S0, sl, rs, F, d, N, h, k1, k2, k3, k4, k5⟩ =>
  LE.use N h k5 fun v y rs1 F1 H1 st1 N1 r1 t1 => k4 v y rs1 F1 H1 st1 N1.at_ r1 t1
def dRetN : TDs K := fun d _ rs => d.rt (.da .non) rs
def dIfS (tA : TDb K) (t u : TDs K) : TDs K := fun d sl rs => tA sl rs d.xc fun c rs1 => if c = true then t d sl rs1 else u d sl rs1
theorem ds_if {c : Expr} {a b : List Stmt} (hc : PT X c (LT E tA)) (ha : PSs X a (LS E t)) (hb : PSs X b (LS E u)) : PS X (.If c a b pos) (LS E (dIfS tA t u)) := ps_weak (ps_if hc ha hb) fun D σ H ⟨S0, sl, rs, F, d, N, h, k1, k2, k3, k4, k5⟩ =>
  LT.use N h k5 fun c rs1 F1 H1 st1 N1 t1 => by
    cases c with
    | true => exact iteT (LS.use N1 (by simpa using t1) (k1.after st1) (k2.after st1) (k3.after st1) (k4.after st1) (k5.after st1))
    | false => exact iteF (LS.use N1 (by simpa using t1) (k1.after st1) (k2.after st1) (k3.after st1) (k4.after st1) (k5.after st1))
theorem ds_never : PS X st (LS E (fun _ _ _ => False : TDs K)) := ps_weak ps_never fun D σ H ⟨S0, sl, rs, F, d, N, h, _⟩ => h.elim
/-- ghost steps ahead of what follows -/
def Gs (p : List Sl → List (Rs K) → Prop) : List Sl → List (Rs K) → Prop := fun sl rs => ∃ sl' rs', Gh sl rs sl' rs' ∧ p sl' rs'
def Gv (q : QD K) : QD K := fun y rs => ∃ y' rs', GhV y rs y' rs' ∧ q y' rs'
theorem gs_id {p : List Sl → List (Rs K) → Prop} {sl : List Sl} {rs : List (Rs K)} (h : p sl rs) : Gs p sl rs := ⟨sl, rs, Gh.refl, h⟩
theorem gv_id {q : QD K} {y : Sl} {rs : List (Rs K)} (h : q y rs) : Gv q y rs := ⟨y, rs, GhV.refl, h⟩
theorem gv_via {q : QD K} {y y' : Sl} {rs rs' : List (Rs K)} (g : GhV y rs y' rs') (h : Gv q y' rs') : Gv q y rs := let ⟨y2, rs2, g2, h2⟩ := h; ⟨y2, rs2, g.trans g2, h2⟩
theorem outS_gs {S0 : Addr → Prop} {F : List Addr} {H : Hp} {q : List Sl → List (Rs K) → Prop} {Q : L2.St → Hp → Prop} (k : OutS S0 F H q Q) : OutS S0 F H (Gs q) Q := fun σ' sl' rs' F' H' st N ⟨sl2, rs2, g, h⟩ => by
  obtain ⟨F2, hF, N2⟩ := g S0 σ' H' F' N
  exact k σ' sl2 rs2 F2 H' (st.less hF) N2 h
theorem out_gv {S0 : Addr → Prop} {F : List Addr} {H : Hp} {q : QD K} {Q : VK} (k : Out S0 F H q Q) : Out S0 F H (Gv q) Q := fun v y rs' F' H' st A r ⟨y2, rs2, g, h⟩ => by
  obtain ⟨F2, hF, A2, r2⟩ := g S0 H' F' v A r
  exact k v y2 rs2 F2 H' (st.less hF) A2 r2 h
/-! targets -/
theorem wipe_set {σ : L2.St} {i : Nat} {v : Option V} : ∀ {vs : List Nat}, i ∈ vs → wipe (σ.set i v) vs = wipe σ vs
  | [], h => nomatch h
  | w :: vs, h => by
    unfold wipe
    by_cases e : i = w
    · subst e
      have : ∀ (us : List Nat) (τ : L2.St), (wipe (τ.set i v) us).set i none = (wipe τ us).set i none := by
        intro us
        induction us with
        | nil => intro τ; show (τ.set i v).set i none = τ.set i none; rw [List.set_set]
        | cons m us ih =>
          intro τ
          show ((wipe (τ.set i v) us).set m none).set i none = ((wipe τ us).set m none).set i none
          by_cases em : i = m
          · subst em; rw [List.set_set, List.set_set]; exact ih τ
          · rw [List.set_comm _ _ (Ne.symm em), List.set_comm _ _ (Ne.symm em), ih τ]
      exact this vs σ
    · rw [wipe_set ((List.mem_cons.mp h).resolve_left e)]
def wipeD (sl : List Sl) : List Nat → List Sl
  | [] => sl
  | v :: vs => (wipeD sl vs).set v .no
/-- a target of names: what it does to slots -/
def TgOk (g : TG) (gd : TDg K) (is : List Nat) : Prop := ∀ (S0 : Addr → Prop) (σ : L2.St) (H : Hp) (sl : List Sl) (rs : List (Rs K)) (F : List Addr) (v : V) (y : Sl) (q : List Sl → List (Rs K) → Prop) (Q : L2.St → Hp → Prop), Now K S0 σ H sl rs F → VOk K (Mu S0 F) H v y → gd y sl rs q →
  (∀ σ' sl', Now K S0 σ' H sl' rs F → (∀ vs, (∀ i ∈ is, i ∈ vs) → wipe σ' vs = wipe σ vs) → q sl' rs → Q σ' H) → g v σ H Q
def TgsOk (g : TGs) (gd : TDgs K) (is : List Nat) : Prop := ∀ (S0 : Addr → Prop) (σ : L2.St) (H : Hp) (sl : List Sl) (rs : List (Rs K)) (F : List Addr) (vs : List V) (ys : List Sl) (q : List Sl → List (Rs K) → Prop) (Q : L2.St → Hp → Prop), Now K S0 σ H sl rs F → VAll K (Mu S0 F) H vs ys → gd ys sl rs q →
  (∀ σ' sl', Now K S0 σ' H sl' rs F → (∀ vs, (∀ i ∈ is, i ∈ vs) → wipe σ' vs = wipe σ vs) → q sl' rs → Q σ' H) → g vs σ H Q
def gdName (i : Nat) : TDg K := fun y sl rs q => q (sl.set i y) rs
theorem tg_name (i : Nat) : TgOk (K := K) (gName i) (gdName i) [i] := fun S0 σ H sl rs F v y q Q N r h k => k _ _ (N.set r i) (fun vs hv => wipe_set (hv i (List.mem_singleton.mpr rfl))) h
def gdNil : TDgs K := fun ys sl rs q => ys = [] ∧ q sl rs
def gdCons (g : TDg K) (gs : TDgs K) : TDgs K := fun ys sl rs q => ∃ y r, ys = y :: r ∧ g y sl rs fun sl' rs' => gs r sl' rs' q
theorem tgs_nil : TgsOk (K := K) gNil gdNil [] := fun S0 σ H sl rs F vs ys q Q N r ⟨e, h⟩ k => by
  subst e; cases r
  exact ⟨rfl, k σ sl N (fun _ _ => rfl) h⟩
theorem tgs_cons {g : TG} {gs : TGs} {gd : TDg K} {gds : TDgs K} {is js : List Nat} (h1 : TgOk g gd is) (h2 : TgsOk gs gds js) : TgsOk (gCons g gs) (gdCons gd gds) (is ++ js) := fun S0 σ H sl rs F vs ys q Q N r ⟨y, ry, e, h⟩ k => by
  subst e
  cases r with
  | cons r rr =>
    refine ⟨_, _, rfl, h1 S0 σ H sl rs F _ y _ _ N r h fun σ' sl' N' w' h' => h2 S0 σ' H sl' rs F _ ry _ _ N' rr h' fun σ2 sl2 N2 w2 h2 => k σ2 sl2 N2 (fun us hu => ?_) h2⟩
    rw [w2 us fun i hi => hu i (List.mem_append_right _ hi), w' us fun i hi => hu i (List.mem_append_left _ hi)]
/-- the items of a tuple -/
inductive Its2 : Sl → List Sl → Prop
  | da (xs : List Da) : Its2 (.da (.tup xs)) (xs.map .da)
  | tup (ys : List Sl) : Its2 (.tup ys) ys
def gdTup (n : Nat) (g : TDgs K) : TDg K := fun y sl rs q => ∃ ys, Its2 y ys ∧ ys.length = n ∧ g ys sl rs q
theorem VOk.its {S : Addr → Prop} {H : Hp} {v : V} {y : Sl} {ys : List Sl} (r : VOk K S H v y) (i : Its2 y ys) : ∃ a vs, v = .ref a ∧ H a = some (.tup vs) ∧ VAll K S H vs ys := by
  cases i with
  | da xs => cases r with | da r => cases r with | tup h1 h2 => exact ⟨_, _, rfl, h1, h2.vall⟩
  | tup ys => cases r with | tup h1 h2 => exact ⟨_, _, rfl, h1, h2⟩
theorem tg_tup {n : Nat} {g : TGs} {gd : TDgs K} {is : List Nat} (h : TgsOk g gd is) : TgOk (gTup K n g) (gdTup n gd) is := fun S0 σ H sl rs F v y q Q N r ⟨ys, i, hn, hq⟩ k => by
  obtain ⟨a, vs, rfl, h1, h2⟩ := r.its i
  exact ⟨a, vs, rfl, SqT.of h1, h2.len.trans hn, h S0 σ H sl rs F vs ys q Q N h2 hq k⟩
/-- target = value -/
def dAsg (te : TD K) (g : TDg K) : TDs K := fun d sl rs => te sl rs d.xc fun y rs1 => g y sl rs1 d.nx
theorem ds_asg {tg : Expr} {g : TG} {gd : TDg K} {is : List Nat} (he : PE X e (LE E te)) (hg : PG X tg g) (ok : TgOk g gd is) (hs : swapsWithSole [tg] e pos.line X.env = pure false := by rfl) (hw : swappedStores [tg] e X.env = pure none := by rfl)
    (h1 : (assignEach [tg] X.env).map (·.2) = [assign tg X.env] := by rfl) : PS X (.Assign [tg] e pos) (LS E (dAsg te gd)) := ps_weak (ps_asg he hg hs hw h1) fun D σ H ⟨S0, sl, rs, F, d, N, h, k1, k2, k3, k4, k5⟩ =>
  LE.use N h k5 fun v y rs1 F1 H1 st1 N1 r1 t1 => ok S0 σ H1 sl rs1 F1 v y _ _ N1 r1 t1 fun σ' sl' N' _ h' => k1 σ' sl' rs1 F1 H1 st1 N' h'
theorem ds_set {i : Nat} {x : Str} {pos' : Pos} (hN : X.N.Nodup) (hi : X.N[i]? = some x) (hx : Loc X.env.scope x) (he : PE X e (LE E te)) (hs : swapsWith e (some (.Name x pos')) pos.line X.env = pure false := by rfl) (hf : X.fn x = true ∨ X.env.scope.names.lookup x = some .local := by first | exact .inl rfl | exact .inr rfl | assumption) :
    PS X (.Assign [.Name x pos'] e pos) (LS E (dAsg te (gdName i))) := ps_weak (ps_set (i := i) hN hi hx he hs hf) fun D σ H ⟨S0, sl, rs, F, d, N, h, k1, k2, k3, k4, k5⟩ =>
  LE.use N h k5 fun v y rs1 F1 H1 st1 N1 r1 t1 => k1 _ _ rs1 F1 H1 st1 (N1.set r1 i) t1
/-- a comprehension as a statement's value -/
theorem ds_setX {i : Nat} {st : Stmt} {t : TE} (h : PS X st (tAsg t (gName i))) (w : ∀ σ H Q, LE E te σ H Q → t σ H Q) : PS X st (LS E (dAsg te (gdName (K := K) i))) := ps_weak h fun D σ H ⟨S0, sl, rs, F, d, N, h, k1, k2, k3, k4, k5⟩ =>
  w _ _ _ (LE.use N h k5 fun v y rs1 F1 H1 st1 N1 r1 t1 => k1 _ _ rs1 F1 H1 st1 (N1.set r1 i) t1)
def dPar (is : List Nat) (ts : TDa K) : TDs K := fun d sl rs => ts sl rs d.xc fun ys rs1 => ys.length = is.length ∧ d.nx ((is.zip ys).foldl (fun s p => s.set p.1 p.2) sl) rs1
theorem ds_par {i j : Nat} (h : PS X st (tPar i j (LA E ts))) : PS X st (LS E (dPar [i, j] ts)) := ps_weak h fun D σ H ⟨S0, sl, rs, F, d, N, h, k1, k2, k3, k4, k5⟩ =>
  LA.use N h k5 fun vs ys rs1 F1 H1 st1 N1 r1 ⟨hl, t1⟩ => by
    cases r1 with
    | nil => cases hl
    | cons r1 q1 =>
      cases q1 with
      | nil => cases hl
      | cons r2 q2 =>
        cases q2 with
        | nil => exact ⟨_, _, rfl, k1 _ _ rs1 F1 H1 st1 ((N1.set r1 i).set r2 j) t1⟩
        | cons => exact absurd hl (by simp)
/-! loops -/
def dFor (ti : TDi K) (g : TDg K) (tb : TDs K) : TDs K := fun d sl rs => ti sl rs d.xc fun ys ok rs1 => ∃ W : Nat → List Sl → List (Rs K) → Prop, Gs (W 0) sl rs1 ∧ (∀ i sl rs, W i sl rs → ok rs) ∧
  (∀ i y sl rs, ys[i]? = some y → W i sl rs → g y sl rs fun sl2 rs2 => tb { d with nx := Gs (W (i + 1)), ct := Gs (W (i + 1)), bk := Gs d.nx } sl2 rs2) ∧ ∀ sl rs, W ys.length sl rs → Gs d.nx sl rs
theorem le_for {ti : TDi K} {g : TG} {gd : TDg K} {is : List Nat} {tb : TDs K} (hg : TgOk g gd is) {D : Ends} {σ : L2.St} {H : Hp} (l : LS E (dFor ti gd tb) D σ H) : tFor (LI E ti) g (LS E tb) D σ H := by
  obtain ⟨S0, sl, rs, F, d, N, h, k1, k2, k3, k4, k5⟩ := l
  refine LI.use N h k5 fun J ys gok rs1 F1 H1 st1 N1 it t1 => ?_
  obtain ⟨W, ⟨sl0, rs0, g0, w0⟩, wok, step, done⟩ := t1
  obtain ⟨F0, hF0, N0⟩ := g0 S0 σ H1 F1 N1
  refine ⟨fun i m σ' H' => m + i = ys.length ∧ ∃ sl' rs' F', Now K S0 σ' H' sl' rs' F' ∧ Stp F1 H1 F' H' ∧ W i sl' rs', ⟨ys.length, rfl, sl0, rs0, F0, N0, (Stp.refl _ _).less hF0, w0⟩, ?_⟩
  rintro i m σ2 H2 ⟨hm, sl2, rs2, F2, N2, st2, w2⟩
  have ev := st2.ev N1.at_
  have it2 := it S0 H2 rs2 F2 N2.at_ (by
    refine ⟨fun b z => ?_, ev.keep, ev.own, ev.tk⟩
    exact z.elim (fun q => .inl (.inl q)) fun q => (st2.new b q).imp .inr id) (wok _ _ _ w2) i
  by_cases lt : i < ys.length
  · obtain ⟨go, yl⟩ := it2.1 ys[i] (List.getElem?_eq_getElem lt)
    refine .inr ⟨go, fun σ' H' => ∃ sl' rs' F', Now K S0 σ' H' sl' rs' F' ∧ Stp F1 H1 F' H' ∧ W (i + 1) sl' rs', fun σ' H' ⟨sl', rs', F', a, b, c⟩ => ⟨m - 1, by omega, by omega, sl', rs', F', a, b, c⟩, fun x H3 y3 => ?_⟩
    obtain ⟨sm, rx⟩ := yl x H3 y3
    have st3 : Stp F1 H1 F2 H3 := st2.trans (Stp.same sm)
    refine hg S0 σ2 H3 sl2 rs2 F2 x ys[i] _ _ (N2.same sm) rx (step i ys[i] sl2 rs2 (List.getElem?_eq_getElem lt) w2) fun σ4 sl4 N4 _ h4 => ?_
    have nx : OutS S0 F2 H3 (W (i + 1)) fun σ' H' => ∃ sl' rs' F', Now K S0 σ' H' sl' rs' F' ∧ Stp F1 H1 F' H' ∧ W (i + 1) sl' rs' := fun σ5 sl5 rs5 F5 H5 st5 N5 w5 => ⟨sl5, rs5, F5, N5, st3.trans st5, w5⟩
    have st03 := st1.trans st3
    exact LS.use N4 h4 (outS_gs nx) (outS_gs (k1.after st03)) (outS_gs nx) (k4.after st03) (k5.after st03)
  · obtain rfl : i = ys.length := by omega
    exact .inl ⟨it2.2 rfl, outS_gs (k1.after (st1.trans st2)) σ2 sl2 rs2 F2 H2 (Stp.refl _ _) N2 (done sl2 rs2 w2)⟩
theorem ds_for {tg iter : Expr} {body : List Stmt} {ti : TDi K} {g : TG} {gd : TDg K} {is : List Nat} (hp : PassesOwn (model X.prog X.w) X.A X.env X.xe) (hc : X.calm = true) (hi : PI X tg iter (LI E ti)) (hg : PG X tg g) (ok : TgOk g gd is) (hb : PSs X body (LS E t))
    (hs : ∀ x, foldedSetIterable iter X.env x = pure x := by intro _; rfl) : PS X (.For tg iter body [] pos) (LS E (dFor ti gd t)) := ps_weak (ps_for hp hc hi hg hb hs) fun _ _ _ => le_for ok
def dWhile (tc : TDb K) (tb : TDs K) : TDs K := fun d sl rs => ∃ W : Nat → List Sl → List (Rs K) → Prop, (∃ m, Gs (W m) sl rs) ∧ ∀ m sl rs, W m sl rs → tc sl rs d.xc fun b rs1 => if b = true then
  tb { d with nx := Gs fun sl' rs' => ∃ m', m' < m ∧ W m' sl' rs', ct := Gs fun sl' rs' => ∃ m', m' < m ∧ W m' sl' rs', bk := Gs d.nx } sl rs1 else Gs d.nx sl rs1
theorem le_while {tc : TDb K} {tb : TDs K} {D : Ends} {σ : L2.St} {H : Hp} (l : LS E (dWhile tc tb) D σ H) : tWhile (LT E tc) (LS E tb) D σ H := by
  obtain ⟨S0, sl, rs, F, d, N, ⟨W, ⟨m0, sl0, rs0, g0, w0⟩, step⟩, k1, k2, k3, k4, k5⟩ := l
  obtain ⟨F0, hF0, N0⟩ := g0 S0 σ H F N
  refine ⟨fun m σ' H' => ∃ sl' rs' F', Now K S0 σ' H' sl' rs' F' ∧ Stp F H F' H' ∧ W m sl' rs', ⟨m0, sl0, rs0, F0, N0, (Stp.refl _ _).less hF0, w0⟩, ?_⟩
  rintro m σ2 H2 ⟨sl2, rs2, F2, N2, st2, w2⟩
  refine LT.use N2 (step m sl2 rs2 w2) (k5.after st2) fun c rs3 F3 H3 st3 N3 t3 => ?_
  have st := st2.trans st3
  cases c with
  | false => exact iteF (outS_gs (k1.after st) _ _ rs3 F3 H3 (Stp.refl _ _) N3 (by simpa using t3))
  | true =>
    refine iteT ⟨fun σ' H' => ∃ m', m' < m ∧ ∃ sl' rs' F', Now K S0 σ' H' sl' rs' F' ∧ Stp F H F' H' ∧ W m' sl' rs', fun σ' H' h => h, ?_⟩
    have nx : OutS S0 F3 H3 (fun sl' rs' => ∃ m', m' < m ∧ W m' sl' rs') fun σ' H' => ∃ m', m' < m ∧ ∃ sl' rs' F', Now K S0 σ' H' sl' rs' F' ∧ Stp F H F' H' ∧ W m' sl' rs' := fun σ5 sl5 rs5 F5 H5 st5 N5 ⟨m', lt, w5⟩ => ⟨m', lt, sl5, rs5, F5, N5, st.trans st5, w5⟩
    rw [if_pos rfl] at t3
    exact LS.use N3 t3 (outS_gs nx) (outS_gs (k1.after st)) (outS_gs nx) (k4.after st) (k5.after st)
theorem ds_while {c : Expr} {body : List Stmt} (hp : PassesOwn (model X.prog X.w) X.A X.env X.xe) (hc : PT X c (LT E tA)) (hb : PSs X body (LS E t)) : PS X (.While c body [] pos) (LS E (dWhile tA t)) := ps_weak (ps_while hp hc hb) fun _ _ _ => le_while
/-! comprehensions -/
abbrev xF : XD K := fun _ _ => False
def dLc (ti : TDi K) (g : TDg K) (tt : TDb K) (te : TD K) (vs : List Nat) : TD K := fun sl rs xc q => ti sl rs xc fun ys ok rs1 => ys.length ≤ 1000000 ∧ ∃ W : Nat → List Da → List (Rs K) → Prop, W 0 [] rs1 ∧ (∀ i acc rs, W i acc rs → ok rs) ∧
  (∀ i y acc rs, ys[i]? = some y → acc.length ≤ i → W i acc rs → g y (wipeD sl vs) rs fun sl2 rs2 => tt sl2 rs2 xF fun b rs3 => if b = true then te sl2 rs3 xF fun z rs4 => ∃ x, z = .da x ∧ W (i + 1) (acc ++ [x]) rs4 else W (i + 1) acc rs3) ∧
  ∀ acc rs, acc.length ≤ ys.length → W ys.length acc rs → q (.da (.lst acc)) rs
def dYes : TDb K := fun _ rs _ q => q true rs
theorem slots_wipe {S : Addr → Prop} {H : Hp} {σ : L2.St} {sl : List Sl} (h : Slots K S H σ sl) : ∀ vs, Slots K S H (wipe σ vs) (wipeD sl vs)
  | [] => h
  | v :: vs => paired_set (.no none) v (slots_wipe h vs)
theorem outX_F {S0 : Addr → Prop} {F : List Addr} {H : Hp} {E : XK} : OutX S0 F H (xF (K := K)) E := fun _ _ _ _ _ _ _ _ _ h => h.elim
/-- the callers may change D besides -/
abbrev Plus (S0 : Addr → Prop) (D : Addr) : Addr → Prop := fun b => S0 b ∨ b = D
section
variable {S0 : Addr → Prop} {H H' : Hp} {rs : List (Rs K)} {F : List Addr} {D : Addr} {o : HO}
theorem At.ev2 {S1 : Addr → Prop} (A : At K S0 H rs F) (e : Ev K (Mu S0 F) (Mu S1 F) H H' F) (off : ∀ b ∈ F, ¬ S1 b) (lv : ∀ b, Mu S1 F b → NotT (H' b) ∧ H' b ≠ none) : At K S1 H' rs F := ⟨A.sep.ev e fun _ h => h, A.nd, off, lv⟩
theorem ev_plus (A : At K S0 H rs F) (hD : H D = none) : Ev K (Mu S0 F) (Mu (Plus S0 D) F) H (upd H D o) F := by
  have s : Same H (upd H D o) := same_new hD
  refine ⟨fun b z => ?_, fun b u _ h => ⟨u, s b u h, .refl u⟩, fun b u _ h => s b u h, fun a _ h => s a _ h⟩
  rcases z with (z | z) | z
  · exact .inl (.inl z)
  · rw [z]; exact .inr hD
  · exact .inl (.inr z)
theorem At.plus (A : At K S0 H rs F) (hD : H D = none) (nt : NotT (some o)) : At K (Plus S0 D) (upd H D o) rs F := by
  have s : Same H (upd H D o) := same_new hD
  refine A.ev2 (ev_plus A hD) (fun b hb z => ?_) fun b z => ?_
  · rcases z with z | z
    · exact A.off b hb z
    · exact (A.liv b (.inr hb)).2 (by rw [z]; exact hD)
  · by_cases e : b = D
    · rw [e, upd_same]; exact ⟨nt, nofun⟩
    · exact (A.same s).liv b (z.imp (fun q => q.resolve_right e) id)
theorem ev_write (A : At K (Plus S0 D) H rs F) : Ev K (Mu (Plus S0 D) F) (Mu (Plus S0 D) F) H (upd H D o) F := by
  have kp : Keep D H (upd H D o) := keep_upd
  exact ⟨fun b z => .inl z, fun b u n h => ⟨u, kp b u (fun e => n (.inl (.inr e))) h, .refl u⟩, fun b u hb h => kp b u (fun e => A.off b hb (.inr e)) h, fun b xs h => kp b _ (fun e => by have n := (A.liv D (.inl (.inr rfl))).1; rw [← e, h] at n; exact n) h⟩
theorem At.writeD (A : At K (Plus S0 D) H rs F) (nt : NotT (some o)) : At K (Plus S0 D) (upd H D o) rs F := A.ev2 (ev_write A) A.off fun b z => by
  by_cases e : b = D
  · rw [e, upd_same]; exact ⟨nt, nofun⟩
  · rw [upd_ne e]; exact A.liv b z
theorem ev_minus : Ev K (Mu (Plus S0 D) F) (Mu S0 F) H H F := Ev.less fun b z => z.imp .inl id
theorem At.minus (A : At K (Plus S0 D) H rs F) : At K S0 H rs F := A.ev2 ev_minus (fun b hb z => A.off b hb (.inl z)) fun b z => A.liv b (z.imp .inl id)
end
theorem wipe_in {σ : L2.St} {w : Nat} : ∀ {us : List Nat}, w ∈ us → (wipe σ us).set w none = wipe σ us
  | z :: us, h => by
    show ((wipe σ us).set z none).set w none = (wipe σ us).set z none
    by_cases e : w = z
    · subst e; rw [List.set_set]
    · rw [List.set_comm _ _ (Ne.symm e), wipe_in ((List.mem_cons.mp h).resolve_left e)]
theorem wipe_wipe (σ : L2.St) (vs : List Nat) : ∀ us : List Nat, (∀ i ∈ us, i ∈ vs) → wipe (wipe σ vs) us = wipe σ vs
  | [], _ => rfl
  | w :: us, h => by
    show (wipe (wipe σ vs) us).set w none = _
    rw [wipe_wipe σ vs us fun i hi => h i (List.mem_cons_of_mem _ hi)]
    exact wipe_in (h w List.mem_cons_self)
theorem le_lc {ti : TDi K} {g : TG} {gd : TDg K} {is vs : List Nat} {tt : TDb K} {E' E2 : XK} (hg : TgOk g gd is) (hv : ∀ i ∈ is, i ∈ vs) {σ : L2.St} {H : Hp} {Q : VK} (l : LE E (dLc ti gd tt te vs) σ H Q) : tLc (LI E ti) g (LT E2 tt) (LE E' te) vs σ H Q := by
  obtain ⟨S0, sl, rs, F, xc, q, N, h, k, kx⟩ := l
  refine LI.use N h kx fun J ys gok rs1 F1 H1 st1 N1 it ⟨few, W, w0, wok, step, done⟩ => fun D hD => ?_
  refine ⟨fun i m H' => m + i = ys.length ∧ ∃ acc vs' rs' F', acc.length ≤ i ∧ H' D = some (.lst vs') ∧ Now K (Plus S0 D) (wipe σ vs) H' (wipeD sl vs) rs' F' ∧ Stp F1 H1 F' H' ∧ DeAll K (Mu (Plus S0 D) F') H' vs' acc ∧ W i acc rs',
    ⟨ys.length, rfl, [], [], rs1, F1, Nat.le_refl _, upd_same, ⟨N1.at_.plus hD trivial, (slots_wipe N1.sl vs).ev (ev_plus N1.at_ hD)⟩, Stp.same (same_new hD), .nil, w0⟩, ?_⟩
  rintro i m H2 ⟨hm, acc, vs2, rs2, F2, hl, hD2, N2, st2, d2, w2⟩
  have ev := st2.ev N1.at_
  have it2 := it (Plus S0 D) H2 rs2 F2 N2.at_ ⟨fun b z => by
    rcases z with (z | z) | z
    · exact .inl (.inl z)
    · rw [z]; exact .inr hD
    · exact (st2.new b z).imp .inr id, ev.keep, ev.own, ev.tk⟩ (wok _ _ _ w2) i
  by_cases lt : i < ys.length
  · have hy := List.getElem?_eq_getElem lt
    obtain ⟨go, yl⟩ := it2.1 ys[i] hy
    refine .inr ⟨go, fun H' => ∃ acc vs' rs' F', acc.length ≤ i + 1 ∧ H' D = some (.lst vs') ∧ Now K (Plus S0 D) (wipe σ vs) H' (wipeD sl vs) rs' F' ∧ Stp F1 H1 F' H' ∧ DeAll K (Mu (Plus S0 D) F') H' vs' acc ∧ W (i + 1) acc rs', fun H' h => ⟨m - 1, by omega, by omega, h⟩, fun x H3 y3 => ?_⟩
    obtain ⟨sm, rx⟩ := yl x H3 y3
    have N3 := N2.same sm
    have nD : D ∉ F2 := fun z => N2.at_.off D z (.inr rfl)
    refine hg _ _ H3 _ rs2 F2 x ys[i] _ _ N3 rx (step i ys[i] acc rs2 hy hl w2) fun σ4 sl4 N4 hw h4 => ⟨by rw [hw vs hv, wipe_wipe σ vs vs fun _ h => h], ?_⟩
    have d3 := d2.ev (Ev.same (F := []) sm)
    refine LT.use N4 h4 outX_F fun b rs5 F5 H5 st5 N5 t5 => ?_
    have N5' : Now K (Plus S0 D) (wipe σ vs) H5 (wipeD sl vs) rs5 F5 := N3.step st5 N5.at_
    have d5 := d3.ev (st5.ev N3.at_)
    have b1 := st5.keep D _ nD (sm _ _ hD2)
    have b3 := (st2.trans (Stp.same sm)).trans st5
    cases b with
    | false => exact iteF ⟨acc, vs2, rs5, F5, by omega, b1, N5', b3, d5, by simpa using t5⟩
    | true =>
      refine iteT (LE.use N5 (by simpa using t5) outX_F fun v z rs6 F6 H6 st6 N6 r6 t6 => ?_)
      obtain ⟨x6, rfl, w6⟩ := t6
      cases r6 with
      | da r6 =>
        have N6' := N5'.step st6 N6.at_
        have d6 := d5.ev (st6.ev N5.at_)
        have c1 := st6.keep D _ (fun z => N5.at_.off D z (.inr rfl)) b1
        have lv : vs2.length = acc.length := d2.len
        have ew := ev_write (D := D) (o := .lst (vs2 ++ [v])) N6.at_
        have c3 := b3.trans st6
        exact ⟨vs2, c1, by rw [lv]; exact Nat.lt_of_le_of_lt (Nat.le_trans hl (Nat.le_of_lt (Nat.lt_of_lt_of_le lt few))) (by decide), acc ++ [x6], vs2 ++ [v], rs6, F6, by simp; omega, upd_same, ⟨N6.at_.writeD trivial, N6'.sl.ev ew⟩,
          ⟨fun b o n h => by rw [upd_ne (ne_of_none h hD)]; exact c3.keep b o n h, c3.new⟩, (d6.app (.cons r6 .nil)).ev ew, w6⟩
  · obtain rfl : i = ys.length := by omega
    exact .inl ⟨it2.2 rfl, k (.ref D) _ rs2 F2 H2 (st1.trans st2) N2.at_.minus (.da (.lst (fun z => z.elim (fun q => (N1.at_.liv D (.inl q)).2 hD) fun q => N2.at_.off D q (.inr rfl)) hD2 (d2.ev (F := F2) ev_minus))) (done acc rs2 hl w2)⟩
end
end HC

/-! ### what is walked; calls of defs, methods, classes; fields -/
namespace HC
open PyProof.Rows PySem L2 PySem.Spec
section
variable {X : Cx} {K : PySem.W.Frag} {E : XK} {a b c e o tg : Expr} {es : List Expr} {pos : Pos} {ta tb tc td te : TD K} {tA tB : TDb K} {ts : TDa K} {st : Stmt} {rest : List Stmt} {t u : TDs K}
/-! ### what is walked -/
def sgn (z : Str) : List Sl := z.cps.toList.map fun c => .da (.str ⟨#[c]⟩)
/-- y is walked: its items, and what must hold of what may change meanwhile -/
inductive Wk (rs : List (Rs K)) : Sl → List Sl → (List (Rs K) → Prop) → Prop
  | tup (xs : List Da) : Wk rs (.da (.tup xs)) (xs.map .da) (fun _ => True)
  | tupS (ys : List Sl) : Wk rs (.tup ys) ys (fun _ => True)
  | btup (xs : List Da) : Wk rs (.da (.btup xs)) (xs.map .da) (fun _ => True)
  | lst (xs : List Da) : Wk rs (.da (.lst xs)) (xs.map .da) (fun _ => True)
  | scr (xs : List Int) : Wk rs (.da (.scr xs)) (xs.map fun i => .da (.int i)) (fun _ => True)
  | str (z : Str) : Wk rs (.da (.str z)) (sgn z) (fun _ => True)
  | raw {a : Addr} {ys : List Sl} {rs' : List (Rs K)} : Ext (lstR a ys) rs rs' → Wk rs (.raw (.ref a)) ys (fun rs => ∃ rs', Ext (lstR a ys) rs rs')
section
variable {S0 : Addr → Prop} {H : Hp} {rs : List (Rs K)} {F : List Addr} {v : V} {y : Sl} {ys : List Sl} {g : List (Rs K) → Prop}
/-- a walk whose items stand all the time -/
theorem dit_of {J : It} {n : Nat} {G : Hp → Prop} {Y : Nat → Hp → V → Hp → Prop} (w : Walk J n G Y) (hn : n = ys.length) {S : Addr → Prop} {H1 : Hp} (hG : ∀ (S0 : Addr → Prop) H rs F, At K S0 H rs F → Ev K S (Mu S0 F) H1 H [] → g rs → G H)
    (hY : ∀ (S0 : Addr → Prop) H rs F i v H' y, At K S0 H rs F → Ev K S (Mu S0 F) H1 H [] → g rs → ys[i]? = some y → Y i H v H' → Same H H' ∧ VOk K (Mu S0 F) H' v y) : DIt S H1 J ys g := fun S0 H rs F A ev gr i => by
  have q := hG S0 H rs F A ev gr
  refine ⟨fun y hy => ?_, fun hi => ?_⟩
  · have lt : i < n := by rw [hn]; exact (List.getElem?_eq_some_iff.mp hy).1
    exact ⟨w.goes i H lt q, fun x H' yl => hY S0 H rs F i x H' y A ev gr hy (w.yields i H x H' lt q yl)⟩
  · rw [hi, ← hn]; exact w.stops H q
theorem sgn_len (z : Str) : (sgn z).length = z.cps.size := by unfold sgn; rw [List.length_map, Array.length_toList]
/-- a list, a tuple or a text, walked -/
def iSeqV (K : PySem.W.Frag) (R : It → Hp → Prop) : VK := fun x H1 => (∃ a, x = .ref a ∧ (∃ xs, SqL K H1 a xs) ∧ R (Itl K a) H1) ∨ (∃ a, x = .ref a ∧ (∃ xs, SqT K H1 a xs) ∧ R (Itt K a) H1) ∨ ∃ z, x = .str z ∧ R (Its z) H1
theorem iter_seq {X : Cx} {tg : Expr} {pins : List (Addr × Obj)} {σ : L2.St} {H : Hp} {s : Shared} {R : It → Hp → Prop} {E : Value → Shared → Prop} {x : V} {v : Value} (inv : L2.Inv X pins σ H s) (r : RelV x v) (q : iSeqV X.K R x H) : wpAny (model X.prog X.w) X.A (pyIter v) (PIE X pins σ tg R) E s := by
  rcases q with ⟨a, rfl, ⟨xs, sq⟩, q⟩ | ⟨a, rfl, ⟨xs, sq⟩, q⟩ | ⟨z, rfl, q⟩
  · cases r
    obtain ⟨cells, _, plain, _⟩ := inv.list sq
    refine wpAny_pyIter_list plain.isList ?_
    exact pi_one (tk := s.toks) inv _ (turn_list a _) ⟨_, Heap.get?_push_size _ rfl, rfl, rfl⟩ q
  · cases r
    obtain ⟨cells, _, tup, _⟩ := inv.tuple sq
    refine wpAny_pyIter_tuple (items := cells.toArray) tup ?_
    exact pi_one (tk := s.toks) inv _ (turn_tuple a _) ⟨_, Heap.get?_push_size _ rfl, rfl, rfl⟩ q
  · obtain ⟨tk, rfl⟩ := r
    by_cases low : z.cps.all (· < 128) = true
    · refine wpAny_pyIter_ascii low ?_
      exact pi_one (tk := s.toks) inv _ (turn_str _ z tk "str_ascii_iterator" (.inl rfl)) ⟨_, Heap.get?_push_size _ rfl, rfl, rfl⟩ q
    · refine wpAny_pyIter_wide (by simpa using low) ?_
      exact pi_one (tk := s.toks) inv _ (turn_str _ z tk "str_iterator" (.inr rfl)) ⟨_, Heap.get?_push_size _ rfl, rfl, rfl⟩ q
def iSeq (K : PySem.W.Frag) (tl : TE) : TI := fun σ H R => tl σ H (iSeqV K R)
theorem pi_seq {X : Cx} {K : PySem.W.Frag} {e tg : Expr} {tl : TE} (h : PE X e tl) (hK : X.K = K := by rfl) : PI X tg e (iSeq K tl) := by
  subst hK
  constructor
  intro pn s σ H R inv q
  refine thn (h.run pn s σ H _ inv q) ?_
  rintro v s1 ⟨x, H1, inv1, r, q1⟩
  exact iter_seq inv1 r q1
end
end
section
variable {K : PySem.W.Frag} {S0 : Addr → Prop} {H : Hp} {rs : List (Rs K)} {F : List Addr} {v : V} {y : Sl} {ys : List Sl} {g : List (Rs K) → Prop}
theorem vall_at {S : Addr → Prop} {H1 : Hp} {vs : List V} (h : VAll K S H1 vs ys) {i : Nat} {x : V} {y : Sl} (hy : ys[i]? = some y) (hx : vs[i]? = some x) : VOk K S H1 x y := by
  obtain ⟨v, e, r⟩ := h.atD hy
  rw [hx] at e
  cases e
  exact r
/-- a tuple is walked -/
theorem dit_tup {S : Addr → Prop} {a : Addr} {vs : List V} (h : H a = some (.tup vs)) (r : VAll K S H vs ys) : DIt (K := K) S H (Itt K a) ys (fun _ => True) :=
  dit_of (walk_tup (xs := vs)) r.len (fun S0 H' rs F A ev _ => SqT.of (ev.tk _ _ h)) fun S0 H' rs F i v H2 y A ev _ hy ⟨e, hv⟩ => by
    subst e
    exact ⟨Same.refl _, vall_at (r.ev ev) hy hv⟩
theorem dit_btup {S : Addr → Prop} {a : Addr} {o : Obj} {vs : List V} (n : ¬ S a) (h : H a = some (.frz o (.tup vs))) (r : VAll K S H vs ys) : DIt (K := K) S H (Itt K a) ys (fun _ => True) :=
  dit_of (walk_tup (xs := vs)) r.len (fun S0 H' rs F A ev _ => .inl (.inr ⟨o, ev.btup n h⟩)) fun S0 H' rs F i v H2 y A ev _ hy ⟨e, hv⟩ => by
    subst e
    exact ⟨Same.refl _, vall_at (r.ev ev) hy hv⟩
theorem dit_lst {S : Addr → Prop} {a : Addr} {vs : List V} (n : ¬ S a) (h : H a = some (.lst vs)) (r : VAll K S H vs ys) : DIt (K := K) S H (Itl K a) ys (fun _ => True) :=
  dit_of (walk_list (xs := vs)) r.len (fun S0 H' rs F A ev _ => SqL.of (ev.lst n h)) fun S0 H' rs F i v H2 y A ev _ hy ⟨e, hv⟩ => by
    subst e
    exact ⟨Same.refl _, vall_at (r.ev ev) hy hv⟩
/-- y is walked by one of the three -/
theorem Wk.seq {R : It → Hp → Prop} (w : Wk rs y ys g) (A : At K S0 H rs F) (r : VOk K (Mu S0 F) H v y) (k : ∀ J, DIt (Mu S0 F) H J ys g → R J H) : iSeqV K R v H := by
  cases w with
  | tup xs => cases r with | da r => cases r with | tup h1 h2 => exact .inr (.inl ⟨_, rfl, ⟨_, SqT.of h1⟩, k _ (dit_tup h1 h2.vall)⟩)
  | tupS ys => cases r with | tup h1 h2 => exact .inr (.inl ⟨_, rfl, ⟨_, SqT.of h1⟩, k _ (dit_tup h1 h2)⟩)
  | lst xs => cases r with | da r => cases r with | lst n h1 h2 => exact .inl ⟨_, rfl, ⟨_, SqL.of h1⟩, k _ (dit_lst n h1 h2.vall)⟩
  | btup xs => cases r with | da r => cases r with | btup n h1 hd h2 => exact .inr (.inl ⟨_, rfl, ⟨_, .inl (.inr ⟨_, h1⟩)⟩, k _ (dit_btup n h1 h2.vall)⟩)
  | scr xs =>
    cases r with | da r => cases r with | @scr a xs h1 =>
      refine .inl ⟨_, rfl, ⟨_, h1.sq⟩, k _ (dit_of (walk_list (xs := xs.map V.int)) (by simp) (fun S0 H' rs F A ev _ => (ev.scrAt h1).sq) fun S0 H' rs F i v H2 y A ev _ hy ⟨e, hv⟩ => ?_)⟩
      subst e
      rw [List.getElem?_map] at hy hv
      obtain ⟨j, ej, rfl⟩ := Option.map_eq_some_iff.mp hy
      rw [ej] at hv
      cases hv
      exact ⟨Same.refl _, .da (.int j)⟩
  | str z =>
    cases r with | da r => cases r with | str ok =>
      refine .inr (.inr ⟨z, rfl, k _ (dit_of (walk_str (z := z)) (sgn_len z).symm (fun _ _ _ _ _ _ _ => trivial) fun S0 H' rs F i v H2 y A ev _ hy ⟨e, c, hc, hv⟩ => ?_)⟩)
      subst e hv
      unfold sgn at hy
      rw [List.getElem?_map, Array.getElem?_toList, hc] at hy
      cases hy
      refine ⟨Same.refl _, .da (.str ?_)⟩
      have := Array.all_eq_true.mp ok
      obtain ⟨lt, hc'⟩ := Array.getElem?_eq_some_iff.mp hc
      have t := this i lt
      rw [hc'] at t
      show Array.all #[c] _ = true
      simpa using t
  | @raw ad ys rs' e =>
    cases r
    obtain ⟨vs, h1, h2, hm⟩ := A.lst e
    refine .inl ⟨_, rfl, ⟨_, SqL.of h1⟩, k _ fun S1 H' rs2 F2 A2 ev ⟨rs3, e3⟩ i => ?_⟩
    obtain ⟨vs2, g1, g2, _⟩ := A2.lst e3
    have w := walk_list (K := K) (a := ad) (xs := vs2)
    refine ⟨fun y hy => ?_, fun hi => ?_⟩
    · have lt : i < vs2.length := by rw [g2.len]; exact (List.getElem?_eq_some_iff.mp hy).1
      refine ⟨w.goes i H' lt (SqL.of g1), fun x H2 yl => ?_⟩
      obtain ⟨e, hv⟩ := w.yields i H' x H2 lt (SqL.of g1) yl
      subst e
      exact ⟨Same.refl _, vall_at g2 hy hv⟩
    · rw [hi, ← g2.len]; exact w.stops H' (SqL.of g1)
end
section
variable {X : Cx} {K : PySem.W.Frag} {E : XK} {a b c e o tg : Expr} {es : List Expr} {pos : Pos} {ta tb tc td te : TD K} {tA tB : TDb K} {ts : TDa K} {st : Stmt} {rest : List Stmt} {t u : TDs K}
def dIt (te : TD K) : TDi K := fun sl rs xc q => te sl rs xc fun y rs1 => ∃ ys g, Wk rs1 y ys g ∧ q ys g rs1
theorem di_seq (h : PE X e (LE E te)) (hK : X.K = K := by rfl) : PI X tg e (LI E (dIt te)) := pi_weak (pi_seq h hK) fun σ H R ⟨S0, sl, rs, F, xc, q, N, t, k, kx⟩ => by
  exact LE.use N t kx fun v y rs1 F1 H1 st1 N1 r1 ⟨ys, g, w, t1⟩ => w.seq N1.at_ r1 fun J it => k J ys g rs1 F1 H1 st1 N1.at_ it t1
end
end HC

/-! ### range, enumerate, zip; calls of defs, methods, classes; fields -/
namespace HC
open PyProof.Rows PySem L2 PySem.Spec
section
variable {K : PySem.W.Frag} {S0 S : Addr → Prop} {H H' : Hp} {rs : List (Rs K)} {F : List Addr} {v : V} {y : Sl} {ys zs : List Sl}
def rngS (lo : Int) (n : Nat) : List Sl := (List.range n).map fun i => .da (.int (lo + (i : Nat)))
theorem dit_rng {lo : Int} {n : Nat} : DIt (K := K) S H (Itr lo n) (rngS lo n) (fun _ => True) :=
  dit_of (walk_range (lo := lo) (n := n)) (by unfold rngS; simp) (fun _ _ _ _ _ _ _ => trivial) fun S0 H' rs F i v H2 y A ev _ hy ⟨e, hv⟩ => by
    subst e hv
    unfold rngS at hy
    rw [List.getElem?_map] at hy
    obtain ⟨j, ej, rfl⟩ := Option.map_eq_some_iff.mp hy
    obtain ⟨_, ej⟩ := List.getElem?_eq_some_iff.mp ej
    rw [List.getElem_range] at ej
    subst ej
    exact ⟨Same.refl _, .da (.int _)⟩
def enumS : Nat → List Sl → List Sl
  | _, [] => []
  | n, y :: r => mkT [.da (.int n), y] :: enumS (n + 1) r
theorem enumS_len : ∀ (n : Nat) (ys : List Sl), (enumS n ys).length = ys.length
  | _, [] => rfl
  | n, _ :: r => congrArg Nat.succ (enumS_len (n + 1) r)
theorem enumS_get : ∀ (n i : Nat) (ys : List Sl), (enumS n ys)[i]? = ys[i]?.map fun y => mkT [.da (.int ((n + i : Nat) : Int)), y]
  | _, _, [] => rfl
  | n, 0, y :: r => rfl
  | n, i + 1, y :: r => by
    show (enumS (n + 1) r)[i]? = _
    rw [enumS_get (n + 1) i r, show n + 1 + i = n + (i + 1) by omega]; rfl
def zipS : List Sl → List Sl → List Sl := List.zipWith fun y z => mkT [y, z]
theorem pair_ok {T : Addr} {x z : V} {y1 y2 : Sl} (h : H T = none) (r1 : VOk K S H x y1) (r2 : VOk K S H z y2) : Same H (upd H T (.tup [x, z])) ∧ VOk K S (upd H T (.tup [x, z])) (.ref T) (mkT [y1, y2]) :=
  ⟨same_new h, mkT_ok upd_same (.cons (r1.ev (Ev.same (F := []) (same_new h))) (.cons (r2.ev (Ev.same (F := []) (same_new h))) .nil))⟩
/-- the tuple at a stands for good -/
def Std (K : PySem.W.Frag) (S : Addr → Prop) (H : Hp) (a : Addr) (vs : List V) : Prop := H a = some (.tup vs) ∨ ¬ S a ∧ ∃ o, H a = some (.frz o (.tup vs))
theorem Std.sq {a : Addr} {vs : List V} (h : Std K S H a vs) : SqT K H a vs := h.elim (fun h => SqT.of h) fun ⟨_, o, h⟩ => .inl (.inr ⟨o, h⟩)
theorem Std.ev {a : Addr} {vs : List V} {S' : Addr → Prop} {H' : Hp} {G : List Addr} (h : Std K S H a vs) (e : Ev K S S' H H' G) : SqT K H' a vs := h.elim (fun h => SqT.of (e.tk _ _ h)) fun ⟨n, o, h⟩ => .inl (.inr ⟨o, e.btup n h⟩)
theorem dit_enumT {a : Addr} {vs : List V} (h : Std K S H a vs) (r : VAll K S H vs ys) : DIt (K := K) S H (IteT K a vs.length) (enumS 0 ys) (fun _ => True) :=
  dit_of (walk_enumT (K := K) (a := a) (xs := vs)) (by rw [enumS_len]; exact r.len) (fun S0 H' rs F A ev _ => h.ev ev) fun S0 H' rs F i v H2 y A ev _ hy ⟨T, x, z, e1, e2, e3, e4, e5⟩ => by
    subst e1 e3
    cases e4
    rw [enumS_get] at hy
    obtain ⟨y0, ey, rfl⟩ := Option.map_eq_some_iff.mp hy
    rw [Nat.zero_add]
    exact pair_ok e2 (.da (.int _)) (vall_at (r.ev ev) ey e5)
theorem zipS_len {ys zs : List Sl} : (zipS ys zs).length = min ys.length zs.length := List.length_zipWith
theorem zipS_get {ys zs : List Sl} {i : Nat} {y : Sl} (h : (zipS ys zs)[i]? = some y) : ∃ y1 y2, ys[i]? = some y1 ∧ zs[i]? = some y2 ∧ y = mkT [y1, y2] := by
  unfold zipS at h
  rw [List.getElem?_zipWith] at h
  cases h1 : ys[i]? with
  | none => (rw [h1] at h; cases h)
  | some y1 =>
    cases h2 : zs[i]? with
    | none => (rw [h1, h2] at h; cases h)
    | some y2 =>
      rw [h1, h2] at h
      cases h
      exact ⟨y1, y2, rfl, rfl, rfl⟩
theorem dit_zipL {a b : Addr} {vs us : List V} (n : ¬ S a) (h : H a = some (.lst vs)) (n2 : ¬ S b) (h2 : H b = some (.lst us)) (r : VAll K S H vs ys) (r2 : VAll K S H us zs) : DIt (K := K) S H (Itz K a b) (zipS ys zs) (fun _ => True) :=
  dit_of (walk_zip (K := K) (a := a) (b := b) (xs := vs) (ys := us) rfl) (by rw [zipS_len, r.len, r2.len]) (fun S0 H' rs F A ev _ => ⟨SqL.of (ev.lst n h), SqL.of (ev.lst n2 h2)⟩) fun S0 H' rs F i v H2 y A ev _ hy ⟨T, x, z, e1, e2, e3, e4, e5⟩ => by
    subst e1 e3
    obtain ⟨y1, y2, g1, g2, rfl⟩ := zipS_get hy
    exact pair_ok e2 (vall_at (r.ev ev) g1 e4) (vall_at (r2.ev ev) g2 e5)
theorem walk_zipT {a b : Addr} {xs ys : List V} : Walk (RZ.ItzT K a b) (min xs.length ys.length) (fun H => SqT K H a xs ∧ SqT K H b ys) (YPair (fun i => xs[i]?) (fun i => ys[i]?)) := by
  refine ⟨fun i H lt st => ?_, fun H st => ⟨xs, ys, st.1, st.2, by omega⟩, fun i H v H' _ st pr => ?_⟩
  · obtain ⟨lx, ly⟩ := Nat.lt_min.mp lt
    exact ⟨xs, ys, xs[i], ys[i], st.1, st.2, List.getElem?_eq_getElem lx, List.getElem?_eq_getElem ly⟩
  · obtain ⟨T, x, z, e1, e2, e3, gx, gy⟩ := pr
    exact ⟨T, x, z, e1, e2, e3, gx xs st.1, gy ys st.2⟩
theorem dit_zipT {a b : Addr} {vs us : List V} (h : Std K S H a vs) (h2 : Std K S H b us) (r : VAll K S H vs ys) (r2 : VAll K S H us zs) : DIt (K := K) S H (RZ.ItzT K a b) (zipS ys zs) (fun _ => True) :=
  dit_of (walk_zipT (K := K) (a := a) (b := b) (xs := vs) (ys := us)) (by rw [zipS_len, r.len, r2.len]) (fun S0 H' rs F A ev _ => ⟨h.ev ev, h2.ev ev⟩) fun S0 H' rs F i v H2 y A ev _ hy ⟨T, x, z, e1, e2, e3, e4, e5⟩ => by
    subst e1 e3
    obtain ⟨y1, y2, g1, g2, rfl⟩ := zipS_get hy
    exact pair_ok e2 (vall_at (r.ev ev) g1 e4) (vall_at (r2.ev ev) g2 e5)
/-- the items of a list or a tuple that stand -/
inductive TI2 : Sl → List Sl → Prop
  | da (xs : List Da) : TI2 (.da (.tup xs)) (xs.map .da)
  | tup (ys : List Sl) : TI2 (.tup ys) ys
  | btup (xs : List Da) : TI2 (.da (.btup xs)) (xs.map .da)
theorem TI2.ok (i : TI2 y ys) (r : VOk K S H v y) : ∃ a vs, v = .ref a ∧ Std K S H a vs ∧ VAll K S H vs ys := by
  cases i with
  | da xs => cases r with | da r => cases r with | tup h1 h2 => exact ⟨_, _, rfl, .inl h1, h2.vall⟩
  | tup ys => cases r with | tup h1 h2 => exact ⟨_, _, rfl, .inl h1, h2⟩
  | btup xs => cases r with | da r => cases r with | btup n h1 hd h2 => exact ⟨_, _, rfl, .inr ⟨n, _, h1⟩, h2.vall⟩
end
section
variable {X : Cx} {K : PySem.W.Frag} {E : XK} {a b c e o tg : Expr} {es : List Expr} {pos : Pos} {ta tb tc td te : TD K} {tA tB : TDb K} {ts : TDa K} {st : Stmt} {rest : List Stmt} {t u : TDs K}
def dRng1 (ts : TDa K) : TDi K := fun sl rs xc q => ts sl rs xc fun ys rs1 => ∃ j : Int, ys = [.da (.int j)] ∧ (-(2 ^ 62) ≤ j ∧ j < 2 ^ 62) ∧ q (rngS 0 j.toNat) (fun _ => True) rs1
theorem vone {S : Addr → Prop} {H : Hp} {vs : List V} {y : Sl} (h : VAll K S H vs [y]) : ∃ v, vs = [v] ∧ VOk K S H v y := by
  cases h with | cons h t => cases t; exact ⟨_, rfl, h⟩
theorem vtwo {S : Addr → Prop} {H : Hp} {vs : List V} {y z : Sl} (h : VAll K S H vs [y, z]) : ∃ v u, vs = [v, u] ∧ VOk K S H v y ∧ VOk K S H u z := by
  cases h with | cons h t => cases t with | cons h2 t => cases t; exact ⟨_, _, rfl, h, h2⟩
theorem vint {S : Addr → Prop} {H : Hp} {v : V} {i : Int} (h : VOk K S H v (.da (.int i))) : v = .int i := by
  cases h with | da h => cases h; rfl
theorem vbl {S : Addr → Prop} {H : Hp} {v : V} {i : Bool} (h : VOk K S H v (.da (.bl i))) : v = .bl i := by
  cases h with | da h => cases h; rfl
theorem di_rng1 (h : PI X tg e (iRng1 (LA E ts))) : PI X tg e (LI E (dRng1 ts)) := pi_weak h fun σ H R ⟨S0, sl, rs, F, xc, q, N, t, k, kx⟩ =>
  LA.use N t kx fun vs ys rs1 F1 H1 st1 N1 r1 ⟨j, ej, ⟨h1, h2⟩, t1⟩ => by
    subst ej
    obtain ⟨v, rfl, r⟩ := vone r1
    cases vint r
    exact ⟨j, rfl, h1, h2, k _ _ _ rs1 F1 H1 st1 N1.at_ dit_rng t1⟩
def dRng2 (ts : TDa K) : TDi K := fun sl rs xc q => ts sl rs xc fun ys rs1 => ∃ i j : Int, ys = [.da (.int i), .da (.int j)] ∧ (-(2 ^ 62) ≤ i ∧ i < 2 ^ 62 ∧ -(2 ^ 62) ≤ j ∧ j < 2 ^ 62) ∧ q (rngS i (j - i).toNat) (fun _ => True) rs1
theorem di_rng2 (h : PI X tg e (iRng2 (LA E ts))) : PI X tg e (LI E (dRng2 ts)) := pi_weak h fun σ H R ⟨S0, sl, rs, F, xc, q, N, t, k, kx⟩ =>
  LA.use N t kx fun vs ys rs1 F1 H1 st1 N1 r1 ⟨i, j, ej, h1, t1⟩ => by
    subst ej
    obtain ⟨v, u, rfl, r, r2⟩ := vtwo r1
    cases vint r
    cases vint r2
    exact ⟨i, j, rfl, h1, k _ _ _ rs1 F1 H1 st1 N1.at_ dit_rng t1⟩
def dEnT (ts : TDa K) : TDi K := fun sl rs xc q => ts sl rs xc fun ys rs1 => ∃ y zs, ys = [y] ∧ TI2 y zs ∧ q (enumS 0 zs) (fun _ => True) rs1
theorem di_enT (h : PI X tg e (iEnumT K (LA E ts))) : PI X tg e (LI E (dEnT ts)) := pi_weak h fun σ H R ⟨S0, sl, rs, F, xc, q, N, t, k, kx⟩ =>
  LA.use N t kx fun vs ys rs1 F1 H1 st1 N1 r1 ⟨y, zs, ej, i, t1⟩ => by
    subst ej
    obtain ⟨v, rfl, r⟩ := vone r1
    obtain ⟨p, us, rfl, h1, h2⟩ := i.ok r
    exact ⟨p, us, rfl, h1.sq, k _ _ _ rs1 F1 H1 st1 N1.at_ (dit_enumT h1 h2) t1⟩
def dEnL (ts : TDa K) : TDi K := fun sl rs xc q => ts sl rs xc fun ys rs1 => ∃ xs, ys = [.da (.lst xs)] ∧ q (enumS 0 (xs.map .da)) (fun _ => True) rs1
/-- zip of two tuples, of two lists -/
inductive Zi : List Sl → List Sl → Prop
  | t {y z : Sl} {ys zs : List Sl} : TI2 y ys → TI2 z zs → Zi [y, z] (zipS ys zs)
  | l (xs ws : List Da) : Zi [.da (.lst xs), .da (.lst ws)] (zipS (xs.map .da) (ws.map .da))
def dZip (ts : TDa K) : TDi K := fun sl rs xc q => ts sl rs xc fun ys rs1 => ∃ zs, Zi ys zs ∧ q zs (fun _ => True) rs1
theorem di_zip (h : PI X tg e (RZ.iZipA K (LA E ts))) : PI X tg e (LI E (dZip ts)) := pi_weak h fun σ H R ⟨S0, sl, rs, F, xc, q, N, t, k, kx⟩ =>
  LA.use N t kx fun vs ys rs1 F1 H1 st1 N1 r1 ⟨zs, zi, t1⟩ => by
    cases zi with
    | t i1 i2 =>
      obtain ⟨v, u, rfl, r, r2⟩ := vtwo r1
      obtain ⟨p, us, rfl, h1, h2⟩ := i1.ok r
      obtain ⟨p2, us2, rfl, g1, g2⟩ := i2.ok r2
      exact ⟨p, p2, us, us2, rfl, .inr ⟨h1.sq, g1.sq, k _ _ _ rs1 F1 H1 st1 N1.at_ (dit_zipT h1 g1 h2 g2) t1⟩⟩
    | l xs ws =>
      obtain ⟨v, u, rfl, r, r2⟩ := vtwo r1
      cases r with | da r => cases r with | lst n h1 h2 =>
        cases r2 with | da r2 => cases r2 with | lst n2 g1 g2 =>
          exact ⟨_, _, _, _, rfl, .inl ⟨SqL.of h1, SqL.of g1, k _ _ _ rs1 F1 H1 st1 N1.at_ (dit_zipL n h1 n2 g1 h2.vall g2.vall) t1⟩⟩
/-! ### calls -/
/-- lent: a thing that may change is read as data, for a while -/
inductive LendS (rs : List (Rs K)) : Sl → Sl → Prop
  | same (y : Sl) : LendS rs y y
  | lst {a : Addr} {xs : List Da} {rs' : List (Rs K)} : Ext (lstR a (xs.map .da)) rs rs' → LendS rs (.raw (.ref a)) (.da (.lst xs))
  | obj {a C : Addr} {fs : List (Str × Da)} {rs' : List (Rs K)} : Ext (objR a C (fs.map fun f => (f.1, .da f.2))) rs rs' → LendS rs (.raw (.ref a)) (.da (.obj C fs))
  | dK {a : Addr} {fs : List (Key × Da)} {rs' : List (Rs K)} : Ext (dctR a (fs.map fun f => (f.1, .da f.2))) rs rs' → LendS rs (.raw (.ref a)) (.da (.dK fs))
def scaD : Da → Bool
  | .non => true
  | .bl _ => true
  | .int _ => true
  | .str _ => true
  | _ => false
theorem das2' {α : Type} {S : Addr → Prop} {H : Hp} {vs : List V} {fs : List (α × Da)} (h : VAll K S H vs ((fs.map fun f => (f.1, Sl.da f.2)).map (·.2))) : DeAll K S H vs (fs.map (·.2)) := by
  refine VAll.das ?_
  rw [List.map_map] at h ⊢
  exact h
theorem LendS.ok {S0 : Addr → Prop} {H : Hp} {rs : List (Rs K)} {F : List Addr} {v : V} {y y' : Sl} (h : LendS rs y y') (A : At K S0 H rs F) (r : VOk K (Mu S0 F) H v y) : VOk K (Mu S0 []) H v y' := by
  have le : Ev K (Mu S0 F) (Mu S0 []) H H [] := Ev.less fun b z => z.imp id fun m => absurd m (by simp)
  have off : ∀ {a}, a ∈ F → ¬ Mu S0 [] a := fun m z => z.elim (A.off _ m) fun m => absurd m (by simp)
  cases h with
  | same => exact r.ev le
  | lst e => cases r; obtain ⟨vs, h1, h2, m⟩ := A.lst e; exact .da (.lst (off m) h1 (h2.das.ev le))
  | obj e => cases r; obtain ⟨dx, gs, h1, h2, h3, m⟩ := A.obj e; exact .da (.obj (off m) h1 (by rw [h2, List.map_map]; rfl) ((das2' h3).ev le))
  | dK e => cases r; obtain ⟨gs, h1, h2, h3, m⟩ := A.dct e; exact .da (.dK (off m) (.inl h1) (by rw [h2, List.map_map]; rfl) ((das2' h3).ev le))
theorem lend_all {S0 : Addr → Prop} {H : Hp} {rs : List (Rs K)} {F : List Addr} (A : At K S0 H rs F) : ∀ {vs : List V} {ys ys' : List Sl}, Paired (LendS rs) ys ys' → VAll K (Mu S0 F) H vs ys → VAll K (Mu S0 []) H vs ys'
  | _, _, _, .nil, .nil => .nil
  | _, _, _, .cons h t, .cons r q => .cons (h.ok A r) (lend_all A t q)
theorem At.bare (A : At K S0 H rs F) : At K S0 H [] [] := ⟨rfl, by simp, fun b hb => absurd hb (by simp), fun b hb => A.liv b (hb.imp id fun m => absurd m (by simp))⟩
theorem VOk.scaD {S S' : Addr → Prop} {H : Hp} {v : V} {x : Da} (r : VOk K S H v (.da x)) (h : scaD x = true) : VOk K S' H v (.da x) := by
  cases r with | da r => cases r <;> first | exact .da (.non) | exact .da (.bl _) | exact .da (.int _) | (exact .da (.str (by assumption))) | cases h
/-- D is asked of some of the things, the others stand; or all things are lent, and D tells a number, a text, a truth -/
def Ask (D : SpD K) (ys : List Sl) (rs : List (Rs K)) (xc : XD K) (q : QD K) : Prop := (∃ rc rf, Gets rc rs rf ∧ D ys rc (fun x rc' => xc x (rc' ++ rf)) fun y rc' => q y (rc' ++ rf)) ∨
  ∃ ys', Paired (LendS rs) ys ys' ∧ D ys' [] (fun _ _ => False) fun y _ => ∃ x, y = .da x ∧ scaD x = true ∧ q (.da x) rs
theorem Ask.sp {D : SpD K} {ys : List Sl} {S0 : Addr → Prop} {H : Hp} {rs : List (Rs K)} {F : List Addr} {vs : List V} {xc : XD K} {q : QD K} {Q : VK} (h : Ask D ys rs xc q) (A : At K S0 H rs F) (r : VAll K (Mu S0 F) H vs ys) (k : Out S0 F H q Q) (kx : OutX S0 F H xc E) : spD D vs H Q E := by
  rcases h with ⟨rc, rf, g, h⟩ | ⟨ys', ln, h⟩
  case inr =>
    refine ⟨S0, ys', [], [], _, _, A.bare, lend_all A ln r, h, ?_, fun _ _ _ _ _ _ _ _ _ z => z.elim⟩
    rintro v y rc' Fc' H' st B' rv ⟨x, rfl, sx, hq⟩
    have s : Same H H' := fun b o e => st.keep b o (by simp) e
    exact k v _ rs F H' (Stp.same s) (A.same s) (rv.scaD sx) hq
  obtain ⟨F1, p, A1⟩ := A.perm g.perm
  obtain ⟨Fc, Ff, rfl, B, em, hf⟩ := A1.call
  have em2 : Mu (Mu S0 Ff) Fc = Mu S0 F := em.trans (mu_perm p).symm
  refine ⟨Mu S0 Ff, ys, rc, Fc, _, _, B, by rw [em2]; exact r, h, ?_, ?_⟩
  · intro v y rc' Fc' H' st B' rv hq
    obtain ⟨A2, st2⟩ := A1.back hf st B'
    exact k v y _ _ H' (st2.perm p.symm (.refl _)) A2 (by rw [← mu_app]; exact rv) hq
  · intro x u d rc' Fc' H' st B' rx hq
    obtain ⟨A2, st2⟩ := A1.back hf st B'
    exact kx x u d _ _ H' (st2.perm p.symm (.refl _)) A2 (by rw [← mu_app]; exact rx) hq
def dCall (D : SpD K) (ts : TDa K) : TD K := fun sl rs xc q => ts sl rs xc fun ys rs1 => Ask D ys rs1 xc q
theorem le_call {D : SpD K} {σ : L2.St} {H : Hp} {Q : VK} (l : LE E (dCall D ts) σ H Q) : tCallR (spD D) E (LA E ts) σ H Q := by
  obtain ⟨S0, sl, rs, F, xc, q, N, t, k, kx⟩ := l
  exact LA.use N t kx fun vs ys rs1 F1 H1 st1 N1 r1 t1 => t1.sp N1.at_ r1 (k.after st1) (kx.after st1)
theorem d_call {D : SpD K} (h : PE X e (tCallR (spD D) E (LA E ts))) : PE X e (LE E (dCall D ts)) := pe_weak h fun _ _ _ => le_call
/-- y is an instance of C with fields of these names -/
inductive IsO (rs : List (Rs K)) : Sl → Addr → List Str → Prop
  | da {C : Addr} (fs : List (Str × Da)) : IsO rs (.da (.obj C fs)) C (fs.map (·.1))
  | raw {a C : Addr} {fs : List (Str × Sl)} {rs' : List (Rs K)} : Ext (objR a C fs) rs rs' → IsO rs (.raw (.ref a)) C (fs.map (·.1))
theorem IsO.ok {rs : List (Rs K)} {y : Sl} {C : Addr} {nm : List Str} {S0 : Addr → Prop} {H : Hp} {F : List Addr} {v : V} (i : IsO rs y C nm) (A : At K S0 H rs F) (r : VOk K (Mu S0 F) H v y) : ∃ a dx gs, v = .ref a ∧ H a = some (.ins C dx gs) ∧ gs.map (·.1) = nm := by
  cases i with
  | da fs => cases r with | da r => cases r with | obj n h1 h2 h3 => exact ⟨_, _, _, rfl, h1, h2⟩
  | raw e =>
    cases r
    obtain ⟨dx, gs, h1, h2, _⟩ := A.obj e
    exact ⟨_, _, _, rfl, h1, h2⟩
theorem lookup_no {α : Type} {f : Str} : ∀ {gs : List (Str × α)}, f ∉ gs.map (·.1) → gs.lookup f = none
  | [], _ => rfl
  | (g, x) :: r, h => by
    have h1 : f ≠ g := fun e => h (by rw [e]; exact List.mem_cons_self)
    rw [List.lookup, show (f == g) = false from beq_eq_false_iff_ne.mpr h1]
    exact lookup_no fun m => h (List.mem_cons_of_mem _ m)
def dMeth (C : Addr) (m : Str) (D : SpD K) (ta : TD K) (ts : TDa K) : TD K := fun sl rs xc q => ta sl rs xc fun y rs1 => (∃ nm, IsO rs1 y C nm ∧ m ∉ nm) ∧ ts sl rs1 xc fun ys rs2 => Ask D (y :: ys) rs2 xc q
theorem d_meth {C : Addr} {m : Str} {D : SpD K} (h : PE X e (tMethR C m (spD D) E (LE E ta) (LA E ts))) : PE X e (LE E (dMeth C m D ta ts)) := pe_weak h fun σ H Q ⟨S0, sl, rs, F, xc, q, N, t, k, kx⟩ =>
  LE.use N t kx fun v y rs1 F1 H1 st1 N1 r1 ⟨⟨nm, io, no⟩, t1⟩ => by
    obtain ⟨p, dx, gs, rfl, h1, h2⟩ := io.ok N1.at_ r1
    refine ⟨p, dx, gs, rfl, h1, lookup_no (by rw [h2]; exact no), LA.use N1 t1 (kx.after st1) fun vs ys rs2 F2 H2 st2 N2 r2 t2 => ?_⟩
    exact t2.sp N2.at_ (.cons (r1.ev (st2.ev N1.at_)) r2) (k.after (st1.trans st2)) (kx.after (st1.trans st2))
def dProp (C : Addr) (D : SpD K) (ta : TD K) : TD K := fun sl rs xc q => ta sl rs xc fun y rs1 => (∃ nm, IsO rs1 y C nm) ∧ Ask D [y] rs1 xF q
theorem d_prop {C : Addr} {D : SpD K} (h : PE X e (tPropR C (spD D) (LE E ta))) : PE X e (LE E (dProp C D ta)) := pe_weak h fun σ H Q ⟨S0, sl, rs, F, xc, q, N, t, k, kx⟩ =>
  LE.use N t kx fun v y rs1 F1 H1 st1 N1 r1 ⟨⟨nm, io⟩, t1⟩ => by
    obtain ⟨p, dx, gs, rfl, h1, h2⟩ := io.ok N1.at_ r1
    exact ⟨p, dx, gs, rfl, h1, t1.sp N1.at_ (.cons r1 .nil) (k.after st1) outX_F⟩
/-- what C(..) does: its __init__ keeps D -/
def Mks (C : Addr) (D D' : SpD K) : Prop := ∀ ys rs xc q, D' ys rs xc q → ∀ a, D (.raw (.ref a) :: ys) (objR a C [] :: rs) xc fun y rs' => y = .da .non ∧ Gv q (.raw (.ref a)) rs'
theorem Ask.mk {C : Addr} {D D' : SpD K} {ys : List Sl} {S0 : Addr → Prop} {H : Hp} {rs : List (Rs K)} {F : List Addr} {vs : List V} {xc : XD K} {q : QD K} {Q : VK} (mk : Mks C D D') (h : Ask D' ys rs xc q) (A : At K S0 H rs F) (r : VAll K (Mu S0 F) H vs ys) (k : Out S0 F H q Q) (kx : OutX S0 F H xc E) :
    ∀ x dx, H x = none → H dx = none → dx ≠ x → spD D (.ref x :: vs) (upd (upd H dx (.own x)) x (.ins C dx [])) (fun v H2 => v = .non ∧ Q (.ref x) H2) E := by
  intro x dx hx hd ne
  rcases h with ⟨rc, rf, g, h⟩ | ⟨ys', ln, h⟩
  case inr =>
    have s : Same H (upd (upd H dx (.own x)) x (.ins C dx [])) := fun b o e => by rw [upd_ne (ne_of_none e hx), upd_ne (ne_of_none e hd)]; exact e
    have B := A.bare
    obtain ⟨B1, st1⟩ := B.new (R := objR x C []) (G := [x]) s (fun b hb => by rw [List.mem_singleton.mp hb]; exact hx) (by simp) (fun b hb => by rw [List.mem_singleton.mp hb, upd_same]; exact ⟨trivial, nofun⟩) ⟨rfl, dx, [], upd_same, rfl, .nil⟩
    refine ⟨S0, _, _, _, _, _, B1, .cons (.raw _) ((lend_all A ln r).ev (st1.ev B)), mk ys' [] _ _ h x, ?_, fun _ _ _ _ _ _ _ _ _ z => z.elim⟩
    rintro v y rc' Fc' H' st B' rv ⟨rfl, y2, rc2, gh, z, rfl, sz, hq⟩
    obtain ⟨F2, hF, B2, rv2⟩ := gh _ H' Fc' (.ref x) B' (.raw _)
    cases rv2 with | da d => cases d <;> cases sz
  obtain ⟨F1, p, A1⟩ := A.perm g.perm
  obtain ⟨Fc, Ff, rfl, B, em, hf⟩ := A1.call
  have em2 : Mu (Mu S0 Ff) Fc = Mu S0 F := em.trans (mu_perm p).symm
  have s : Same H (upd (upd H dx (.own x)) x (.ins C dx [])) := fun b o e => by rw [upd_ne (ne_of_none e hx), upd_ne (ne_of_none e hd)]; exact e
  have ev1 : Ev K (Mu S0 F) (Mu (Mu S0 Ff) ([x] ++ Fc)) H (upd (upd H dx (.own x)) x (.ins C dx [])) [] := ⟨fun b z => by
    rcases z with z | z
    · rw [← em2]; exact .inl (.inl z)
    · rcases List.mem_append.mp z with z | z
      · rw [List.mem_singleton.mp z]; exact .inr hx
      · rw [← em2]; exact .inl (.inr z), fun b o _ h => ⟨o, s b o h, .refl o⟩, fun b o m h => (nomatch m), fun a _ h => s a _ h⟩
  obtain ⟨B1, st1⟩ := B.new (R := objR x C []) (G := [x]) s (fun b hb => by rw [List.mem_singleton.mp hb]; exact hx) (by simp) (fun b hb => by rw [List.mem_singleton.mp hb, upd_same]; exact ⟨trivial, nofun⟩) ⟨rfl, dx, [], upd_same, rfl, .nil⟩
  refine ⟨Mu S0 Ff, _, _, _, _, _, B1, .cons (.raw _) (r.ev ev1), mk ys rc _ _ h x, ?_, ?_⟩
  · rintro v y rc' Fc' H' st B' rv ⟨rfl, y2, rc2, gh, hq⟩
    refine ⟨by cases rv with | da rv => cases rv; rfl, ?_⟩
    obtain ⟨F2, hF, B2, rv2⟩ := gh _ H' Fc' (.ref x) B' (.raw _)
    obtain ⟨A2, st2⟩ := A1.back hf ((st1.trans st).less hF) B2
    exact k (.ref x) y2 _ _ H' (st2.perm p.symm (.refl _)) A2 (by rw [← mu_app]; exact rv2) hq
  · intro x' u d rc' Fc' H' st B' rx hq
    obtain ⟨A2, st2⟩ := A1.back hf (st1.trans st) B'
    exact kx x' u d _ _ H' (st2.perm p.symm (.refl _)) A2 (by rw [← mu_app]; exact rx) hq
def dMake (D' : SpD K) (ts : TDa K) : TD K := dCall D' ts
theorem d_make {C : Addr} {D D' : SpD K} (h : PE X e (StX.tMakeR C (spD D) E (LA E ts))) (mk : Mks C D D') : PE X e (LE E (dMake D' ts)) := pe_weak h fun σ H Q ⟨S0, sl, rs, F, xc, q, N, t, k, kx⟩ =>
  LA.use N t kx fun vs ys rs1 F1 H1 st1 N1 r1 t1 => t1.mk mk N1.at_ r1 (k.after st1) (kx.after st1)
/-! ### fields -/
inductive FldOf (rs : List (Rs K)) : Sl → Addr → Str → Sl → Prop
  | da {C : Addr} {fs : List (Str × Da)} {f : Str} {x : Da} : fs.lookup f = some x → FldOf rs (.da (.obj C fs)) C f (.da x)
  | raw {a C : Addr} {fs : List (Str × Sl)} {f : Str} {y : Sl} {rs' : List (Rs K)} : Ext (objR a C fs) rs rs' → fs.lookup f = some y → FldOf rs (.raw (.ref a)) C f y
theorem lookup_v {S : Addr → Prop} {H : Hp} {f : Str} {y : Sl} : ∀ {gs : List (Str × V)} {fs : List (Str × Sl)}, gs.map (·.1) = fs.map (·.1) → VAll K S H (gs.map (·.2)) (fs.map (·.2)) → fs.lookup f = some y → ∃ v, gs.lookup f = some v ∧ VOk K S H v y
  | [], [], _, _, h => by cases h
  | (g, x) :: r, (g', z) :: r', e, a, h => by
    injection e with e1 e2
    dsimp only at e1
    subst e1
    cases a with
    | cons a1 a2 =>
      by_cases q : (f == g) = true
      · simp only [List.lookup, q] at h ⊢
        cases h
        exact ⟨x, rfl, a1⟩
      · have q' : (f == g) = false := by simpa using q
        simp only [List.lookup, q'] at h ⊢
        exact lookup_v e2 a2 h
  | [], _ :: _, e, _, _ => by cases e
  | _ :: _, [], e, _, _ => by cases e
theorem lookup_map {f : Str} {x : Da} : ∀ {fs : List (Str × Da)}, fs.lookup f = some x → (fs.map fun g => (g.1, Sl.da g.2)).lookup f = some (.da x)
  | [], h => by cases h
  | (g, z) :: r, h => by
    by_cases q : (f == g) = true
    · simp only [List.lookup, q, List.map] at h ⊢
      cases h; rfl
    · have q' : (f == g) = false := by simpa using q
      simp only [List.lookup, q', List.map] at h ⊢
      exact lookup_map h
theorem FldOf.ok {rs : List (Rs K)} {y z : Sl} {C : Addr} {f : Str} {S0 : Addr → Prop} {H : Hp} {F : List Addr} {v : V} (i : FldOf rs y C f z) (A : At K S0 H rs F) (r : VOk K (Mu S0 F) H v y) : ∃ a dx gs u, v = .ref a ∧ H a = some (.ins C dx gs) ∧ gs.lookup f = some u ∧ VOk K (Mu S0 F) H u z := by
  cases i with
  | @da C fs f x h =>
    cases r with | da r => cases r with | @obj a _ dx gs _ n h1 h2 h3 =>
      have h2' : gs.map (·.1) = (fs.map fun g => (g.1, Sl.da g.2)).map (·.1) := by rw [h2, List.map_map]; rfl
      have h3' : VAll K (Mu S0 F) H (gs.map (·.2)) ((fs.map fun g => (g.1, Sl.da g.2)).map (·.2)) := by
        have := h3.vall
        rw [List.map_map] at this ⊢
        exact this
      obtain ⟨u, e, ru⟩ := lookup_v h2' h3' (lookup_map h)
      exact ⟨_, dx, gs, u, rfl, h1, e, ru⟩
  | raw e h =>
    cases r
    obtain ⟨dx, gs, h1, h2, h3, _⟩ := A.obj e
    obtain ⟨u, e, ru⟩ := lookup_v h2 h3 h
    exact ⟨_, dx, gs, u, rfl, h1, e, ru⟩
/-- what the class C may have as a field -/
structure FN (K : PySem.W.Frag) (C : Addr) (f : Str) : Prop where
  cl : Cls K C
  no : NoAttr K C f
def dFld (f : Str) (ta : TD K) : TD K := fun sl rs xc q => ta sl rs xc fun y rs1 => ∃ C z, FldOf rs1 y C f z ∧ FN K C f ∧ Kn z ∧ q z rs1
theorem d_fld {f : Str} (h : PE X e (tFld K (LE E ta) f)) : PE X e (LE E (dFld f ta)) := pe_weak h fun σ H Q ⟨S0, sl, rs, F, xc, q, N, t, k, kx⟩ =>
  LE.use N t kx fun v y rs1 F1 H1 st1 N1 r1 ⟨C, z, fo, fn, _, t1⟩ => by
    obtain ⟨p, dx, gs, u, rfl, h1, e, ru⟩ := fo.ok N1.at_ r1
    exact ⟨p, C, dx, gs, u, rfl, h1, fn.cl, fn.no, e, k u z rs1 F1 H1 st1 N1.at_ ru t1⟩
def putS (f : Str) (v : Sl) : List (Str × Sl) → List (Str × Sl)
  | [] => [(f, v)]
  | (g, x) :: r => if g = f then (g, v) :: r else (g, x) :: putS f v r
theorem put_v {S : Addr → Prop} {H : Hp} {f : Str} {v : V} {y : Sl} (h : VOk K S H v y) : ∀ {gs : List (Str × V)} {fs : List (Str × Sl)}, gs.map (·.1) = fs.map (·.1) → VAll K S H (gs.map (·.2)) (fs.map (·.2)) → (putF f v gs).map (·.1) = (putS f y fs).map (·.1) ∧ VAll K S H ((putF f v gs).map (·.2)) ((putS f y fs).map (·.2))
  | [], [], _, _ => ⟨rfl, .cons h .nil⟩
  | (g, x) :: r, (g', z) :: r', e, a => by
    injection e with e1 e2
    dsimp only at e1
    subst e1
    cases a with
    | cons a1 a2 =>
      unfold putF putS
      by_cases q : g = f
      · rw [if_pos q, if_pos q]
        exact ⟨congrArg (g :: ·) e2, .cons h a2⟩
      · rw [if_neg q, if_neg q]
        obtain ⟨i1, i2⟩ := put_v h e2 a2
        exact ⟨congrArg (g :: ·) i1, .cons a1 i2⟩
  | [], _ :: _, e, _ => by cases e
  | _ :: _, [], e, _ => by cases e
def dSFld (f : Str) (ta tv : TD K) : TDs K := fun d sl rs => tv sl rs d.xc fun y rs1 => Kn y ∧ ta sl rs1 d.xc fun z rs2 => ∃ a C fs rs3, z = .raw (.ref a) ∧ Rep (objR a C fs) (objR a C (putS f y fs)) rs2 rs3 ∧ FN K C f ∧ fs.length < 1000 ∧ d.nx sl rs3
theorem Rep.ext {R R' : Rs K} {rs rs' : List (Rs K)} (h : Rep R R' rs rs') : ∃ r, Ext R rs r := by
  induction h with
  | here => exact ⟨_, .here⟩
  | there _ ih => exact let ⟨r, e⟩ := ih; ⟨_, .there e⟩
theorem At.fld {a C : Addr} {fs : List (Str × Sl)} {f : Str} {v : V} {y : Sl} {S0 : Addr → Prop} {H : Hp} {rs rs' : List (Rs K)} {F : List Addr} (A : At K S0 H rs F) (rep : Rep (objR a C fs) (objR a C (putS f y fs)) rs rs') (r : VOk K (Mu S0 F) H v y) :
    ∃ dx gs, H a = some (.ins C dx gs) ∧ gs.length = fs.length ∧ ∃ F', F.Perm F' ∧ At K S0 (upd H a (.ins C dx (putF f v gs))) rs' F' ∧ Stp F H F' (upd H a (.ins C dx (putF f v gs))) := by
  obtain ⟨r0, e⟩ := rep.ext
  obtain ⟨dx, gs, h1, h2, h3, _⟩ := A.obj e
  refine ⟨dx, gs, h1, by have := congrArg List.length h2; simpa using this, A.write rep trivial (fun G h => h.1) fun ev => ?_⟩
  obtain ⟨i1, i2⟩ := put_v (f := f) (r.ev ev) h2 (h3.ev ev)
  exact ⟨rfl, dx, _, upd_same, i1, i2⟩
theorem ds_fld {f : Str} (h : PS X st (sFld K (LE E ta) (LE E te) f)) : PS X st (LS E (dSFld f ta te)) := ps_weak h fun D σ H ⟨S0, sl, rs, F, d, N, t, k1, k2, k3, k4, k5⟩ =>
  LE.use N t k5 fun v y rs1 F1 H1 st1 N1 r1 ⟨_, t1⟩ => LE.use N1 t1 (k5.after st1) fun w z rs2 F2 H2 st2 N2 r2 t2 => by
    obtain ⟨p, C, fs, rs3, rfl, rep, fn, few, t3⟩ := t2
    cases r2
    obtain ⟨dx, gs, h1, hl, F3, pm, A3, st3⟩ := N2.at_.fld rep (r1.ev (st2.ev N1.at_))
    exact ⟨p, C, dx, gs, rfl, h1, fn.cl, fn.no, by rw [hl]; exact few, k1 σ sl rs3 F3 _ ((st1.trans st2).trans st3) (N2.step st3 A3) t3⟩
/-- o.f += e, numbers -/
def dFldAug (f : Str) (g : Int → Int → Int) (ta tv : TD K) : TDs K := fun d sl rs => ta sl rs d.xc fun z rs1 => ∃ a C i, z = .raw (.ref a) ∧ FldOf rs1 z C f (.da (.int i)) ∧ FN K C f ∧ tv sl rs1 d.xc fun y rs2 => ∃ j fs rs3, y = .da (.int j) ∧ Rep (objR a C fs) (objR a C (putS f (.da (.int (g i j))) fs)) rs2 rs3 ∧ fs.length < 1000 ∧ d.nx sl rs3
end
end HC

/-! ### operators, subscripts, methods of lists, built-ins, by data -/
namespace HC
open PyProof.Rows PySem L2 PySem.Spec
/-! data as the library's plain data -/
mutual
def pyD : Da → PyData
  | .non => .none
  | .bl b => .bool b
  | .int i => .int i
  | .str z => .str z
  | .tup xs => .tuple (pyDs xs)
  | .lst xs => .list (pyDs xs)
  | .btup xs => .tuple (pyDs xs)
  | _ => .none
def pyDs : List Da → List PyData
  | [] => []
  | x :: r => pyD x :: pyDs r
end
mutual
/-- plain, to a depth -/
def plN : Nat → Da → Bool
  | _, .non => true
  | _, .bl _ => true
  | _, .int _ => true
  | _, .str _ => true
  | n + 1, .tup xs => plNs n xs
  | n + 1, .lst xs => plNs n xs
  | n + 1, .btup xs => plNs n xs
  | _, _ => false
def plNs : Nat → List Da → Bool
  | _, [] => true
  | n, x :: r => plN n x && plNs n r
end
theorem pyDs_map : ∀ xs : List Da, pyDs xs = xs.map pyD
  | [] => rfl
  | x :: r => congrArg (pyD x :: ·) (pyDs_map r)
theorem plNs_iff : ∀ {n : Nat} {xs : List Da}, plNs n xs = true ↔ ∀ x ∈ xs, plN n x = true
  | _, [] => by simp [plNs]
  | n, x :: r => by
    rw [plNs, Bool.and_eq_true, plNs_iff]
    constructor
    · rintro ⟨a, b⟩ y hy
      rcases (List.mem_cons.mp hy) with e | hy
      · rw [e]; exact a
      · exact b y hy
    · exact fun h => ⟨h x List.mem_cons_self, fun y hy => h y (List.mem_cons_of_mem _ hy)⟩
section
variable {K : PySem.W.Frag} {S : Addr → Prop} {H : Hp}
mutual
theorem De.dp : ∀ {n : Nat} {v : V} {x : Da}, De K S H v x → plN n x = true → Dp K H v (pyD x) ∧ Sh n (pyD x)
  | n, _, .non, .non, _ => ⟨.non, sh_n.mono (Nat.zero_le _)⟩
  | n, _, .bl _, .bl b, _ => ⟨.bl b, (sh_b b).mono (Nat.zero_le _)⟩
  | n, _, .int _, .int i, _ => ⟨.int i, (sh_i i).mono (Nat.zero_le _)⟩
  | n, _, .str _, .str ok, _ => ⟨.str _, (sh_s ok).mono (Nat.zero_le _)⟩
  | n + 1, _, .tup xs, .tup h1 h2, p => ⟨.tup (SqT.of h1) (DeAll.dp h2 p).1, sh_t (DeAll.dp h2 p).2⟩
  | n + 1, _, .btup xs, .btup _ h1 _ h2, p => ⟨.tup (.inl (.inr ⟨_, h1⟩)) (DeAll.dp h2 p).1, sh_t (DeAll.dp h2 p).2⟩
  | n + 1, _, .lst xs, .lst _ h1 h2, p => ⟨.lst (SqL.of h1) (DeAll.dp h2 p).1, sh_l (DeAll.dp h2 p).2⟩
theorem DeAll.dp : ∀ {n : Nat} {vs : List V} {xs : List Da}, DeAll K S H vs xs → plNs n xs = true → DpAll K H vs (pyDs xs) ∧ ∀ d ∈ pyDs xs, Sh n d
  | _, _, [], .nil, _ => ⟨.nil, nofun⟩
  | n, _, x :: xs, .cons a b, p => by
    rw [plNs, Bool.and_eq_true] at p
    have h1 := De.dp a p.1
    have h2 := DeAll.dp b p.2
    refine ⟨.cons h1.1 h2.1, fun d hd => ?_⟩
    rcases List.mem_cons.mp hd with e | hd
    · rw [e]; exact h1.2
    · exact h2.2 d hd
end
theorem Top.dp {n : Nat} {v : V} {x : Da} (t : Top K S H v x) (p : plN n x = true) : Dp K H v (pyD x) ∧ Sh n (pyD x) := by
  cases t with
  | da h => exact h.dp p
  | lst h1 h2 =>
    cases n with
    | zero => cases p
    | succ n => exact ⟨.lst (SqL.of h1) (h2.dp p).1, sh_l (h2.dp p).2⟩
  | obj => cases n <;> cases p
  | dK => cases n <;> cases p
  | dT => cases n <;> cases p
/-! pure operators -/
theorem strOk_app {a b : Str} (h1 : PyData.strOk a = true) (h2 : PyData.strOk b = true) : PyData.strOk (a ++ b) = true := by
  show Array.all (a.cps ++ b.cps) _ = true
  rw [Array.all_append, Bool.and_eq_true]
  exact ⟨h1, h2⟩
def gAdd : G2 := fun x y q => match x, y with
  | .int a, .int b => q (.int (a + b))
  | .str a, .str b => a.length + b.length ≤ sizeLine ∧ q (.str (a ++ b))
  | .tup a, .tup b => a.length + b.length ≤ sizeLine ∧ q (.tup (a ++ b))
  | .lst a, .lst b => a.length + b.length ≤ sizeLine ∧ q (.lst (a ++ b))
  | _, _ => False
theorem pu_add : Pu2 K (uAdd K) gAdd := fun S H v w x y q Q lv t1 t2 h k => by
  cases x <;> cases y <;> first | exact h.elim | skip
  · cases t1.i; cases t2.i; exact g_add_i (k _ _ H (Same.refl _) (.int _) h)
  · obtain ⟨rfl, o1⟩ := t1.s
    obtain ⟨rfl, o2⟩ := t2.s
    exact g_add_s h.1 (k _ _ H (Same.refl _) (.str (strOk_app o1 o2)) h.2)
  · rename_i xs ys
    obtain ⟨a, vs, rfl, h1, d1⟩ := t1.t
    obtain ⟨b, us, rfl, h2, d2⟩ := t2.t
    refine .inr (.inr (.inr ⟨a, b, vs, us, rfl, rfl, SqT.of h1, SqT.of h2, by rw [d1.len, d2.len]; exact h.1, fun e => ?_, fun _ e => ?_, fun _ _ p hp => ?_⟩))
    · subst e; cases d1; exact k _ _ H (Same.refl _) (.tup h2 d2) h.2
    · subst e; cases d2; exact k _ _ H (Same.refl _) (.tup h1 d1) (by have := h.2; rwa [List.append_nil] at this)
    · have s := same_new (o := .tup (vs ++ us)) hp
      exact k _ _ _ s (.tup upd_same ((d1.app d2).ev (Ev.same (F := []) s))) h.2
  · rename_i xs ys
    obtain ⟨a, vs, rfl, h1, d1⟩ := t1.l
    obtain ⟨b, us, rfl, h2, d2⟩ := t2.l
    refine g_add_l h1 h2 (by rw [d1.len, d2.len]; exact h.1) fun p H' hp s hp' => k _ _ _ s (.lst (fun m => lv p m hp) hp' ((d1.app d2).ev (Ev.same (F := []) s))) h.2
def gI (C : Int → Int → Prop) (f : Int → Int → Da) : G2 := fun x y q => match x, y with
  | .int a, .int b => C a b ∧ q (f a b)
  | _, _ => False
theorem pu_I {C : Int → Int → Prop} {g : Int → Int → V} {f : Int → Int → Da} (hf : ∀ (S : Addr → Prop) H a b, De K S H (g a b) (f a b)) : Pu2 K (rI C g) (gI C f) := fun S H v w x y q Q lv t1 t2 h k => by
  cases x <;> cases y <;> first | exact h.elim | skip
  cases t1.i; cases t2.i; exact ⟨_, _, rfl, rfl, h.1, k _ _ H (Same.refl _) (hf _ _ _ _) h.2⟩
theorem pu_I0 {g : Int → Int → V} {f : Int → Int → Da} (hf : ∀ (S : Addr → Prop) H a b, De K S H (g a b) (f a b)) : Pu2 K (rI0 g) (gI (fun _ _ => True) f) := fun S H v w x y q Q lv t1 t2 h k => by
  cases x <;> cases y <;> first | exact h.elim | skip
  cases t1.i; cases t2.i; exact ⟨_, _, rfl, rfl, k _ _ H (Same.refl _) (hf _ _ _ _) h.2⟩
def g1I (f : Int → Da) : G1 := fun x q => match x with
  | .int a => q (f a)
  | _ => False
/-- ==; n: how deep -/
def eqD : Da → Da → (Bool → Prop) → Prop := fun x y q => match x, y with
  | .int a, .int b => q (decide (a = b))
  | .str a, .str b => q (decide (a = b))
  | .bl a, .bl b => q (decide (a = b))
  | x, y => plN 60 x = true ∧ plN 60 y = true ∧ q (PyData.eqv (pyD x) (pyD y))
def gEq (n : Bool) : G2 := fun x y q => eqD x y fun b => q (.bl (if n then !b else b))
theorem eq_D {x y : Da} {q : Bool → Prop} {v w : V} (t1 : Top K S H v x) (t2 : Top K S H w y) (h : eqD x y q) : (∃ b, scal v w = true ∧ b = decide (v = w) ∧ q b) ∨ ∃ d e, Dp K H v d ∧ Dp K H w e ∧ SeqAt.shaped d = true ∧ SeqAt.shaped e = true ∧ q (PyData.eqv d e) := by
  unfold eqD at h
  split at h
  · cases t1.i; cases t2.i; exact .inl ⟨_, rfl, dec_i.symm, h⟩
  · cases t1.s.1; cases t2.s.1; exact .inl ⟨_, rfl, dec_s.symm, h⟩
  · cases t1.b; cases t2.b; exact .inl ⟨_, rfl, dec_b.symm, h⟩
  · obtain ⟨p1, p2, h⟩ := h
    exact .inr ⟨_, _, (t1.dp p1).1, (t2.dp p2).1, (t1.dp p1).2.ok (by decide), (t2.dp p2).2.ok (by decide), h⟩
theorem pu_eq : Pu2 K (uEq K) (gEq false) := fun S H v w x y q Q lv t1 t2 h k => by
  rcases eq_D t1 t2 h with ⟨b, h1, rfl, h⟩ | ⟨d, e, h1, h2, h3, h4, h⟩
  · exact .inl ⟨h1, k _ _ H (Same.refl _) (.bl _) h⟩
  · exact .inr ⟨d, e, h1, h2, h3, h4, k _ _ H (Same.refl _) (.bl _) h⟩
theorem pu_ne : Pu2 K (uNe K) (gEq true) := fun S H v w x y q Q lv t1 t2 h k => by
  rcases eq_D t1 t2 h with ⟨b, h1, rfl, h⟩ | ⟨d, e, h1, h2, h3, h4, h⟩
  · exact .inl ⟨h1, k _ _ H (Same.refl _) (.bl _) h⟩
  · exact .inr ⟨d, e, h1, h2, h3, h4, k _ _ H (Same.refl _) (.bl _) h⟩
/-- is None -/
def isNon : Da → Bool
  | .non => true
  | _ => false
theorem Top.non {v : V} {x : Da} (t : Top K S H v x) : decide (v = .non) = isNon x := by
  cases t with
  | da h => cases h <;> rfl
  | _ => rfl
def nonS : Sl → Bool
  | .da .non => true
  | .raw .non => true
  | _ => false
theorem VOk.non {v : V} {y : Sl} (r : VOk K S H v y) : decide (v = .non) = nonS y := by
  cases r with
  | da h => cases h <;> rfl
  | raw => cases v <;> rfl
  | tup => rfl
def aIsN (n : Bool) : A2 K := fun y z rs q => z = .da .non ∧ q (.da (.bl (if n then !nonS y else nonS y))) rs
theorem act_isN : Act2 K rIsN (aIsN false) := fun S0 H rs F v w y z q Q A r1 r2 ⟨e, h⟩ k => by
  subst e
  cases r2 with | da r2 =>
    cases r2
    refine ⟨rfl, ?_⟩
    rw [r1.non]
    exact k _ _ rs F H (Stp.refl _ _) A (.da (.bl _)) h
/-- in: a sign in a text; a plain thing in a list; a flat one in a tuple -/
def anyD (x : Da) (ys : List Da) : Bool := ys.any fun z => PyData.eqv (pyD z) (pyD x)
def inD : Da → Da → (Bool → Prop) → Prop := fun x y q => match x, y with
  | .str x, .str z => ∃ c, x = ⟨#[c]⟩ ∧ q (decide (c ∈ z.cps.toList))
  | x, .lst ys => plN 60 x = true ∧ plNs 59 ys = true ∧ q (anyD x ys)
  | x, .tup ys => plN 0 x = true ∧ plNs 0 ys = true ∧ q (anyD x ys)
  | x, .btup ys => plN 0 x = true ∧ plNs 0 ys = true ∧ q (anyD x ys)
  | _, _ => False
def gIn (n : Bool) : G2 := fun x y q => inD x y fun b => q (.bl (if n then !b else b))
theorem De.flat {v : V} {x : Da} (h : De K S H v x) (p : plN 0 x = true) : flatV v = true := by
  cases h <;> first | rfl | (cases p)
theorem eqV_D {v w : V} {x y : Da} (h : De K S H v x) (p : plN 0 x = true) (h2 : De K S H w y) (p2 : plN 0 y = true) : eqV v w = PyData.eqv (pyD x) (pyD y) := by
  cases h <;> first | (cases p; done) | (cases h2 <;> first | (cases p2; done) | (simp [eqV, pyD, PyData.eqv, Bool.beq_eq_decide_eq]; done) | rfl)
theorem inV_D {v : V} {x : Da} (h : De K S H v x) (p : plN 0 x = true) : ∀ {vs : List V} {ys : List Da}, DeAll K S H vs ys → plNs 0 ys = true → inV v vs = anyD x ys ∧ vs.all flatV = true
  | _, _, .nil, _ => ⟨rfl, rfl⟩
  | _, _, .cons a b, q => by
    rw [plNs, Bool.and_eq_true] at q
    obtain ⟨i1, i2⟩ := inV_D h p b q.2
    refine ⟨?_, ?_⟩
    · unfold inV anyD at i1 ⊢
      rw [List.any_cons, List.any_cons, i1, eqV_D a q.1 h p]
    · rw [List.all_cons, i2, a.flat q.1]; rfl
theorem anyD_py (x : Da) (ys : List Da) : ((pyDs ys).any fun z => PyData.eqv z (pyD x)) = anyD x ys := by
  rw [pyDs_map, List.any_map]; rfl
theorem in_D {v w : V} {x y : Da} {q : Bool → Prop} (t1 : Top K S H v x) (t2 : Top K S H w y) (h : inD x y q) : (∃ p us b, w = .ref p ∧ (SqL K H p us ∨ SqT K H p us) ∧ flatV v = true ∧ us.all flatV = true ∧ b = inV v us ∧ q b) ∨ (∃ c z, v = .str ⟨#[c]⟩ ∧ w = .str z ∧ q (decide (c ∈ z.cps.toList))) ∨
    ∃ d ds, Dp K H v d ∧ Dp K H w (.list ds) ∧ SeqAt.shaped d = true ∧ SeqAt.shaped (.list ds) = true ∧ q (ds.any fun z => PyData.eqv z d) := by
  unfold inD at h
  split at h
  · obtain ⟨c, rfl, h⟩ := h
    cases t1.s.1; cases t2.s.1
    exact .inr (.inl ⟨c, _, rfl, rfl, h⟩)
  · obtain ⟨p1, p2, h⟩ := h
    have h1 := t1.dp p1
    have h2 := t2.dp (n := 59 + 1) p2
    exact .inr (.inr ⟨_, _, h1.1, h2.1, h1.2.ok (by decide), h2.2.ok (by decide), by rw [anyD_py]; exact h⟩)
  · obtain ⟨p1, p2, h⟩ := h
    obtain ⟨a, us, rfl, h1, d1⟩ := t2.t
    cases t1 with
    | da d0 =>
      obtain ⟨e1, e2⟩ := inV_D d0 p1 d1 p2
      exact .inl ⟨a, us, _, rfl, .inr (SqT.of h1), d0.flat p1, e2, rfl, by rw [e1]; exact h⟩
    | _ => cases p1
  · obtain ⟨p1, p2, h⟩ := h
    obtain ⟨a, us, o, rfl, h1, _, d1⟩ := t2.bt
    cases t1 with
    | da d0 =>
      obtain ⟨e1, e2⟩ := inV_D d0 p1 d1 p2
      exact .inl ⟨a, us, _, rfl, .inr (.inl (.inr ⟨o, h1⟩)), d0.flat p1, e2, rfl, by rw [e1]; exact h⟩
    | _ => cases p1
  · exact h.elim
theorem pu_in : Pu2 K (uIn K) (gIn false) := fun S H v w x y q Q lv t1 t2 h k => by
  rcases in_D t1 t2 h with ⟨p, us, b, e, h1, h2, h3, rfl, h⟩ | ⟨c, z, rfl, rfl, h⟩ | ⟨d, ds, h1, h2, h3, h4, h⟩
  · exact .inl ⟨p, us, e, h1, h2, h3, k _ _ H (Same.refl _) (.bl _) h⟩
  · exact .inr (.inl ⟨c, z, rfl, rfl, k _ _ H (Same.refl _) (.bl _) h⟩)
  · exact .inr (.inr ⟨d, ds, h1, h2, h3, h4, k _ _ H (Same.refl _) (.bl _) h⟩)
end
section
variable {K : PySem.W.Frag} {S0 S : Addr → Prop} {H : Hp} {rs rs' : List (Rs K)} {F : List Addr} {v : V} {y : Sl} {ys : List Sl}
/-- the items of a list or a tuple -/
inductive Itm (rs : List (Rs K)) : Sl → List Sl → Prop
  | tup (xs : List Da) : Itm rs (.da (.tup xs)) (xs.map .da)
  | tupS (ys : List Sl) : Itm rs (.tup ys) ys
  | btup (xs : List Da) : Itm rs (.da (.btup xs)) (xs.map .da)
  | lst (xs : List Da) : Itm rs (.da (.lst xs)) (xs.map .da)
  | scr (xs : List Int) : Itm rs (.da (.scr xs)) (xs.map fun i => .da (.int i))
  | raw {a : Addr} {ys : List Sl} {rs' : List (Rs K)} : Ext (lstR a ys) rs rs' → Itm rs (.raw (.ref a)) ys
theorem vints (xs : List Int) : VAll K S H (xs.map V.int) (xs.map fun i => .da (.int i)) := by
  induction xs with
  | nil => exact .nil
  | cons i r ih => exact .cons (.da (.int i)) ih
theorem Itm.ok (i : Itm rs y ys) (A : At K S0 H rs F) (r : VOk K (Mu S0 F) H v y) : ∃ a vs, v = .ref a ∧ (SqL K H a vs ∨ SqT K H a vs) ∧ VAll K (Mu S0 F) H vs ys := by
  cases i with
  | tup xs => cases r with | da r => cases r with | tup h1 h2 => exact ⟨_, _, rfl, .inr (SqT.of h1), h2.vall⟩
  | tupS ys => cases r with | tup h1 h2 => exact ⟨_, _, rfl, .inr (SqT.of h1), h2⟩
  | lst xs => cases r with | da r => cases r with | lst _ h1 h2 => exact ⟨_, _, rfl, .inl (SqL.of h1), h2.vall⟩
  | btup xs => cases r with | da r => cases r with | btup _ h1 _ h2 => exact ⟨_, _, rfl, .inr (.inl (.inr ⟨_, h1⟩)), h2.vall⟩
  | scr xs => cases r with | da r => cases r with | scr h1 => exact ⟨_, _, rfl, .inl h1.sq, vints xs⟩
  | raw e =>
    cases r
    obtain ⟨vs, h1, h2, _⟩ := A.lst e
    exact ⟨_, vs, rfl, .inl (SqL.of h1), h2⟩
theorem atI_len {α β : Type} {xs : List α} {zs : List β} (h : xs.length = zs.length) {i : Int} {z : β} (e : atI zs i = some z) : ∃ j : Nat, zs[j]? = some z ∧ ∀ x, xs[j]? = some x → atI xs i = some x := by
  unfold atI at e ⊢
  rw [h]
  cases q : ixN zs.length i with
  | none => (rw [q] at e; cases e)
  | some j =>
    rw [q] at e
    exact ⟨j, e, fun x hx => hx⟩
def aIx : A2 K := fun y z rs q => ∃ i, z = .da (.int i) ∧ ((∃ ys w, Itm rs y ys ∧ atI ys i = some w ∧ Kn w ∧ q w rs) ∨ ∃ s c, y = .da (.str s) ∧ s.length ≤ sizeLine ∧ c < 1114112 ∧ atI s.cps.toList i = some c ∧ q (.da (.str ⟨#[c]⟩)) rs)
theorem strOk1 {c : Nat} (h : c < 1114112) : PyData.strOk ⟨#[c]⟩ = true := by
  show Array.all #[c] _ = true
  simpa using h
theorem act_ix : Act2 K (rIx K) aIx := fun S0 H rs F v w y z q Q A r1 r2 ⟨i, e, h⟩ k => by
  subst e
  cases vint r2
  rcases h with ⟨ys, w, im, hw, _, h⟩ | ⟨s, c, rfl, hz, hc, hw, h⟩
  · obtain ⟨a, vs, rfl, sq, all⟩ := im.ok A r1
    obtain ⟨j, e1, e2⟩ := atI_len (xs := vs) all.len hw
    obtain ⟨u, e3, ru⟩ := all.atD e1
    rcases sq with sq | sq
    · exact .inl ⟨a, vs, i, u, rfl, rfl, sq, e2 u e3, k u w rs F H (Stp.refl _ _) A ru h⟩
    · exact .inr (.inl ⟨a, vs, i, u, rfl, rfl, sq, e2 u e3, k u w rs F H (Stp.refl _ _) A ru h⟩)
  · cases r1 with | da r1 =>
      cases r1
      exact .inr (.inr ⟨s, i, c, rfl, rfl, hz, hw, k _ _ rs F H (Stp.refl _ _) A (.da (.str (strOk1 hc))) h⟩)
/-! slices -/
def cutG {α : Type} (xs : List α) (lo hi : Option Int) : List α := (xs.drop (HT.sIx xs.length 0 lo)).take (HT.sIx xs.length xs.length hi - HT.sIx xs.length 0 lo)
theorem cut_all {vs : List V} {ys : List Sl} (h : VAll K S H vs ys) (lo hi : Option Int) : VAll K S H (cutV vs lo hi) (cutG ys lo hi) := by
  unfold cutV cutG
  rw [h.len]
  exact (h.drop _).take _
theorem cut_map {α β : Type} (f : α → β) (xs : List α) (lo hi : Option Int) : cutG (xs.map f) lo hi = (cutG xs lo hi).map f := by
  unfold cutG
  rw [List.length_map, List.map_take, List.map_drop]
theorem cutG_to {α : Type} (xs : List α) (k : Nat) : cutG xs none (some (k : Int)) = xs.take k := by
  unfold cutG
  rw [HT.sIx_none, HT.sIx_nat, Nat.sub_zero, List.drop_zero]
  rcases Nat.le_total k xs.length with le | ge
  · rw [Nat.min_eq_left le]
  · rw [Nat.min_eq_right ge, List.take_length, List.take_of_length_le ge]
theorem cutG_from {α : Type} (xs : List α) (k : Nat) : cutG xs (some (k : Int)) none = xs.drop k := by
  unfold cutG
  rw [HT.sIx_none, HT.sIx_nat]
  rcases Nat.le_total k xs.length with le | ge
  · rw [Nat.min_eq_left le, ← List.length_drop, List.take_length]
  · rw [Nat.min_eq_right ge, List.drop_length, List.drop_of_length_le ge, List.take_nil]
/-- a slice of a tuple, of a list (new: data) -/
def slD (rs : List (Rs K)) (y : Sl) (lo hi : Option Int) (q : QD K) : Prop := (∃ ys, Its2 y ys ∧ q (mkT (cutG ys lo hi)) rs) ∨ (∃ xs, See rs y (.lst xs) ∧ q (.da (.lst (cutG xs lo hi))) rs) ∨ ∃ xs, y = .da (.btup xs) ∧ cutG xs lo hi ≠ xs ∧ q (.da (.tup (cutG xs lo hi))) rs
end
end HC

/-! ### slices, methods of lists, built-ins, dicts, by data -/
namespace HC
open PyProof.Rows PySem L2 PySem.Spec
section
variable {X : Cx} {K : PySem.W.Frag} {E : XK} {a b c e o tg lo hi : Expr} {es : List Expr} {pos p2 : Pos} {ta tb tc td te to : TD K} {tA tB : TDb K} {ts : TDa K} {tl th : TDo K} {st : Stmt} {rest : List Stmt} {t u : TDs K}
/-! slices -/
def rSlX (K : PySem.W.Frag) : V → Option Int → Option Int → Hp → VK → Prop := fun x lo hi H Q => rSlA K x lo hi H Q ∨ rSlL K x lo hi H Q
theorem sl_X (K) (hK : X.K = K := by rfl) : SlR X (rSlX K) := by subst hK; exact sl_tupA.or sl_list
def dNoP : TDo K := fun _ rs _ q => q none rs
def dPart (te : TD K) : TDo K := fun sl rs xc q => te sl rs xc fun y rs1 => ∃ i, y = .da (.int i) ∧ q (some i) rs1
theorem po_weak {e : Option Expr} {t t' : TO} (h : PO X e t) (i : ∀ σ H Q, t' σ H Q → t σ H Q) : PO X e t' := ⟨fun pn s σ H Q inv h' => h.run pn s σ H Q inv (i σ H Q h')⟩
theorem do_none : PO X none (LO E (dNoP (K := K))) := po_weak po_none fun σ H Q ⟨S0, sl, rs, F, xc, q, N, t, k, kx⟩ => k _ rs F H (Stp.refl _ _) N.at_ t
theorem do_some (h : PE X e (LE E te)) : PO X (some e) (LO E (dPart te)) := po_weak (po_some h) fun σ H Q ⟨S0, sl, rs, F, xc, q, N, t, k, kx⟩ =>
  LE.use N t kx fun v y rs1 F1 H1 st1 N1 r1 ⟨i, ey, t1⟩ => by
    subst ey
    cases vint r1
    exact ⟨i, rfl, k _ rs1 F1 H1 st1 N1.at_ t1⟩
def dSl (te : TD K) (tl th : TDo K) : TD K := fun sl rs xc q => te sl rs xc fun y rs1 => tl sl rs1 xc fun l rs2 => th sl rs2 xc fun h rs3 => slD rs3 y l h q
theorem mkT_cutda {xs : List Da} {lo hi : Option Int} : mkT (cutG (xs.map .da) lo hi) = .da (.tup (cutG xs lo hi)) := by rw [cut_map]; exact mkT_da _
theorem sl_run {S0 : Addr → Prop} {H : Hp} {rs : List (Rs K)} {F : List Addr} {v : V} {y : Sl} {lo hi : Option Int} {q : QD K} {Q : VK} (A : At K S0 H rs F) (r : VOk K (Mu S0 F) H v y) (h : slD rs y lo hi q) (k : Out S0 F H q Q) : rSlX K v lo hi H Q := by
  rcases h with ⟨ys, ti, h⟩ | ⟨xs, see, h⟩ | ⟨xs, rfl, ne, h⟩
  · obtain ⟨p, vs, rfl, h1, all⟩ := r.its ti
    refine .inl ⟨p, vs, rfl, SqT.of h1, fun hw => ?_, fun hw p' np => ?_⟩
    · have e : cutG ys lo hi = ys := by
        unfold cutG
        rw [all.len] at hw
        rw [hw.1, hw.2]; simp
      rw [e] at h
      exact k _ _ rs F H (Stp.refl _ _) A (mkT_ok h1 all) h
    · have s := same_new (o := .tup (cutV vs lo hi)) np
      exact k _ _ rs F _ (Stp.same s) (A.same s) (mkT_ok upd_same ((cut_all all lo hi).ev (Ev.same (F := []) s))) h
  · obtain ⟨p, vs, rfl, h1, d1⟩ := (see.top A r).l
    refine .inr (g_slL (SqL.of h1) fun p' H' np s h' => k _ _ rs F H' (Stp.same s) (A.same s) (.da (.lst (A.fresh np) h' ?_)) h)
    have := (cut_all d1.vall lo hi)
    rw [cut_map] at this
    exact this.das.ev (Ev.same (F := []) s)
  · cases r with | da r => cases r with | @btup p o vs _ n h1 hd d1 =>
      refine .inl ⟨p, vs, rfl, .inl (.inr ⟨_, h1⟩), fun hw => ?_, fun hw p' np => ?_⟩
      · refine absurd ?_ ne
        unfold cutG
        rw [d1.len] at hw
        rw [hw.1, hw.2]; simp
      · have s := same_new (o := .tup (cutV vs lo hi)) np
        have c := (cut_all d1.vall lo hi).ev (Ev.same (F := []) s)
        rw [cut_map] at c
        exact k _ _ rs F _ (Stp.same s) (A.same s) (.da (.tup upd_same c.das)) h
theorem d_sl (h : PE X e (tSl (rSlX K) (LE E te) (LO E tl) (LO E th))) : PE X e (LE E (dSl te tl th)) := pe_weak h fun σ H Q ⟨S0, sl, rs, F, xc, q, N, t, k, kx⟩ =>
  LE.use N t kx fun v y rs1 F1 H1 st1 N1 r1 t1 => LO.use N1 t1 (kx.after st1) fun l rs2 F2 H2 st2 N2 t2 => LO.use N2 t2 (kx.after (st1.trans st2)) fun h rs3 F3 H3 st3 N3 t3 =>
    sl_run N3.at_ ((r1.ev (st2.ev N1.at_)).ev (st3.ev N2.at_)) t3 (k.after ((st1.trans st2).trans st3))
/-! ### methods of lists -/
def ActM (K : PySem.W.Frag) (r : V → List V → Hp → VK → Prop) (g : Sl → List Sl → List (Rs K) → QD K → Prop) : Prop := ∀ (S0 : Addr → Prop) (H : Hp) (rs : List (Rs K)) (F : List Addr) (v : V) (y : Sl) (vs : List V) (ys : List Sl) (q : QD K) (Q : VK),
  At K S0 H rs F → VOk K (Mu S0 F) H v y → VAll K (Mu S0 F) H vs ys → g y ys rs q → Out S0 F H q Q → r v vs H Q
/-- y is a list, a text -/
inductive IsL (rs : List (Rs K)) : Sl → Prop
  | da (xs : List Da) : IsL rs (.da (.lst xs))
  | raw {a : Addr} {ys : List Sl} {rs' : List (Rs K)} : Ext (lstR a ys) rs rs' → IsL rs (.raw (.ref a))
theorem IsL.ok {S0 : Addr → Prop} {H : Hp} {rs : List (Rs K)} {F : List Addr} {v : V} {y : Sl} (i : IsL rs y) (A : At K S0 H rs F) (r : VOk K (Mu S0 F) H v y) : tyV K "list" v H := by
  cases i with
  | da xs => cases r with | da r => cases r with | lst n h1 h2 => exact .inl ⟨rfl, _, SqL.of h1⟩
  | raw e =>
    cases r
    obtain ⟨vs, h1, _⟩ := A.lst e
    exact .inl ⟨rfl, _, SqL.of h1⟩
def dBM (g : Sl → List Sl → List (Rs K) → QD K → Prop) (to : TD K) (ts : TDa K) : TD K := fun sl rs xc q => to sl rs xc fun y rs1 => IsL rs1 y ∧ ts sl rs1 xc fun ys rs2 => g y ys rs2 q
theorem d_bm {r : V → List V → Hp → VK → Prop} {g : Sl → List Sl → List (Rs K) → QD K → Prop} (h : PE X e (tBM K "list" r (LE E to) (LA E ts))) (ok : ActM K r g) : PE X e (LE E (dBM g to ts)) := pe_weak h fun σ H Q ⟨S0, sl, rs, F, xc, q, N, t, k, kx⟩ =>
  LE.use N t kx fun v y rs1 F1 H1 st1 N1 r1 ⟨i, t1⟩ => ⟨i.ok N1.at_ r1, LA.use N1 t1 (kx.after st1) fun vs ys rs2 F2 H2 st2 N2 r2 t2 =>
    ok S0 H2 rs2 F2 v y vs ys q Q N2.at_ (r1.ev (st2.ev N1.at_)) r2 t2 (k.after (st1.trans st2))⟩
def dBM0 (g : Sl → List Sl → List (Rs K) → QD K → Prop) (to : TD K) : TD K := fun sl rs xc q => to sl rs xc fun y rs1 => IsL rs1 y ∧ g y [] rs1 q
/-- the list at a becomes another -/
theorem At.putL {S0 : Addr → Prop} {H : Hp} {rs rs' : List (Rs K)} {F : List Addr} {a : Addr} {ys ys' : List Sl} {vs' : List V} (A : At K S0 H rs F) (rep : Rep (lstR a ys) (lstR a ys') rs rs') (r : VAll K (Mu S0 F) H vs' ys') : ∃ F', F.Perm F' ∧ At K S0 (upd H a (.lst vs')) rs' F' ∧ Stp F H F' (upd H a (.lst vs')) :=
  A.write rep trivial (fun G h => h.1) fun ev => ⟨rfl, vs', upd_same, r.ev ev⟩
def aApp (y : Sl) (ys : List Sl) (rs : List (Rs K)) (q : QD K) : Prop := ∃ a zs z rs', y = .raw (.ref a) ∧ ys = [z] ∧ Rep (lstR a zs) (lstR a (zs ++ [z])) rs rs' ∧ zs.length < sizeLine ∧ q (.da .non) rs'
theorem act_app : ActM K rAppend aApp := fun S0 H rs F v y vs ys q Q A r1 r2 ⟨a, zs, z, rs', e1, e2, rep, hz, h⟩ k => by
  subst e1 e2
  cases r1
  obtain ⟨u, rfl, ru⟩ := vone r2
  obtain ⟨r0, ex⟩ := rep.ext
  obtain ⟨ws, h1, all, _⟩ := A.lst ex
  obtain ⟨F', p, A', st⟩ := A.putL rep (all.app (.cons ru .nil))
  exact ⟨a, ws, u, rfl, rfl, h1, by rw [all.len]; exact hz, k _ _ rs' F' _ st A' (.da .non) h⟩
def aPopAt (y : Sl) (ys : List Sl) (rs : List (Rs K)) (q : QD K) : Prop := ∃ a zs i z rs', y = .raw (.ref a) ∧ ys = [.da (.int i)] ∧ 0 ≤ i ∧ zs[i.toNat]? = some z ∧ Rep (lstR a zs) (lstR a (zs.eraseIdx i.toNat)) rs rs' ∧ zs.length ≤ sizeLine ∧ q z rs'
theorem act_popAt : ActM K rPopAt aPopAt := fun S0 H rs F v y vs ys q Q A r1 r2 ⟨a, zs, i, z, rs', e1, e2, i0, hz, rep, few, h⟩ k => by
  subst e1 e2
  cases r1
  obtain ⟨u, rfl, ru⟩ := vone r2
  cases vint ru
  obtain ⟨r0, ex⟩ := rep.ext
  obtain ⟨ws, h1, all, _⟩ := A.lst ex
  obtain ⟨w, hw, rw_⟩ := all.atD hz
  obtain ⟨F', p, A', st⟩ := A.putL rep (all.erase i.toNat)
  have lt : i.toNat < ws.length := (List.getElem?_eq_some_iff.mp hw).1
  have e := all.len
  have l63 : (sizeLine : Nat) < 2 ^ 63 := line63
  exact ⟨a, ws, i, i.toNat, w, rfl, rfl, h1, by omega, by omega, seqIx_i i0 (by omega), hw, k _ _ rs' F' _ st A' (rw_.ev (st.ev A)) h⟩
def aPop (y : Sl) (ys : List Sl) (rs : List (Rs K)) (q : QD K) : Prop := ∃ a zs z rs', y = .raw (.ref a) ∧ ys = [] ∧ zs[zs.length - 1]? = some z ∧ Rep (lstR a zs) (lstR a zs.dropLast) rs rs' ∧ q z rs'
theorem VAll.dropLast {S : Addr → Prop} {H : Hp} : ∀ {vs : List V} {ys : List Sl}, VAll K S H vs ys → VAll K S H vs.dropLast ys.dropLast
  | _, _, .nil => .nil
  | _, _, .cons _ .nil => .nil
  | _, _, .cons a (.cons b c) => .cons a (VAll.dropLast (.cons b c))
/-! ### o[i] = v for lists -/
def dSetL (te to ti : TD K) : TDs K := fun d sl rs => te sl rs d.xc fun y rs1 => to sl rs1 d.xc fun z rs2 => ti sl rs2 d.xc fun i rs3 => ∃ a ys k j rs4, z = .raw (.ref a) ∧ i = .da (.int k) ∧ ixN ys.length k = some j ∧ Rep (lstR a ys) (lstR a (ys.set j y)) rs3 rs4 ∧ d.nx sl rs4
variable {ti : TD K}
theorem ds_setL (h : PS X st (tAsg (LE E te) (gSub (LE E to) (LE E ti) rSetL))) : PS X st (LS E (dSetL te to ti)) := ps_weak h fun D σ H ⟨S0, sl, rs, F, d, N, t, k1, k2, k3, k4, k5⟩ =>
  LE.use N t k5 fun v y rs1 F1 H1 st1 N1 r1 t1 => LE.use N1 t1 (k5.after st1) fun w z rs2 F2 H2 st2 N2 r2 t2 => LE.use N2 t2 (k5.after (st1.trans st2)) fun u i rs3 F3 H3 st3 N3 r3 ⟨a, ys, k, j, rs4, e1, e2, hj, rep, t3⟩ => by
    subst e1 e2
    cases r2
    cases vint r3
    have rv := (r1.ev (st2.ev N1.at_)).ev (st3.ev N2.at_)
    obtain ⟨r0, ex⟩ := rep.ext
    obtain ⟨ws, h1, all, _⟩ := N3.at_.lst ex
    obtain ⟨F4, p, A4, st4⟩ := N3.at_.putL rep (all.set j rv)
    exact ⟨a, ws, k, j, rfl, rfl, h1, by rw [all.len]; exact hj, k1 σ sl rs4 F4 _ (((st1.trans st2).trans st3).trans st4) (N3.step st4 A4) t3⟩
end
/-! ### built-ins -/
section
variable {K : PySem.W.Frag} {S0 : Addr → Prop} {H : Hp} {rs : List (Rs K)} {F : List Addr} {v : V} {y : Sl} {vs : List V} {ys : List Sl} {q : QD K} {Q : VK}
def aLen : AN K := fun ys rs q => (∃ y zs, ys = [y] ∧ Itm rs y zs ∧ q (.da (.int zs.length)) rs) ∨ ∃ s, ys = [.da (.str s)] ∧ s.length ≤ sizeLine ∧ q (.da (.int s.length)) rs
theorem act_len : ActN K (uLen K) aLen := fun S0 H rs F vs ys q Q A r h k => by
  rcases h with ⟨y, zs, rfl, im, h⟩ | ⟨s, rfl, hz, h⟩
  · obtain ⟨u, rfl, ru⟩ := vone r
    obtain ⟨a, ws, rfl, sq, all⟩ := im.ok A ru
    refine .inr ⟨a, ws, rfl, sq, ?_⟩
    rw [all.len]
    exact k _ _ rs F H (Stp.refl _ _) A (.da (.int _)) h
  · obtain ⟨u, rfl, ru⟩ := vone r
    cases ru with | da ru => cases ru; exact .inl ⟨s, rfl, hz, k _ _ rs F H (Stp.refl _ _) A (.da (.int _)) h⟩
def aTupOf : AN K := fun ys rs q => ∃ y, ys = [y] ∧ ((∃ zs, Its2 y zs ∧ q y rs) ∨ ∃ xs, See rs y (.lst xs) ∧ q (.da (.tup xs)) rs)
theorem act_tupOf : ActN K (rTupleOf K) aTupOf := fun S0 H rs F vs ys q Q A r ⟨y, e, h⟩ k => by
  subst e
  obtain ⟨u, rfl, ru⟩ := vone r
  rcases h with ⟨zs, i, h⟩ | ⟨xs, see, h⟩
  · obtain ⟨a, ws, rfl, h1, all⟩ := ru.its i
    exact g_tupOf_t (SqT.of h1) (k _ _ rs F H (Stp.refl _ _) A ru h)
  · obtain ⟨a, ws, rfl, h1, d1⟩ := (see.top A ru).l
    exact g_tupOf_l (SqL.of h1) fun l H' nl s h' => k _ _ rs F H' (Stp.same s) (A.same s) (.da (.tup h' (d1.ev (Ev.same (F := []) s)))) h
/-- tuple(list), whose methods are called -/
def aTupNew : AN K := fun ys rs q => ∃ y xs, ys = [y] ∧ See rs y (.lst xs) ∧ q (.da (.btup xs)) rs
theorem ints_D {S : Addr → Prop} {vs : List V} : ∀ {ns : List Int}, DeAll K S H vs (ns.map .int) → vs = ns.map V.int := by
  induction vs with
  | nil => intro ns h; cases ns with | nil => rfl | cons => cases h
  | cons w r ih =>
    intro ns h
    cases ns with
    | nil => cases h
    | cons n ns => cases h with | cons a b => cases a; rw [ih b]; rfl
theorem bls_D {S : Addr → Prop} {vs : List V} : ∀ {ns : List Bool}, DeAll K S H vs (ns.map .bl) → vs = ns.map V.bl := by
  induction vs with
  | nil => intro ns h; cases ns with | nil => rfl | cons => cases h
  | cons w r ih =>
    intro ns h
    cases ns with
    | nil => cases h
    | cons n ns => cases h with | cons a b => cases a; rw [ih b]; rfl
def aSum : AN K := fun ys rs q => ∃ (y : Sl) (ns : List Int), ys = [y] ∧ See rs y (.lst (ns.map .int)) ∧ q (.da (.int ns.sum)) rs
theorem act_sum : ActN K (rSum K) aSum := fun S0 H rs F vs ys q Q A r ⟨y, ns, e, see, h⟩ k => by
  subst e
  obtain ⟨u, rfl, ru⟩ := vone r
  obtain ⟨a, ws, rfl, h1, d1⟩ := (see.top A ru).l
  obtain rfl := ints_D d1
  exact g_sumL (SqL.of h1) (k _ _ rs F H (Stp.refl _ _) A (.da (.int _)) h)
def aBls (f : List Bool → Bool) : AN K := fun ys rs q => ∃ (y : Sl) (bs : List Bool), ys = [y] ∧ See rs y (.lst (bs.map .bl)) ∧ q (.da (.bl (f bs))) rs
theorem act_all : ActN K (rAll K) (aBls fun bs => bs.all id) := fun S0 H rs F vs ys q Q A r ⟨y, ns, e, see, h⟩ k => by
  subst e
  obtain ⟨u, rfl, ru⟩ := vone r
  obtain ⟨a, ws, rfl, h1, d1⟩ := (see.top A ru).l
  obtain rfl := bls_D d1
  exact g_all (SqL.of h1) (k _ _ rs F H (Stp.refl _ _) A (.da (.bl _)) h)
/-- built-ins of numbers -/
def aN1 (f : Int → Int) : AN K := fun ys rs q => ∃ i, ys = [.da (.int i)] ∧ q (.da (.int (f i))) rs
def aN2 (f : Int → Int → Int) : AN K := fun ys rs q => ∃ i j, ys = [.da (.int i), .da (.int j)] ∧ q (.da (.int (f i j))) rs
theorem act_min2 : ActN K rMin2 (aN2 fun i j => if j < i then j else i) := fun S0 H rs F vs ys q Q A r ⟨i, j, e, h⟩ k => by
  subst e
  obtain ⟨u, w, rfl, ru, rw_⟩ := vtwo r
  cases vint ru
  cases vint rw_
  exact g_min2 (k _ _ rs F H (Stp.refl _ _) A (.da (.int _)) h)
def aInt : AN K := fun ys rs q => (∃ i, ys = [.da (.int i)] ∧ q (.da (.int i)) rs) ∨ ∃ b, ys = [.da (.bl b)] ∧ q (.da (.int (if b then 1 else 0))) rs
theorem act_int : ActN K rInt1 aInt := fun S0 H rs F vs ys q Q A r h k => by
  rcases h with ⟨i, rfl, h⟩ | ⟨b, rfl, h⟩
  · obtain ⟨u, rfl, ru⟩ := vone r
    cases vint ru
    exact g_int_i (k _ _ rs F H (Stp.refl _ _) A (.da (.int _)) h)
  · obtain ⟨u, rfl, ru⟩ := vone r
    cases vbl ru
    exact g_int_b (k _ _ rs F H (Stp.refl _ _) A (.da (.int _)) h)
/-- isinstance of a built-in class -/
def tyD : Da → Option String
  | .non => some "NoneType"
  | .bl _ => some "bool"
  | .int _ => some "int"
  | .str _ => some "str"
  | .tup _ => some "tuple"
  | .lst _ => some "list"
  | .btup _ => some "tuple"
  | .dK _ => some "dict"
  | _ => none
theorem Top.ty {S : Addr → Prop} {x : Da} {t : String} (h : Top K S H v x) (e : tyD x = some t) : TyX K H v (.type t) := by
  cases h with
  | da h =>
    cases h <;> first | (cases e; done) | skip
    all_goals cases e
    · exact .base .non
    · exact .base (.bl _)
    · exact .base (.int _)
    · exact .base (.str _)
    · rename_i h1 _; exact .base (.tup h1)
    · rename_i h1 _; exact .base (.lst h1)
    · rename_i h1 _ _; exact .fTuple h1
    · rename_i rd _ _
      rcases rd with g | ⟨o, g⟩
      · exact .base (.dK g)
      · exact .fDict g
  | lst h1 _ => cases e; exact .base (.lst h1)
  | dK h1 _ _ => cases e; exact .base (.dK h1)
  | _ => cases e
def aIsi : AN K := fun ys rs q => ∃ y T x t b, ys = [y, .raw (.ty T)] ∧ See rs y x ∧ tyD x = some t ∧ kitB t T = some b ∧ q (.da (.bl b)) rs
theorem act_isi : ActN K (rIsi K) aIsi := fun S0 H rs F vs ys q Q A r ⟨y, T, x, t, b, e, see, ht, hb, h⟩ k => by
  subst e
  obtain ⟨u, w, rfl, ru, rw_⟩ := vtwo r
  cases rw_
  exact g_isi ((see.top A ru).ty ht) hb (k _ _ rs F H (Stp.refl _ _) A (.da (.bl _)) h)
end
end HC

/-! ### raise, star arguments, own classes asked; the steps -/
namespace HC
open PyProof.Rows PySem L2 PySem.Spec
section
variable {X : Cx} {K : PySem.W.Frag} {E : XK} {a b c e o tg lo hi : Expr} {es : List Expr} {pos p2 : Pos} {ta tb tc td te to : TD K} {tA tB : TDb K} {ts tk : TDa K} {st : Stmt} {rest : List Stmt} {t u : TDs K} {kws : List Keyword}
/-- raise C(f=v) -/
def dRaise (C : Addr) (flds : List Str) (ts : TDa K) : TDs K := fun d sl rs => ts sl rs d.xc fun ys rs1 => ys.length = flds.length ∧ ∃ xs, allDa ys = some xs ∧ d.xc ⟨C, some (flds.zip xs)⟩ rs1
def dRaise0 (C : Addr) : TDs K := fun d _ rs => d.xc ⟨C, none⟩ rs
theorem ds_raise0 {C : Addr} (h : PS X st (fun _ _ H => E (.ref C) none H)) : PS X st (LS E (dRaise0 (K := K) C)) := ps_weak h fun D σ H ⟨S0, sl, rs, F, d, N, t, k1, k2, k3, k4, k5⟩ =>
  k5 ⟨C, none⟩ _ _ rs F H (Stp.refl _ _) N.at_ ⟨rfl, rfl⟩ t
/-! star arguments: f( *e, ..) -/
def dStar1 (te : TD K) : TDa K := fun sl rs xc q => te sl rs xc fun y rs1 => ∃ zs, Itm rs1 y zs ∧ q zs rs1
theorem da_star1 {σ : L2.St} {H : Hp} {Q : List V → Hp → Prop} (l : LA E (dStar1 te) σ H Q) : tStar1 K (LE E te) σ H Q := by
  obtain ⟨S0, sl, rs, F, xc, q, N, t, k, kx⟩ := l
  refine LE.use N t kx fun v y rs1 F1 H1 st1 N1 r1 ⟨zs, im, t1⟩ => ?_
  obtain ⟨p, vs, rfl, sq, all⟩ := im.ok N1.at_ r1
  exact ⟨p, vs, rfl, sq.symm, k vs zs rs1 F1 H1 st1 N1.at_ all t1⟩
end
section
variable {mg : Str → Option Value} {base : Heap} {P : Program} {w : World} {K : PySem.W.Frag} {k : Nat} {x m : Str} {C : Addr} {sp sp' : Sp}
end
theorem mkT0 : mkT [] = .da (.tup []) := rfl
theorem mkT1 {a : Da} : mkT [.da a] = .da (.tup [a]) := rfl
theorem mkT2 {a b : Da} : mkT [.da a, .da b] = .da (.tup [a, b]) := rfl
theorem mkT3 {a b c : Da} : mkT [.da a, .da b, .da c] = .da (.tup [a, b, c]) := rfl
theorem mkT4 {a b c d : Da} : mkT [.da a, .da b, .da c, .da d] = .da (.tup [a, b, c, d]) := rfl
theorem allDa0 : allDa [] = some [] := rfl
theorem allDa1 {a : Da} : allDa [.da a] = some [a] := rfl
theorem allDa2 {a b : Da} : allDa [.da a, .da b] = some [a, b] := rfl
theorem allDa3 {a b c : Da} : allDa [.da a, .da b, .da c] = some [a, b, c] := rfl
theorem allDa4 {a b c d : Da} : allDa [.da a, .da b, .da c, .da d] = some [a, b, c, d] := rfl
theorem allDa5 {a b c d e : Da} : allDa [.da a, .da b, .da c, .da d, .da e] = some [a, b, c, d, e] := rfl
def isSc : Da → Da → Bool
  | .int _, .int _ => true
  | .str _, .str _ => true
  | .bl _, .bl _ => true
  | _, _ => false
/-! steps: what comes behind has a name -/
section
variable {K : PySem.W.Frag} {sl : List Sl} {rs rs1 rs2 rs' : List (Rs K)} {xc : XD K} {q : QD K} {ta tb tc te to tv : TD K} {tA tB : TDb K} {ts : TDa K} {t u : TDs K} {d : DEnds K} {y z : Sl} {x x1 x2 : Da}
def TupK (q : QD K) : List Sl → List (Rs K) → Prop := fun ys rs => ys.length ≤ sizeLine ∧ q (mkT ys) rs
def LstK (q : QD K) : List Sl → List (Rs K) → Prop := fun ys rs => ys.length ≤ sizeLine ∧ ∃ xs, allDa ys = some xs ∧ q (.da (.lst xs)) rs
def LstRK (q : QD K) : List Sl → List (Rs K) → Prop := fun ys rs => ys.length ≤ sizeLine ∧ ∀ a, q (.raw (.ref a)) (lstR a ys :: rs)
def PartK (r : Option Int → List (Rs K) → Prop) : QD K := fun y rs => ∃ i, y = .da (.int i) ∧ r (some i) rs
def FldK (f : Str) (q : QD K) : QD K := fun y rs => ∃ C z, FldOf rs y C f z ∧ FN K C f ∧ Kn z ∧ q z rs
def PropK (C : Addr) (D : SpD K) (q : QD K) : QD K := fun y rs => (∃ nm, IsO rs y C nm) ∧ Ask D [y] rs xF q
def MethK (C : Addr) (m : Str) (D : SpD K) (ts : TDa K) (sl : List Sl) (xc : XD K) (q : QD K) : QD K := fun y rs => (∃ nm, IsO rs y C nm ∧ m ∉ nm) ∧ ts sl rs xc fun ys rs2 => Ask D (y :: ys) rs2 xc q
def SFldV (f : Str) (ta : TD K) (d : DEnds K) (sl : List Sl) : QD K := fun y rs => Kn y ∧ ta sl rs d.xc fun z rs2 => ∃ a C fs rs3, z = .raw (.ref a) ∧ Rep (objR a C fs) (objR a C (putS f y fs)) rs2 rs3 ∧ FN K C f ∧ fs.length < 1000 ∧ d.nx sl rs3
def SFldK (f : Str) (y : Sl) (d : DEnds K) (sl : List Sl) : QD K := fun z rs => ∃ a C fs rs3, z = .raw (.ref a) ∧ Rep (objR a C fs) (objR a C (putS f y fs)) rs rs3 ∧ FN K C f ∧ fs.length < 1000 ∧ d.nx sl rs3
def FAugK (f : Str) (g : Int → Int → Int) (tv : TD K) (d : DEnds K) (sl : List Sl) : QD K := fun z rs1 => ∃ a C i, z = .raw (.ref a) ∧ FldOf rs1 z C f (.da (.int i)) ∧ FN K C f ∧ tv sl rs1 d.xc fun y rs2 => ∃ j fs rs3, y = .da (.int j) ∧ Rep (objR a C fs) (objR a C (putS f (.da (.int (g i j))) fs)) rs2 rs3 ∧ fs.length < 1000 ∧ d.nx sl rs3
def BMK (g : Sl → List Sl → List (Rs K) → QD K → Prop) (ts : TDa K) (sl : List Sl) (xc : XD K) (q : QD K) : QD K := fun y rs1 => IsL rs1 y ∧ ts sl rs1 xc fun ys rs2 => g y ys rs2 q
def BMK0 (g : Sl → List Sl → List (Rs K) → QD K → Prop) (q : QD K) : QD K := fun y rs1 => IsL rs1 y ∧ g y [] rs1 q
def ParK' (is : List Nat) (d : DEnds K) (sl : List Sl) : List Sl → List (Rs K) → Prop := fun ys rs1 => ys.length = is.length ∧ d.nx ((is.zip ys).foldl (fun s p => s.set p.1 p.2) sl) rs1
def RaiseK (C : Addr) (fl : List Str) (d : DEnds K) : List Sl → List (Rs K) → Prop := fun ys rs1 => ys.length = fl.length ∧ ∃ xs, allDa ys = some xs ∧ d.xc ⟨C, some (fl.zip xs)⟩ rs1
def ItK (r : List Sl → (List (Rs K) → Prop) → List (Rs K) → Prop) : QD K := fun y rs1 => ∃ ys g, Wk rs1 y ys g ∧ r ys g rs1
def Star1K (r : List Sl → List (Rs K) → Prop) : QD K := fun y rs1 => ∃ zs, Itm rs1 y zs ∧ r zs rs1
theorem s_seq (h : t { d with nx := u d } sl rs) : dSeq t u d sl rs := h
theorem s_next (h : d.nx sl rs) : dNext d sl rs := h
theorem s_drop (h : te sl rs d.xc fun _ rs1 => d.nx sl rs1) : dDrop te d sl rs := h
theorem s_ret (h : te sl rs d.xc d.rt) : dRet te d sl rs := h
theorem s_retN (h : d.rt (.da .non) rs) : dRetN d sl rs := h
theorem s_ifS (h : tA sl rs d.xc fun c rs1 => if c = true then t d sl rs1 else u d sl rs1) : dIfS tA t u d sl rs := h
theorem s_asg {g : TDg K} (h : te sl rs d.xc fun y rs1 => g y sl rs1 d.nx) : dAsg te g d sl rs := h
theorem s_name {i : Nat} {sl' : List Sl} {q : List Sl → List (Rs K) → Prop} (e : sl.set i y = sl') (h : q sl' rs) : gdName i y sl rs q := by subst e; exact h
theorem s_gtup {n : Nat} {g : TDgs K} {ys : List Sl} {q : List Sl → List (Rs K) → Prop} (i : Its2 y ys) (hn : ys.length = n) (h : g ys sl rs q) : gdTup n g y sl rs q := ⟨ys, i, hn, h⟩
theorem s_gcons {g : TDg K} {gs : TDgs K} {r : List Sl} {q : List Sl → List (Rs K) → Prop} (h : g y sl rs fun sl' rs' => gs r sl' rs' q) : gdCons g gs (y :: r) sl rs q := ⟨y, r, rfl, h⟩
theorem s_gnil {q : List Sl → List (Rs K) → Prop} (h : q sl rs) : gdNil [] sl rs q := ⟨rfl, h⟩
theorem s_var {i : Nat} (e : sl[i]? = some y) (h : q y rs) (kn : Kn y) : dVar i sl rs xc q := ⟨y, e, kn, h⟩
theorem s_c (h : q (.da x) rs) : dC x sl rs xc q := h
theorem s_r {v : V} (h : q (.raw v) rs) : dR v sl rs xc q := h
theorem s_b {g : A2 K} (h : ta sl rs xc fun y rs1 => tb sl rs1 xc fun z rs2 => g y z rs2 q) : dB g ta tb sl rs xc q := h
theorem s_u {g : A1 K} (h : ta sl rs xc fun y rs1 => g y rs1 q) : dU g ta sl rs xc q := h
theorem s_p2 {g : G2} (h : g x1 x2 fun x => q (.da x) rs) : p2 g (.da x1) (.da x2) rs q := ⟨x1, x2, .da _, .da _, h⟩
theorem s_p1 {g : G1} (h : g x fun x => q (.da x) rs) : p1 g (.da x) rs q := ⟨x, .da _, h⟩
section
variable {r : Da → Prop} {i j : Int} {s s' : Str} {b b' : Bool} {xs ys : List Da}
theorem s_add_i (h : r (.int (i + j))) : gAdd (.int i) (.int j) r := h
theorem s_add_t (hz : xs.length + ys.length ≤ sizeLine) (h : r (.tup (xs ++ ys))) : gAdd (.tup xs) (.tup ys) r := ⟨hz, h⟩
theorem s_add_l (hz : xs.length + ys.length ≤ sizeLine) (h : r (.lst (xs ++ ys))) : gAdd (.lst xs) (.lst ys) r := ⟨hz, h⟩
theorem s_I {C : Int → Int → Prop} {f : Int → Int → Da} (hc : C i j) (h : r (f i j)) : gI C f (.int i) (.int j) r := ⟨hc, h⟩
theorem s_1I {f : Int → Da} (h : r (f i)) : g1I f (.int i) r := h
theorem s_eq_i (h : r (.bl (decide (i = j)))) : gEq false (.int i) (.int j) r := h
theorem s_eq_s (h : r (.bl (decide (s = s')))) : gEq false (.str s) (.str s') r := h
theorem s_eq_b (h : r (.bl (decide (b = b')))) : gEq false (.bl b) (.bl b') r := h
theorem s_ne_i (h : r (.bl (!decide (i = j)))) : gEq true (.int i) (.int j) r := h
theorem s_ne_s (h : r (.bl (!decide (s = s')))) : gEq true (.str s) (.str s') r := h
theorem s_ne_b (h : r (.bl (!decide (b = b')))) : gEq true (.bl b) (.bl b') r := h
theorem s_eq_d (e : isSc x x1 = false) (h1 : plN 60 x = true) (h2 : plN 60 x1 = true) (h : r (.bl (PyData.eqv (pyD x) (pyD x1)))) : gEq false x x1 r := by
  cases x <;> cases x1 <;> first | (cases e; done) | exact ⟨h1, h2, h⟩
theorem s_ne_d (e : isSc x x1 = false) (h1 : plN 60 x = true) (h2 : plN 60 x1 = true) (h : r (.bl (!PyData.eqv (pyD x) (pyD x1)))) : gEq true x x1 r := by
  cases x <;> cases x1 <;> first | (cases e; done) | exact ⟨h1, h2, h⟩
end
theorem s_isN (h : q (.da (.bl (nonS y))) rs) : aIsN false y (.da .non) rs q := ⟨rfl, h⟩
theorem s_notN (h : q (.da (.bl (!nonS y))) rs) : aIsN true y (.da .non) rs q := ⟨rfl, h⟩
theorem s_isB {b : Bool} {r : Bool → List (Rs K) → Prop} (h : r b rs) : isB r (.da (.bl b)) rs := ⟨b, rfl, h⟩
theorem s_t {r : Bool → List (Rs K) → Prop} (h : te sl rs xc (isB r)) : dT te sl rs xc r := h
theorem s_chain {g g' : A2 K} (h : ta sl rs xc fun y rs1 => tb sl rs1 xc fun z rs2 => g y z rs2 (isB fun c rs3 => if c = true then tc sl rs3 xc fun u rs4 => g' z u rs4 q else q (.da (.bl false)) rs3)) : dChain g g' ta tb tc sl rs xc q := h
theorem s_and {r : Bool → List (Rs K) → Prop} (h : tA sl rs xc fun c rs1 => if c = true then tB sl rs1 xc r else r false rs1) : dAnd tA tB sl rs xc r := h
theorem s_or {r : Bool → List (Rs K) → Prop} (h : tA sl rs xc fun c rs1 => if c = true then r true rs1 else tB sl rs1 xc r) : dOr tA tB sl rs xc r := h
theorem s_not {r : Bool → List (Rs K) → Prop} (h : tA sl rs xc fun c rs1 => r (!c) rs1) : dNot tA sl rs xc r := h
theorem s_andV (h : ta sl rs xc (isB fun c rs1 => if c = true then tb sl rs1 xc q else q (.da (.bl false)) rs1)) : dAndV ta tb sl rs xc q := h
theorem s_orV (h : ta sl rs xc (isB fun c rs1 => if c = true then q (.da (.bl true)) rs1 else tb sl rs1 xc q)) : dOrV ta tb sl rs xc q := h
theorem s_notV (h : ta sl rs xc (isB fun c rs1 => q (.da (.bl (!c))) rs1)) : dNotV ta sl rs xc q := h
theorem s_if (h : tA sl rs xc fun c rs1 => if c = true then ta sl rs1 xc q else tb sl rs1 xc q) : dIf tA ta tb sl rs xc q := h
theorem s_yes {r : Bool → List (Rs K) → Prop} (h : r true rs) : dYes sl rs xc r := h
theorem s_nil {r : List Sl → List (Rs K) → Prop} (h : r [] rs) : dNil sl rs xc r := h
theorem s_cons {r : List Sl → List (Rs K) → Prop} (h : ta sl rs xc fun y rs1 => ts sl rs1 xc fun ys rs2 => r (y :: ys) rs2) : dCons ta ts sl rs xc r := h
theorem s_tup (h : ts sl rs xc (TupK q)) : dTup ts sl rs xc q := h
theorem s_lst (h : ts sl rs xc (LstK q)) : dLst ts sl rs xc q := h
theorem s_lstR (h : ts sl rs xc (LstRK q)) : dLstR ts sl rs xc q := h
theorem s_mkT {ys : List Sl} (e : mkT ys = z) (hz : ys.length ≤ sizeLine) (h : q z rs) : TupK q ys rs := ⟨hz, by rw [e]; exact h⟩
theorem s_mkL {ys : List Sl} {xs : List Da} (e : allDa ys = some xs) (hz : ys.length ≤ sizeLine) (h : q (.da (.lst xs)) rs) : LstK q ys rs := ⟨hz, xs, e, h⟩
theorem s_mkR {ys : List Sl} (hz : ys.length ≤ sizeLine) (h : ∀ a, q (.raw (.ref a)) (lstR a ys :: rs)) : LstRK q ys rs := ⟨hz, h⟩
theorem s_cb {g : AN K} (h : ts sl rs xc fun ys rs1 => g ys rs1 q) : dCB g ts sl rs xc q := h
theorem s_sl {tl th : TDo K} (h : te sl rs xc fun y rs1 => tl sl rs1 xc fun l rs2 => th sl rs2 xc fun h rs3 => slD rs3 y l h q) : dSl te tl th sl rs xc q := h
theorem s_noP {r : Option Int → List (Rs K) → Prop} (h : r none rs) : dNoP sl rs xc r := h
theorem s_part {r : Option Int → List (Rs K) → Prop} (h : te sl rs xc (PartK r)) : dPart te sl rs xc r := h
theorem s_partI {i : Int} {r : Option Int → List (Rs K) → Prop} (h : r (some i) rs) : PartK r (.da (.int i)) rs := ⟨i, rfl, h⟩
theorem s_slT {xs : List Da} {l h : Option Int} (g : q (.da (.tup (cutG xs l h))) rs) : slD rs (.da (.tup xs)) l h q := .inl ⟨_, .da xs, by rw [mkT_cutda]; exact g⟩
theorem s_slL {xs : List Da} {l h : Option Int} (s : See rs y (.lst xs)) (g : q (.da (.lst (cutG xs l h))) rs) : slD rs y l h q := .inr (.inl ⟨xs, s, g⟩)
theorem s_call {D : SpD K} (h : ts sl rs xc fun ys rs1 => Ask D ys rs1 xc q) : dCall D ts sl rs xc q := h
theorem s_make {D : SpD K} (h : ts sl rs xc fun ys rs1 => Ask D ys rs1 xc q) : dMake D ts sl rs xc q := h
theorem s_ask {D : SpD K} {ys : List Sl} {rc rf : List (Rs K)} (g : Gets rc rs rf) (h : D ys rc (fun x rc' => xc x (rc' ++ rf)) fun y rc' => q y (rc' ++ rf)) : Ask D ys rs xc q := .inl ⟨rc, rf, g, h⟩
theorem s_prop {C : Addr} {D : SpD K} (h : ta sl rs xc (PropK C D q)) : dProp C D ta sl rs xc q := h
theorem s_propD {C : Addr} {D : SpD K} {fs : List (Str × Da)} (h : Ask D [.da (.obj C fs)] rs xF q) : PropK C D q (.da (.obj C fs)) rs := ⟨⟨_, .da fs⟩, h⟩
theorem s_propR {a C : Addr} {D : SpD K} {fs : List (Str × Sl)} (e : Ext (objR a C fs) rs rs') (h : Ask D [.raw (.ref a)] rs xF q) : PropK C D q (.raw (.ref a)) rs := ⟨⟨_, .raw e⟩, h⟩
theorem s_meth {C : Addr} {m : Str} {D : SpD K} (h : ta sl rs xc (MethK C m D ts sl xc q)) : dMeth C m D ta ts sl rs xc q := h
theorem s_methD {C : Addr} {m : Str} {D : SpD K} {fs : List (Str × Da)} (n : m ∉ fs.map (·.1)) (h : ts sl rs xc fun ys rs2 => Ask D (.da (.obj C fs) :: ys) rs2 xc q) : MethK C m D ts sl xc q (.da (.obj C fs)) rs := ⟨⟨_, .da fs, n⟩, h⟩
theorem s_methR {a C : Addr} {m : Str} {D : SpD K} {fs : List (Str × Sl)} (e : Ext (objR a C fs) rs rs') (n : m ∉ fs.map (·.1)) (h : ts sl rs xc fun ys rs2 => Ask D (.raw (.ref a) :: ys) rs2 xc q) : MethK C m D ts sl xc q (.raw (.ref a)) rs := ⟨⟨_, .raw e, n⟩, h⟩
theorem s_fld {f : Str} (h : ta sl rs xc (FldK f q)) : dFld f ta sl rs xc q := h
theorem s_fldD {C : Addr} {fs : List (Str × Da)} {f : Str} {x : Da} (e : fs.lookup f = some x) (fn : FN K C f) (h : q (.da x) rs) : FldK f q (.da (.obj C fs)) rs := ⟨C, .da x, .da e, fn, trivial, h⟩
theorem s_fldR {a C : Addr} {fs : List (Str × Sl)} {f : Str} {z : Sl} (ex : Ext (objR a C fs) rs rs') (e : fs.lookup f = some z) (fn : FN K C f) (kn : Kn z) (h : q z rs) : FldK f q (.raw (.ref a)) rs := ⟨C, z, .raw ex e, fn, kn, h⟩
theorem s_sfld {f : Str} (h : tv sl rs d.xc (SFldV f ta d sl)) : dSFld f ta tv d sl rs := h
theorem s_sfldV {f : Str} (kn : Kn y) (h : ta sl rs d.xc (SFldK f y d sl)) : SFldV f ta d sl y rs := ⟨kn, h⟩
theorem s_sfldR {a C : Addr} {f : Str} {fs fs' : List (Str × Sl)} (rep : Rep (objR a C fs) (objR a C fs') rs rs') (e : putS f y fs = fs') (fn : FN K C f) (few : fs.length < 1000) (h : d.nx sl rs') : SFldK f y d sl (.raw (.ref a)) rs := ⟨a, C, fs, rs', rfl, by rw [e]; exact rep, fn, few, h⟩
theorem s_faug {f : Str} {g : Int → Int → Int} (h : ta sl rs d.xc (FAugK f g tv d sl)) : dFldAug f g ta tv d sl rs := h
theorem s_bm {g : Sl → List Sl → List (Rs K) → QD K → Prop} (h : to sl rs xc (BMK g ts sl xc q)) : dBM g to ts sl rs xc q := h
theorem s_bm0 {g : Sl → List Sl → List (Rs K) → QD K → Prop} (h : to sl rs xc (BMK0 g q)) : dBM0 g to sl rs xc q := h
theorem s_bmK {g : Sl → List Sl → List (Rs K) → QD K → Prop} (i : IsL rs y) (h : ts sl rs xc fun ys rs2 => g y ys rs2 q) : BMK g ts sl xc q y rs := ⟨i, h⟩
theorem s_bmK0 {g : Sl → List Sl → List (Rs K) → QD K → Prop} (i : IsL rs y) (h : g y [] rs q) : BMK0 g q y rs := ⟨i, h⟩
theorem s_app {a : Addr} {zs : List Sl} (rep : Rep (lstR a zs) (lstR a (zs ++ [z])) rs rs') (hz : zs.length < sizeLine) (h : q (.da .non) rs') : aApp (.raw (.ref a)) [z] rs q := ⟨a, zs, z, rs', rfl, rfl, rep, hz, h⟩
theorem s_popAt {a : Addr} {zs : List Sl} {i : Int} (rep : Rep (lstR a zs) (lstR a (zs.eraseIdx i.toNat)) rs rs') (h0 : 0 ≤ i) (hi : zs[i.toNat]? = some z) (hz : zs.length ≤ sizeLine) (h : q z rs') : aPopAt (.raw (.ref a)) [.da (.int i)] rs q := ⟨a, zs, i, z, rs', rfl, rfl, h0, hi, rep, hz, h⟩
theorem s_pop {a : Addr} {zs : List Sl} (rep : Rep (lstR a zs) (lstR a zs.dropLast) rs rs') (hi : zs[zs.length - 1]? = some z) (h : q z rs') : aPop (.raw (.ref a)) [] rs q := ⟨a, zs, z, rs', rfl, rfl, hi, rep, h⟩
theorem s_par {is : List Nat} (h : ts sl rs d.xc (ParK' is d sl)) : dPar is ts d sl rs := h
theorem s_parK {is : List Nat} {ys sl' : List Sl} (e : (is.zip ys).foldl (fun s p => s.set p.1 p.2) sl = sl') (hl : ys.length = is.length) (h : d.nx sl' rs) : ParK' is d sl ys rs := ⟨hl, by rw [e]; exact h⟩
theorem s_raise0 {C : Addr} (h : d.xc ⟨C, none⟩ rs) : dRaise0 C d sl rs := h
theorem s_raise {C : Addr} {fl : List Str} (h : ts sl rs d.xc (RaiseK C fl d)) : dRaise C fl ts d sl rs := h
theorem s_raiseK {C : Addr} {fl : List Str} {ys : List Sl} {xs : List Da} (e : allDa ys = some xs) (hl : ys.length = fl.length) (h : d.xc ⟨C, some (fl.zip xs)⟩ rs) : RaiseK C fl d ys rs := ⟨hl, xs, e, h⟩
theorem s_lenI {zs : List Sl} (i : Itm rs y zs) (h : q (.da (.int zs.length)) rs) : aLen [y] rs q := .inl ⟨y, zs, rfl, i, h⟩
theorem s_lenS {s : Str} (hz : s.length ≤ sizeLine) (h : q (.da (.int s.length)) rs) : aLen [.da (.str s)] rs q := .inr ⟨s, rfl, hz, h⟩
theorem s_tupOfT {xs : List Da} (h : q (.da (.tup xs)) rs) : aTupOf [.da (.tup xs)] rs q := ⟨_, rfl, .inl ⟨_, .da xs, h⟩⟩
theorem s_tupOfL {xs : List Da} (s : See rs y (.lst xs)) (h : q (.da (.tup xs)) rs) : aTupOf [y] rs q := ⟨_, rfl, .inr ⟨xs, s, h⟩⟩
theorem s_tupNew {xs : List Da} (s : See rs y (.lst xs)) (h : q (.da (.btup xs)) rs) : aTupNew [y] rs q := ⟨_, _, rfl, s, h⟩
theorem s_int {i : Int} (h : q (.da (.int i)) rs) : aInt [.da (.int i)] rs q := .inl ⟨i, rfl, h⟩
theorem s_intB {b : Bool} (h : q (.da (.int (if b then 1 else 0))) rs) : aInt [.da (.bl b)] rs q := .inr ⟨b, rfl, h⟩
theorem s_n1 {f : Int → Int} {i : Int} (h : q (.da (.int (f i))) rs) : aN1 f [.da (.int i)] rs q := ⟨i, rfl, h⟩
theorem s_n2 {f : Int → Int → Int} {i j : Int} (h : q (.da (.int (f i j))) rs) : aN2 f [.da (.int i), .da (.int j)] rs q := ⟨i, j, rfl, h⟩
theorem s_isi {x : Da} {T t : String} {b : Bool} (ht : tyD x = some t) (hb : kitB t T = some b) (h : q (.da (.bl b)) rs) : aIsi [.da x, .raw (.ty T)] rs q := ⟨_, T, x, t, b, rfl, .da x, ht, hb, h⟩
theorem s_star1 {r : List Sl → List (Rs K) → Prop} (h : te sl rs xc (Star1K r)) : dStar1 te sl rs xc r := h
theorem s_star1K {r : List Sl → List (Rs K) → Prop} {zs : List Sl} (i : Itm rs y zs) (h : r zs rs) : Star1K r y rs := ⟨zs, i, h⟩
/-! loops -/
def ForK (g : TDg K) (tb : TDs K) (d : DEnds K) (sl : List Sl) : List Sl → (List (Rs K) → Prop) → List (Rs K) → Prop := fun ys ok rs1 => ∃ W : Nat → List Sl → List (Rs K) → Prop, Gs (W 0) sl rs1 ∧ (∀ i sl rs, W i sl rs → ok rs) ∧
  (∀ i y sl rs, ys[i]? = some y → W i sl rs → g y sl rs fun sl2 rs2 => tb { d with nx := Gs (W (i + 1)), ct := Gs (W (i + 1)), bk := Gs d.nx } sl2 rs2) ∧ ∀ sl rs, W ys.length sl rs → Gs d.nx sl rs
theorem s_for {ti : TDi K} {g : TDg K} {tb : TDs K} (h : ti sl rs d.xc (ForK g tb d sl)) : dFor ti g tb d sl rs := h
theorem s_it {r : List Sl → (List (Rs K) → Prop) → List (Rs K) → Prop} (h : te sl rs xc (ItK r)) : dIt te sl rs xc r := h
theorem s_itK {r : List Sl → (List (Rs K) → Prop) → List (Rs K) → Prop} {ys : List Sl} {g : List (Rs K) → Prop} (w : Wk rs y ys g) (h : r ys g rs) : ItK r y rs := ⟨ys, g, w, h⟩
def RngK (r : List Sl → (List (Rs K) → Prop) → List (Rs K) → Prop) : List Sl → List (Rs K) → Prop := fun ys rs1 => ∃ j : Int, ys = [.da (.int j)] ∧ (-(2 ^ 62) ≤ j ∧ j < 2 ^ 62) ∧ r (rngS 0 j.toNat) (fun _ => True) rs1
def Rng2K (r : List Sl → (List (Rs K) → Prop) → List (Rs K) → Prop) : List Sl → List (Rs K) → Prop := fun ys rs1 => ∃ i j : Int, ys = [.da (.int i), .da (.int j)] ∧ (-(2 ^ 62) ≤ i ∧ i < 2 ^ 62 ∧ -(2 ^ 62) ≤ j ∧ j < 2 ^ 62) ∧ r (rngS i (j - i).toNat) (fun _ => True) rs1
def EnTK (r : List Sl → (List (Rs K) → Prop) → List (Rs K) → Prop) : List Sl → List (Rs K) → Prop := fun ys rs1 => ∃ y zs, ys = [y] ∧ TI2 y zs ∧ r (enumS 0 zs) (fun _ => True) rs1
def EnLK (r : List Sl → (List (Rs K) → Prop) → List (Rs K) → Prop) : List Sl → List (Rs K) → Prop := fun ys rs1 => ∃ xs, ys = [.da (.lst xs)] ∧ r (enumS 0 (xs.map .da)) (fun _ => True) rs1
def ZipK (r : List Sl → (List (Rs K) → Prop) → List (Rs K) → Prop) : List Sl → List (Rs K) → Prop := fun ys rs1 => ∃ zs, Zi ys zs ∧ r zs (fun _ => True) rs1
section
variable {r : List Sl → (List (Rs K) → Prop) → List (Rs K) → Prop}
theorem s_rng1 (h : ts sl rs xc (RngK r)) : dRng1 ts sl rs xc r := h
theorem s_rng1K {j : Int} (h1 : -(2 ^ 62) ≤ j ∧ j < 2 ^ 62) (h : r (rngS 0 j.toNat) (fun _ => True) rs) : RngK r [.da (.int j)] rs := ⟨j, rfl, h1, h⟩
theorem s_rng2 (h : ts sl rs xc (Rng2K r)) : dRng2 ts sl rs xc r := h
theorem s_rng2K {i j : Int} (h1 : -(2 ^ 62) ≤ i ∧ i < 2 ^ 62 ∧ -(2 ^ 62) ≤ j ∧ j < 2 ^ 62) (h : r (rngS i (j - i).toNat) (fun _ => True) rs) : Rng2K r [.da (.int i), .da (.int j)] rs := ⟨i, j, rfl, h1, h⟩
theorem s_enT (h : ts sl rs xc (EnTK r)) : dEnT ts sl rs xc r := h
theorem s_enTK {zs : List Sl} (i : TI2 y zs) (h : r (enumS 0 zs) (fun _ => True) rs) : EnTK r [y] rs := ⟨y, zs, rfl, i, h⟩
theorem s_enL (h : ts sl rs xc (EnLK r)) : dEnL ts sl rs xc r := h
theorem s_enLK {xs : List Da} (h : r (enumS 0 (xs.map .da)) (fun _ => True) rs) : EnLK r [.da (.lst xs)] rs := ⟨xs, rfl, h⟩
theorem s_zip (h : ts sl rs xc (ZipK r)) : dZip ts sl rs xc r := h
theorem s_zipT {z : Sl} {ys zs : List Sl} (i : TI2 y ys) (j : TI2 z zs) (h : r (zipS ys zs) (fun _ => True) rs) : ZipK r [y, z] rs := ⟨_, .t i j, h⟩
theorem s_zipL {xs ws : List Da} (h : r (zipS (xs.map .da) (ws.map .da)) (fun _ => True) rs) : ZipK r [.da (.lst xs), .da (.lst ws)] rs := ⟨_, .l xs ws, h⟩
end
/-- a loop, by a word about data and place -/
theorem s_forK {g : TDg K} {tb : TDs K} {ys : List Sl} {ok : List (Rs K) → Prop} (W : Nat → List Sl → List (Rs K) → Prop) (h0 : Gs (W 0) sl rs) (hok : ∀ i sl rs, W i sl rs → ok rs) (hs : ∀ i y sl rs, ys[i]? = some y → W i sl rs → g y sl rs fun sl2 rs2 => tb { d with nx := Gs (W (i + 1)), ct := Gs (W (i + 1)), bk := Gs d.nx } sl2 rs2)
    (hd : ∀ sl rs, W ys.length sl rs → Gs d.nx sl rs) : ForK g tb d sl ys ok rs := ⟨W, h0, hok, hs, hd⟩
def LcKD (g : TDg K) (tt : TDb K) (te : TD K) (vs : List Nat) (sl : List Sl) (q : QD K) : List Sl → (List (Rs K) → Prop) → List (Rs K) → Prop := fun ys ok rs1 => ys.length ≤ 1000000 ∧ ∃ W : Nat → List Da → List (Rs K) → Prop, W 0 [] rs1 ∧ (∀ i acc rs, W i acc rs → ok rs) ∧
  (∀ i y acc rs, ys[i]? = some y → acc.length ≤ i → W i acc rs → g y (wipeD sl vs) rs fun sl2 rs2 => tt sl2 rs2 xF fun b rs3 => if b = true then te sl2 rs3 xF fun z rs4 => ∃ x, z = .da x ∧ W (i + 1) (acc ++ [x]) rs4 else W (i + 1) acc rs3) ∧
  ∀ acc rs, acc.length ≤ ys.length → W ys.length acc rs → q (.da (.lst acc)) rs
theorem s_lc {ti : TDi K} {g : TDg K} {tt : TDb K} {vs : List Nat} (h : ti sl rs xc (LcKD g tt te vs sl q)) : dLc ti g tt te vs sl rs xc q := h
end
end HC

/-! ### a def's body by data -/
namespace HC
open PyProof.Rows PySem L2 PySem.Spec
section
variable {P : Program} {w : World} {K : PySem.W.Frag} {mg : Str → Option Value} {base : Heap} {k : Nat} {f : Addr} {fd : FuncData} {N ps : List Str} {x qual : Str} {params : Arguments} {body : List Stmt} {scope : Scope} {t : TDs K} {D : SpD K}
def startD (n : Nat) (as : List Sl) : List Sl := as ++ List.replicate (n - as.length) .no
theorem start_ok {S : Addr → Prop} {H : Hp} {vs : List V} {as : List Sl} (r : VAll K S H vs as) : Slots K S H (L2.start N vs) (startD N.length as) := by
  unfold L2.start startD
  rw [r.len]
  have tail : ∀ n : Nat, Slots K S H (List.replicate n none) (List.replicate n .no) := by
    intro n
    induction n with
    | zero => exact .nil
    | succ n ih => exact .cons (.no _) ih
  have : ∀ {vs : List V} {as : List Sl} {n : Nat}, VAll K S H vs as → Slots K S H (vs.map some ++ List.replicate n none) (as ++ List.replicate n .no) := by
    intro vs
    induction vs with
    | nil => intro as n r; cases r; exact tail n
    | cons v vs ih => intro as n r; cases r with | cons a b => exact .cons (.some a) (ih b)
  exact this r
/-- an exception, what may change let go -/
def Gx (xc : XD K) : XD K := fun x rs => ∃ rc rf, Gets rc rs rf ∧ xc x rc
theorem outX_gx {S0 : Addr → Prop} {F : List Addr} {H : Hp} {xc : XD K} {E : XK} (k : OutX S0 F H xc E) : OutX S0 F H (Gx xc) E := fun x u d rs' F' H' st A r ⟨rc, rf, g, h⟩ => by
  obtain ⟨F2, hF, A2⟩ := A.gets g
  refine k x u d rc F2 H' (st.less hF) A2 ?_ h
  obtain ⟨e, r⟩ := r
  refine ⟨e, ?_⟩
  obtain ⟨cls, fs⟩ := x
  cases fs with
  | none => exact r
  | some fs =>
    obtain ⟨a, gs, e1, e2, e3, e4, e5⟩ := r
    exact ⟨a, gs, e1, e2, e3, e4.ev (F := []) (Ev.less (mu_less hF)), fun m => e5 (mu_less hF a m)⟩
theorem gx_id {xc : XD K} {x : Exn} {rs : List (Rs K)} (h : xc x rs) : Gx xc x rs := ⟨rs, [], by
  have : ∀ rs : List (Rs K), Gets rs rs [] := by
    intro rs
    induction rs with
    | nil => exact .nil
    | cons R r ih => exact .cons .here ih
  exact this rs, h⟩
def dEnds (q : QD K) (xc : XD K) : DEnds K := { nx := fun _ rs => Gv q (.da .non) rs, rt := Gv q, xc := Gx xc }
/-- a body that does what t says keeps D -/
theorem body_ok {E : XK} {X : Cx} {vs : List V} {H : Hp} {Q : VK} (run : PSs X body (LS E t)) (walk : ∀ as rs xc q, D as rs xc q → t (dEnds q xc) (startD N.length as) rs) (h : spD D vs H Q E) : ∃ t', PSs X body t' ∧ t' { nx := fun _ H' => Q .non H', rt := Q } (L2.start N vs) H := by
  obtain ⟨S0, as, rs, F, xc, q, A, r, h, k, kx⟩ := h
  refine ⟨_, run, LS.use ⟨A, start_ok r⟩ (walk as rs xc q h) ?_ ?_ ?_ (out_gv k) (outX_gx kx)⟩
  · exact fun σ' sl' rs' F' H' st N' g => out_gv k .non (.da .non) rs' F' H' st N'.at_ (.da .non) g
  · exact fun _ _ _ _ _ _ _ h => h.elim
  · exact fun _ _ _ _ _ _ _ h => h.elim
theorem spD_len {n : Nat} (ar : ∀ as rs xc q, D as rs xc q → as.length = n) {vs : List V} {H : Hp} {Q : VK} {E : XK} (h : spD D vs H Q E) : vs.length = n := by
  obtain ⟨S0, as, rs, F, xc, q, A, r, h, k, kx⟩ := h
  rw [r.len]; exact ar _ _ _ _ h
theorem dfn_ok (F : FunD K x qual params body scope [] [] f fd) (S : FnScope N ps scope) (ar : ∀ as rs xc q, D as rs xc q → as.length = ps.length)
    (run : ∀ (cdv : Value) (A : Around) (outer : List Env) (s : Shared) (H : Hp) (E : XK), Room k (A.deeper (envOfC qual scope s.heap.objs.size f cdv)) → PSs (cxOf (CXW P w) P w K mg base N qual scope f cdv A outer s H E) body (LS E t))
    (walk : ∀ as rs xc q, D as rs xc q → t (dEnds q xc) (startD N.length as) rs) : FnOk P w K mg base (CXW P w) (k + 1) f fd ps (spD D) :=
  F.ok S (fun vs H Q E h => spD_len ar h) fun cdv A outer s H vs Q E hr h => body_ok (run cdv A outer s H E hr) walk h
/-- a promise by data of a def whose promise is known -/
theorem FnU.data {sp : Sp} (F : FnU P w K mg base k f sp) (im : ∀ vs H Q E, spD D vs H Q E → sp vs H Q E) : FnU P w K mg base k f (spD D) := by
  obtain ⟨fd, ps, F, B⟩ := F
  refine ⟨fd, ps, ?_, B⟩
  exact F.imp im
end
end HC

/-! ### more terms by data -/
namespace HC
open PyProof.Rows PySem L2 PySem.Spec
theorem ar_eq {as bs : List Sl} {p : Prop} {n : Nat} (h : bs.length = n) : (as = bs ∧ p) → as.length = n := fun ⟨e, _⟩ => by rw [e]; exact h
theorem ar_ex {α : Sort _} {p : α → Prop} {c : Prop} (h : ∀ a, p a → c) : (∃ a, p a) → c := fun ⟨a, k⟩ => h a k
section
variable {X : Cx} {K : PySem.W.Frag} {E : XK} {a b c e o tg lo hi : Expr} {es : List Expr} {pos p2 : Pos} {ta tb tc td te to : TD K} {tA tB : TDb K} {ts tk : TDa K} {st : Stmt} {rest : List Stmt} {t u : TDs K} {kws : List Keyword}
theorem d_ix (ha : PE X a (LE E ta)) (hb : PE X b (LE E tb)) (hs : PlainIx b := by exact fun _ _ => rfl) (hK : X.K = K := by rfl) : PE X (.Subscript a b pos) (LE E (dB aIx ta tb)) := pe_weak (pe_ix (ix_K K hK) ha hb hs) fun _ _ _ => le_op act_ix
theorem d_cb1 {r : List V → Hp → VK → Prop} {g : AN K} (h : PE X e (tCB r (tCons (LE E te) tNil))) (ok : ActN K r g) : PE X e (LE E (dCB g (dCons te dNil))) := d_cb (pe_weak h fun σ H Q h' => by
  obtain ⟨S0, sl, rs, F, xc, q, N, t, k, kx⟩ := h'
  exact LE.use N t kx fun v y rs1 F1 H1 st1 N1 r1 t1 => k [v] [y] rs1 F1 H1 st1 N1.at_ (.cons r1 .nil) t1) ok
theorem d_isi {T : String} (h : PE X e (tCB (rIsi K) (tCons (LE E te) (tCons (tC (.ty T)) tNil)))) : PE X e (LE E (dCB aIsi (dCons te (dCons (dR (.ty T)) dNil)))) := d_cb (pe_weak h fun σ H Q h' => by
  obtain ⟨S0, sl, rs, F, xc, q, N, t, k, kx⟩ := h'
  exact LE.use N t kx fun v y rs1 F1 H1 st1 N1 r1 t1 => k [v, .ty T] [y, .raw (.ty T)] rs1 F1 H1 st1 N1.at_ (.cons r1 (.cons (.raw _) .nil)) t1) act_isi
theorem dts_nil : PTs X [] (LT E (dYes (K := K))) := ⟨fun pn s σ H Q inv ⟨S0, sl, rs, F, xc, q, N, t, k, kx⟩ => pts_nil.run pn s σ H Q inv (k true rs F H (Stp.refl _ _) N.at_ t)⟩
theorem dts_one (h : PT X c (LT E tA)) : PTs X [c] (LT E tA) := pts_one h
theorem d_lc {ti : TDi K} {g : TG} {gd : TDg K} {is vs : List Nat} {tt : TDb K} {E' E2 : XK} (h : PE X e (tLc (LI E ti) g (LT E2 tt) (LE E' te) vs)) (hg : TgOk g gd is) (hv : ∀ i ∈ is, i ∈ vs) : PE X e (LE E (dLc ti gd tt te vs)) := pe_weak h fun _ _ _ => le_lc hg hv
theorem ds_setLc {ti : TDi K} {g : TG} {gd : TDg K} {is vs : List Nat} {tt : TDb K} {E' E2 : XK} {i : Nat} (h : PS X st (tAsg (tLc (LI E ti) g (LT E2 tt) (LE E' te) vs) (gName i))) (hg : TgOk g gd is) (hv : ∀ i ∈ is, i ∈ vs) : PS X st (LS E (dAsg (dLc ti gd tt te vs) (gdName i))) := ds_setX h fun _ _ _ => le_lc hg hv
/-- x op= e, ints -/
def dAug (i : Nat) (f : Int → Int → Int) (te : TD K) : TDs K := fun d sl rs => ∃ a, sl[i]? = some (.da (.int a)) ∧ te sl rs d.xc fun y rs1 => ∃ b, y = .da (.int b) ∧ d.nx (sl.set i (.da (.int (f a b)))) rs1
/-- t.index(x) for a tuple of texts -/
def dTupIx (to te : TD K) : TD K := fun sl rs xc q => to sl rs xc fun y rs1 => ∃ ys : List Str, y = .da (.btup (ys.map .str)) ∧ te sl rs1 xc fun z rs2 => ∃ s j, z = .da (.str s) ∧ ys[j]? = some s ∧ (∀ m, m < j → ys[m]? ≠ some s) ∧ q (.da (.int (j : Nat))) rs2
end
section
variable {P : Program} {w : World} {K : PySem.W.Frag} {mg : Str → Option Value} {base : Heap} {k : Nat}
/-- a method, called without arguments -/
structure MethU (P : Program) (w : World) (K : PySem.W.Frag) (mg : Str → Option Value) (base : Heap) (C : Addr) (m : Str) (k : Nat) (sp : Sp) : Prop where
  cl : Cls K C
  ex : ∃ f, Meth K C m f ∧ FnU P w K mg base k f sp
theorem MethU.r {C : Addr} {m : Str} {sp : Sp} (M : MethU P w K mg base C m k sp) : MethR P w K mg base C m k sp := ⟨M.cl, let ⟨f, h, F⟩ := M.ex; ⟨f, h, F.raw⟩⟩
/-- a class: its __init__ keeps D, C(..) keeps D' -/
structure MakeD (P : Program) (w : World) (K : PySem.W.Frag) (mg : Str → Option Value) (base : Heap) (x : Str) (C : Addr) (k : Nat) (D D' : SpD K) : Prop where
  mkr : MakeR P w K mg base x C k (spD D)
  it : Mks C D D'
end
section
variable {X : Cx} {K : PySem.W.Frag} {E : XK} {e o : Expr} {pos apos : Pos} {ta : TD K} {C : Addr} {m : Str} {k : Nat}
def dMeth0 (C : Addr) (m : Str) (D : SpD K) (ta : TD K) : TD K := fun sl rs xc q => ta sl rs xc fun y rs1 => (∃ nm, IsO rs1 y C nm ∧ m ∉ nm) ∧ Ask D [y] rs1 xc q
end
end HC

/-! ### more operators and subscripts by data -/
namespace HC
open PyProof.Rows PySem L2 PySem.Spec
section
variable {K : PySem.W.Frag} {sl : List Sl} {rs rs1 rs2 rs' : List (Rs K)} {xc : XD K} {q : QD K} {y z w : Sl} {x : Da}
theorem rep_D {S : Addr → Prop} {H : Hp} {vs : List V} {xs : List Da} (h : DeAll K S H vs xs) : ∀ n : Nat, DeAll K S H (List.replicate n vs).flatten (List.replicate n xs).flatten
  | 0 => .nil
  | n + 1 => by
    rw [List.replicate_succ, List.replicate_succ]; rw [List.flatten_cons, List.flatten_cons]
    exact h.app (rep_D h n)
def gRepL : G2 := fun x y q => match x, y with
  | .lst xs, .int k => -(2 ^ 63) ≤ k ∧ k < 2 ^ 63 ∧ xs.length * k.toNat ≤ sizeLine ∧ q (.lst (List.replicate k.toNat xs).flatten)
  | _, _ => False
theorem pu_repL : Pu2 K rRep gRepL := fun S H v w x y q Q lv t1 t2 h k => by
  cases x <;> cases y <;> first | exact h.elim | skip
  rename_i xs n
  obtain ⟨h1, h2, h3, h⟩ := h
  obtain ⟨a, vs, rfl, g1, d1⟩ := t1.l
  cases t2.i
  refine ⟨a, _, vs, rfl, rfl, g1, h1, h2, by rw [d1.len]; exact h3, fun p hp => ?_⟩
  have s := same_new (o := .lst (List.replicate n.toNat vs).flatten) hp
  exact k _ _ _ s (.lst (fun m => lv p m hp) upd_same ((rep_D d1 _).ev (Ev.same (F := []) s))) h
theorem s_repL {x : Da} {k : Int} {r : Da → Prop} (h1 : 0 ≤ k) (h2 : k ≤ 1000) (h : r (.lst (List.replicate k.toNat x))) : gRepL (.lst [x]) (.int k) r := ⟨by omega, by omega, by simp [sizeLine_eq]; omega, by rw [List.flatten_replicate_singleton]; exact h⟩
theorem its2_1 {a : Da} : Its2 (.da (.tup [a])) [.da a] := .da _
theorem its2_2 {a b : Da} : Its2 (.da (.tup [a, b])) [.da a, .da b] := .da _
theorem its2_3 {a b c : Da} : Its2 (.da (.tup [a, b, c])) [.da a, .da b, .da c] := .da _
theorem its2_4 {a b c d : Da} : Its2 (.da (.tup [a, b, c, d])) [.da a, .da b, .da c, .da d] := .da _
/-! subscripts -/
theorem s_ix {ys : List Sl} {i : Int} (im : Itm rs y ys) (e : atI ys i = some w) (kn : Kn w) (h : q w rs) : aIx y (.da (.int i)) rs q := ⟨i, rfl, .inl ⟨ys, w, im, e, kn, h⟩⟩
theorem atI_mm {α : Type} {f : α → Da} {cs : List α} {i : Nat} {c : α} (h : cs[i]? = some c) : atI ((cs.map f).map Sl.da) ((i : Nat) : Int) = some (.da (f c)) := atI_nat (by rw [List.getElem?_map, List.getElem?_map, h]; rfl)
theorem atI_m {cs : List Da} {i : Nat} {c : Da} (h : cs[i]? = some c) : atI (cs.map Sl.da) ((i : Nat) : Int) = some (.da c) := atI_nat (by rw [List.getElem?_map, h]; rfl)
theorem enumS_mm {α : Type} {f : α → Da} {cs : List α} {i : Nat} {y : Sl} (h : (enumS 0 ((cs.map f).map Sl.da))[i]? = some y) : ∃ c, cs[i]? = some c ∧ y = .da (.tup [.int (i : Nat), f c]) := by
  rw [enumS_get] at h
  obtain ⟨y0, e, rfl⟩ := Option.map_eq_some_iff.mp h
  obtain ⟨x, e1, rfl⟩ := getm e
  obtain ⟨c, e2, rfl⟩ := getm e1
  exact ⟨c, e2, by rw [Nat.zero_add]; rfl⟩
theorem mm_get {α : Type} {f : α → Da} {cs : List α} {i : Nat} {y : Sl} (h : ((cs.map f).map Sl.da)[i]? = some y) : ∃ c, cs[i]? = some c ∧ y = .da (f c) := by
  obtain ⟨x, e1, rfl⟩ := getm h
  obtain ⟨c, e2, rfl⟩ := getm e1
  exact ⟨c, e2, rfl⟩
theorem rngS_get {lo : Int} {n i : Nat} {y : Sl} (h : (rngS lo n)[i]? = some y) : i < n ∧ y = .da (.int (lo + (i : Nat))) := by
  unfold rngS at h
  obtain ⟨j, e, rfl⟩ := getm h
  obtain ⟨lt, e⟩ := List.getElem?_eq_some_iff.mp e
  rw [List.getElem_range] at e
  rw [List.length_range] at lt
  subst e
  exact ⟨lt, rfl⟩
theorem rngS_len (lo : Int) (n : Nat) : (rngS lo n).length = n := by unfold rngS; simp
/-- a comprehension that changes nothing: the items of cs for which p holds, by f -/
theorem s_lcP {α : Type} {g : TDg K} {tt : TDb K} {te : TD K} {vs : List Nat} {ok : List (Rs K) → Prop} {ys : List Sl} (cs : List α) (e : α → Sl) (p : α → Bool) (f : α → Da) (hy : ys = cs.map e) (few : cs.length ≤ 1000000) (hok : ok rs)
    (hs : ∀ (i : Nat) (c : α) (T : QD K) (N : List (Rs K) → Prop), cs[i]? = some c → (p c = true → T (.da (f c)) rs) → (p c = false → N rs) → g (e c) (wipeD sl vs) rs fun sl2 rs2 => tt sl2 rs2 xF fun b rs3 => if b = true then te sl2 rs3 xF T else N rs3)
    (h : q (.da (.lst ((cs.filter p).map f))) rs) : LcKD g tt te vs sl q ys ok rs := by
  subst hy
  refine ⟨by rw [List.length_map]; exact few, fun i acc rs' => rs' = rs ∧ acc = ((cs.take i).filter p).map f, ⟨rfl, rfl⟩, fun i acc rs' hw => hw.1 ▸ hok, ?_, ?_⟩
  · rintro i y acc rs' hy _ ⟨rfl, rfl⟩
    obtain ⟨c, hc, rfl⟩ := getm hy
    have tk : (cs.take (i + 1)).filter p = (cs.take i).filter p ++ (if p c = true then [c] else []) := by
      rw [List.take_succ, hc, List.filter_append]
      by_cases q : p c = true <;> simp [q]
    refine hs i c _ _ hc (fun hp => ⟨_, rfl, rfl, ?_⟩) fun hp => ⟨rfl, ?_⟩
    · rw [tk, if_pos hp, List.map_append]; rfl
    · rw [tk, if_neg (by rw [hp]; decide), List.append_nil]
  · rintro acc rs' _ ⟨rfl, rfl⟩
    rw [List.length_map]; rw [List.take_length]
    exact h
theorem s_lcM {α : Type} {g : TDg K} {te : TD K} {vs : List Nat} {ok : List (Rs K) → Prop} {ys : List Sl} (cs : List α) (e : α → Sl) (f : α → Da) (hy : ys = cs.map e) (few : cs.length ≤ 1000000) (hok : ok rs)
    (hs : ∀ (i : Nat) (c : α) (T : QD K), cs[i]? = some c → T (.da (f c)) rs → g (e c) (wipeD sl vs) rs fun sl2 rs2 => te sl2 rs2 xF T) (h : q (.da (.lst (cs.map f))) rs) : LcKD g dYes te vs sl q ys ok rs :=
  s_lcP cs e (fun _ => true) f hy few hok (fun i c T N hc ht _ => by
    have := hs i c T hc (ht rfl)
    exact this) (by rw [List.filter_eq_self.mpr fun _ _ => rfl]; exact h)
/-- a call that is handed nothing that may change -/
theorem s_ask0 {D : SpD K} {ys : List Sl} (h : D ys [] (fun x rc' => xc x (rc' ++ rs)) fun y rc' => q y (rc' ++ rs)) : Ask D ys rs xc q := .inl ⟨[], rs, .nil, h⟩
/-- nothing that may change is kept -/
theorem gv_nil {y : Sl} (h : q y []) : Gv q y rs := gv_via (GhV.gets (rc := []) .nil) (gv_id h)
theorem gs_gets {p : List Sl → List (Rs K) → Prop} {rc rf : List (Rs K)} (g : Gets rc rs rf) (h : p sl rc) : Gs p sl rs := ⟨sl, rc, Gh.gets g, h⟩
theorem gv_gets {rc rf : List (Rs K)} (g : Gets rc rs rf) (h : q y rc) : Gv q y rs := ⟨y, rc, GhV.gets g, h⟩
theorem gx_nil {X : XD K} {e : Exn} (h : X e []) : Gx X e rs := ⟨[], rs, .nil, h⟩
theorem pls_map {α : Type} {n : Nat} {f : α → Da} {xs : List α} (h : ∀ a, plN n (f a) = true) : plNs n (xs.map f) = true := plNs_iff.mpr fun x hx => by
  obtain ⟨a, -, rfl⟩ := List.mem_map.mp hx
  exact h a
theorem pl_lm {α : Type} {n : Nat} {f : α → Da} {xs : List α} (h : ∀ a, plN n (f a) = true) : plN (n + 1) (.lst (xs.map f)) = true := pls_map h
theorem pl_tm {α : Type} {n : Nat} {f : α → Da} {xs : List α} (h : ∀ a, plN n (f a) = true) : plN (n + 1) (.tup (xs.map f)) = true := pls_map h
section
variable {r : Da → Prop} {x : Da} {ys : List Da}
theorem s_notIn_bt (h1 : plN 0 x = true) (h2 : plNs 0 ys = true) (h : r (.bl (!anyD x ys))) : gIn true x (.btup ys) r := by
  cases x <;> first | exact ⟨h1, h2, h⟩ | (cases h1; done)
theorem s_in_bt (h1 : plN 0 x = true) (h2 : plNs 0 ys = true) (h : r (.bl (anyD x ys))) : gIn false x (.btup ys) r := by
  cases x <;> first | exact ⟨h1, h2, h⟩ | (cases h1; done)
theorem s_notIn_t (h1 : plN 0 x = true) (h2 : plNs 0 ys = true) (h : r (.bl (!anyD x ys))) : gIn true x (.tup ys) r := by
  cases x <;> first | exact ⟨h1, h2, h⟩ | (cases h1; done)
theorem s_in_t (h1 : plN 0 x = true) (h2 : plNs 0 ys = true) (h : r (.bl (anyD x ys))) : gIn false x (.tup ys) r := by
  cases x <;> first | exact ⟨h1, h2, h⟩ | (cases h1; done)
theorem s_notIn_l (h1 : plN 60 x = true) (h2 : plNs 59 ys = true) (h : r (.bl (!anyD x ys))) : gIn true x (.lst ys) r := by
  cases x <;> exact ⟨h1, h2, h⟩
theorem s_in_l (h1 : plN 60 x = true) (h2 : plNs 59 ys = true) (h : r (.bl (anyD x ys))) : gIn false x (.lst ys) r := by
  cases x <;> exact ⟨h1, h2, h⟩
end
end
end HC

/-! ### a list against [], whatever stands in it -/
namespace HC
open PyProof.Rows PySem L2 PySem.Spec
/-- xs == [], xs != [] -/
def rEqNil (K : PySem.W.Frag) (n : Bool) : R2 := fun x y H Q => ∃ l b xs, x = .ref l ∧ y = .ref b ∧ SqL K H l xs ∧ SqL K H b [] ∧ Q (.bl (if n then !xs.isEmpty else xs.isEmpty)) H
section
variable {X : Cx} {k : Nat}
theorem emp_size {xs : List V} {its : List Value} (r : Vals xs its) : (its.toArray.size != (([] : List Value).toArray).size) = !xs.isEmpty := by
  cases r with
  | nil => rfl
  | cons a b => simp
theorem op_eqNil (room : Room k X.A) : OpR X (compareOp .Eq) (rEqNil X.K false) := by
  rintro pn s σ H x y v u Q inv rx ry ⟨l, b, xs, rfl, rfl, sl, sb, q⟩
  cases rx
  cases ry
  obtain ⟨its, r, p, _⟩ := inv.list sl
  obtain ⟨none_, r0, p0, _⟩ := inv.list sb
  cases r0
  have few := units65 room
  by_cases e : xs.isEmpty = true
  · have z : its.toArray.size = (([] : List Value).toArray).size := by
      have := emp_size r
      rw [e] at this
      simpa using this
    refine SeqAt.eq_listAt (e := fun _ => true) p.isList p0.isList z (by omega) (fun j h1 h2 => absurd h2 (Nat.not_lt_zero j)) ⟨.bl _, H, inv, ?_, q⟩
    rw [z, e]; rfl
  · have z : (its.toArray.size != (([] : List Value).toArray).size) = true := by rw [emp_size r]; simpa using e
    refine SeqAt.eq_list_lengthsAt p.isList p0.isList z (by omega) ⟨.bl _, H, inv, ?_, q⟩
    rw [show xs.isEmpty = false by simpa using e]; rfl
theorem op_neNil (room : Room k X.A) : OpR X (compareOp .NotEq) (rEqNil X.K true) := by
  rintro pn s σ H x y v u Q inv rx ry ⟨l, b, xs, rfl, rfl, sl, sb, q⟩
  cases rx
  cases ry
  obtain ⟨its, r, p, _⟩ := inv.list sl
  obtain ⟨none_, r0, p0, _⟩ := inv.list sb
  cases r0
  have few := units65 room
  by_cases e : xs.isEmpty = true
  · have z : its.toArray.size = (([] : List Value).toArray).size := by
      have := emp_size r
      rw [e] at this
      simpa using this
    refine SeqAt.RcNeAt.lists (e := fun _ => true) p.isList p0.isList z (by omega) (fun j h1 h2 => absurd h2 (Nat.not_lt_zero j)) _ _ _ _ ⟨.bl _, H, inv, ?_, q⟩
    rw [z, e]; rfl
  · have z : (its.toArray.size != (([] : List Value).toArray).size) = true := by rw [emp_size r]; simpa using e
    refine SeqAt.RcNeAt.lists_lengths p.isList p0.isList z (by omega) _ _ _ _ ⟨.bl _, H, inv, ?_, q⟩
    rw [show xs.isEmpty = false by simpa using e]; rfl
end
section
variable {K : PySem.W.Frag} {rs : List (Rs K)} {q : QD K} {y : Sl}
/-- the items of a list -/
inductive NlL (rs : List (Rs K)) : Sl → List Sl → Prop
  | lst (xs : List Da) : NlL rs (.da (.lst xs)) (xs.map .da)
  | raw {a : Addr} {ys : List Sl} {rs' : List (Rs K)} : Ext (lstR a ys) rs rs' → NlL rs (.raw (.ref a)) ys
def aNil (n : Bool) : A2 K := fun y z rs q => z = .da (.lst []) ∧ ∃ ys, NlL rs y ys ∧ q (.da (.bl (if n then !ys.isEmpty else ys.isEmpty))) rs
theorem act_nil {n : Bool} : Act2 K (rEqNil K n) (aNil n) := fun S0 H rs F v w y z q Q A r1 r2 ⟨e, ys, i, h⟩ k => by
  subst e
  cases r2 with | da r2 => cases r2 with | @lst b us _ _ h0 d0 =>
    cases d0
    cases i with
    | lst xs =>
      cases r1 with | da r1 => cases r1 with | @lst l vs _ _ h1 d1 =>
        refine ⟨l, b, vs, rfl, rfl, SqL.of h1, SqL.of h0, ?_⟩
        rw [show vs.isEmpty = (xs.map Sl.da).isEmpty by cases d1 <;> rfl]
        exact k _ _ rs F H (Stp.refl _ _) A (.da (.bl _)) h
    | raw ex =>
      cases r1
      obtain ⟨vs, h1, all, _⟩ := A.lst ex
      refine ⟨_, b, vs, rfl, rfl, SqL.of h1, SqL.of h0, ?_⟩
      rw [show vs.isEmpty = ys.isEmpty by cases all <;> rfl]
      exact k _ _ rs F H (Stp.refl _ _) A (.da (.bl _)) h
theorem s_popE {a : Addr} {zs : List Sl} {z : Sl} (rep : Rep (lstR a (zs ++ [z])) (lstR a zs) rs rs') (h : q z rs') : aPop (.raw (.ref a)) [] rs q :=
  s_pop (zs := zs ++ [z]) (by rw [List.dropLast_concat]; exact rep) (by simp) h
theorem s_nilEq {n : Bool} {ys : List Sl} (i : NlL rs y ys) (h : q (.da (.bl (if n then !ys.isEmpty else ys.isEmpty))) rs) : aNil n y (.da (.lst [])) rs q := ⟨rfl, ys, i, h⟩
theorem op_eqNilK (K) {X : Cx} {k : Nat} (room : Room k X.A) (hK : X.K = K := by rfl) : OpR X (compareOp .Eq) (rEqNil K false) := by subst hK; exact op_eqNil room
theorem op_neNilK (K) {X : Cx} {k : Nat} (room : Room k X.A) (hK : X.K = K := by rfl) : OpR X (compareOp .NotEq) (rEqNil K true) := by subst hK; exact op_neNil room
end
section
variable {X : Cx} {K : PySem.W.Frag} {E : XK} {e : Expr} {st : Stmt} {te : TD K}
/-- a comprehension whose list may change later -/
def rawQ (q : QD K) : QD K := fun y rs => ∃ acc, y = .da (.lst acc) ∧ ∀ a, q (.raw (.ref a)) (lstR a (acc.map .da) :: rs)
def dLcR (ti : TDi K) (g : TDg K) (tt : TDb K) (te : TD K) (vs : List Nat) : TD K := fun sl rs xc q => ti sl rs xc (LcKD g tt te vs sl (rawQ q))
theorem s_lcR {ti : TDi K} {g : TDg K} {tt : TDb K} {vs : List Nat} {sl : List Sl} {rs : List (Rs K)} {xc : XD K} {q : QD K} (h : ti sl rs xc (LcKD g tt te vs sl (rawQ q))) : dLcR ti g tt te vs sl rs xc q := h
theorem s_rawQ {acc : List Da} {rs : List (Rs K)} {q : QD K} (h : ∀ a, q (.raw (.ref a)) (lstR a (acc.map .da) :: rs)) : rawQ q (.da (.lst acc)) rs := ⟨acc, rfl, h⟩
theorem at_rawD {S0 : Addr → Prop} {H : Hp} {rs : List (Rs K)} {F : List Addr} {D : Addr} {vs : List V} {acc : List Da} (A : At K (Plus S0 D) H rs F) (nD : D ∉ F) (n0 : ¬ S0 D) (hD : H D = some (.lst vs)) (d : DeAll K (Mu (Plus S0 D) F) H vs acc) : At K S0 H (lstR D (acc.map .da) :: rs) (D :: F) := by
  have ls : ∀ b, Mu S0 (D :: F) b → Mu (Plus S0 D) F b := fun b z => z.elim (fun z => .inl (.inl z)) fun z => (List.mem_cons.mp z).elim (fun e => .inl (.inr e)) .inr
  refine ⟨⟨[D], F, rfl, ⟨rfl, vs, hD, (d.ev (F := []) (Ev.less ls)).vall⟩, A.sep.ev (G := F) (Ev.less ls) fun _ h => h⟩, List.nodup_cons.mpr ⟨nD, A.nd⟩, fun b hb z => ?_, fun b z => A.liv b (ls b z)⟩
  rcases List.mem_cons.mp hb with rfl | m
  · exact n0 z
  · exact A.off b m (.inl z)
theorem le_lcR {ti : TDi K} {g : TG} {gd : TDg K} {is vs : List Nat} {tt : TDb K} {E' E2 : XK} (hg : TgOk g gd is) (hv : ∀ i ∈ is, i ∈ vs) {σ : L2.St} {H : Hp} {Q : VK} (l : LE E (dLcR ti gd tt te vs) σ H Q) : tLc (LI E ti) g (LT E2 tt) (LE E' te) vs σ H Q := by
  obtain ⟨S0, sl, rs, F, xc, q, N, h, k, kx⟩ := l
  refine LI.use N h kx fun J ys gok rs1 F1 H1 st1 N1 it ⟨few, W, w0, wok, step, done⟩ => fun D hD => ?_
  refine ⟨fun i m H' => m + i = ys.length ∧ ∃ acc vs' rs' F', acc.length ≤ i ∧ H' D = some (.lst vs') ∧ Now K (Plus S0 D) (wipe σ vs) H' (wipeD sl vs) rs' F' ∧ Stp F1 H1 F' H' ∧ DeAll K (Mu (Plus S0 D) F') H' vs' acc ∧ W i acc rs',
    ⟨ys.length, rfl, [], [], rs1, F1, Nat.le_refl _, upd_same, ⟨N1.at_.plus hD trivial, (slots_wipe N1.sl vs).ev (ev_plus N1.at_ hD)⟩, Stp.same (same_new hD), .nil, w0⟩, ?_⟩
  rintro i m H2 ⟨hm, acc, vs2, rs2, F2, hl, hD2, N2, st2, d2, w2⟩
  have ev := st2.ev N1.at_
  have it2 := it (Plus S0 D) H2 rs2 F2 N2.at_ ⟨fun b z => by
    rcases z with (z | z) | z
    · exact .inl (.inl z)
    · rw [z]; exact .inr hD
    · exact (st2.new b z).imp .inr id, ev.keep, ev.own, ev.tk⟩ (wok _ _ _ w2) i
  by_cases lt : i < ys.length
  · have hy := List.getElem?_eq_getElem lt
    obtain ⟨go, yl⟩ := it2.1 ys[i] hy
    refine .inr ⟨go, fun H' => ∃ acc vs' rs' F', acc.length ≤ i + 1 ∧ H' D = some (.lst vs') ∧ Now K (Plus S0 D) (wipe σ vs) H' (wipeD sl vs) rs' F' ∧ Stp F1 H1 F' H' ∧ DeAll K (Mu (Plus S0 D) F') H' vs' acc ∧ W (i + 1) acc rs', fun H' h => ⟨m - 1, by omega, by omega, h⟩, fun x H3 y3 => ?_⟩
    obtain ⟨sm, rx⟩ := yl x H3 y3
    have N3 := N2.same sm
    have nD : D ∉ F2 := fun z => N2.at_.off D z (.inr rfl)
    refine hg _ _ H3 _ rs2 F2 x ys[i] _ _ N3 rx (step i ys[i] acc rs2 hy hl w2) fun σ4 sl4 N4 hw h4 => ⟨by rw [hw vs hv, wipe_wipe σ vs vs fun _ h => h], ?_⟩
    have d3 := d2.ev (Ev.same (F := []) sm)
    refine LT.use N4 h4 outX_F fun b rs5 F5 H5 st5 N5 t5 => ?_
    have N5' : Now K (Plus S0 D) (wipe σ vs) H5 (wipeD sl vs) rs5 F5 := N3.step st5 N5.at_
    have d5 := d3.ev (st5.ev N3.at_)
    have b1 := st5.keep D _ nD (sm _ _ hD2)
    have b3 := (st2.trans (Stp.same sm)).trans st5
    cases b with
    | false => exact iteF ⟨acc, vs2, rs5, F5, by omega, b1, N5', b3, d5, by simpa using t5⟩
    | true =>
      refine iteT (LE.use N5 (by simpa using t5) outX_F fun v z rs6 F6 H6 st6 N6 r6 t6 => ?_)
      obtain ⟨x6, rfl, w6⟩ := t6
      cases r6 with
      | da r6 =>
        have N6' := N5'.step st6 N6.at_
        have d6 := d5.ev (st6.ev N5.at_)
        have c1 := st6.keep D _ (fun z => N5.at_.off D z (.inr rfl)) b1
        have lv : vs2.length = acc.length := d2.len
        have ew := ev_write (D := D) (o := .lst (vs2 ++ [v])) N6.at_
        have c3 := b3.trans st6
        exact ⟨vs2, c1, by rw [lv]; exact Nat.lt_of_le_of_lt (Nat.le_trans hl (Nat.le_of_lt (Nat.lt_of_lt_of_le lt few))) (by decide), acc ++ [x6], vs2 ++ [v], rs6, F6, by simp; omega, upd_same, ⟨N6.at_.writeD trivial, N6'.sl.ev ew⟩,
          ⟨fun b o n h => by rw [upd_ne (ne_of_none h hD)]; exact c3.keep b o n h, c3.new⟩, (d6.app (.cons r6 .nil)).ev ew, w6⟩
  · obtain rfl : i = ys.length := by omega
    obtain ⟨_, e0, fin⟩ := done acc rs2 hl w2
    cases e0
    have nD : D ∉ F2 := fun z => N2.at_.off D z (.inr rfl)
    have A3 := at_rawD N2.at_ nD (fun q => (N1.at_.liv D (.inl q)).2 hD) hD2 d2
    exact .inl ⟨it2.2 rfl, k (.ref D) _ _ _ H2 (st1.trans ⟨st2.keep, fun b z => (List.mem_cons.mp z).elim (fun e => .inr (e ▸ hD)) (st2.new b)⟩) A3 (.raw _) (fin D)⟩
theorem ds_setLcR {ti : TDi K} {g : TG} {gd : TDg K} {is vs : List Nat} {tt : TDb K} {E' E2 : XK} {i : Nat} (h : PS X st (tAsg (tLc (LI E ti) g (LT E2 tt) (LE E' te) vs) (gName i))) (hg : TgOk g gd is) (hv : ∀ i ∈ is, i ∈ vs) : PS X st (LS E (dAsg (dLcR ti gd tt te vs) (gdName i))) := ds_setX h fun _ _ _ => le_lcR hg hv
end
section
variable {X : Cx} {K : PySem.W.Frag} {E : XK} {e : Expr} {C : Addr} {D : SpD K} {rs : List (Rs K)} {q : QD K} {y : Sl} {ts : TDa K} {k : Nat}
/-- len(o) by an own __len__ -/
def LenQ (q : QD K) : QD K := fun z rs' => ∃ n : Int, z = .da (.int n) ∧ 0 ≤ n ∧ n < 2 ^ 63 ∧ q z rs'
def aLenO (C : Addr) (D : SpD K) : AN K := fun ys rs q => ∃ y nm, ys = [y] ∧ IsO rs y C nm ∧ Ask D [y] rs xF (LenQ q)
theorem s_lenOD {fs : List (Str × Da)} (h : Ask D [.da (.obj C fs)] rs xF (LenQ q)) : aLenO C D [.da (.obj C fs)] rs q := ⟨_, _, rfl, .da _, h⟩
theorem s_lenOR {a : Addr} {fs : List (Str × Sl)} {rs' : List (Rs K)} (hx : Ext (objR a C fs) rs rs') (h : Ask D [.raw (.ref a)] rs xF (LenQ q)) : aLenO C D [.raw (.ref a)] rs q := ⟨_, _, rfl, .raw hx, h⟩
end
section
variable {K : PySem.W.Frag} {to te : TD K} {sl : List Sl} {rs : List (Rs K)} {xc : XD K} {q : QD K}
def TupIxQ (ys : List Str) (q : QD K) : QD K := fun z rs2 => ∃ s j, z = .da (.str s) ∧ ys[j]? = some s ∧ (∀ m, m < j → ys[m]? ≠ some s) ∧ q (.da (.int (j : Nat))) rs2
def TupIxK (te : TD K) (sl : List Sl) (xc : XD K) (q : QD K) : QD K := fun y rs1 => ∃ ys : List Str, y = .da (.btup (ys.map .str)) ∧ te sl rs1 xc (TupIxQ ys q)
theorem s_tupIx (h : to sl rs xc (TupIxK te sl xc q)) : dTupIx to te sl rs xc q := h
end
section
variable {K : PySem.W.Frag} {y z : Sl} {rs : List (Rs K)} {q : QD K}
/-- xs + ys, a list that may change later -/
def aAddR : A2 K := fun y z rs q => ∃ xs zs, See rs y (.lst xs) ∧ See rs z (.lst zs) ∧ xs.length + zs.length ≤ sizeLine ∧ ∀ a, q (.raw (.ref a)) (lstR a ((xs ++ zs).map .da) :: rs)
theorem act_addR : Act2 K (uAdd K) aAddR := fun S0 H rs F v w y z q Q A r1 r2 ⟨xs, zs, s1, s2, hz, h⟩ k => by
  obtain ⟨a, vs, rfl, h1, d1⟩ := (s1.top A r1).l
  obtain ⟨b, us, rfl, h2, d2⟩ := (s2.top A r2).l
  refine .inr (.inr (.inl ⟨a, b, vs, us, rfl, rfl, h1, h2, by rw [d1.len, d2.len]; exact hz, fun p hp => ?_⟩))
  obtain ⟨A', st⟩ := at_newL A hp (d1.app d2).vall
  exact k _ _ _ _ _ st A' (.raw _) (h p)
theorem s_addR {xs zs : List Da} (s1 : See rs y (.lst xs)) (s2 : See rs z (.lst zs)) (hz : xs.length + zs.length ≤ sizeLine) (h : ∀ a, q (.raw (.ref a)) (lstR a ((xs ++ zs).map .da) :: rs)) : aAddR y z rs q := ⟨xs, zs, s1, s2, hz, h⟩
end
section
variable {K : PySem.W.Frag} {te to ti : TD K} {d : DEnds K} {sl : List Sl} {rs rs4 : List (Rs K)} {y z : Sl}
/-- xs[i] = v -/
def SetL3 (d : DEnds K) (sl : List Sl) (y z : Sl) : QD K := fun i rs3 => ∃ a ys k j rs4, z = .raw (.ref a) ∧ i = .da (.int k) ∧ ixN ys.length k = some j ∧ Rep (lstR a ys) (lstR a (ys.set j y)) rs3 rs4 ∧ d.nx sl rs4
def SetL2 (ti : TD K) (d : DEnds K) (sl : List Sl) (y : Sl) : QD K := fun z rs2 => ti sl rs2 d.xc (SetL3 d sl y z)
def SetL1 (to ti : TD K) (d : DEnds K) (sl : List Sl) : QD K := fun y rs1 => to sl rs1 d.xc (SetL2 ti d sl y)
theorem s_setL (h : te sl rs d.xc (SetL1 to ti d sl)) : dSetL te to ti d sl rs := h
theorem s_setL1 (h : to sl rs d.xc (SetL2 ti d sl y)) : SetL1 to ti d sl y rs := h
theorem s_setL2 (h : ti sl rs d.xc (SetL3 d sl y z)) : SetL2 ti d sl y z rs := h
theorem s_setL3 {a : Addr} {ys : List Sl} {k : Int} (j : Nat) (e : ixN ys.length k = some j) (r : Rep (lstR a ys) (lstR a (ys.set j y)) rs rs4) (h : d.nx sl rs4) : SetL3 d sl y (.raw (.ref a)) (.da (.int k)) rs := ⟨a, ys, k, j, rs4, rfl, rfl, e, r, h⟩
end
section
variable {K : PySem.W.Frag} {tc : TDb K} {tb : TDs K} {d : DEnds K} {sl : List Sl} {rs : List (Rs K)} {b : Bool}
/-- a while's turn; m falls -/
def DWhK (W : Nat → List Sl → List (Rs K) → Prop) (m : Nat) (tb : TDs K) (d : DEnds K) (sl : List Sl) : Bool → List (Rs K) → Prop := fun b rs1 => if b = true then
  tb { d with nx := Gs fun sl' rs' => ∃ m', m' < m ∧ W m' sl' rs', ct := Gs fun sl' rs' => ∃ m', m' < m ∧ W m' sl' rs', bk := Gs d.nx } sl rs1 else Gs d.nx sl rs1
theorem s_while (W : Nat → List Sl → List (Rs K) → Prop) (m : Nat) (h0 : Gs (W m) sl rs) (hs : ∀ m sl rs, W m sl rs → tc sl rs d.xc (DWhK W m tb d sl)) : dWhile tc tb d sl rs := ⟨W, ⟨m, h0⟩, hs⟩
theorem s_whT {W : Nat → List Sl → List (Rs K) → Prop} {m : Nat} (e : b = true) (h : tb { d with nx := Gs fun sl' rs' => ∃ m', m' < m ∧ W m' sl' rs', ct := Gs fun sl' rs' => ∃ m', m' < m ∧ W m' sl' rs', bk := Gs d.nx } sl rs) : DWhK W m tb d sl b rs := by subst e; exact h
theorem s_whF {W : Nat → List Sl → List (Rs K) → Prop} {m : Nat} (e : b = false) (h : Gs d.nx sl rs) : DWhK W m tb d sl b rs := by subst e; exact h
end
end HC

/-! ### methods of texts, by data -/
namespace HC
open PyProof.Rows PySem L2 PySem.Spec
section
variable {X : Cx} {K : PySem.W.Frag} {E : XK} {e : Expr} {to te : TD K} {sl : List Sl} {rs : List (Rs K)} {xc : XD K} {q : QD K}
def M1Q (g : Sl → List Sl → List (Rs K) → QD K → Prop) (s : Str) (q : QD K) : QD K := fun z rs2 => g (.da (.str s)) [z] rs2 q
def M1K (g : Sl → List Sl → List (Rs K) → QD K → Prop) (te : TD K) (sl : List Sl) (xc : XD K) (q : QD K) : QD K := fun y rs1 => ∃ s, y = .da (.str s) ∧ te sl rs1 xc (M1Q g s q)
def dM1 (g : Sl → List Sl → List (Rs K) → QD K → Prop) (to te : TD K) : TD K := fun sl rs xc q => to sl rs xc (M1K g te sl xc q)
theorem s_m1 {g : Sl → List Sl → List (Rs K) → QD K → Prop} (h : to sl rs xc (M1K g te sl xc q)) : dM1 g to te sl rs xc q := h
theorem s_m1K {g : Sl → List Sl → List (Rs K) → QD K → Prop} {s : Str} (h : te sl rs xc (M1Q g s q)) : M1K g te sl xc q (.da (.str s)) rs := ⟨s, rfl, h⟩
theorem s_m1Q {g : Sl → List Sl → List (Rs K) → QD K → Prop} {s : Str} {z : Sl} (h : g (.da (.str s)) [z] rs q) : M1Q g s q z rs := h
end
end HC

/-! ### a def with *fields, by data -/
namespace HC
open PyProof.Rows PySem L2 PySem.Spec
section
variable {P : Program} {w : World} {K : PySem.W.Frag} {mg : Str → Option Value} {base : Heap} {k : Nat} {f : Addr}
/-- the promise towards the callers: the arguments behind the first are handed over one by one -/
def starD (D : SpD K) : SpD K := fun as rs xc q => ∃ y xs, as = y :: xs.map .da ∧ xs.length ≤ sizeLine ∧ D [y, .da (.tup xs)] rs xc q
theorem starD_ok {D : SpD K} {vs : List V} {H : Hp} {Q : VK} {E : XK} (h : spD (starD D) vs H Q E) : ∃ w0 rest, vs = w0 :: rest ∧ rest.length ≤ sizeLine ∧ ∀ p, H p = none → spD D [w0, V.ref p] (upd H p (.tup rest)) Q E := by
  obtain ⟨S0, as, rs, F, xc, q, A, r, ⟨y, xs, rfl, hz, h⟩, k, kx⟩ := h
  match vs, r with
  | w0 :: rest, .cons r0 r =>
    refine ⟨w0, rest, rfl, by rw [r.len, List.length_map]; exact hz, fun p hp => ?_⟩
    have s : Same H (upd H p (.tup rest)) := same_new hp
    have st := Stp.same (F := F) s
    have ev := st.ev A
    exact ⟨S0, _, rs, F, xc, q, A.same s, .cons (r0.ev ev) (.cons (.da (.tup upd_same (r.das.ev ev))) .nil), h, k.after st, kx.after st⟩
theorem star_ok {x qual : Str} {params : Arguments} {body : List Stmt} {scope : Scope} {fd : FuncData} {N : List Str} {p1 pv : Str} {D : SpD K} {t : TDs K} (F : FunD K x qual params body scope [] [] f fd) (S : FnScope N ([p1] ++ [pv]) scope)
    (h0 : ∀ (kV doc pm : Value) (an : Option Addr) (cdv ct : Value) (a : Value), bindArgs (PySem.W.fnOf x qual params body scope .none kV doc pm an cdv ct) ⟨[a], []⟩ = (newTuple [] >>= fun t => pure [(p1, a), (pv, t)]))
    (h1 : ∀ (kV doc pm : Value) (an : Option Addr) (cdv ct : Value) (a r : Value) (rs : List Value), bindArgs (PySem.W.fnOf x qual params body scope .none kV doc pm an cdv ct) ⟨a :: r :: rs, []⟩ = (newTuple (r :: rs) >>= fun t => pure [(p1, a), (pv, t)]))
    (run : ∀ (cdv : Value) (A : Around) (outer : List Env) (s : Shared) (H : Hp) (E : XK), Room k (A.deeper (envOfC qual scope s.heap.objs.size f cdv)) → PSs (cxOf (CXW P w) P w K mg base N qual scope f cdv A outer s H E) body (LS E t))
    (walk : ∀ as rs xc q, D as rs xc q → t (dEnds q xc) (startD N.length as) rs) : FnR P w K mg base (CXW P w) (k + 1) f (spD (starD D)) :=
  FnR.imp (fnr_star1 F S h0 h1 fun cdv A outer s H vs Q E hr h => body_ok (run cdv A outer s H E hr) walk h) fun vs H Q E h => starD_ok h
end
end HC

/-! ### x *= e, C( *xs) by data -/
namespace HC
open PyProof.Rows PySem L2 PySem.Spec
section
variable {X : Cx} {K : PySem.W.Frag} {E : XK} {a b c e o tg : Expr} {es : List Expr} {pos : Pos} {ta tb tc td te to : TD K} {ts : TDa K} {st : Stmt} {t u : TDs K} {sl : List Sl} {rs : List (Rs K)} {d : DEnds K} {q : QD K} {xc : XD K}
def AugV (i : Nat) (C : Int → Int → Prop) (f : Int → Int → Int) (a : Int) (d : DEnds K) (sl : List Sl) : QD K := fun y rs1 => ∃ b, y = .da (.int b) ∧ C a b ∧ d.nx (sl.set i (.da (.int (f a b)))) rs1
def dAugI (i : Nat) (C : Int → Int → Prop) (f : Int → Int → Int) (te : TD K) : TDs K := fun d sl rs => ∃ a, sl[i]? = some (.da (.int a)) ∧ te sl rs d.xc (AugV i C f a d sl)
theorem s_augI {i : Nat} {C : Int → Int → Prop} {f : Int → Int → Int} {a : Int} (e : sl[i]? = some (.da (.int a))) (h : te sl rs d.xc (AugV i C f a d sl)) : dAugI i C f te d sl rs := ⟨a, e, h⟩
theorem s_augV {i : Nat} {C : Int → Int → Prop} {f : Int → Int → Int} {a b : Int} {sl' : List Sl} (hc : C a b) (e : sl.set i (.da (.int (f a b))) = sl') (h : d.nx sl' rs) : AugV i C f a d sl (.da (.int b)) rs := ⟨b, rfl, hc, by rw [e]; exact h⟩
def Aug0V (i : Nat) (f : Int → Int → Int) (a : Int) (d : DEnds K) (sl : List Sl) : QD K := fun y rs1 => ∃ b, y = .da (.int b) ∧ d.nx (sl.set i (.da (.int (f a b)))) rs1
theorem s_aug0 {i : Nat} {f : Int → Int → Int} {a : Int} (e : sl[i]? = some (.da (.int a))) (h : te sl rs d.xc (Aug0V i f a d sl)) : dAug i f te d sl rs := ⟨a, e, h⟩
theorem s_aug0V {i : Nat} {f : Int → Int → Int} {a b : Int} {sl' : List Sl} (e : sl.set i (.da (.int (f a b))) = sl') (h : d.nx sl' rs) : Aug0V i f a d sl (.da (.int b)) rs := ⟨b, rfl, by rw [e]; exact h⟩
/-- C( *xs) -/
theorem d_makeS {C : Addr} {D D' : SpD K} (h : PE X e (StX.tMakeR C (spD D) E (tStar1 K (LE E te)))) (mk : Mks C D D') : PE X e (LE E (dMake D' (dStar1 te))) :=
  d_make (pe_weak h fun σ H Q h' => da_star1 h') mk
end
end HC

/-! ### dict(zip(..)) of tuples: a zip whose pair is still out, over any two that are drawn from -/
namespace HC
open PyProof.Rows PySem L2 PySem.Spec
section
variable {prog : Program} {w : World} {A : Around} {E : Value → Shared → Prop} {s : Shared} {z TI TO T i1 i2 : Addr} {fp1 fp2 : List Addr} {n1 n2 i : Nat} {P1 P2 : Nat → Value → Prop} {St1 St2 : Nat → Heap → Prop} {f : Bool} {oT : Obj}
end
/-! zip of two tuples, as the argument of dict() -/
section
variable {prog : Program} {w : World} {z TI TO i1 i2 l1 l2 : Addr} {xs ys : Array Value}
/-- the tuple that was handed out, or none yet -/
def ZipAt (z TI TO i1 i2 d : Addr) (h : Heap) : Prop := (IsZip h z TI TO .none ∧ ∃ a b, IsPair h TO a b) ∨ ∃ T f oT, IsZipHeld h z TI TO T f ∧ h.get? T = some oT ∧ T ≠ z ∧ T ≠ i1 ∧ T ≠ i2 ∧ T ≠ d
structure ZipSt (z TI TO i1 i2 l1 l2 d : Addr) (xs ys : Array Value) (i : Nat) (h : Heap) : Prop where
  pr : IsPair h TI (.ref i1) (.ref i2)
  a1 : h.IsTupleIter i1 l1 i
  a2 : h.IsTupleIter i2 l2 i
  b1 : h.IsTuple l1 xs
  b2 : h.IsTuple l2 ys
  zp : ZipAt z TI TO i1 i2 d h
end
/-! ### dict(zip(a, b)) as an expression -/
section
variable {X : Cx} {e1 e2 : Expr} {ta : TA} {p p2 pos zpos : Pos}
end
end HC

/-! ### dicts by data -/
namespace HC
open PyProof.Rows PySem L2 PySem.Spec
section
variable {X : Cx} {K : PySem.W.Frag} {E : XK} {e o : Expr} {ta tb te to : TD K} {ts : TDa K} {sl : List Sl} {rs rs' : List (Rs K)} {q : QD K} {xc : XD K} {y z : Sl}
theorem at_newD {S0 : Addr → Prop} {H : Hp} {F : List Addr} {p : Addr} {gs : List (Key × V)} {fs : List (Key × Sl)} (A : At K S0 H rs F) (hp : H p = none) (e : gs.map (·.1) = fs.map (·.1)) (r : VAll K (Mu S0 F) H (gs.map (·.2)) (fs.map (·.2))) : At K S0 (upd H p (.dK gs)) (dctR p fs :: rs) ([p] ++ F) ∧ Stp F H ([p] ++ F) (upd H p (.dK gs)) := by
  have s := same_new (o := .dK gs) hp
  have one : ∀ {b}, b ∈ [p] → b = p := fun h => List.mem_singleton.mp h
  refine A.new s (fun b hb => by rw [one hb]; exact hp) (by simp) (fun b hb => by rw [one hb, upd_same]; exact ⟨trivial, nofun⟩) ⟨rfl, gs, upd_same, e, r.ev (F := []) ⟨fun b m => ?_, fun b o _ h => ⟨o, s b o h, .refl o⟩, fun b o m _ => absurd m (by simp), fun a _ h => s a _ h⟩⟩
  rcases m with m | m
  · exact .inl (.inl m)
  · exact (List.mem_append.mp m).elim (fun m => .inr (by rw [one m]; exact hp)) fun m => .inl (.inr m)
def kvS (ks : List Str) (xs : List Da) : List (Key × Sl) := (ks.map Sum.inr).zip (xs.map .da)
/-- dict(zip(names, values)) -/
def DictZipK (q : QD K) : List Sl → List (Rs K) → Prop := fun ys rs1 => ∃ y z ks xs, ys = [y, z] ∧ TI2 y ((ks.map Da.str).map .da) ∧ TI2 z (xs.map .da) ∧ ks.Nodup ∧ ks.length = xs.length ∧ ∀ p, q (.raw (.ref p)) (dctR p (kvS ks xs) :: rs1)
def dDictZip (ts : TDa K) : TD K := fun sl rs xc q => ts sl rs xc (DictZipK q)
theorem s_dictZip (h : ts sl rs xc (DictZipK q)) : dDictZip ts sl rs xc q := h
/-- list(d.items()) -/
def kD : Key → Da
  | .inl i => .int i
  | .inr s => .str s
def ItemsK (q : QD K) : QD K := fun y rs => ∃ (a : Addr) (fs : List (Key × Da)) (rs' : List (Rs K)), y = .raw (.ref a) ∧ Ext (dctR a (fs.map fun f => (f.1, .da f.2))) rs rs' ∧ (∀ f ∈ fs, ∀ s, f.1 = .inr s → PyData.strOk s = true) ∧ q (.da (.lst (fs.map fun f => .tup [kD f.1, f.2]))) rs
def dItems (te : TD K) : TD K := fun sl rs xc q => te sl rs xc (ItemsK q)
theorem s_items (h : te sl rs xc (ItemsK q)) : dItems te sl rs xc q := h
end
end HC

/-! ### lambdas by data: the table of the maker's code objects, the lambda's value, a def that is given a lambda -/
namespace HC
open PyProof.Rows PySem L2 PySem.Spec LamX
theorem lk_ext {φ : Heap → Prop} {o : HO} (h : Lk (.ext φ) o) : o = .ext φ := by cases h; rfl
section
variable {X : Cx} {K : PySem.W.Frag} {E : XK} {e : Expr} {te tb : TD K} {sl : List Sl} {rs rs' : List (Rs K)} {q : QD K} {xc : XD K} {S S' S0 : Addr → Prop} {H H' H1 : Hp} {F G : List Addr} {P : Addr} {nm : Str}
theorem Ev.ext (e : Ev K S S' H H' F) {a : Addr} {φ : Heap → Prop} (n : ¬ S a) (h : H a = some (.ext φ)) : ¬ S' a ∧ H' a = some (.ext φ) := by
  obtain ⟨o, h1, h2⟩ := e.keep _ _ n h
  cases lk_ext h2
  exact ⟨e.off n h, h1⟩
/-- the table at P of the code objects of the name nm -/
def tabR (P : Addr) (nm : Str) : Rs K where
  p S H F := F = [P] ∧ ∃ ps : Array Value, H P = some (.tbl ps) ∧ TriplesOk ps.toList ∧ ∀ pos cv, codeAmong pos ps.toList = some cv → ∃ c, cv = .ref c ∧ ¬ S c ∧ H c = some (CodeO c nm)
  stb := fun {S S' H H' F} h e => by
    obtain ⟨rfl, ps, h1, h2, h3⟩ := h
    refine ⟨rfl, ps, e.own _ _ (List.mem_singleton.mpr rfl) h1, h2, fun pos cv hc => ?_⟩
    obtain ⟨c, e1, n, at_⟩ := h3 pos cv hc
    exact ⟨c, e1, e.ext n at_⟩
/-- f is the lambda l of the frame env -/
def lamR (env : Env) (f : Addr) (l : LF) (d : Option V) : Rs K where
  p S H F := F = [] ∧ ∃ (c : Addr) (dV : Value), ¬ S f ∧ ¬ S c ∧ H f = some (LamO f (env.qual ++ "<lambda>") l (cloFrom env.cells l.scope.names []) dV c) ∧ H c = some (CodeO c (env.qual ++ "<lambda>")) ∧ (d = none ∧ dV = .none ∨ ∃ v T0, d = some v ∧ dV = .ref T0 ∧ H T0 = some (.tup [v]))
  stb := fun {S S' H H' F} h e => by
    obtain ⟨rfl, c, dV, n1, n2, h1, h2, h3⟩ := h
    obtain ⟨m1, g1⟩ := e.ext n1 h1
    obtain ⟨m2, g2⟩ := e.ext n2 h2
    exact ⟨rfl, c, dV, m1, m2, g1, g2, h3.imp id fun ⟨v, T0, a, b, z⟩ => ⟨v, T0, a, b, e.tk _ _ z⟩⟩
theorem At.tabS (A : At K S0 H rs F) (ex : Ext (tabR P nm) rs rs') : TabS H P nm ∧ P ∈ F := by
  obtain ⟨G, ⟨rfl, ps, h1, h2, h3⟩, hm⟩ := A.get ex
  exact ⟨⟨ps, h1, h2, fun pos cv hc => let ⟨c, e, _, at_⟩ := h3 pos cv hc; ⟨c, e, at_⟩⟩, hm P (List.mem_singleton.mpr rfl)⟩
theorem ext_notS (A : At K S0 H rs F) {c : Addr} {φ : Heap → Prop} (h : H c = none ∨ H c = some (.ext φ)) : ¬ Mu S0 F c := fun m => by
  obtain ⟨n, l⟩ := A.liv c m
  rcases h with h | h
  · exact l h
  · rw [h] at n; exact n
/-- the table at P is written, all else stands -/
theorem At.tab (A : At K S0 H rs F) (ex : Ext (tabR P nm) rs rs') (kp : ∀ b o, b ≠ P → H b = some o → H1 b = some o) (tab : TabS H1 P nm) : ∃ F', F.Perm F' ∧ At K S0 H1 rs F' ∧ Stp F H F' H1 := by
  obtain ⟨ps, t1, t2, t3⟩ := tab
  obtain ⟨F1, p, A1⟩ := A.perm ex.perm
  obtain ⟨G, F2, rfl, ⟨rfl, ps0, g1, g2, g3⟩, hs⟩ := A1.sep
  have dis : ∀ b ∈ F2, b ≠ P := fun b hb e => (List.nodup_append.mp A1.nd).2.2 P (List.mem_singleton.mpr rfl) b hb e.symm
  have mine : ∀ {b}, b = P → b ∈ [P] ++ F2 := fun e => List.mem_append_left _ (List.mem_singleton.mpr e)
  have st : Stp ([P] ++ F2) H ([P] ++ F2) H1 := ⟨fun b o n h => kp b o (fun e => n (mine e)) h, fun b hb => .inl hb⟩
  have ev : Ev K (Mu S0 ([P] ++ F2)) (Mu S0 ([P] ++ F2)) H H1 F2 := ⟨fun b z => .inl z, fun b o n h => ⟨o, kp b o (fun e => n (.inr (mine e))) h, .refl o⟩, fun b o hb h => kp b o (dis b hb) h, fun a xs h => kp a _ (fun e => by rw [e, g1] at h; cases h) h⟩
  have B : At K S0 H1 (tabR P nm :: rs') ([P] ++ F2) := by
    refine ⟨⟨[P], F2, rfl, ⟨rfl, ps, t1, t2, fun pos cv hc => ?_⟩, hs.ev ev fun _ h => h⟩, A1.nd, A1.off, fun b hb => ?_⟩
    · obtain ⟨c, e, at_⟩ := t3 pos cv hc
      refine ⟨c, e, ?_, at_⟩
      cases z : H c with
      | none => exact ext_notS A1 (φ := fun _ => True) (.inl z)
      | some o =>
        by_cases cp : c = P
        · rw [cp, t1] at at_; cases at_
        · have := kp c o cp z
          rw [at_] at this
          cases this
          exact ext_notS A1 (.inr z)
    · by_cases e : b = P
      · rw [e, t1]; exact ⟨trivial, nofun⟩
      · obtain ⟨n, l⟩ := A1.liv b hb
        cases z : H b with
        | none => exact absurd z l
        | some o => rw [kp b o e z]; rw [z] at n; exact ⟨n, nofun⟩
  obtain ⟨F3, p3, C⟩ := B.perm ex.perm.symm
  exact ⟨F3, p.trans p3, C, st.perm p.symm p3⟩
/-- a resource that holds no address -/
theorem At.pure (A : At K S0 H rs F) {R : Rs K} (h : R.p (Mu S0 F) H []) : At K S0 H (R :: rs) F := ⟨⟨[], F, rfl, h, A.sep⟩, A.nd, A.off, A.liv⟩
/-- a lambda -/
def dLam (P : Addr) (nm : Str) (env : Env) (l : LF) (d : Option V) : TD K := fun _ rs _ q => (∃ rs', Ext (tabR P nm) rs rs') ∧ ∀ f, q (.raw (.ref f)) (lamR env f l d :: rs)
theorem d_lam {env : Env} {l : LF} {d : Option V} (h : PE X e (tLamK P nm env l d)) : PE X e (LE E (dLam (K := K) P nm env l d)) := pe_weak h fun σ H Q ⟨S0, sl, rs, F, xc, q, N, ⟨⟨rs', ex⟩, t⟩, k, kx⟩ => by
  refine ⟨(N.at_.tabS ex).1, fun f H1 nf kp tab isl => ?_⟩
  obtain ⟨F', p, A, st⟩ := N.at_.tab ex kp tab
  obtain ⟨c, dV, g1, g2, g3⟩ := isl
  exact k (.ref f) _ _ F' H1 st (A.pure (R := lamR env f l d) ⟨rfl, c, dV, ext_notS A (.inr g1), ext_notS A (.inr g2), g1, g2, g3⟩) (.raw _) (t f)
/-! a def that is given a lambda, in the maker's own frame -/
/-- it asks for the lambda's outcome: EE, what becomes of an exception, QQ, of a value -/
abbrev TTof (EE : VK → XK) (QQ : VK → VK) : (XK → Hp → VK → Prop) → Hp → VK → Prop := fun tl H Q => tl (EE Q) H (QQ Q)
structure Tells (K : PySem.W.Frag) (EE : VK → XK) (QQ : VK → VK) (xD : QD K → XD K) (qD : QD K → QD K) : Prop where
  x : ∀ {S0 : Addr → Prop} {F : List Addr} {H : Hp} {q : QD K} {Q : VK}, Out S0 F H q Q → OutX S0 F H (xD q) (EE Q)
  q : ∀ {S0 : Addr → Prop} {F : List Addr} {H : Hp} {q : QD K} {Q : VK}, Out S0 F H q Q → Out S0 F H (qD q) (QQ Q)
def dOutD (P : Addr) (nm : Str) (xD : QD K → XD K) (qD : QD K → QD K) (tb : TD K) : TD K := fun sl rs _ q => (∃ rs', Ext (tabR P nm) rs rs') ∧ tb sl rs (xD q) (qD q)
theorem d_outD {EE : VK → XK} {QQ : VK → VK} {xD : QD K → XD K} {qD : QD K → QD K} {k : Nat} {l : LF} {d : Option V} (tl : Tells K EE QQ xD qD) (h : PE X e (fun σ H Q => tOut X k (TTof EE QQ) (tLamK P nm X.env l d) σ σ H Q)) (B : BodyR X k l d fun E => LE E tb) : PE X e (LE E (dOutD P nm xD qD tb)) := pe_weak h fun σ H Q ⟨S0, sl, rs, F, xc, q, N, ⟨⟨rs', ex⟩, t⟩, kq, kx⟩ => by
  refine ⟨(N.at_.tabS ex).1, fun f H1 nf kp tab isl => ?_⟩
  obtain ⟨F', p, A, st⟩ := N.at_.tab ex kp tab
  refine ⟨f, l, d, _, rfl, B, isl, ⟨S0, sl, rs, F', xD q, qD q, ⟨A, N.sl.ev (st.ev N.at_)⟩, t, tl.q (kq.after st), tl.x (kq.after st)⟩⟩
theorem s_outD {xD : QD K → XD K} {qD : QD K → QD K} {tb : TD K} (ex : Ext (tabR P nm) rs rs') (h : tb sl rs (xD q) (qD q)) : dOutD P nm xD qD tb sl rs xc q := ⟨⟨rs', ex⟩, h⟩
end
end HC
namespace HC
open PyProof.Rows PySem L2 PySem.Spec LamX
section
variable {X : Cx} {K : PySem.W.Frag} {E : XK} {e : Expr} {te : TD K} {sl : List Sl} {rs : List (Rs K)} {q : QD K} {xc : XD K}
/-- a ghost step behind an expression -/
def dGv (te : TD K) : TD K := fun sl rs xc q => te sl rs xc (Gv q)
theorem d_gv (h : PE X e (LE E te)) : PE X e (LE E (dGv te)) := pe_weak h fun σ H Q ⟨S0, sl, rs, F, xc, q, N, t, k, kx⟩ => ⟨S0, sl, rs, F, xc, Gv q, N, t, out_gv k, kx⟩
theorem s_gv (h : te sl rs xc (Gv q)) : dGv te sl rs xc q := h
end
end HC

/-! ### a list taken apart -/
namespace HC
open PyProof.Rows PySem L2 PySem.Spec
section
variable {X : Cx} {K : PySem.W.Frag} {E : XK} {es : List Expr} {pos : Pos} {sl : List Sl} {rs : List (Rs K)} {y : Sl} {ys : List Sl}
theorem NlL.ok {S0 : Addr → Prop} {H : Hp} {F : List Addr} {v : V} (i : NlL rs y ys) (A : At K S0 H rs F) (r : VOk K (Mu S0 F) H v y) : ∃ a vs, v = .ref a ∧ H a = some (.lst vs) ∧ VAll K (Mu S0 F) H vs ys := by
  cases i with
  | lst xs => cases r with | da r => cases r with | lst _ h1 h2 => exact ⟨_, _, rfl, h1, h2.vall⟩
  | raw e => cases r; obtain ⟨vs, h1, h2, _⟩ := A.lst e; exact ⟨_, vs, rfl, h1, h2⟩
def gdUnl (n : Nat) (g : TDgs K) : TDg K := fun y sl rs q => ∃ ys, NlL rs y ys ∧ ys.length = n ∧ g ys sl rs q
theorem s_gunl {n : Nat} {g : TDgs K} {q : List Sl → List (Rs K) → Prop} (i : NlL rs y ys) (hn : ys.length = n) (h : g ys sl rs q) : gdUnl n g y sl rs q := ⟨ys, i, hn, h⟩
end
end HC

/-! ### more steps by data -/
namespace HC
open PyProof.Rows PySem L2 PySem.Spec
section
variable {K : PySem.W.Frag} {rs : List (Rs K)} {a b c d e : Da}
theorem nl2 : NlL rs (.da (.lst [a, b])) [.da a, .da b] := .lst _
theorem nl3 : NlL rs (.da (.lst [a, b, c])) [.da a, .da b, .da c] := .lst _
theorem nl4 : NlL rs (.da (.lst [a, b, c, d])) [.da a, .da b, .da c, .da d] := .lst _
theorem nl5 : NlL rs (.da (.lst [a, b, c, d, e])) [.da a, .da b, .da c, .da d, .da e] := .lst _
end
section
variable {K : PySem.W.Frag} {rs rs' : List (Rs K)} {ta : TD K} {sl : List Sl} {xc : XD K} {q : QD K} {C : Addr} {m : Str} {D : SpD K}
def Meth0K (C : Addr) (m : Str) (D : SpD K) (xc : XD K) (q : QD K) : QD K := fun y rs => (∃ nm, IsO rs y C nm ∧ m ∉ nm) ∧ Ask D [y] rs xc q
theorem s_meth0 (h : ta sl rs xc (Meth0K C m D xc q)) : dMeth0 C m D ta sl rs xc q := h
theorem s_meth0D {fs : List (Str × Da)} (n : m ∉ fs.map (·.1)) (h : Ask D [.da (.obj C fs)] rs xc q) : Meth0K C m D xc q (.da (.obj C fs)) rs := ⟨⟨_, .da fs, n⟩, h⟩
theorem s_meth0R {a : Addr} {fs : List (Str × Sl)} (e : Ext (objR a C fs) rs rs') (n : m ∉ fs.map (·.1)) (h : Ask D [.raw (.ref a)] rs xc q) : Meth0K C m D xc q (.raw (.ref a)) rs := ⟨⟨_, .raw e, n⟩, h⟩
end
section
variable {α : Type} {xs : List α}
end
end HC

/-! ### what a lambda's body lets out, its maker given -/
namespace HC
open PyProof.Rows PySem L2 PySem.Spec LamX
theorem pz_lamL {X : Cx} {A : Around} {outer : List Env} {s : Shared} {H : Hp} {E : XK} {scope : Scope} {f c' : Addr} : Passes (CXW (lamCx X A outer s H E scope f c').prog (lamCx X A outer s H E scope f c').w) (lamCx X A outer s H E scope f c') E := pz_lam (X := X)
end HC

/-! ### match over tuples: cases of a text and names -/
namespace HC
open PyProof.Rows PySem L2 PySem.Spec
/-- the cases from here on read as t, of the subject -/
structure CSs (X : Cx) (cs : List MatchCase) (t : V → TS) : Prop where
  run : ∀ (first : Bool) (pins : List (Addr × Obj)) (s : Shared) (σ : L2.St) (H : Hp) (D : Ends) (v : V) (u : Value), L2.Inv X pins σ H s → RelV v u → t v D σ H → wpAny (model X.prog X.w) X.A (matchCases cs X.env u first) (SP X pins D) X.xe s
section
variable {X : Cx} {e : Expr} {te : TE} {cs rest : List MatchCase} {tc tr : V → TS} {tb : TS} {pos : Pos} {body : List Stmt}
/-- patterns that catch an item each: the names, their slots -/
inductive Caps (X : Cx) : List Pattern → List Str → List Nat → Prop
  | nil : Caps X [] [] []
  | cons {i : Nat} {x : Str} {p : Pos} {ps : List Pattern} {xs : List Str} {is : List Nat} (hi : X.N[i]? = some x) (hx : Loc X.env.scope x) (hf : X.fn x = true ∨ X.env.scope.names.lookup x = some .local) : Caps X ps xs is → Caps X (.MatchAs none (some x) p :: ps) (x :: xs) (i :: is)
def capB : List Str → List Value → List (Str × Value)
  | x :: xs, u :: us => (x, u) :: capB xs us
  | _, _ => []
def sets (σ : L2.St) : List Nat → List V → L2.St
  | i :: is, v :: vs => sets (σ.set i (some v)) is vs
  | _, _ => σ
theorem Caps.star {ps : List Pattern} {xs : List Str} {is : List Nat} (h : Caps X ps xs is) : ps.findIdx? (·.isStar) = none := by
  induction h with
  | nil => rfl
  | cons _ _ _ _ ih => rw [List.findIdx?_cons, ih]; rfl
theorem Caps.len {ps : List Pattern} {xs : List Str} {is : List Nat} (h : Caps X ps xs is) : ps.length = is.length := by
  induction h with
  | nil => rfl
  | cons _ _ _ _ ih => simp [ih]
theorem Caps.each {A : Around} {M : Model} {E : Value → Shared → Prop} {env : Env} {ps : List Pattern} {xs : List Str} {is : List Nat} (h : Caps X ps xs is) : ∀ {us : List Value} {s : Shared} {Q : Option (List (Str × Value)) → Shared → Prop}, us.length = is.length → Q (some (capB xs us)) s → wpAny M A (matchEach ps env us) Q E s := by
  induction h with
  | nil => intro us s Q _ h; exact wpAny_matchEach_nil (by cases us <;> exact h)
  | cons _ _ _ _ ih =>
    intro us s Q l h
    match us, l with
    | u :: us, l => exact wpAny_matchEach_cons (wpAny_matchPattern_Capture (ih (by simpa using l) h))
theorem Caps.bind {pins : List (Addr × Obj)} (hN : X.N.Nodup) {ps : List Pattern} {xs : List Str} {is : List Nat} (h : Caps X ps xs is) : ∀ {us : List Value} {vs : List V} {s : Shared} {σ : L2.St} {H : Hp} {Q : Unit → Shared → Prop}, L2.Inv X pins σ H s → Vals vs us → vs.length = is.length → (∀ s', L2.Inv X pins (sets σ is vs) H s' → Q () s') →
    wpAny (model X.prog X.w) X.A (assignInOrder ((capB xs us).map fun (n, _) => bindName X.env n) ((capB xs us).map (·.2))) Q X.xe s := by
  induction h with
  | nil => intro us vs s σ H Q I r l k; cases us <;> exact wpAny_assignInOrder_none (k s (by cases vs <;> exact I))
  | cons hi hx hf _ ih =>
    intro us vs s σ H Q I r l k
    cases r with
    | nil => cases l
    | cons r1 r2 => exact wpAny_assignInOrder_more (wpAny_bindName (store_ok I hN hi hx r1 (fun s' I' => ih I' r2 (by simpa using l) k) hf))
end
/-! by data -/
section
variable {X : Cx} {K : PySem.W.Frag} {E : XK} {e : Expr} {te : TD K} {cs rest : List MatchCase} {dc u : Sl → TDs K} {t : TDs K} {pos : Pos} {body : List Stmt}
variable {d : DEnds K} {sl : List Sl} {rs : List (Rs K)} {y : Sl} {z z0 : Str} {x : Da} {xs : List Da} {is : List Nat}
end
end HC

/-! ### try: body / except C: pre; raise -/
namespace HC
open PyProof.Rows PySem L2 PySem.Spec
/-- the heap without the object at a -/
def drop (h : Heap) (a : Addr) : Heap := h.update a fun _ => ⟨.none, none, .freed, #[]⟩
theorem drop_gone (h : Heap) (a : Addr) : (drop h a).get? a = none := by
  obtain ⟨objs, l⟩ := h
  simp only [drop, Heap.update, Heap.get?, Array.getElem?_modify, if_true]
  cases objs[a]? <;> rfl
theorem drop_but (h : Heap) (a : Addr) : Heap.SameBut a h (drop h a) := ⟨by obtain ⟨objs, l⟩ := h; simp [drop, Heap.update], fun b n => Heap.get?_update_other h _ (Ne.symm n)⟩
section
variable {X : Cx} {pins : List (Addr × Obj)} {σ : L2.St} {H : Hp} {a : Addr} {s : Shared} {oe : Obj} {vs : Array Value}
theorem inv_drop (I : L2.Inv X pins σ H s) (na : H a = none) (at_ : s.heap.get? a = some oe) (dat : oe.data = .fields vs) (old : X.s_0.heap.get? a = none) (np : ∀ p ∈ X.pn ++ pins, p.1 ≠ a) (nl : a ≠ X.env.locals) : L2.Inv X pins σ H { s with heap := drop s.heap a } := by
  have hs := drop_but s.heap a
  have nc : ∀ x c, X.env.cells.lookup x = some c → c ≠ a := fun x c e q => by
    have ⟨v, o, ho, hd⟩ := I.cell x c e
    rw [q, at_] at ho
    cases ho
    rw [dat] at hd
    cases hd
  have ne0 : ∀ {b o}, X.s_0.heap.get? b = some o → b ≠ a := fun e q => by rw [q, old] at e; cases e
  rcases I.loc with ⟨m, hn, hl⟩
  refine ⟨I.ok, I.os, I.bare, ⟨fun b o e n hb hx => (hs.2 b (ne0 e)).trans (I.base.keep b o e n hb hx), fun b o e n hb hx => ?_, I.base.free, fun b o e hx => ?_, I.base.tups, I.base.frzs, I.base.tbls⟩, ⟨m, hn.sameBut hs (Ne.symm nl), fun j y v e1 e2 e3 => ?_⟩, fun y c e => ?_, I.free, I.freeC, fun p hp => ?_, fun b o e => ?_, I.len⟩
  · obtain ⟨sl, z⟩ := I.base.slot b o e n hb hx
    exact ⟨sl, (hs.2 b (ne0 e)).trans z⟩
  · obtain ⟨o', z⟩ := I.base.there b o e hx
    exact ⟨o', (hs.2 b (ne0 e)).trans z⟩
  · obtain ⟨u, r, q⟩ := hl j y v e1 e2 e3
    exact ⟨u, r, q.imp id fun ⟨k, c, e, z⟩ => ⟨k, c, e, z.sameBut hs (nc y c e)⟩⟩
  · obtain ⟨v, z⟩ := I.cell y c e
    exact ⟨v, z.sameBut hs (nc y c e)⟩
  · obtain ⟨e, r⟩ := I.pin p hp
    exact ⟨(hs.2 p.1 (np p hp)).trans e, r⟩
  · refine (I.hok b o e).stay (fun c w hc q => (hs.2 c ?_).trans q) (fun _ q => q) fun _ _ q => q
    rintro rfl
    rcases hc with rfl | hc
    · rw [na] at e; cases e
    · rw [na] at hc; cases hc
theorem drops_gone {b : Addr} : ∀ (l : List Addr) (h : Heap), (b ∈ l ∨ h.get? b = none) → (l.foldl drop h).get? b = none
  | [], h, z => z.elim nofun id
  | c :: l, h, z => by
    refine drops_gone l (drop h c) ?_
    by_cases e : b = c
    · subst e; exact .inr (drop_gone h b)
    · rcases z with m | g
      · exact .inl ((List.mem_cons.mp m).resolve_left e)
      · exact .inr (((drop_but h c).2 b e).trans g)
theorem drops_same {b : Addr} : ∀ (l : List Addr) (h : Heap), b ∉ l → (l.foldl drop h).get? b = h.get? b
  | [], h, _ => rfl
  | c :: l, h, n => (drops_same l (drop h c) fun m => n (.tail _ m)).trans ((drop_but h c).2 b fun e => n (e ▸ .head _))
theorem frames_to {h h' B B' : Heap} : ∀ {l : List Env}, h.FunFrames B l → (∀ L ∈ frs l, B'.get? L = none) → (∀ L ∈ frs l, h'.get? L = h.get? L) → h'.FunFrames B' l
  | [], _, _, _ => trivial
  | e :: l, ⟨k, ⟨L, o, fr, _, at_, no⟩, r⟩, g, s => by
    have m : L ∈ frs (e :: l) := List.mem_filterMap.mpr ⟨e, .head _, fr⟩
    have sub : ∀ {x}, x ∈ frs l → x ∈ frs (e :: l) := fun hx => by
      obtain ⟨e2, he, q⟩ := List.mem_filterMap.mp hx
      exact List.mem_filterMap.mpr ⟨e2, .tail _ he, q⟩
    exact ⟨k, ⟨L, o, fr, g L m, (s L m).trans at_, no⟩, frames_to r (fun x hx => g x (sub hx)) fun x hx => s x (sub hx)⟩
end
/-- the exception at a is caught; its context is None -/
structure CaughtN (X : Cx) (pins : List (Addr × Obj)) (σ : L2.St) (H : Hp) (a : Addr) (cls : Value) (d : Option Addr) (s : Shared) : Prop where
  ex : ∃ (B : Heap) (sI : Shared), L2.Inv X pins σ H sI ∧ (∀ b o, sI.heap.get? b = some o → b ∉ frs X.stack → B.get? b = some o) ∧ sI.heap.UpToSlots s.heap ∧ HandSPX.FlyingZ B X.stack a (L2N.Zn cls d) s.heap ∧ s.os = sI.os ∧ AllBare s.gens
  na : H a = none
section
variable {X : Cx} {pins : List (Addr × Obj)} {σ : L2.St} {H : Hp} {a : Addr} {cls : Value} {d : Option Addr} {s : Shared} {D : Ends}
theorem CaughtN.zc (c : CaughtN X pins σ H a cls d s) : Caught X pins σ H a cls d s := by
  obtain ⟨⟨B, sI, J, nb, up, fly, os, ag⟩, na⟩ := c
  exact ⟨⟨B, sI, J, nb, up, L2H.flyingZ_imp (fun _ z => z.zc) fly, os, ag⟩, na⟩
theorem CaughtN.on {Wout : WX} (c : CaughtN X pins σ H a cls d s) (hs : X.stack = X.env :: X.outer) (hf : X.env.frame = some X.env.locals) (tk : L2N.Takes X Wout) (w : Wout cls d σ H) : wpAny (model X.prog X.w) X.A (handleBy (.ref a) X.env []) (SP X pins D) X.xe s := by
  have go : ∀ h4, HandSPX.HeldZ (c.ex.choose) X.stack a (L2N.Zn cls d) X.env.locals h4 → s.heap.UpToSlots h4 → X.xe (.ref a) { s with heap := h4 } := fun h4 held up4 => by
    obtain ⟨sI, J, nb, up, fly, os, ag⟩ := c.ex.choose_spec
    exact tk _ _ ⟨a, _, sI, pins, σ, H, cls, d, rfl, J, nb, up.trans up4, .inr (.inr held), c.na, os, ag, w⟩
  obtain ⟨sI, J, nb, up, fly, os, ag⟩ := c.ex.choose_spec
  obtain ⟨_, _, _, oe, vs, T, oT, ts, at_, _, dat, first, _⟩ := id fly
  have fin : wpAny (model X.prog X.w) X.A (setFlight (.ref a) X.env.frame) (fun _ s4 => wpAny (model X.prog X.w) X.A (throw (.ref a) : Sem Flow) (SP X pins D) X.xe s4) X.xe s := by
    rw [hf]
    exact HandSPX.setFlight_upZ fly fun h4 held up4 => wpAny_throw (go h4 held up4)
  have body : wpAny (model X.prog X.w) X.A (PySem.passOn "try.no-clause-matches" (.ref a) X.env) (SP X pins D) X.xe s := by
    unfold PySem.passOn
    refine wpAny_bind (wpAny_field at_ dat first ?_)
    rw [if_neg (show ¬ (Value.ref T == Value.none) = true by simp)]
    first | exact wpAny_bind fin | exact wpAny_bind (wpAny_pure (wpAny_bind fin))
  exact wpAny_handleBy_nil body
theorem CaughtN.again {A : Around} {Q : Unit → Shared → Prop} {E : Value → Shared → Prop} (c : CaughtN X pins σ H a cls d s) (k : ∀ h, CaughtN X pins σ H a cls d { s with heap := h } → Q () { s with heap := h }) : wpAny (model X.prog X.w) A (setFlight (.ref a) none) Q E s := by
  obtain ⟨⟨B, sI, J, nb, up, fly, os, ag⟩, na⟩ := c
  exact HandSPX.lands_againZ fly fun h fly' up' => k h ⟨⟨B, sI, J, nb, up.trans up', fly', os, ag⟩, na⟩
end
section
variable {X : Cx} {pins : List (Addr × Obj)} {σ : L2.St} {H : Hp} {a : Addr} {cls : Value} {d : Option Addr} {s : Shared} {D : Ends}
/-- a caught exception and its traceback are held for a suite, which may let it fly again -/
theorem CaughtN.hold {Wout : WX} (hs : X.stack = X.env :: X.outer) (hf : X.env.frame = some X.env.locals) (tk : L2N.Takes X Wout) (ok : X.Ok) (hex : X.ex = []) (c : CaughtN X pins σ H a cls d s) :
    ∃ oe vs T oT ts, s.heap.get? a = some oe ∧ L2N.Zn cls d oe ∧ oe.data = .fields vs ∧ vs[1]? = some (.ref T) ∧ s.heap.get? T = some oT ∧ oT.data = .fields ts ∧ 3 < ts.size ∧ L2.Inv (X.suite a ((a, oe) :: (X.pn ++ (T, oT) :: pins))) [] σ H s ∧
      ∀ σ6 H6 s6, L2.Inv (X.suite a ((a, oe) :: (X.pn ++ (T, oT) :: pins))) [] σ6 H6 s6 → s6.heap.get? a = some oe ∧ s6.heap.get? T = some oT ∧ L2.Inv X pins σ6 H6 s6 ∧ (Wout cls d σ6 H6 → X.xe (.ref a) { s6 with heap := s6.heap.update T (Obj.mapFields (·.setIfInBounds 3 (rawInt X.env.locals))) }) := by
  obtain ⟨⟨B, sI, J, nb, up, fly, os, ag⟩, na⟩ := c
  obtain ⟨st, ga, ff, oe, vs, T, oT, ts, at_, z, dat, h1, gT, neT, atT, datT, h3⟩ := id fly
  have I := J.landed nb st up os ag
  have noFr : ∀ {b : Addr} {o : Obj} {vs : Array Value}, s.heap.get? b = some o → o.data = .fields vs → b ∉ frs X.stack := fun e dd m => by
    obtain ⟨_, o', e', no'⟩ := ff.mem m
    cases e.symm.trans e'
    exact no' _ dd
  have notIn : ∀ {b : Addr} {o : Obj} {vs : Array Value}, s.heap.get? b = some o → o.data = .fields vs → B.get? b = none → sI.heap.get? b = none := fun {b o vs} e dd g => by
    cases q : sI.heap.get? b with
    | none => rfl
    | some o' => rw [nb b o' q (noFr e dd)] at g; cases g
  have locF : X.env.locals ∈ frs X.stack := List.mem_filterMap.mpr ⟨X.env, by rw [hs]; exact .head _, hf⟩
  have offF : ∀ {b : Addr}, b ∉ frs X.stack → b ∉ X.fs := fun n m => n (by
    obtain ⟨e, he, q⟩ := List.mem_filterMap.mp m
    exact List.mem_filterMap.mpr ⟨e, by rw [hs]; exact .tail _ he, q⟩)
  have nT : H T = none := J.hok.gone (notIn atT datT gT)
  have held : ∀ p ∈ X.pn ++ (T, oT) :: pins, s.heap.get? p.1 = some p.2 ∧ H p.1 = none ∧ p.1 ≠ X.env.locals ∧ p.1 ∉ X.fs ∧ ∀ v, p.2.data ≠ .cell v := fun p hp => by
    rcases List.mem_append.mp hp with m | m
    · exact I.pin p (List.mem_append_left _ m)
    · rcases List.mem_cons.mp m with rfl | m
      · exact ⟨atT, nT, fun e => noFr atT datT (by rw [show T = X.env.locals from e]; exact locF), offF (noFr atT datT), fun v q => by rw [datT] at q; cases q⟩
      · exact I.pin p (List.mem_append_right _ m)
  have I2 : L2.Inv X ((T, oT) :: pins) σ H s := { I with pin := held }
  have S := I2.suite at_ dat na (fun e => noFr at_ dat (by rw [e]; exact locF)) (offF (noFr at_ dat))
  refine ⟨oe, vs, T, oT, ts, at_, z, dat, h1, atT, datT, (Array.getElem?_eq_some_iff.mp h3).1, S, fun σ6 H6 s6 S6 => ?_⟩
  have at6 := S6.pin (a, oe) (List.mem_append_left _ (.head _))
  have I6 : L2.Inv X ((T, oT) :: pins) σ6 H6 s6 := S6.unsuite ok
  have atT6 := I6.pin (T, oT) (List.mem_append_right _ (.head _))
  have I7 : L2.Inv X pins σ6 H6 s6 := { I6 with pin := fun p hp => I6.pin p (List.mem_append.mpr ((List.mem_append.mp hp).imp id (List.mem_cons_of_mem _))) }
  refine ⟨at6.1, atT6.1, I7, fun w6 => ?_⟩
  have old : ∀ {b : Addr}, sI.heap.get? b = none → X.s_0.heap.get? b = none := fun {b} g => by
    cases q : X.s_0.heap.get? b with
    | none => rfl
    | some o =>
      obtain ⟨o', e⟩ := J.base.there b o q (by rw [hex]; exact nofun)
      rw [g] at e; cases e
  have np : ∀ {b : Addr}, sI.heap.get? b = none → ∀ p ∈ X.pn ++ pins, p.1 ≠ b := fun {b} g p hp e => by
    have := (J.pin p hp).1
    rw [e, g] at this; cases this
  have gA := notIn at_ dat ga
  have gT2 := notIn atT datT gT
  have D1 := inv_drop I7 at6.2.1 at6.1 dat (old gA) (np gA) at6.2.2.1
  have D2 := inv_drop D1 atT6.2.1 (((drop_but s6.heap a).2 T neT).trans atT6.1) datT (old gT2) (np gT2) atT6.2.2.1
  have h7 : ∀ {b : Addr}, b ≠ T → (s6.heap.update T (Obj.mapFields (·.setIfInBounds 3 (rawInt X.env.locals)))).get? b = s6.heap.get? b := fun n => Heap.get?_update_other _ _ (Ne.symm n)
  have d7 : ∀ {b : Addr}, b ≠ a → b ≠ T → (drop (drop s6.heap a) T).get? b = s6.heap.get? b := fun n1 n2 => ((drop_but _ T).2 _ n2).trans ((drop_but s6.heap a).2 _ n1)
  have aF := noFr at_ dat
  have tF := noFr atT datT
  refine tk _ _ ⟨a, (frs X.stack).foldl drop (drop (drop s6.heap a) T), _, pins, σ6, H6, cls, d, rfl, D2, fun b o e n => (drops_same _ _ n).trans e, ?_, .inr (.inr ?_), at6.2.1, rfl, I7.bare, w6⟩
  · intro b o e hd
    have n2 : b ≠ T := fun q => by rw [q, drop_gone] at e; cases e
    have n1 : b ≠ a := fun q => by rw [(drop_but _ T).2 b n2, q, drop_gone] at e; cases e
    exact ⟨o.slots, (h7 n2).trans ((d7 n1 n2).symm.trans e)⟩
  · have goneA : ((frs X.stack).foldl drop (drop (drop s6.heap a) T)).get? a = none := drops_gone _ _ (.inr (((drop_but _ T).2 a (Ne.symm neT)).trans (drop_gone _ a)))
    have goneT : ((frs X.stack).foldl drop (drop (drop s6.heap a) T)).get? T = none := drops_gone _ _ (.inr (drop_gone _ T))
    refine ⟨fun b o e => ?_, goneA, frames_to I7.stack (fun L m => drops_gone _ _ (.inl m)) (fun L m => h7 fun e => tF (e ▸ m)), oe, vs, T, _, _, (h7 (Ne.symm neT)).trans at6.1, z, dat, h1, goneT, neT, Heap.get?_update_self _ atT6.1 (Obj.isFreed_of_fields (Obj.data_mapFields datT _)), Obj.data_mapFields datT _, ?_⟩
    · have n1 : b ≠ a := fun q => by rw [q, goneA] at e; cases e
      have n2 : b ≠ T := fun q => by rw [q, goneT] at e; cases e
      by_cases m : b ∈ frs X.stack
      · rw [drops_gone _ _ (.inl m)] at e; cases e
      · rw [drops_same _ _ m, d7 n1 n2] at e
        exact (h7 n2).trans e
    · have lt := (Array.getElem?_eq_some_iff.mp h3).1
      simp [lt]
end
end HC

/-! ### readings whose wish for exceptions looks at the def's own slots; try .. except C: pre; raise, by data -/
namespace HC
open PyProof.Rows PySem L2 PySem.Spec
/-- the wish at the slots σ -/
abbrev At1 (W : WX) (σ : L2.St) : XK := fun c d H => W c d σ H
section
variable {X : Cx} {W : WX}
end
section
variable {X : Cx} {K : PySem.W.Frag} {W : WX} {a b e o tg : Expr} {es : List Expr} {pos : Pos} {ta tb tc te to : TD K} {tA : TDb K} {ts : TDa K} {ti : TDi K} {st : Stmt} {body rest : List Stmt}
/-! expressions -/
/-! statements: xw, what an exception must meet at the slots where it is thrown -/
abbrev XW (K : PySem.W.Frag) := List Sl → XD K
abbrev TDw (K : PySem.W.Frag) := XW K → TDs K
def OutW (S0 : Addr → Prop) (F : List Addr) (H : Hp) (xw : XW K) (W : WX) : Prop := ∀ σ' sl' rs' F' H', Stp F H F' H' → Now K S0 σ' H' sl' rs' F' → OutX S0 F' H' (xw sl') (At1 W σ')
theorem OutW.after {S0 : Addr → Prop} {F F' : List Addr} {H H' : Hp} {xw : XW K} (h : OutW S0 F H xw W) (st : Stp F H F' H') : OutW S0 F' H' xw W := fun σ' sl' rs' F2 H2 st2 => h σ' sl' rs' F2 H2 (st.trans st2)
theorem OutW.now {S0 : Addr → Prop} {F : List Addr} {H : Hp} {xw : XW K} {σ : L2.St} {sl : List Sl} {rs : List (Rs K)} (h : OutW S0 F H xw W) (N : Now K S0 σ H sl rs F) : OutX S0 F H (xw sl) (At1 W σ) := h σ sl rs F H (Stp.refl _ _) N
def LSW (W : WX) (t : TDw K) : TS := fun D σ H => ∃ S0 sl rs F d xw, Now K S0 σ H sl rs F ∧ t xw d sl rs ∧ OutS S0 F H d.nx D.nx ∧ OutS S0 F H d.bk D.bk ∧ OutS S0 F H d.ct D.ct ∧ Out S0 F H d.rt D.rt ∧ OutW S0 F H xw W
theorem LSW.use {S0 : Addr → Prop} {σ : L2.St} {H : Hp} {sl : List Sl} {rs : List (Rs K)} {F : List Addr} {t : TDw K} {d : DEnds K} {D : Ends} {xw : XW K} (N : Now K S0 σ H sl rs F) (h : t xw d sl rs) (k1 : OutS S0 F H d.nx D.nx) (k2 : OutS S0 F H d.bk D.bk) (k3 : OutS S0 F H d.ct D.ct) (k4 : Out S0 F H d.rt D.rt) (k5 : OutW S0 F H xw W) : LSW W t D σ H :=
  ⟨S0, sl, rs, F, d, xw, N, h, k1, k2, k3, k4, k5⟩
/-! try: body / except C: pre; raise -/
theorem ExOk.step {S0 : Addr → Prop} {F F' : List Addr} {H H' : Hp} {rs : List (Rs K)} {u : Value} {d : Option Addr} {x : Exn} (h : ExOk K (Mu S0 F) H u d x) (A : At K S0 H rs F) (st : Stp F H F' H') : ExOk K (Mu S0 F') H' u d x := by
  obtain ⟨cls, fs⟩ := x
  refine ⟨h.1, ?_⟩
  have ev := st.ev A
  cases fs with
  | none => exact h.2
  | some fs =>
    obtain ⟨a, gs, e1, e2, e3, e4, e5⟩ := h.2
    exact ⟨a, gs, e1, st.keep a _ (fun m => e5 (.inr m)) e2, e3, e4.ev ev, ev.off e5 e2⟩
end
end HC

/-! ### a place where ways join -/
namespace HC
open PyProof.Rows PySem L2 PySem.Spec
section
variable {X : Cx} {K : PySem.W.Frag} {E : XK} {st : Stmt} {t : TDs K} {d : DEnds K} {sl : List Sl} {rs : List (Rs K)}
def dCut (t : TDs K) : TDs K := fun d sl rs => ∃ J : List Sl → List (Rs K) → Prop, t { d with nx := Gs J } sl rs ∧ ∀ sl' rs', J sl' rs' → d.nx sl' rs'
theorem ds_cut (h : PS X st (LS E t)) : PS X st (LS E (dCut t)) := ps_weak h fun D σ H ⟨S0, sl, rs, F, d, N, ⟨J, h, c⟩, k1, k2, k3, k4, k5⟩ =>
  LS.use (d := { d with nx := Gs J }) N h (outS_gs fun σ' sl' rs' F' H' st' N' z => k1 σ' sl' rs' F' H' st' N' (c sl' rs' z)) k2 k3 k4 k5
theorem s_cut (J : List Sl → List (Rs K) → Prop) (h : t { d with nx := Gs J } sl rs) (c : ∀ sl' rs', J sl' rs' → d.nx sl' rs') : dCut t d sl rs := ⟨J, h, c⟩
end
end HC

/-! lambdas of a def X, called by a def that is called in a comprehension of a third def Z which got them -/
namespace HC
open PyProof.Rows PySem L2 PySem.Spec LamX
section
variable {X : Cx} {TT : (XK → Hp → VK → Prop) → Hp → VK → Prop} {x a : Str} {g : Addr} {fd : FuncData} {k : Nat} {pg : Arguments} {bg : List Stmt} {sg : Scope} {Ng : List Str} {e : Expr} {te : TE} {p pos : Pos}
variable {s0 : Shared} {H0 : Hp} {pins0 : List (Addr × Obj)} {σ0 : L2.St}
variable {CXz : CXT} {Nz : List Str} {qz : Str} {sz : Scope} {z : Addr} {cdz : Value} {Az : Around} {stz : List Env} {sZ : Shared} {HZ : Hp} {Ez : XK}
variable {s1 : Shared} {H1 : Hp} {pinsZ : List (Addr × Obj)} {σZ : L2.St} {scope : Scope} {cenv : Env} {fp : List Addr}
/-- the maker's cells stand in a block of Z -/
theorem KeptC.blk {pn : List (Addr × Obj)} {σ : L2.St} {H : Hp} {s : Shared} (inv0 : L2.Inv X pins0 σ0 H0 s0) (kc : KeptC X s0 HZ sZ) (invZ : L2.Inv (cxOf CXz X.prog X.w X.K X.mg X.base Nz qz sz z cdz Az stz sZ HZ Ez) pinsZ σZ H1 s1)
    (off : ∀ b ∈ fp, (b ∈ (cxOf CXz X.prog X.w X.K X.mg X.base Nz qz sz z cdz Az stz sZ HZ Ez).ex ∨ sZ.heap.objs.size ≤ b))
    (inv : L2.Inv ((cxOf CXz X.prog X.w X.K X.mg X.base Nz qz sz z cdz Az stz sZ HZ Ez).blk s1 H1 scope cenv fp) pn σ H s) : KeptC X s0 H s := by
  have k1 : KeptC X s0 H1 s1 := kc.un inv0 (fs := frs stz) (fp := []) invZ.base (fun b hb => nomatch hb)
  refine k1.un inv0 (fp := fp) inv.base fun b hb y c e same => ?_
  obtain ⟨v, q⟩ := inv0.cell y c e
  obtain ⟨o, ho, _⟩ := kc.cell y c v e q
  rcases off b hb with no | big
  · exact nomatch no
  · exact absurd (Heap.lt_size ho) (by rw [← same]; exact Nat.not_lt.mpr big)
/-- Gives, of what it needs of the caller -/
def GivesA (P : Program) (w : World) (K : PySem.W.Frag) (mg : Str → Option Value) (base : Heap) (A : Around) (st : List Env) (Ng : List Str) (x : Str) (sg : Scope) (g : Addr) (cdg : Value) (bg : List Stmt) (a : Str) (TT : (XK → Hp → VK → Prop) → Hp → VK → Prop) : Prop :=
  ∀ (f : Addr) (s : Shared) (H : Hp) (Q : VK) (IsL : Hp → Prop) (tl : XK → Hp → VK → Prop),
    (∀ (W : WX) (pn : List (Addr × Obj)) (xe : Value → Shared → Prop) (E : XK) (p1 p2 : Pos), Takes ((cxOf C8.CX0 P w K mg base Ng x sg g cdg A st s H C8.E0).tr pn xe) W →
      PE ((cxOf C8.CX0 P w K mg base Ng x sg g cdg A st s H C8.E0).tr pn xe) (.Call (.Name a p1) [] [] p2) (fun σZ HZ Q => (∀ cls d H', E cls d H' → W cls d σZ H') ∧ σZ[0]? = some (some (.ref f)) ∧ IsL HZ ∧ tl E HZ Q)) →
    IsL H → TT tl H Q → ∃ ts, PSs (cxOf C8.CX0 P w K mg base Ng x sg g cdg A st s H C8.E0).nox bg ts ∧ ts { nx := fun _ H' => Q .non H', rt := Q } (L2.start Ng [.ref f]) H
theorem Gives.of {Y : Cx} {cdg : Value} (h : Gives Y Ng x sg g cdg bg a TT) : GivesA Y.prog Y.w Y.K Y.mg Y.base Y.A Y.stack Ng x sg g cdg bg a TT := h
end
end HC

/-! sleeping generators are out of a run's reach: a run that is shown where they cannot be woken is a run where they sleep on -/
namespace HC
open PySem
open Sem (wp)

def Only (fs : List Frame) : Prop := splitAtGen fs = none
theorem Only.nil : Only [] := rfl
theorem only_cons {k : Result → Sem PySem.Fin} {h : Option Value} {g : Bool} {l kp : List Value} {c : Code} {p : Pos} {fs : List Frame} : Only (.ret k h g l c p kp :: fs) ↔ Only fs := by
  unfold Only
  rw [splitAtGen_ret]
  cases splitAtGen fs <;> simp
theorem Only.both {a b : List Frame} (ha : Only a) (hb : Only b) : Only (a ++ b) := by
  unfold Only at *
  rw [splitAtGen_append_none b ha, hb]
  rfl
/-- a generator's state, as it may stand behind a run -/
def Plain : GenState → Prop
  | .suspended _ _ _ _ fs _ => Only fs
  | _ => True
def EndOnly : End → Prop
  | .ret _ => True
  | .susp _ _ _ _ _ _ fs => Only fs
theorem EndOnly.plain {e : End} (h : EndOnly e) : Plain e.genState := by
  cases e <;> exact h
def Asleep : GenState → Prop
  | .suspended .. => True
  | _ => False
/-- the same to look at, but never to be woken -/
def dead : GenState → GenState
  | .suspended _ l c p fs cl => .suspended (fun _ => .unsupported "asleep") l c p fs cl
  | x => x
theorem dead_seen (x : GenState) : (dead x).seen = x.seen := by cases x <;> rfl
theorem dead_bare (x : GenState) : (dead x).bare = x.bare := by cases x <;> rfl
/-- a: where those asleep in d are dead; b: where they are as in d -/
structure KG (d a b : Array GenState) : Prop where
  size : b.size = a.size
  le : d.size ≤ a.size
  gens : ∀ i : Nat, (∃ x, d[i]? = some x ∧ Asleep x ∧ a[i]? = some (dead x) ∧ b[i]? = some x) ∨ ((∀ x, d[i]? = some x → ¬ Asleep x) ∧ b[i]? = a[i]? ∧ ∀ y, a[i]? = some y → Plain y)
section
variable {d a b : Array GenState} {g : Nat} {x : GenState}
theorem KG.set (h : KG d a b) (no : ∀ y, d[g]? = some y → ¬ Asleep y) (px : Plain x) : KG d (a.setIfInBounds g x) (b.setIfInBounds g x) := by
  refine ⟨by rw [Array.size_setIfInBounds, Array.size_setIfInBounds, h.size], by rw [Array.size_setIfInBounds]; exact h.le, fun i => ?_⟩
  by_cases e : g = i
  · subst e
    right
    refine ⟨no, ?_, fun y hy => ?_⟩
    · rw [Array.getElem?_setIfInBounds, Array.getElem?_setIfInBounds, h.size, if_pos rfl, if_pos rfl]
    · rw [Array.getElem?_setIfInBounds, if_pos rfl] at hy
      split at hy
      · cases hy; exact px
      · cases hy
  · rw [Array.getElem?_setIfInBounds_ne e, Array.getElem?_setIfInBounds_ne e]
    exact h.gens i
theorem KG.push (h : KG d a b) (px : Plain x) : KG d (a.push x) (b.push x) := by
  have hd := h.le
  refine ⟨by rw [Array.size_push, Array.size_push, h.size], by rw [Array.size_push]; omega, fun i => ?_⟩
  rw [Array.getElem?_push, Array.getElem?_push, h.size]
  by_cases e : i = a.size
  · rw [if_pos e, if_pos e]
    right
    refine ⟨fun y hy => ?_, rfl, fun y hy => ?_⟩
    · have := (Array.getElem?_eq_some_iff.mp hy).1
      omega
    · cases hy; exact px
  · rw [if_neg e, if_neg e]
    exact h.gens i
/-- what is seen there -/
theorem KG.at (h : KG d a b) (e : a[g]? = some x) : (∃ y, b[g]? = some y ∧ Asleep y ∧ x = dead y) ∨ ((∀ y, d[g]? = some y → ¬ Asleep y) ∧ b[g]? = some x ∧ Plain x) := by
  rcases h.gens g with ⟨y, _, h2, h3, h4⟩ | ⟨h1, h2, h3⟩
  · rw [e] at h3
    exact .inl ⟨y, h4, h2, Option.some.inj h3⟩
  · exact .inr ⟨h1, h2.trans e, h3 x e⟩
end
theorem no_runs {M : Model} {Γ : Ctx} {p : Pos} {t : Sem PySem.Fin} {w : String} {fs : List Frame} {s s' : Shared} {e : End} (h : Runs M Γ p t fs s e s') : t = .unsupported w → False := by
  induction h <;> intro q <;> first | (cases q; done) | (rename_i ih _; exact ih q) | (rename_i ih; exact ih q) | skip
/-- a run carried over -/
theorem runs_kl {d : Array GenState} {M : Model} {Γ : Ctx} {p : Pos} {t : Sem PySem.Fin} {fs : List Frame} {s s1 : Shared} {e : End} (h : Runs M Γ p t fs s e s1) :
    ∀ G, KG d s.gens G → Only fs → ∃ G1, Runs M Γ p t fs { s with gens := G } e { s1 with gens := G1 } ∧ KG d s1.gens G1 ∧ EndOnly e := by
  induction h with
  | done => exact fun G k _ => ⟨G, .done, k, trivial⟩
  | raise => exact fun G k _ => ⟨G, .raise, k, trivial⟩
  | again q _ ih => intro G k o; obtain ⟨G1, r, x⟩ := ih G k .nil; exact ⟨G1, .again q r, x⟩
  | rule _ ih => intro G k o; obtain ⟨G1, r, x⟩ := ih G k .nil; exact ⟨G1, .rule r, x⟩
  | «at» _ ih => intro G k o; obtain ⟨G1, r, x⟩ := ih G k .nil; exact ⟨G1, .at r, x⟩
  | load q _ ih => intro G k o; obtain ⟨G1, r, x⟩ := ih G k .nil; exact ⟨G1, .load q r, x⟩
  | update q _ ih => intro G k o; obtain ⟨G1, r, x⟩ := ih G k .nil; exact ⟨G1, .update q r, x⟩
  | loadIfAlive _ ih => intro G k o; obtain ⟨G1, r, x⟩ := ih G k .nil; exact ⟨G1, .loadIfAlive r, x⟩
  | point _ ih => intro G k o; obtain ⟨G1, r, x⟩ := ih G k .nil; exact ⟨G1, .point r, x⟩
  | alloc _ ih => intro G k o; obtain ⟨G1, r, x⟩ := ih G k .nil; exact ⟨G1, .alloc r, x⟩
  | fresh _ ih => intro G k o; obtain ⟨G1, r, x⟩ := ih G k .nil; exact ⟨G1, .fresh r, x⟩
  | ask _ ih => intro G k o; obtain ⟨G1, r, x⟩ := ih G k .nil; exact ⟨G1, .ask r, x⟩
  | choose q _ ih => intro G k o; obtain ⟨G1, r, x⟩ := ih G k .nil; exact ⟨G1, .choose q r, x⟩
  | os _ ih => intro G k o; obtain ⟨G1, r, x⟩ := ih G k .nil; exact ⟨G1, .os r, x⟩
  | handled _ ih => intro G k o; obtain ⟨G1, r, x⟩ := ih G k .nil; exact ⟨G1, .handled r, x⟩
  | genState q _ ih =>
    intro G k o
    obtain ⟨G1, r, x⟩ := ih G k .nil
    rcases k.at q with ⟨y, h1, h2, rfl⟩ | ⟨h1, h2, h3⟩
    · rw [dead_seen] at r
      exact ⟨G1, .genState h1 r, x⟩
    · exact ⟨G1, .genState h2 r, x⟩
  | stack _ ih => intro G k o; obtain ⟨G1, r, x⟩ := ih G k .nil; exact ⟨G1, .stack r, x⟩
  | thread _ ih => intro G k o; obtain ⟨G1, r, x⟩ := ih G k .nil; exact ⟨G1, .thread r, x⟩
  | newGen _ ih =>
    intro G k o
    obtain ⟨G1, r, x⟩ := ih (G.push (.fresh _)) (k.push (x := .fresh _) trivial) .nil
    refine ⟨G1, .newGen ?_, x⟩
    dsimp only
    rw [k.size]
    exact r
  | call _ _ ih1 ih2 =>
    intro G k o
    obtain ⟨G1, r1, k1, _⟩ := ih1 G k .nil
    obtain ⟨G2, r2, x⟩ := ih2 G1 k1 .nil
    exact ⟨G2, .call r1 r2, x⟩
  | callSusp _ ih =>
    intro G k o
    obtain ⟨G1, r, k1, x⟩ := ih G k .nil
    exact ⟨G1, .callSusp r, k1, Only.both x (only_cons.mpr .nil)⟩
  | yield => exact fun G k _ => ⟨G, .yield, k, .nil⟩
  | resumeFresh q _ qe _ ih1 ih2 =>
    intro G k o
    rcases k.at q with ⟨y, _, h2, h3⟩ | ⟨h1, h2, h3⟩
    · cases y <;> first | exact h2.elim | cases h3
    · obtain ⟨G1, r1, k1, x1⟩ := ih1 _ (k.set h1 (x := .running) trivial) .nil
      obtain ⟨G2, r2, x⟩ := ih2 _ (k1.set h1 x1.plain) .nil
      exact ⟨G2, .resumeFresh h2 r1 qe r2, x⟩
  | resumeSuspended q hr qe _ ih1 ih2 =>
    intro G k o
    rcases k.at q with ⟨y, _, h2, h3⟩ | ⟨h1, h2, h3⟩
    · cases y with
      | suspended k1 l1 c1 p1 fs1 cl1 =>
        cases h3
        exact (no_runs hr rfl).elim
      | _ => exact h2.elim
    · obtain ⟨G1, r1, k1, x1⟩ := ih1 _ (k.set h1 (x := .running) trivial) h3
      obtain ⟨G2, r2, x⟩ := ih2 _ (k1.set h1 x1.plain) .nil
      exact ⟨G2, .resumeSuspended h2 r1 qe r2, x⟩
  | resumeJustStarted q nv _ ih =>
    intro G k o
    rcases k.at q with ⟨y, _, h2, h3⟩ | ⟨h1, h2, h3⟩
    · cases y <;> first | exact h2.elim | cases h3
    · obtain ⟨G1, r, x⟩ := ih G k .nil
      exact ⟨G1, .resumeJustStarted h2 nv r, x⟩
  | resumeThrowFresh q _ ih =>
    intro G k o
    rcases k.at q with ⟨y, _, h2, h3⟩ | ⟨h1, h2, h3⟩
    · cases y <;> first | exact h2.elim | cases h3
    · obtain ⟨G1, r, x⟩ := ih _ (k.set h1 (x := .finished) trivial) .nil
      exact ⟨G1, .resumeThrowFresh h2 r, x⟩
  | resumeRunning q _ ih =>
    intro G k o
    rcases k.at q with ⟨y, _, h2, h3⟩ | ⟨h1, h2, h3⟩
    · cases y <;> first | exact h2.elim | cases h3
    · obtain ⟨G1, r, x⟩ := ih G k .nil
      exact ⟨G1, .resumeRunning h2 r, x⟩
  | resumeFinished q _ ih =>
    intro G k o
    rcases k.at q with ⟨y, _, h2, h3⟩ | ⟨h1, h2, h3⟩
    · cases y <;> first | exact h2.elim | cases h3
    · obtain ⟨G1, r, x⟩ := ih G k .nil
      exact ⟨G1, .resumeFinished h2 r, x⟩
  | segRet _ _ ih1 ih2 =>
    intro G k o
    obtain ⟨G1, r1, k1, _⟩ := ih1 G k .nil
    obtain ⟨G2, r2, x⟩ := ih2 G1 k1 (only_cons.mp o)
    exact ⟨G2, .segRet r1 r2, x⟩
  | segGen _ _ _ _ =>
    intro G k o
    cases o
  | segSuspOut q _ ih =>
    intro G k o
    obtain ⟨G1, r, k1, x⟩ := ih G k .nil
    exact ⟨G1, .segSuspOut q r, k1, Only.both x o⟩
  | segSuspGen q _ _ _ _ _ =>
    intro G k o
    rw [Only, q] at o
    cases o
/-- awaking carried over -/
theorem wakes_kl {d : Array GenState} {M : Model} {Γ : Ctx} {p : Pos} {g : Nat} {r : Resume} {s s1 : Shared} {res : GenResult} {G : Array GenState} (k : KG d s.gens G) (h : Wakes M Γ p g r s res s1) :
    ∃ G1, Wakes M Γ p g r { s with gens := G } res { s1 with gens := G1 } ∧ KG d s1.gens G1 := by
  unfold Wakes at h ⊢
  split at h
  · exact h.elim
  · rename_i c q
    rcases k.at q with ⟨y, _, h2, h3⟩ | ⟨h1, h2, h3⟩
    · cases y <;> first | exact h2.elim | cases h3
    · dsimp only
      rw [h2]
      dsimp only
      split at h
      · obtain ⟨e1, s2, r1, q1, q2, rfl⟩ := h
        obtain ⟨G1, r2, k1, x1⟩ := runs_kl r1 _ (k.set h1 (x := .running) trivial) .nil
        exact ⟨_, ⟨e1, _, r2, q1, q2, rfl⟩, k1.set h1 x1.plain⟩
      · obtain ⟨q1, rfl⟩ := h
        exact ⟨G, ⟨q1, rfl⟩, k⟩
      · obtain ⟨q1, rfl⟩ := h
        exact ⟨_, ⟨q1, rfl⟩, k.set h1 (x := .finished) trivial⟩
  · rename_i k0 l0 c0 p0 fs0 cl0 q
    obtain ⟨e1, s2, r1, q1, q2, rfl⟩ := h
    rcases k.at q with ⟨y, _, h2, h3⟩ | ⟨h1, h2, h3⟩
    · cases y with
      | suspended k1 l1 c1 p1 fs1 cl1 =>
        cases h3
        exact (no_runs r1 rfl).elim
      | _ => exact h2.elim
    · dsimp only
      rw [h2]
      obtain ⟨G1, r2, k1, x1⟩ := runs_kl r1 _ (k.set h1 (x := .running) trivial) h3
      exact ⟨_, ⟨e1, _, r2, q1, q2, rfl⟩, k1.set h1 x1.plain⟩
  · rename_i q
    obtain ⟨q1, rfl⟩ := h
    rcases k.at q with ⟨y, _, h2, h3⟩ | ⟨h1, h2, h3⟩
    · cases y <;> first | exact h2.elim | cases h3
    · dsimp only
      rw [h2]
      exact ⟨G, ⟨q1, rfl⟩, k⟩
  · rename_i q
    obtain ⟨q1, rfl⟩ := h
    rcases k.at q with ⟨y, _, h2, h3⟩ | ⟨h1, h2, h3⟩
    · cases y <;> first | exact h2.elim | cases h3
    · dsimp only
      rw [h2]
      exact ⟨G, ⟨q1, rfl⟩, k⟩
/-- what is told behind -/
def Over (d : Array GenState) {α : Type} (Q : α → Pos → Shared → Prop) : α → Pos → Shared → Prop := fun a p s => ∃ g, KG d g s.gens ∧ Q a p { s with gens := g }
theorem wp_kl {α : Type} (d : Array GenState) (M : Model) (Γ : Ctx) (t : Sem α) : ∀ (Q : α → Pos → Shared → Prop) (E : Value → Pos → Shared → Prop) (p : Pos) (s : Shared) (G : Array GenState), KG d s.gens G → wp M Γ t Q E p s →
    wp M Γ t (Over d Q) (Over d E) p { s with gens := G } := by
  induction t with
  | pure a => exact fun Q E p s G k h => ⟨s.gens, k, h⟩
  | raise e => exact fun Q E p s G k h => ⟨s.gens, k, h⟩
  | unsupported _ => exact fun Q E p s G k h => h
  | finish _ => exact fun Q E p s G k h => h
  | rule _ _ ih => exact fun Q E p s G k h => ih () Q E p s G k h
  | «at» p' _ ih => exact fun Q E p s G k h => ih () Q E p' s G k h
  | load a _ _ ih => exact fun Q E p s G k ⟨o, ho, h⟩ => ⟨o, ho, ih o Q E p s G k h⟩
  | update a _ f _ ih => exact fun Q E p s G k h => ⟨h.1, ih () Q E p { s with heap := s.heap.update a f } G k h.2⟩
  | loadIfAlive a _ ih => exact fun Q E p s G k h => ih _ Q E p s G k h
  | point _ _ ih => exact fun Q E p s G k h => ih () Q E p s G k h
  | register _ _ => exact fun Q E p s G k h => h
  | alloc o _ ih => exact fun Q E p s G k h => ih _ Q E p { s with heap := s.heap.push o } G k h
  | fresh _ ih => exact fun Q E p s G k h => ih _ Q E p { s with toks := s.toks + 1 } G k h
  | ask _ ih => exact fun Q E p s G k h => ih _ Q E p s G k h
  | choose src m _ ih => exact fun Q E p s G k h => ⟨h.1, ih _ Q E p { s with drawn := s.drawn.bump src } G k h.2⟩
  | os q _ _ ih => exact fun Q E p s G k h => ih _ Q E p { s with os := (Os.step s.os q).1 } G k h
  | call c hd _ _ _ ih =>
    intro Q E p s G k h
    obtain ⟨r, s', hr, h⟩ := h
    obtain ⟨G1, r1, k1, _⟩ := runs_kl hr G k .nil
    exact ⟨r, _, r1, ih r Q E p s' G1 k1 h⟩
  | handled own _ ih => exact fun Q E p s G k h => ih _ Q E p s G k h
  | genState g _ ih =>
    intro Q E p s G k h
    obtain ⟨st, hs, h⟩ := h
    rcases k.at hs with ⟨y, h1, h2, rfl⟩ | ⟨h1, h2, h3⟩
    · rw [dead_seen] at h
      exact ⟨y, h1, ih _ Q E p s G k h⟩
    · exact ⟨st, h2, ih _ Q E p s G k h⟩
  | newGen c k0 ih =>
    intro Q E p s G k h
    have := ih s.gens.size Q E p { s with gens := s.gens.push (.fresh c) } (G.push (.fresh c)) (k.push (x := .fresh c) trivial) h
    show wp M Γ (k0 G.size) _ _ p _
    rw [k.size]
    exact this
  | resume g r _ _ ih =>
    intro Q E p s G k h
    obtain ⟨res, s', hw, h⟩ := h
    obtain ⟨G1, w1, k1⟩ := wakes_kl k hw
    exact ⟨res, _, w1, ih res Q E p s' G1 k1 h⟩
  | yield _ _ _ _ => exact fun Q E p s G k h => h
  | stack _ ih => exact fun Q E p s G k h => ih _ Q E p s G k h
  | fork _ _ => exact fun Q E p s G k h => h
  | thread _ ih => exact fun Q E p s G k h => ih _ Q E p s G k h
  | await _ _ _ _ _ => exact fun Q E p s G k h => h
end HC

/-! a step of a consumer while generators sleep -/
namespace HC
open PySem PySem.Spec PyProof.Rows L2
open Sem (wp)
theorem KG.start (a : Array GenState) : KG a (a.map dead) a := by
  refine ⟨(Array.size_map ..).symm, by rw [Array.size_map]; exact Nat.le_refl _, fun i => ?_⟩
  rw [Array.getElem?_map]
  cases e : a[i]? with
  | none => exact .inr ⟨fun _ q => (by cases q), rfl, fun _ q => (by cases q)⟩
  | some x =>
    cases x with
    | suspended => exact .inl ⟨_, rfl, trivial, rfl, rfl⟩
    | _ =>
      refine .inr ⟨fun y q => ?_, rfl, fun y q => ?_⟩
      · cases q; exact id
      · cases q; exact trivial
/-- those asleep sleep on -/
theorem KG.keeps {d a b : Array GenState} (h : KG d a b) {i : Nat} {x : GenState} (e : d[i]? = some x) (z : Asleep x) : b[i]? = some x := by
  rcases h.gens i with ⟨y, h1, _, _, h4⟩ | ⟨h1, _⟩
  · rw [e] at h1; cases h1; exact h4
  · exact absurd z (h1 x e)
theorem KG.bare {d a b : Array GenState} (k : KG d a b) (h : AllBare a) : AllBare b := fun y hy => by
  obtain ⟨i, hi, e⟩ := Array.mem_iff_getElem.mp hy
  have eb : b[i]? = some y := by rw [Array.getElem?_eq_getElem hi, e]
  rcases k.gens i with ⟨x, _, _, h3, h4⟩ | ⟨_, h2, _⟩
  · rw [eb] at h4
    cases h4
    have := h _ (Array.mem_of_getElem? h3)
    rwa [dead_bare] at this
  · rw [eb] at h2
    exact h _ (Array.mem_of_getElem? h2.symm)
theorem still {α : Type} {M : Model} {A : Around} {t : Sem α} {Q : α → Shared → Prop} {E : Value → Shared → Prop} {s : Shared} (h : wpAny M A t Q E { s with gens := s.gens.map dead }) :
    wpAny M A t (fun a s1 => ∃ g, KG s.gens g s1.gens ∧ Q a { s1 with gens := g }) (fun e s1 => ∃ g, KG s.gens g s1.gens ∧ E e { s1 with gens := g }) s :=
  fun Γ p q => wp_kl s.gens M Γ t (fun a _ s1 => Q a s1) (fun e _ s1 => E e s1) p { s with gens := s.gens.map dead } s.gens (KG.start s.gens) (h Γ p q)
/-! the heap up to an address -/
def cutH (h : Heap) (n : Nat) : Heap := { h with objs := h.objs.take n }
end HC

/-! a generator's context at a wake -/
namespace HC
open PySem PySem.Spec PyProof.Rows L2
/-- how a generator's frame stands: its names, its env, around which it runs -/
structure GF where
  N : List Str
  env : Env
  A : Around
  pn : List (Addr × Obj)
  xe : Shared → Hp → Value → Shared → Prop
/-- its context, when it is woken at s, H under these callers -/
def gx (P : Program) (w : World) (K : PySem.W.Frag) (mg : Str → Option Value) (base : Heap) (outer : List Env) (G : GF) (s : Shared) (H : Hp) : Cx where
  prog := P
  w := w
  K := K
  mg := mg
  base := base
  A := G.A
  N := G.N
  s_0 := { s with heap := cutH s.heap G.env.locals }
  H_0 := H
  env := G.env
  outer := outer
  stack := G.env :: outer
  ex := []
  fn := fun _ => true
  calm := true
  pn := G.pn
  xe := G.xe s H
/-- what must hold of the generator's env for good -/
structure GOk (outer : List Env) (base : Heap) (G : GF) : Prop where
  kind : G.env.scope.kind = .function
  glob : G.env.globals = mainGlobals
  blt : G.env.builtins = builtinsNs
  cells : G.env.cells = []
  nocell : ∀ x, G.env.kindOf x ≠ some .cell ∧ G.env.kindOf x ≠ some .free
  hd : G.A.handled = none
  frames : G.A.frames = some (G.env :: outer)
  frame : G.env.frame = some G.env.locals
  above : ∀ b ∈ frs outer, b < G.env.locals
  bsz : base.objs.size ≤ G.env.locals
/-- the frame's object, with these values of the names -/
def FrAt (G : GF) (σ : L2.St) (o : Obj) : Prop :=
  ∃ es ep, o.data = .dict es ep ∧ StrKeys es ∧ ∀ (i : Nat) (x : Str) (v : V), G.N[i]? = some x → σ[i]? = some (some v) → Vis G.env.scope x → ∃ u, RelV v u ∧ G.env.kindOf x = some .local ∧ nsFind es x = some u
/-- what the generator holds by itself: its frame and its pins -/
structure Held (outer : List Env) (G : GF) (ip : List (Addr × Obj)) (σ : L2.St) (o : Obj) (H : Hp) (s : Shared) : Prop where
  fr : FrAt G σ o
  at_ : s.heap.get? G.env.locals = some o
  free : H G.env.locals = none
  pin : ∀ p ∈ G.pn ++ ip, s.heap.get? p.1 = some p.2 ∧ H p.1 = none ∧ p.1 ≠ G.env.locals ∧ p.1 ∉ frs outer ∧ ∀ v, p.2.data ≠ .cell v
  len : σ.length = G.N.length
section
variable {P : Program} {w : World} {K : PySem.W.Frag} {mg : Str → Option Value} {base : Heap} {A : Around} {outer : List Env} {G : GF} {s s' : Shared} {H H' : Hp} {ip : List (Addr × Obj)} {σ : L2.St} {o : Obj}
end
/-! the consumer, when the generator hands it the turn again -/
section
variable {X : Cx} {G : GF} {s s' : Shared} {H H' : Hp} {ip ig : List (Addr × Obj)} {σ τ : L2.St} {o' : Obj}
/-- the consumer's things are older than the generator's frame -/
structure Older (X : Cx) (ip : List (Addr × Obj)) (L : Addr) : Prop where
  st : X.stack = X.env :: X.outer ∧ X.env.frame = some X.env.locals
  loc : X.env.locals < L
  cell : ∀ x c, X.env.cells.lookup x = some c → c < L
  pin : ∀ p ∈ X.pn ++ ip, p.1 < L
end
end HC

/-! one leg of a generator: from a wake to the next yield or to its end -/
namespace HC
open PySem PySem.Spec PyProof.Rows L2
def Leg (M : Model) (A : Around) (Φ : End → Shared → Prop) (c : Code) (t : Sem PySem.Fin) (fs : List Frame) (s : Shared) : Prop :=
  ∀ Γ p, Γ.code = c → Γ.Woken A → ∃ e s', Runs M Γ p t fs s e s' ∧ Φ e s'
section
variable {M : Model} {A : Around} {Φ : End → Shared → Prop} {c : Code} {fs : List Frame} {s : Shared}
end
end HC

/-! a generator's life, leg by leg -/
namespace HC
open PySem PySem.Spec PyProof.Rows L2
/-- what is wanted of a generator's statement; Z: what the consumer goes by; yl: a value is handed out, the consumer goes on, and wakes it -/
structure YEnds (Z : Type) where
  nx : Z → L2.St → Hp → Prop
  rt : Z → VK
  yl : Z → V → Hp → (Z → Hp → Prop) → Prop
  bk : Z → L2.St → Hp → Prop := fun _ _ _ => False
  ct : Z → L2.St → Hp → Prop := fun _ _ _ => False
abbrev TGl (Z : Type) := YEnds Z → Z → L2.St → Hp → Prop
/-- where a generator lives -/
structure Home where
  P : Program
  w : World
  K : PySem.W.Frag
  mg : Str → Option Value
  base : Heap
  outer : List Env
  B : Around
  A : Around
  G : GF
  ex : Nat → Prop
abbrev Home.x (h : Home) (s : Shared) (H : Hp) : Cx := gx h.P h.w h.K h.mg h.base h.outer h.G s H
/-- those asleep stay as they are -/
def Sleeps (s s' : Shared) : Prop := ∀ (i : Nat) (x : GenState), s.gens[i]? = some x → Asleep x → s'.gens[i]? = some x
section
variable {Z : Type} (h : Home) (yl : Z → V → Hp → (Z → Hp → Prop) → Prop) (fin : Z → Shared → Hp → Result → Shared → Prop)
/-- how a leg from the wake at s0, H0 may end -/
def Ends1 (Ψ : Z → GenState → Shared → Hp → Prop) (z : Z) (s0 : Shared) (H0 : Hp) (e : End) (s : Shared) : Prop :=
  match e with
  | .ret r => fin z s0 H0 r s
  | .susp v g l k c p fs => (End.susp v g l k c p fs).quiet = true ∧ ∃ x H ip σ o, RelV x v ∧ Inv (h.x s0 H0) ip σ H s ∧ Held h.outer h.G ip σ o H s ∧ ∃ C : Z → Hp → Prop, yl z x H C ∧
      ∀ z' H', C z' H' → ∀ s', Env0 h.P h.w h.K h.mg h.base h.B h.outer s' H' → Held h.outer h.G ip σ o H' s' → Sleeps s s' → Ψ z' (End.susp v g l k c p fs).genState s' H'
def Step (Ψ : Z → GenState → Shared → Hp → Prop) (z : Z) (gs : GenState) (s : Shared) (H : Hp) : Prop :=
  match gs with
  | .fresh c => Leg (model h.P h.w) h.A (Ends1 h yl fin Ψ z s H) c ((model h.P h.w).den c) [] s
  | .suspended k _ c _ fs _ => Leg (model h.P h.w) h.A (Ends1 h yl fin Ψ z s H) c (k (.send .none)) fs s
  | _ => False
def Life (z : Z) (gs : GenState) (s : Shared) (H : Hp) : Prop := ∀ Ψ : Z → GenState → Shared → Hp → Prop, (∀ z gs s H, Step h yl fin Ψ z gs s H → Ψ z gs s H) → Ψ z gs s H
end
section
variable {Z : Type} {h : Home} {yl : Z → V → Hp → (Z → Hp → Prop) → Prop} {fin : Z → Shared → Hp → Result → Shared → Prop} {z : Z} {gs : GenState} {s : Shared} {H : Hp}
theorem Leg.mono {M : Model} {A : Around} {Φ Φ' : End → Shared → Prop} {c : Code} {t : Sem PySem.Fin} {fs : List Frame} (q : Leg M A Φ c t fs s) (im : ∀ e s', Φ e s' → Φ' e s') : Leg M A Φ' c t fs s := fun Γ p e w =>
  let ⟨x, s', r, y⟩ := q Γ p e w; ⟨x, s', r, im x s' y⟩
theorem Ends1.mono {Ψ Ψ' : Z → GenState → Shared → Hp → Prop} (im : ∀ z gs s H, Ψ z gs s H → Ψ' z gs s H) {s0 : Shared} {H0 : Hp} {e : End} (q : Ends1 h yl fin Ψ z s0 H0 e s) : Ends1 h yl fin Ψ' z s0 H0 e s := by
  cases e with
  | ret r => exact q
  | susp v g l k c p fs =>
    obtain ⟨q0, x, H1, ip, σ, o, q1, q2, q3, C, q4, q5⟩ := q
    exact ⟨q0, x, H1, ip, σ, o, q1, q2, q3, C, q4, fun z' H' a s' b c d => im _ _ _ _ (q5 z' H' a s' b c d)⟩
theorem Step.mono {Ψ Ψ' : Z → GenState → Shared → Hp → Prop} (im : ∀ z gs s H, Ψ z gs s H → Ψ' z gs s H) (q : Step h yl fin Ψ z gs s H) : Step h yl fin Ψ' z gs s H := by
  cases gs with
  | fresh c => exact Leg.mono q fun _ _ => Ends1.mono im
  | suspended k l c p fs cl => exact Leg.mono q fun _ _ => Ends1.mono im
  | running => exact q
  | finished => exact q
end
end HC

/-! the statements of a generator -/
namespace HC
open PySem PySem.Spec PyProof.Rows L2
/-- where its code stands -/
structure Spot (h : Home) (c : Code) (fs : List Frame) (gd : Bool → Bool) : Prop where
  over : h.A.over c fs = h.G.A
  split : splitAtGen fs = none
  guard : fs.any Frame.guarded = false
  gd : gd false = false
section
variable {Z : Type} (h : Home) (fin : Z → Shared → Hp → Result → Shared → Prop)
abbrev LegY (D : YEnds Z) (z : Z) (s0 : Shared) (H0 : Hp) (c : Code) (t : Sem PySem.Fin) (fs : List Frame) (s : Shared) : Prop := Leg (model h.P h.w) h.A (Ends1 h D.yl fin (Life h D.yl fin) z s0 H0) c t fs s
/-- behind a statement -/
def Aft (ip : List (Addr × Obj)) (D : YEnds Z) (z : Z) (s0 : Shared) (H0 : Hp) (f : Flow) (s : Shared) : Prop :=
  match f with
  | .next => ∃ σ H, Inv (h.x s0 H0) ip σ H s ∧ D.nx z σ H
  | .brk => ∃ σ H, Inv (h.x s0 H0) ip σ H s ∧ D.bk z σ H
  | .cont => ∃ σ H, Inv (h.x s0 H0) ip σ H s ∧ D.ct z σ H
  | .ret u => ∃ v σ H, Inv (h.x s0 H0) ip σ H s ∧ RelV v u ∧ D.rt z v H
/-- what follows; D0: the ends of the whole body (its yl) -/
structure Foll (ip : List (Addr × Obj)) (D0 D : YEnds Z) (c : Code) (fs : List Frame) (T : Flow → Sem PySem.Fin) (J : Value → Sem PySem.Fin) : Prop where
  ok : ∀ z s0 H0 f s, Aft h ip D z s0 H0 f s → LegY h fin D0 z s0 H0 c (T f) fs s
  exc : ∀ z s0 H0 e s, h.G.xe s0 H0 e s → LegY h fin D0 z s0 H0 c (J e) fs s
structure GStm (st : Stmt) (t : TGl Z) : Prop where
  run : ∀ (ip : List (Addr × Obj)) (D0 D : YEnds Z) (c : Code) (fs : List Frame) (T : Flow → Sem PySem.Fin) (J : Value → Sem PySem.Fin) (gd : Bool → Bool) (lv : List Value → List Value) (z : Z) (s0 s : Shared) (H0 H : Hp) (σ : L2.St),
    Spot h c fs gd → D.yl = D0.yl → Foll h fin ip D0 D c fs T J → Inv (h.x s0 H0) ip σ H s → t D z σ H → LegY h fin D0 z s0 H0 c ((exec st h.G.env).wrap T J gd lv) fs s
structure GStms (st : List Stmt) (t : TGl Z) : Prop where
  run : ∀ (ip : List (Addr × Obj)) (D0 D : YEnds Z) (c : Code) (fs : List Frame) (T : Flow → Sem PySem.Fin) (J : Value → Sem PySem.Fin) (gd : Bool → Bool) (lv : List Value → List Value) (z : Z) (s0 s : Shared) (H0 H : Hp) (σ : L2.St),
    Spot h c fs gd → D.yl = D0.yl → Foll h fin ip D0 D c fs T J → Inv (h.x s0 H0) ip σ H s → t D z σ H → LegY h fin D0 z s0 H0 c ((execs st h.G.env).wrap T J gd lv) fs s
end
section
variable {Z : Type} {h : Home} {fin : Z → Shared → Hp → Result → Shared → Prop} {st : Stmt} {rest : List Stmt}
def YEnds.plain (D : YEnds Z) (z : Z) : Ends := { nx := D.nx z, rt := D.rt z, bk := D.bk z, ct := D.ct z }
end
section
variable {Z : Type} {h : Home} {fin : Z → Shared → Hp → Result → Shared → Prop} {M : Model} {A : Around} {Φ : End → Shared → Prop} {c : Code} {fs : List Frame} {s : Shared}
end
section
variable {Z : Type} {h : Home} {fin : Z → Shared → Hp → Result → Shared → Prop}
end
end HC

/-! ### generators by data: what a generator hands out is a list of data -/
namespace HC
open PyProof.Rows PySem L2 PySem.Spec
/-- a wake: the state, what stands there, what the consumer may change, the consumer's things that are younger than the generator -/
structure Wka where
  s : Shared
  H : Hp
  S : Addr → Prop
  yp : List (Addr × Obj)
def LiveS (S : Addr → Prop) (H : Hp) : Prop := ∀ b, S b → NotT (H b) ∧ H b ≠ none
/-- those of a sleep on -/
def SleepA (a : Nat → GenState → Prop) (s : Shared) : Prop := ∀ (i : Nat) (x : GenState), a i x → Asleep x → s.gens[i]? = some x
/-- all but ex -/
abbrev SleepO (ex : Nat → Prop) (g : Array GenState) : Nat → GenState → Prop := fun i x => g[i]? = some x ∧ ¬ ex i
/-- from S, H to S', H': what S does not hold stands -/
structure Evs (S S' : Addr → Prop) (H H' : Hp) : Prop where
  sub : ∀ b, S' b → S b ∨ H b = none
  keep : ∀ b o, ¬ S b → H b = some o → H' b = some o
  tk : ∀ a xs, H a = some (.tup xs) → H' a = some (.tup xs)
section
variable {K : PySem.W.Frag} {S S' S'' S0 : Addr → Prop} {H H' H'' : Hp} {F F' : List Addr} {rs : List (Rs K)}
theorem Evs.ev (e : Evs S S' H H') : Ev K S S' H H' [] := ⟨e.sub, fun b o n h => ⟨o, e.keep b o n h, .refl o⟩, fun _ _ h => (nomatch h), e.tk⟩
theorem Evs.trans (a : Evs S S' H H') (b : Evs S' S'' H' H'') : Evs S S'' H H'' := by
  refine ⟨fun c z => ?_, fun c o n h => b.keep c o (fun z => (a.sub c z).elim n fun q => by rw [h] at q; cases q) (a.keep c o n h), fun c xs h => b.tk c xs (a.tk c xs h)⟩
  rcases b.sub c z with z | z
  · exact a.sub c z
  · by_cases n : S c
    · exact .inl n
    · refine .inr ?_
      cases q : H c with
      | none => rfl
      | some o => rw [a.keep c o n q] at z; cases z
theorem Evs.refl : Evs S S H H := ⟨fun _ z => .inl z, fun _ _ _ h => h, fun _ _ h => h⟩
theorem Evs.less (h : ∀ b, S' b → S b) : Evs S S' H H := ⟨fun b z => .inl (h b z), fun _ _ _ h => h, fun _ _ h => h⟩
theorem Evs.same (h : Same H H') : Evs S S H H' := ⟨fun _ z => .inl z, fun b o _ q => h b o q, fun a xs q => h a _ q⟩
end
/-- an exception has left it -/
def FlewG (P : Program) (w : World) (outer : List Env) (L : Addr) (E : XK) (s : Shared) (H : Hp) (u : Value) (s' : Shared) : Prop :=
  CXW P w outer H { s with heap := cutH s.heap L } E u s'
/-- it sleeps since S, H, s (its names: σ, its frame's object: o, its own things: ip); it is woken at w -/
structure WakeOk (h : Home) (ip : List (Addr × Obj)) (σ : L2.St) (o : Obj) (S : Addr → Prop) (H : Hp) (s : Shared) (w : Wka) : Prop where
  e0 : Env0 h.P h.w h.K h.mg h.base h.B h.outer w.s w.H
  lv : LiveS w.S w.H
  ev : Evs S w.S H w.H
  hd : Held h.outer h.G (ip ++ w.yp) σ o w.H w.s
  sa : SleepA (SleepO h.ex s.gens) w.s
  gz : ∀ i, h.ex i → i < w.s.gens.size
  dj : ∀ p ∈ w.yp, ∀ q ∈ h.G.pn ++ ip, p.1 ≠ q.1
/-- how a leg from the wake w ends, when xs is still to be handed out -/
def EndG (h : Home) (E : XK) : List Da → Wka → End → Shared → Prop
  | [] => fun w e s => match e with
    | .ret (.error u) => FlewG h.P h.w h.outer h.G.env.locals E w.s w.H u s
    | .ret (.ok r) => r = .ret .none ∧ ∃ ip σ H, Inv (h.x w.s w.H) (ip ++ w.yp) σ H s ∧ Same w.H H
    | .susp .. => False
  | x :: xs => fun w e s => match e with
    | .ret (.error u) => FlewG h.P h.w h.outer h.G.env.locals E w.s w.H u s
    | .ret (.ok _) => False
    | .susp v g l k c p fs => (End.susp v g l k c p fs).quiet = true ∧ ∃ u ip σ H o, RelV u v ∧ De h.K w.S H u x ∧ Same w.H H ∧ Inv (h.x w.s w.H) (ip ++ w.yp) σ H s ∧ Held h.outer h.G (ip ++ w.yp) σ o H s ∧ (∀ p ∈ w.yp, ∀ q ∈ h.G.pn ++ ip, p.1 ≠ q.1) ∧
      ∀ w' : Wka, WakeOk h ip σ o w.S H s w' → Leg (model h.P h.w) h.A (EndG h E xs w') c (k (.send .none)) fs w'.s
/-- none: it must let an exception out -/
def EndO (h : Home) (E : XK) : Option (List Da) → Wka → End → Shared → Prop
  | some xs => EndG h E xs
  | none => fun w e s => ∃ u, e = .ret (.error u) ∧ FlewG h.P h.w h.outer h.G.env.locals E w.s w.H u s
/-- what is still to be handed out (m) at the wake w, as it began (m0, w0) -/
def MdY (m0 : Option (List Da)) (w0 : Wka) (m : Option (List Da)) (w : Wka) : Prop := m0 = none → m = none ∧ w = w0
/-- what is wanted behind a generator's statement -/
structure YE (K : PySem.W.Frag) where
  nx : Option (List Da) → List Sl → List (Rs K) → Prop
  xc : XD K
  bk : Option (List Da) → List Sl → List (Rs K) → Prop := fun _ _ _ => False
  ct : Option (List Da) → List Sl → List (Rs K) → Prop := fun _ _ _ => False
abbrev TY (K : PySem.W.Frag) := YE K → Option (List Da) → List Sl → List (Rs K) → Prop
section
variable (h : Home) (E : XK)
abbrev LegO (m : Option (List Da)) (w : Wka) (c : Code) (t : Sem PySem.Fin) (fs : List Frame) (s : Shared) : Prop := Leg (model h.P h.w) h.A (EndO h E m w) c t fs s
structure NowY (ip : List (Addr × Obj)) (R : (Addr → Prop) → Hp → Prop) (w : Wka) (a : Nat → GenState → Prop) (s : Shared) (H : Hp) (σ : L2.St) (sl : List Sl) (rs : List (Rs h.K)) (F : List Addr) : Prop where
  inv : Inv (h.x w.s w.H) (ip ++ w.yp) σ H s
  now : Now h.K w.S σ H sl rs F
  st : Stp [] w.H F H
  sa : SleepA a s
  rc : R (Mu w.S F) H
  big : h.G.env.locals ≤ w.s.heap.objs.size
  dj : ∀ p ∈ w.yp, ∀ q ∈ h.G.pn ++ ip, p.1 ≠ q.1
  gz : ∀ i, h.ex i → i < s.gens.size
abbrev Onw (R : (Addr → Prop) → Hp → Prop) : Prop := ∀ S S' H H', R S H → Evs S S' H H' → R S' H'
/-- who must sleep on: nobody (z: false), or some, but never the generator itself or who waits for it -/
def AOk (z : Bool) (a : Nat → GenState → Prop) : Prop := (z = false → a = fun _ _ => False) ∧ ∀ i x, a i x → ¬ h.ex i
structure FollY (ip : List (Addr × Obj)) (R : (Addr → Prop) → Hp → Prop) (a : Nat → GenState → Prop) (m0 : Option (List Da)) (w0 : Wka) (D : YE h.K) (c : Code) (fs : List Frame) (T : Flow → Sem PySem.Fin) (J : Value → Sem PySem.Fin) : Prop where
  nx : ∀ m w s H σ sl rs F, MdY m0 w0 m w → NowY h ip R w a s H σ sl rs F → D.nx m sl rs → LegO h E m w c (T .next) fs s
  bk : ∀ m w s H σ sl rs F, MdY m0 w0 m w → NowY h ip R w a s H σ sl rs F → D.bk m sl rs → LegO h E m w c (T .brk) fs s
  ct : ∀ m w s H σ sl rs F, MdY m0 w0 m w → NowY h ip R w a s H σ sl rs F → D.ct m sl rs → LegO h E m w c (T .cont) fs s
  exc : ∀ m w u s, MdY m0 w0 m w → h.G.xe w.s w.H u s → LegO h E m w c (J u) fs s
  ox : ∀ (m : Option (List Da)) (w : Wka) (F : List Addr) (H : Hp), MdY m0 w0 m w → Stp [] w.H F H → OutX w.S F H D.xc E
structure YS (z : Bool) (st : Stmt) (t : TY h.K) : Prop where
  run : ∀ (ip : List (Addr × Obj)) (R : (Addr → Prop) → Hp → Prop) (a : Nat → GenState → Prop) (m0 : Option (List Da)) (w0 : Wka) (D : YE h.K) (c : Code) (fs : List Frame) (T : Flow → Sem PySem.Fin) (J : Value → Sem PySem.Fin) (gd : Bool → Bool) (lv : List Value → List Value) (m : Option (List Da)) (w : Wka) (s : Shared) (H : Hp) (σ : L2.St) (sl : List Sl) (rs : List (Rs h.K)) (F : List Addr),
    AOk h z a → Onw R → Spot h c fs gd → FollY h E ip R a m0 w0 D c fs T J → MdY m0 w0 m w → NowY h ip R w a s H σ sl rs F → t D m sl rs → LegO h E m w c ((exec st h.G.env).wrap T J gd lv) fs s
structure YSs (z : Bool) (st : List Stmt) (t : TY h.K) : Prop where
  run : ∀ (ip : List (Addr × Obj)) (R : (Addr → Prop) → Hp → Prop) (a : Nat → GenState → Prop) (m0 : Option (List Da)) (w0 : Wka) (D : YE h.K) (c : Code) (fs : List Frame) (T : Flow → Sem PySem.Fin) (J : Value → Sem PySem.Fin) (gd : Bool → Bool) (lv : List Value → List Value) (m : Option (List Da)) (w : Wka) (s : Shared) (H : Hp) (σ : L2.St) (sl : List Sl) (rs : List (Rs h.K)) (F : List Addr),
    AOk h z a → Onw R → Spot h c fs gd → FollY h E ip R a m0 w0 D c fs T J → MdY m0 w0 m w → NowY h ip R w a s H σ sl rs F → t D m sl rs → LegO h E m w c ((execs st h.G.env).wrap T J gd lv) fs s
end
section
variable {h : Home} {E : XK} {z : Bool} {st : Stmt} {rest : List Stmt}
def tyPl {K : PySem.W.Frag} (t : TDs K) : TY K := fun D m sl rs => t { nx := D.nx m, rt := fun _ _ => False, xc := D.xc, bk := D.bk m, ct := D.ct m } sl rs
def tyNext {K : PySem.W.Frag} : TY K := fun D m sl rs => D.nx m sl rs
def tySeq {K : PySem.W.Frag} (t u : TY K) : TY K := fun D m sl rs => t { D with nx := u D } m sl rs
/-! yield -/
def tyYld {K : PySem.W.Frag} (te : TD K) : TY K := fun D m sl rs => te sl rs D.xc fun y _ => ∃ x xs, y = .da x ∧ m = some (x :: xs) ∧ D.nx (some xs) sl []
/-! if -/
def tyIf {K : PySem.W.Frag} (tA : TDb K) (t u : TY K) : TY K := fun D m sl rs => tA sl rs D.xc fun b rs1 => if b = true then t D m sl rs1 else u D m sl rs1
end
end HC

/-! ### for in a generator, over what is no generator -/
namespace HC
open PyProof.Rows PySem L2 PySem.Spec GenW
section
variable {h : Home} {E : XK} {z : Bool} {c c' : Code} {fs : List Frame} {gd : Bool → Bool} {T : Flow → Sem PySem.Fin} {J : Value → Sem PySem.Fin} {lv : List Value → List Value} {ip : List (Addr × Obj)} {R : (Addr → Prop) → Hp → Prop} {a : Nat → GenState → Prop} {w w0 : Wka} {D : YE h.K} {m m0 : Option (List Da)} {s : Shared} {H : Hp} {σ : L2.St} {sl : List Sl} {rs : List (Rs h.K)} {F : List Addr}
theorem Spot.loop {k : Result → Sem PySem.Fin} {l kp : List Value} {p : Pos} (g : Spot h c fs gd) (hw : c'.weight = 0) (hu : c'.cUnits = 0) : Spot h c' (.ret k none (gd false) l c p kp :: fs) id :=
  ⟨(over_loop hw hu).trans g.over, by show (splitAtGen fs).map _ = none; rw [g.split]; rfl, by show (gd false || fs.any Frame.guarded) = false; rw [g.gd, g.guard]; rfl, rfl⟩
/-- ghost steps -/
theorem NowY.gs {p : List Sl → List (Rs h.K) → Prop} (hR : Onw R) (n : NowY h ip R w a s H σ sl rs F) (g : Gs p sl rs) : ∃ sl' rs' F', NowY h ip R w a s H σ sl' rs' F' ∧ p sl' rs' := by
  obtain ⟨sl', rs', gh, r⟩ := g
  obtain ⟨F', sub, n'⟩ := gh _ _ _ _ n.now
  exact ⟨sl', rs', F', ⟨n.inv, n', ⟨n.st.keep, fun b hb => n.st.new b (sub b hb)⟩, n.sa, hR _ _ _ _ n.rc (Evs.less fun b z => z.imp id (sub b)), n.big, n.dj, n.gz⟩, r⟩
def tyFor {K : PySem.W.Frag} (ti : TDi K) (g : TDg K) (tb : TY K) : TY K := fun D m sl rs => ti sl rs D.xc fun ys ok rs1 => ∃ W : Nat → Option (List Da) → List Sl → List (Rs K) → Prop, Gs (W 0 m) sl rs1 ∧ (∀ i m sl rs, W i m sl rs → ok rs) ∧
  (∀ i y m sl rs, ys[i]? = some y → W i m sl rs → g y sl rs fun sl2 rs2 => tb { D with nx := fun m' => Gs (W (i + 1) m'), ct := fun m' => Gs (W (i + 1) m'), bk := fun m' => Gs (D.nx m') } m sl2 rs2) ∧ ∀ m sl rs, W ys.length m sl rs → Gs (D.nx m) sl rs
end
end HC

/-! ### next of a generator, by its leg -/
namespace HC
open PyProof.Rows PySem L2 PySem.Spec GenW
section
variable {P : Program} {w : World} {A : Around} {E : Value → Shared → Prop} {s : Shared} {a : Addr} {g : Nat} {gs : GenState} {Φ : End → Shared → Prop} {Q : Option Value → Shared → Prop}
/-- its leg, when it is woken -/
def GoL (M : Model) (A : Around) (Φ : End → Shared → Prop) (gs : GenState) (s : Shared) : Prop := match gs with
  | .fresh c => Leg M A Φ c (M.den c) [] s
  | .suspended k _ c _ fs _ => Leg M A Φ c (k (.send .none)) fs s
  | _ => False
theorem GoL.mono {M : Model} {Φ' : End → Shared → Prop} (im : ∀ e s', Φ e s' → Φ' e s') (h : GoL M A Φ gs s) : GoL M A Φ' gs s := by
  cases gs with
  | fresh c => exact Leg.mono h im
  | suspended k l c p fs cl => exact Leg.mono h im
  | running => exact h
  | finished => exact h
end
end HC

/-! ### a generator def -/
namespace HC
open PyProof.Rows PySem L2 PySem.Spec GenW
/-- the object of the generator number g -/
def GenO (a : Addr) (g : Nat) : HO := .ext fun h => h.IsGen a g
section
variable {P : Program} {w : World} {K : PySem.W.Frag} {mg : Str → Option Value} {base : Heap} {A : Around} {outer : List Env} {N ps : List Str} {qual : Str} {scope : Scope} {L f : Addr} {cdv : Value} {E : XK} {ex : Nat → Prop}
/-- a generator def's promise: the arguments; the exception that it lets out when it is woken first, or all that it hands out -/
abbrev GD := List Sl → (Exn → Prop) → (List Da → Prop) → Prop
/-- this class is no StopIteration -/
def NsC (K : PySem.W.Frag) (C : Addr) : Prop := PySem.W.subIn K (.ref C) (.type "StopIteration") = some false
def EXg (K : PySem.W.Frag) (w0 : Wka) (xg : Exn → Prop) : XK := fun u d H' => Same w0.H H' ∧ ∃ x F', ExOk K (Mu w0.S F') H' u d x ∧ xg x
/-- the first wake -/
def First (P : Program) (w : World) (K : PySem.W.Frag) (mg : Str → Option Value) (base : Heap) (k : Nat) (outer : List Env) (m : Option (List Da)) (xg : Exn → Prop) (S1 : Addr → Prop) (H1 : Hp) (s1 : Shared) (c : Code) (L : Addr) : Prop :=
  ∀ (Aw : Around) (w0 : Wka) (ex : Nat → Prop), Room k Aw → Env0 P w K mg base Aw outer w0.s w0.H → Same H1 w0.H → Evs S1 w0.S H1 w0.H → LiveS w0.S w0.H → (∀ b o, s1.heap.get? b = some o → b ∉ frs outer → w0.s.heap.get? b = some o) → w0.H L = none →
    (∀ p ∈ w0.yp, w0.s.heap.get? p.1 = some p.2 ∧ w0.H p.1 = none ∧ p.1 ≠ L ∧ p.1 ∉ frs outer ∧ ∀ v, p.2.data ≠ .cell v) → (∀ i, ex i → i < w0.s.gens.size) →
    ∃ G : GF, G.env.locals = L ∧ G.pn = [] ∧ GOk outer base G ∧ Leg (model P w) Aw (EndO ⟨P, w, K, mg, base, outer, Aw, Aw, G, ex⟩ (EXg K w0 xg) m w0) c ((model P w).den c) [] w0.s
/-- a generator has been made -/
def MadeG (P : Program) (w : World) (K : PySem.W.Frag) (mg : Str → Option Value) (base : Heap) (k : Nat) (outer : List Env) (S : Addr → Prop) (H : Hp) (s : Shared) (xc : Exn → Prop) (q : List Da → Prop) (u : Value) (s' : Shared) : Prop :=
  ∃ (a : Addr) (g : Nat) (m : Option (List Da)) (c : Code), u = .ref a ∧ (∀ ys, m = some ys → q ys) ∧ s.heap.objs.size < a ∧ a < s'.heap.objs.size ∧ s'.heap.IsGen a g ∧ s'.gens[g]? = some (.fresh c) ∧ s'.gens.size = g + 1 ∧ (∀ (i : Nat) (x : GenState), s.gens[i]? = some x → s'.gens[i]? = some x) ∧ s.gens.size = g ∧ s'.os = s.os ∧ AllBare s'.gens ∧
    (∀ b o, s.heap.get? b = some o → s'.heap.get? b = some o) ∧ H s.heap.objs.size = none ∧ (∃ o, s'.heap.get? s.heap.objs.size = some o ∧ ∀ v, o.data ≠ .cell v) ∧ First P w K mg base k outer m (fun x => m = none ∧ xc x ∧ NsC K x.cls) S H s' c s.heap.objs.size
structure GnOk (P : Program) (w : World) (K : PySem.W.Frag) (mg : Str → Option Value) (base : Heap) (k : Nat) (f : Addr) (fd : FuncData) (ps : List Str) (D : GD) : Prop where
  len : ∀ as xc q, D as xc q → as.length = ps.length
  run : ∀ (A : Around) (outer : List Env) (s : Shared) (H : Hp) (args : Args) (us : List Value) (vs : List V) (S : Addr → Prop) (as : List Sl) (xc : Exn → Prop) (q : List Da → Prop), Room k A → Env0 P w K mg base A outer s H → BindsTo s fd args (ps.zip us) → Vals vs us → VAll K S H vs as → D as xc q →
    codeAny (model P w) A (.call (.ref f) args) (fun r s' => match r with | .ok (.ret u) => MadeG P w K mg base k outer S H s xc q u s' | _ => False) s
section
variable {name : Str} {params : Arguments} {body : List Stmt} {fd : FuncData} {k : Nat} {D : GD} {t : TY K}
end
end
end HC

/-! ### whoever takes what a generator hands out -/
namespace HC
open PyProof.Rows PySem L2 PySem.Spec GenW
abbrev hmX (X : Cx) (Aw : Around) (G : GF) (ex : Nat → Prop) : Home := ⟨X.prog, X.w, X.K, X.mg, X.base, X.stack, Aw, Aw, G, ex⟩
/-- it sleeps since S, H, sy, and hands out xs; pl: its own things -/
structure Asl (X : Cx) (Aw : Around) (G : GF) (ex : Nat → Prop) (E : XK) (xs : List Da) (pl : List (Addr × Obj)) (S : Addr → Prop) (H : Hp) (gs : GenState) (sy : Nat → GenState → Prop) : Prop where
  ex : ∃ (ip : List (Addr × Obj)) (τ : L2.St) (o : Obj) (s : Shared), pl = (G.env.locals, o) :: (G.pn ++ ip) ∧ sy = SleepO ex s.gens ∧ FrAt G τ o ∧ τ.length = G.N.length ∧ (∀ p ∈ G.pn ++ ip, p.1 ≠ G.env.locals) ∧
    ∀ w' : Wka, WakeOk (hmX X Aw G ex) ip τ o S H s w' → GoL (model X.prog X.w) Aw (EndG (hmX X Aw G ex) E xs w') gs w'.s
  slp : Asleep gs
section
variable {X : Cx} {A' : Around} {G : GF} {E : XK} {S : Addr → Prop} {H : Hp} {s : Shared} {σ : L2.St} {a : Addr} {g : Nat} {ex : Nat → Prop} {gs : GenState} {yp pins : List (Addr × Obj)} {xs : List Da} {Ex : Value → Shared → Prop}
end
end HC

/-! ### for over a generator -/
namespace HC
open PyProof.Rows PySem L2 PySem.Spec GenW
section
variable {X : Cx} {A' : Around} {G : GF} {E : XK} {S Sy : Addr → Prop} {H Hy : Hp} {s : Shared} {σ : L2.St} {a : Addr} {gi : Nat} {ex : Nat → Prop} {gs : GenState} {yp pins pl : List (Addr × Obj)} {xs : List Da} {sy : Nat → GenState → Prop}
end
/-- a reading of an expression whose value is a new generator -/
abbrev TDn (K : PySem.W.Frag) := List Sl → List (Rs K) → XD K → (List Da → List (Rs K) → Prop) → Prop
def dGn {K : PySem.W.Frag} (D : GD) (ts : TDa K) : TDn K := fun sl rs xc q => ts sl rs xc fun as rs1 => D as (fun x => xc x rs1) fun ys => q ys rs1
structure PGe (X : Cx) (k : Nat) (e : Expr) (E : XK) (dg : TDn X.K) : Prop where
  run : ∀ (pins : List (Addr × Obj)) (s : Shared) (σ : L2.St) (H : Hp) (S0 : Addr → Prop) (sl : List Sl) (rs : List (Rs X.K)) (F : List Addr) (xc : XD X.K) (q : List Da → List (Rs X.K) → Prop), Inv X pins σ H s → Now X.K S0 σ H sl rs F → dg sl rs xc q → OutX S0 F H xc E →
    wpAny (model X.prog X.w) X.A (eval e X.env) (fun u s1 => ∃ sc H1 rs1 F1, s.gens.size ≤ sc.gens.size ∧ Inv X pins σ H1 sc ∧ Now X.K S0 σ H1 sl rs1 F1 ∧ Stp F H F1 H1 ∧ MadeG X.prog X.w X.K X.mg X.base k X.stack (Mu S0 F1) H1 sc (fun x => xc x rs1) (fun ys => q ys rs1) u s1) X.xe s
def diGn {K : PySem.W.Frag} (dg : TDn K) : TDi K := fun sl rs xc r => dg sl rs xc fun ys rs1 => r (ys.map .da) (fun _ => True) rs1
section
variable {X : Cx} {E : XK} {k : Nat} {pins : List (Addr × Obj)} {σ : L2.St} {H1 : Hp} {sc s1 : Shared} {S1 : Addr → Prop} {xc : Exn → Prop} {q : List Da → Prop} {u : Value}
/-- a new generator, its object known: what holds then -/
structure Newg (X : Cx) (k : Nat) (pins : List (Addr × Obj)) (σ : L2.St) (S1 : Addr → Prop) (H1 : Hp) (sc s1 : Shared) (xc : Exn → Prop) (q : List Da → Prop) (a : Addr) (g : Nat) (m : Option (List Da)) (c : Code) : Prop where
  post : ∀ ys, m = some ys → q ys
  inv : Inv X pins σ (upd H1 a (GenO a g)) s1
  new : H1 a = none
  la : sc.heap.objs.size ≤ a
  num : sc.gens.size = g
  at_ : s1.gens[g]? = some (.fresh c)
  od : Older X pins sc.heap.objs.size
  noL : (upd H1 a (GenO a g)) sc.heap.objs.size = none
  first : First X.prog X.w X.K X.mg X.base k X.stack m (fun x => m = none ∧ xc x ∧ NsC X.K x.cls) S1 H1 s1 c sc.heap.objs.size
  kept : ∀ b o, sc.heap.get? b = some o → s1.heap.get? b = some o
  os : s1.os = sc.os
end
end HC

/-! ### calls of generator defs -/
namespace HC
open PyProof.Rows PySem L2 PySem.Spec GenW
/-- the def x of the module, a generator; the method m of the class at C, one -/
structure GnR (P : Program) (w : World) (K : PySem.W.Frag) (mg : Str → Option Value) (base : Heap) (x : Str) (k : Nat) (D : GD) : Prop where
  ex : ∃ f fd ps, mg x = some (.ref f) ∧ PySem.W.keepIn K (.ref f) = true ∧ GnOk P w K mg base k f fd ps D ∧ Binds K fd ps []
structure GnM (P : Program) (w : World) (K : PySem.W.Frag) (mg : Str → Option Value) (base : Heap) (C : Addr) (m : Str) (k : Nat) (D : GD) : Prop where
  cl : Cls K C
  ex : ∃ f fd ps, Meth K C m f ∧ GnOk P w K mg base k f fd ps D ∧ Binds K fd ps []
section
variable {X : Cx} {E : XK} {k : Nat} {x m : Str} {C : Addr} {e o : Expr} {es : List Expr} {p pos pos' apos : Pos} {D : GD} {ts : TDa X.K} {ta : TD X.K}
end
end HC

/-! ### list(g) -/
namespace HC
open PyProof.Rows PySem L2 PySem.Spec GenW
section
variable {X : Cx} {A : Around} {G : GF} {E0 : XK} {pins : List (Addr × Obj)} {S0 : Addr → Prop} {sl : List Sl} {rs1 : List (Rs X.K)} {T a : Addr} {g : Nat} {σ : L2.St}
def dListG {K : PySem.W.Frag} (dg : TDn K) : TD K := fun sl rs xc q => dg sl rs xc fun ys rs1 => ys.length ≤ sizeLine ∧ ∀ l, q (.raw (.ref l)) (lstR l (ys.map .da) :: rs1)
end
end HC

/-! ### for over a generator, in a generator -/
namespace HC
open PyProof.Rows PySem L2 PySem.Spec GenW
section
variable {h : Home} {E : XK}
def tyForG {K : PySem.W.Frag} (dg : TDn K) (g : TDg K) (tb : TY K) : TY K := fun D m sl rs => dg sl rs D.xc fun ys rs1 => ∃ W : Nat → Option (List Da) → List Sl → List (Rs K) → Prop, Gs (W 0 m) sl rs1 ∧
  (∀ i y m sl rs, ys[i]? = some y → W i m sl rs → g (.da y) sl rs fun sl2 rs2 => tb { D with nx := fun m' => Gs (W (i + 1) m'), ct := fun m' => Gs (W (i + 1) m'), bk := fun m' => Gs (D.nx m') } m sl2 rs2) ∧ ∀ m sl rs, W ys.length m sl rs → Gs (D.nx m) sl rs
end
end HC

/-! ### enumerate(g): its next -/
namespace HC
open PyProof.Rows PySem L2 PySem.Spec GenW
section
variable {P : Program} {w : World} {A : Around} {E : Value → Shared → Prop} {s : Shared} {a : Addr} {g : Nat} {gs : GenState} {Φ : End → Shared → Prop}
end
end HC

/-! ### for over enumerate(g) -/
namespace HC
open PyProof.Rows PySem L2 PySem.Spec GenW
section
variable {X : Cx} {A' : Around} {G : GF} {E : XK} {S : Addr → Prop} {H : Hp} {s : Shared} {σ : L2.St} {a e : Addr} {g : Nat} {ex : Nat → Prop} {gs : GenState} {yp pins : List (Addr × Obj)} {xs : List Da} {Ex : Value → Shared → Prop}
end
end HC

/-! ### for i, x in enumerate(g) -/
namespace HC
open PyProof.Rows PySem L2 PySem.Spec GenW
def diEnG {K : PySem.W.Frag} (dg : TDn K) : TDi K := fun sl rs xc r => dg sl rs xc fun ys rs1 => r (enumS 0 (ys.map .da)) (fun _ => True) rs1
section
variable {X : Cx} {E : XK} {k : Nat}
end
end HC

/-! ### steps of generators -/
namespace HC
open PyProof.Rows PySem L2 PySem.Spec GenW
section
variable {K : PySem.W.Frag} {D : YE K} {t u : TY K} {m : Option (List Da)} {sl : List Sl} {rs : List (Rs K)}
theorem y_seq (h : t { D with nx := u D } m sl rs) : tySeq t u D m sl rs := h
theorem y_next (h : D.nx m sl rs) : tyNext D m sl rs := h
theorem y_pl {t : TDs K} (h : t { nx := D.nx m, rt := fun _ _ => False, xc := D.xc, bk := D.bk m, ct := D.ct m } sl rs) : tyPl t D m sl rs := h
def YldK (D : YE K) (m : Option (List Da)) (sl : List Sl) : Sl → List (Rs K) → Prop := fun y _ => ∃ x xs, y = .da x ∧ m = some (x :: xs) ∧ D.nx (some xs) sl []
theorem y_yld {te : TD K} (h : te sl rs D.xc (YldK D m sl)) : tyYld te D m sl rs := h
theorem y_yldK {x : Da} {xs : List Da} (h : D.nx (some xs) sl []) : YldK D (some (x :: xs)) sl (.da x) rs := ⟨x, xs, rfl, rfl, h⟩
theorem y_if {tA : TDb K} (h : tA sl rs D.xc fun b rs1 => if b = true then t D m sl rs1 else u D m sl rs1) : tyIf tA t u D m sl rs := h
def YForK (g : TDg K) (tb : TY K) (D : YE K) (m : Option (List Da)) (sl : List Sl) : List Sl → (List (Rs K) → Prop) → List (Rs K) → Prop := fun ys ok rs1 => ∃ W : Nat → Option (List Da) → List Sl → List (Rs K) → Prop, Gs (W 0 m) sl rs1 ∧ (∀ i m sl rs, W i m sl rs → ok rs) ∧
  (∀ i y m sl rs, ys[i]? = some y → W i m sl rs → g y sl rs fun sl2 rs2 => tb { D with nx := fun m' => Gs (W (i + 1) m'), ct := fun m' => Gs (W (i + 1) m'), bk := fun m' => Gs (D.nx m') } m sl2 rs2) ∧ ∀ m sl rs, W ys.length m sl rs → Gs (D.nx m) sl rs
theorem y_for {ti : TDi K} {g : TDg K} {tb : TY K} (h : ti sl rs D.xc (YForK g tb D m sl)) : tyFor ti g tb D m sl rs := h
def YForGK (g : TDg K) (tb : TY K) (D : YE K) (m : Option (List Da)) (sl : List Sl) : List Da → List (Rs K) → Prop := fun ys rs1 => ∃ W : Nat → Option (List Da) → List Sl → List (Rs K) → Prop, Gs (W 0 m) sl rs1 ∧
  (∀ i y m sl rs, ys[i]? = some y → W i m sl rs → g (.da y) sl rs fun sl2 rs2 => tb { D with nx := fun m' => Gs (W (i + 1) m'), ct := fun m' => Gs (W (i + 1) m'), bk := fun m' => Gs (D.nx m') } m sl2 rs2) ∧ ∀ m sl rs, W ys.length m sl rs → Gs (D.nx m) sl rs
theorem y_forG {dg : TDn K} {g : TDg K} {tb : TY K} (h : dg sl rs D.xc (YForGK g tb D m sl)) : tyForG dg g tb D m sl rs := h
end
section
variable {K : PySem.W.Frag} {sl : List Sl} {rs : List (Rs K)} {xc : XD K} {G : GD} {ts : TDa K} {ta : TD K}
theorem s_gn {q : List Da → List (Rs K) → Prop} (h : ts sl rs xc fun as rs1 => G as (fun x => xc x rs1) fun ys => q ys rs1) : dGn G ts sl rs xc q := h
def ListGK (q : QD K) : List Da → List (Rs K) → Prop := fun ys rs1 => ys.length ≤ sizeLine ∧ ∀ l, q (.raw (.ref l)) (lstR l (ys.map .da) :: rs1)
theorem s_listG {dg : TDn K} {q : QD K} (h : dg sl rs xc (ListGK q)) : dListG dg sl rs xc q := h
theorem s_diG {dg : TDn K} {r : List Sl → (List (Rs K) → Prop) → List (Rs K) → Prop} (h : dg sl rs xc fun ys rs1 => r (ys.map .da) (fun _ => True) rs1) : diGn dg sl rs xc r := h
theorem s_diEnG {dg : TDn K} {r : List Sl → (List (Rs K) → Prop) → List (Rs K) → Prop} (h : dg sl rs xc fun ys rs1 => r (enumS 0 (ys.map .da)) (fun _ => True) rs1) : diEnG dg sl rs xc r := h
end
section
variable {P : Program} {w : World} {K : PySem.W.Frag} {mg : Str → Option Value} {base : Heap} {x q : Str} {st : Stmt} {f : Addr} {fd : FuncData} {ps : List Str} {k : Nat} {D : GD} {C : Addr}
end
section
variable {X : Cx} {K : PySem.W.Frag} {E : XK} {k : Nat} {x m : Str} {C : Addr} {e o : Expr} {es : List Expr} {p pos pos' apos : Pos} {D : GD} {ts : TDa K} {ta : TD K}
/-- PGe, the frame named apart -/
structure PGk (X : Cx) {K : PySem.W.Frag} (k : Nat) (e : Expr) (E : XK) (dg : TDn K) : Prop where
  ex : ∃ h : X.K = K, PGe X k e E (h.symm ▸ dg)
end
end HC

/-! a method that begins by super().m(..), its def in the class whose cell it caught -/
namespace HC
open PyProof.Rows PySem L2 PySem.Spec
/-- the names of such a def: a nested def's whose one caught name is __class__ -/
abbrev ScopeS (N ps : List Str) (sc : Scope) : Prop := NdefX.NScope N ps ["__class__"] sc
theorem start_val {N : List Str} {vs : List V} {i : Nat} {v : V} (h : (L2.start N vs)[i]? = some (some v)) : vs[i]? = some v := by
  simp only [L2.start, List.getElem?_append, List.length_map] at h
  split at h
  · simpa using h
  · exact absurd (List.mem_of_getElem? h) (by simp)
section
variable {N ps : List Str} {sc : Scope}
theorem ScopeS.front (S : ScopeS N ps sc) {i : Nat} {y : Str} (at_ : N[i]? = some y) (lt : i < ps.length) : ps[i]? = some y := by
  have z : (N.take (ps.length + 1))[i]? = (ps ++ [("__class__" : Str)])[i]? := congrArg (fun l => l[i]?) S.pre
  rwa [List.getElem?_take_of_lt (Nat.lt_of_lt_of_le lt (Nat.le_add_right _ _)), at_, List.getElem?_append_left lt, eq_comm] at z
theorem ScopeS.once (S : ScopeS N ps sc) : ps.Nodup := (List.nodup_append.mp (S.pre ▸ S.nd.sublist (List.take_sublist _ _))).1
theorem ScopeS.fits (S : ScopeS N ps sc) : ps.length ≤ N.length := by
  have z : (N.take (ps.length + 1)).length = ps.length + 1 := (congrArg List.length S.pre).trans (List.length_append ..)
  rw [List.length_take] at z
  omega
end
section
variable {CX : CXT} {P : Program} {w : World} {K : PySem.W.Frag} {mg : Str → Option Value} {base : Heap} {N ps : List Str} {qual : Str} {scope : Scope} {f cc : Addr} {cd : Value} {A : Around} {outer : List Env} {s : Shared} {H : Hp} {E : XK}
/-- the context of its body at the entry -/
def cxS (CX : CXT) (P : Program) (w : World) (K : PySem.W.Frag) (mg : Str → Option Value) (base : Heap) (N : List Str) (qual : Str) (scope : Scope) (f : Addr) (cd : Value) (cc : Addr) (A : Around) (outer : List Env) (s : Shared) (H : Hp) (E : XK) : Cx :=
  let en := PySem.W.ksEnv qual scope s.heap.objs.size f cd cc
  { cxOf CX P w K mg base N qual scope f cd A outer s H E with
    A := A.deeper en
    env := en
    stack := en :: outer
    fn := fun x => x != "__class__"
    xe := fun e s' => wpAny (model P w) (A.deeper en) (leaving en e) (fun _ s'' => CX outer H s E e s'') (fun e' s'' => CX outer H s E e' s'') s' }
theorem cellS {y : Str} {c : Addr} (e : List.lookup y [(("__class__" : Str), cc)] = some c) : y = "__class__" ∧ c = cc := by
  by_cases q : y = "__class__"
  · subst q
    simpa [eq_comm] using e
  · simp [List.lookup, beq_false_of_ne q] at e
theorem inv_startS {cl : Value} {cld : Option Addr} {csl : Array (Option Value)} {o : Option Value} {us : List Value} {vs : List V} {h₁ : Heap} {tk : Nat} (S : ScopeS N ps scope) (calm : A.handled = none) (e0 : Env0 P w K mg base A outer s H) (hl : vs.length = ps.length) (r : Vals vs us)
    (hcell : K.lookup cc = some ⟨cl, cld, .cell o, csl⟩) (ns : h₁.Ns s.heap.objs.size fun x => (ps.zip us).reverse.lookup x) (kp : ∀ b o, s.heap.get? b = some o → h₁.get? b = some o) :
    L2.Inv (cxS CX P w K mg base N qual scope f cd cc A outer s H E) [] (start N vs) H { s with heap := h₁, toks := tk } where
  ok :=
    { mod := e0.mod, kind := S.kind, glob := rfl, blt := rfl, above := Nat.le_refl _
      inj := fun x y c h1 h2 => (cellS h1).1.trans (cellS h2).1.symm
      has := fun y hy => by
        have hy : scope.names.lookup y = some .cell ∨ scope.names.lookup y = some .free := hy
        rcases hy with z | z
        · exact absurd rfl (S.nocell _ (PySem.mem_of_lookup z))
        · obtain rfl : y = "__class__" := List.mem_singleton.mp (S.free _ (PySem.mem_of_lookup z) rfl)
          exact ⟨cc, rfl⟩
      cab := fun y c h e => by
        rw [(cellS e).1] at h
        exact absurd h (by show ¬ ((("__class__" : Str) != "__class__") = true); simp)
      hd := fun _ => calm
      frames := Around.frames_deeper e0.frames
      stk := .inr ⟨rfl, rfl⟩
      exf := fun _ z => nomatch z
      bs := e0.bs
      bsz := e0.bsz
      noex := fun _ _ _ z => nomatch z
      exfs := fun _ z => nomatch z
      funs := e0.funs
      frf := e0.frf }
  os := rfl
  bare := e0.bare
  base := Un.kept kp
  loc := by
    refine ⟨_, ns, fun i y v at_ val _ => ?_⟩
    have mine := start_val val
    have ⟨u, hu, ru⟩ := r.get mine
    have front := S.front at_ (hl ▸ (List.getElem?_eq_some_iff.mp mine).1)
    exact ⟨u, ru, .inl ⟨S.par y (List.mem_of_getElem? front), NdefX.zip_look S.once front hu⟩⟩
  cell y c e := by
    obtain ⟨_, rfl⟩ := cellS e
    exact ⟨o, _, kp _ _ ((e0.mod.kin.keeps fun b o e => (e0.bs b o e).1) _ _ hcell), rfl⟩
  free := e0.hok.fresh (Nat.le_refl _)
  freeC y c e := by
    obtain ⟨_, rfl⟩ := cellS e
    exact (e0.bs _ _ (e0.mod.kin _ _ hcell)).2
  pin _ z := nomatch z
  hok := e0.hok.kept kp
  len := by
    have fits := S.fits
    simp only [L2.start, List.length_append, List.length_map, List.length_replicate, hl]
    exact Nat.add_sub_cancel' fits
end
/-- a statement run at the very place where its def's body runs -/
structure PS1 (X : Cx) (body : List Stmt) (st : Stmt) (t : TS) : Prop where
  run : ∀ (pins : List (Addr × Obj)) (s : Shared) (σ : L2.St) (H : Hp) (D : Ends), L2.Inv X pins σ H s → t D σ H → PySem.wpAt (model X.prog X.w) X.A (.func body X.env) (exec st X.env) (SP X pins D) X.xe s
section
variable {CX : CXT} {P : Program} {w : World} {K : PySem.W.Frag} {mg : Str → Option Value} {base : Heap} {N ps : List Str} {name qual : Str} {params : Arguments} {st : Stmt} {rest : List Stmt} {scope : Scope} {dV kV doc pm cdv ct oc : Value} {an od : Option Addr} {osl : Array (Option Value)} {k : Nat} {f cc : Addr} {sp : Sp}
/-- the def by its first statement and the others -/
theorem fn_ofS {cl : Value} {cld : Option Addr} {csl : Array (Option Value)} {o : Option Value} (lk : K.lookup f = some ⟨oc, od, .func (PySem.W.ksFn name qual params (st :: rest) scope dV kV doc pm an cdv ct cc), osl⟩) (code : PySem.W.codeIn K cdv qual = true)
    (hcell : K.lookup cc = some ⟨cl, cld, .cell o, csl⟩) (S : ScopeS N ps scope) (len : ∀ vs H Q E, sp vs H Q E → vs.length = ps.length)
    (owes : ∀ (A : Around) (outer : List Env) (s : Shared) (H : Hp) (vs : List V) (Q : VK) (E : XK), Room k (A.deeper (PySem.W.ksEnv qual scope s.heap.objs.size f cdv cc)) → sp vs H Q E →
      ∃ t0 t, PS1 (cxS CX P w K mg base N qual scope f cdv cc A outer s H E) (st :: rest) st t0 ∧ PSs (cxS CX P w K mg base N qual scope f cdv cc A outer s H E) rest t ∧
        t0 { nx := t { nx := fun _ H' => Q .non H', rt := Q }, rt := Q } (start N vs) H) :
    FnOk P w K mg base CX (k + 1) f (PySem.W.ksFn name qual params (st :: rest) scope dV kV doc pm an cdv ct cc) ps sp := by
  refine ⟨len, fun A outer s H args us vs Q E room e0 binds rel owed => ?_⟩
  have up : ∀ b o, base.get? b = some o → s.heap.get? b = some o := fun b o e => (e0.bs b o e).1
  have KX : K.In s.heap := e0.mod.kin.keeps up
  have loc : ∀ y ∈ ps.zip us, scope.names.lookup y.1 = some .local := fun y hy => S.par y.1 (List.of_mem_zip hy).1
  refine ks_codeAny_call_defAt room.depth (KX _ _ lk) rfl (e0.mod.nolimit.keeps up) (PySem.W.codeRec_of KX code) rfl binds S.nocell loc (fun h₁ ns kp => ?_) S.co S.gen S.kind
  obtain ⟨t0, t, first, others, owed⟩ := owes A outer s H vs Q E (room.deeper _) owed
  have inv : L2.Inv (cxS CX P w K mg base N qual scope f cdv cc A outer s H E) [] (start N vs) H { s with heap := h₁, toks := s.toks + (ps.zip us).length } := inv_startS S room.hd e0 (len _ _ _ _ (by assumption)) rel hcell ns kp
  have fin : ∀ {fl : Flow} {s' : Shared}, SP (cxS CX P w K mg base N qual scope f cdv cc A outer s H E) [] { nx := fun _ H' => Q .non H', rt := Q } fl s' → CR CX outer P w H s Q E (.ok (.ret (match fl with | .ret v => v | _ => .none))) s' := fun {fl s'} z => by
    cases fl with
    | ret u => obtain ⟨v, σ', H', J, rv, q⟩ := z; exact ⟨v, H', J.os, J.bare, J.base, J.hok, rv, q⟩
    | next => obtain ⟨σ', H', J, q⟩ := z; exact ⟨V.non, H', J.os, J.bare, J.base, J.hok, rfl, q⟩
    | brk => obtain ⟨_, _, _, q⟩ := z; exact q.elim
    | cont => obtain ⟨_, _, _, q⟩ := z; exact q.elim
  refine ks_wpAt_execs_cons (PySem.wpAt_mono (first.run [] _ _ H _ inv owed) (fun fl s' z => ?_) fun _ _ x => x)
  cases fl with
  | next => obtain ⟨σ', H', J, q⟩ := z; exact PySem.wpAt_of_wpAny (thn (others.run [] s' σ' H' _ J q) fun fl s2 z => fin z)
  | ret u => exact fin (fl := .ret u) z
  | brk => exact fin (fl := .brk) z
  | cont => exact fin (fl := .cont) z
end
/-- the class at D, whose method (code cdv, cell cc) says super().m: the next class on has m at g -/
structure SupOf (P : Program) (K : PySem.W.Frag) (mg : Str → Option Value) (D cc : Addr) (cdv : Value) (m : Str) (g : Addr) : Prop where
  cell : ∃ cl cld csl, K.lookup cc = some ⟨cl, cld, .cell (some (.ref D)), csl⟩
  code : ∃ cda vs file tf, cdv = .ref cda ∧ PySem.W.recIn K cda "code" = some vs ∧ vs[2]? = some (.str file tf) ∧ ((P.main.file : Str) == file) = true
  cls : ∃ cl cld cd csl, K.lookup D = some ⟨cl, cld, .cls cd, csl⟩
  sub : PySem.W.mroIn K D (.ref D) = some true
  no : mg "super" = none
  opq : PySem.W.nsIn K cStatics "thirdparty.any" = some none
  up : PySem.W.ks_superIn K D D m = some (some (.ref g))
  fn : PySem.W.fnIn K g = true
  ty : PySem.W.typeIn K (.ref g) = some (.type "function")
  top : (P.main.scope.names.lookup ("super" : Str)).isSome = false
section
variable {CX CX' : CXT} {P : Program} {w : World} {K : PySem.W.Frag} {mg : Str → Option Value} {base : Heap} {N : List Str} {qual : Str} {scope : Scope} {f cc C g : Addr} {cdv oc : Value} {od : Option Addr} {osl : Array (Option Value)} {fd : FuncData} {A : Around} {outer : List Env} {s0 : Shared} {H0 : Hp} {E0 E : XK}
  {k : Nat} {sp : Sp} {m : Str} {ar : Arg} {body : List Stmt} {e : Expr} {es : List Expr} {ta : TA} {p0 p1 p2 p3 p4 : Pos}
end
end HC

/-! defs that caught __class__: how they stand behind the head, and are bound; C(e, .., k=v, ..) of several keywords; a call of a method of one of several classes -/
namespace HC
open PyProof.Rows PySem L2 PySem.Spec
structure FunS (P : Program) (K : PySem.W.Frag) (mg : Str → Option Value) (x qual : Str) (params : Arguments) (body : List Stmt) (scope : Scope) (kws : List (Str × V)) (f : Addr) (fd : FuncData) (C : Addr) (m : Str) (g : Addr) : Prop where
  ex : ∃ (oc : Value) (od : Option Addr) (kV doc pm : Value) (an : Option Addr) (cdv ct : Value) (osl : Array (Option Value)) (cc : Addr),
    fd = PySem.W.ksFn x qual params body scope .none kV doc pm an cdv ct cc ∧ K.lookup f = some ⟨oc, od, .func fd, osl⟩ ∧ PySem.W.codeIn K cdv qual = true ∧ KwdV K kV kws ∧ SupOf P K mg C cc cdv m g
section
variable {P : Program} {w : World} {K : PySem.W.Frag} {mg : Str → Option Value} {base : Heap} {x qual m : Str} {params : Arguments} {st : Stmt} {rest body : List Stmt} {scope : Scope} {kws : List (Str × V)} {f C g : Addr} {fd : FuncData}
theorem FunS.ok {CX : CXT} {N ps : List Str} {k : Nat} {sp : Sp} (F : FunS P K mg x qual params (st :: rest) scope kws f fd C m g) (S : ScopeS N ps scope) (len : ∀ vs H Q E, sp vs H Q E → vs.length = ps.length)
    (owes : ∀ (oc : Value) (od : Option Addr) (osl : Array (Option Value)) (cdv : Value) (cc : Addr), SupOf P K mg C cc cdv m g → K.lookup f = some ⟨oc, od, .func fd, osl⟩ → fd.params = params → ∀ (A : Around) (outer : List Env) (s : Shared) (H : Hp) (vs : List V) (Q : VK) (E : XK),
      Room k (A.deeper (PySem.W.ksEnv qual scope s.heap.objs.size f cdv cc)) → sp vs H Q E →
      ∃ t0 t, PS1 (cxS CX P w K mg base N qual scope f cdv cc A outer s H E) (st :: rest) st t0 ∧ PSs (cxS CX P w K mg base N qual scope f cdv cc A outer s H E) rest t ∧ t0 { nx := t { nx := fun _ H' => Q .non H', rt := Q }, rt := Q } (L2.start N vs) H) :
    FnOk P w K mg base CX (k + 1) f fd ps sp := by
  obtain ⟨oc, od, kV, doc, pm, an, cdv, ct, osl, cc, rfl, lk, code, _, U⟩ := F.ex
  obtain ⟨cl, cld, csl, lkc⟩ := U.cell
  exact fn_ofS lk code lkc S len fun A outer s H vs Q E r h => owes oc od osl cdv cc U lk rfl A outer s H vs Q E r h
/-- all by place -/
theorem FunS.binds {ps : List Str} (F : FunS P K mg x qual params body scope kws f fd C m g) (h : ∀ (kV doc pm : Value) (an : Option Addr) (cdv ct : Value) (cc : Addr) (us : List Value), us.length = ps.length → bindArgs (PySem.W.ksFn x qual params body scope .none kV doc pm an cdv ct cc) ⟨us, []⟩ = pure (ps.zip us)) :
    L2.Binds K fd ps [] := by
  obtain ⟨oc, od, kV, doc, pm, an, cdv, ct, osl, cc, rfl, _⟩ := F.ex
  exact L2.Binds.all fun us hl => h kV doc pm an cdv ct cc us hl
end
/-- the class x at C is called with n values by place and the keywords ks -/
structure MakeN (P : Program) (w : World) (K : PySem.W.Frag) (mg : Str → Option Value) (base : Heap) (x : Str) (C : Addr) (k n : Nat) (ks : List Str) (sp : Sp) : Prop where
  at_ : mg x = some (.ref C)
  ex : ∃ f fd ps, Mk K C f ∧ FnOk P w K mg base (CXW P w) k f fd ps sp ∧ KBn K fd ps (n + 1) ks (fun us ws => us ++ ws) (fun vs zs => vs ++ zs)
section
variable {X : Cx} {k n : Nat} {C : Addr} {ks : List Str} {sp : Sp} {E : XK} {x : Str} {p pos : Pos} {e : Expr} {es : List Expr} {kws : List Keyword} {t tk : TA}
variable {K : PySem.W.Frag} {H : Hp} {Q : VK} {σ : L2.St}
end
section
variable {P : Program} {w : World} {K : PySem.W.Frag} {mg : Str → Option Value} {base : Heap} {N : List Str} {qual : Str} {scope : Scope} {f cc : Addr} {cdv : Value} {A : Around} {outer : List Env} {s : Shared} {H : Hp} {E : XK}
end
end HC
namespace HC
open PySem PySem.W PySem.Calls PyProof.Rows He He5 L2
/-! ### the head -/
structure DefC where
  at_ : Frag → Addr
  name : PySem.Str
  qual : PySem.Str
  params : Arguments
  body : List Stmt
  scope : Scope
  kws : List (PySem.Str × V)
  cls : Frag → Addr
  sup : Frag → Addr
/-- the def at a -/
def fdIn (K : Frag) (a : Addr) : Option FuncData := (K.lookup a).bind fun o => match o.data with
  | .func fd => some fd
  | _ => none
theorem fdIn_at {K : Frag} {a : Addr} {fd : FuncData} (h : fdIn K a = some fd) : ∃ oc od osl, K.lookup a = some ⟨oc, od, .func fd, osl⟩ := by
  obtain ⟨⟨oc, od, dt, osl⟩, at_, h⟩ := Option.bind_eq_some_iff.mp h
  refine ⟨oc, od, osl, at_.trans ?_⟩
  dsimp only at h
  split at h
  · rw [Option.some.inj h]
  · cases h
abbrev FnT : Type := Option (PySem.Str × PySem.Str × Arguments × FuncBody × Scope × Addr × Addr)
def fnC (K : Frag) (a : Addr) : FnT := (fdIn K a).map fun fd => (fd.name, fd.qualname, fd.params, fd.body, fd.scope, fd.globals, fd.builtins)
def DefC.val (d : DefC) : FnT := some (d.name, d.qual, d.params, .stmts d.body, d.scope, mainGlobals, builtinsNs)
def fileB (K : Frag) (file : PySem.Str) : Value → Bool
  | .ref c => ((recIn K c "code").bind (·[2]?)).any fun v => match v with
    | .str z _ => decide (z = file)
    | _ => false
  | _ => false
theorem fileB_ok {K : Frag} {file : PySem.Str} {code : Value} (h : fileB K file code = true) : ∃ cda vs tf, code = .ref cda ∧ recIn K cda "code" = some vs ∧ vs[2]? = some (.str file tf) := by
  unfold fileB at h
  split at h
  · rename_i c
    cases q : (recIn K c "code").bind (·[2]?) with
    | none => rw [q] at h; cases h
    | some v =>
      rw [q, Option.any_some] at h
      obtain ⟨vs, e1, e2⟩ := Option.bind_eq_some_iff.mp q
      split at h
      · exact ⟨c, vs, _, rfl, e1, by rw [e2, of_decide_eq_true h]⟩
      · cases h
  · cases h
def cellB (K : Frag) (C : Addr) (cl : List (PySem.Str × Addr)) : Bool := match cl with
  | [(y, cc)] => decide (y = "__class__") && ((K.lookup cc).any fun o => match o.data with
    | .cell (some (.ref D)) => decide (D = C)
    | _ => false)
  | _ => false
theorem cellB_ok {K : Frag} {C : Addr} {cl : List (PySem.Str × Addr)} (h : cellB K C cl = true) : ∃ cc, cl = [(("__class__" : PySem.Str), cc)] ∧ ∃ c1 c2 c3, K.lookup cc = some ⟨c1, c2, .cell (some (.ref C)), c3⟩ := by
  unfold cellB at h
  split at h
  · rename_i y cc
    obtain ⟨ey, h⟩ := ba h
    cases q : K.lookup cc with
    | none => rw [q] at h; cases h
    | some o =>
      rw [q, Option.any_some] at h
      obtain ⟨c1, c2, dt, c3⟩ := o
      dsimp only at h
      split at h
      · exact ⟨cc, by rw [of_decide_eq_true ey], c1, c2, c3, by rw [q, of_decide_eq_true h]⟩
      · cases h
  · cases h
def clsB (K : Frag) (C : Addr) : Bool := (clsIn K C).isSome
def supB (K : Frag) (C : Addr) (m : PySem.Str) (g : Addr) : Bool := clsB K C && (decide (mroIn K C (.ref C) = some true) && (eqO (nsIn K cStatics "thirdparty.any") (some none) && (eqO (ks_superIn K C C m) (some (some (.ref g))) && (fnIn K g && decide (typeIn K (.ref g) = some (.type "function"))))))
def DefC.fits (file : PySem.Str) (K : Frag) (d : DefC) (fd : FuncData) : Bool := codeIn K fd.code d.qual && (decide (fd.defaults = .none) && (He.kwdB K fd.kwdefaults d.kws && (cellB K (d.cls K) fd.closure && fileB K file fd.code)))
def DefC.ok (file : PySem.Str) (K : Frag) (d : DefC) : Bool := supB K (d.cls K) d.name (d.sup K) && (fdIn K (d.at_ K)).any (d.fits file K)
theorem fd_is {fd : FuncData} {x q : PySem.Str} {ps : Arguments} {bd : List Stmt} {sc : Scope} {cc : Addr} (h : (fd.name, fd.qualname, fd.params, fd.body, fd.scope, fd.globals, fd.builtins) = (x, q, ps, FuncBody.stmts bd, sc, mainGlobals, builtinsNs)) (hc : fd.closure = [(("__class__" : PySem.Str), cc)]) (hd : fd.defaults = .none) :
    fd = ksFn x q ps bd sc .none fd.kwdefaults fd.doc fd.pyModule fd.annotations fd.code fd.closureTuple cc := by
  cases fd
  cases h
  cases hc
  cases hd
  rfl
theorem DefC.funS {P : Program} {K : Frag} {mg : PySem.Str → Option Value} {file : PySem.Str} {d : DefC} (e : fnC K (d.at_ K) = d.val) (c : d.ok file K = true) (hfile : ((P.main.file : PySem.Str) == file) = true) (top : (P.main.scope.names.lookup ("super" : PySem.Str)).isSome = false) (no : mg "super" = none) :
    ∃ fd, FunS P K mg d.name d.qual d.params d.body d.scope d.kws (d.at_ K) fd (d.cls K) d.name (d.sup K) := by
  obtain ⟨sb, c⟩ := ba c
  obtain ⟨s1, s⟩ := ba sb
  obtain ⟨s2, s⟩ := ba s
  obtain ⟨s3, s⟩ := ba s
  obtain ⟨s4, s⟩ := ba s
  obtain ⟨s5, s6⟩ := ba s
  obtain ⟨fd, here, same⟩ := Option.map_eq_some_iff.mp e
  rw [here] at c
  obtain ⟨k1, c⟩ := ba (show d.fits file K fd = true from c)
  obtain ⟨k2, c⟩ := ba c
  obtain ⟨k3, c⟩ := ba c
  obtain ⟨k4, k5⟩ := ba c
  obtain ⟨cc, ecl, cell⟩ := cellB_ok k4
  obtain ⟨cda, vs, tf, a1, a2, a3⟩ := fileB_ok k5
  obtain ⟨oc, od, osl, at_⟩ := fdIn_at here
  have cls : ∃ cl cld cd csl, K.lookup (d.cls K) = some ⟨cl, cld, .cls cd, csl⟩ := by
    obtain ⟨cd, z⟩ := Option.isSome_iff_exists.mp s1
    unfold clsIn at z
    split at z
    · exact ⟨_, _, _, _, by assumption⟩
    · cases z
  exact ⟨fd, oc, od, fd.kwdefaults, fd.doc, fd.pyModule, fd.annotations, fd.code, fd.closureTuple, osl, cc, fd_is same ecl (of_decide_eq_true k2), at_, k1, He.kwdB_ok k3, cell, ⟨cda, vs, file, tf, a1, a2, a3, hfile⟩, cls, of_decide_eq_true s2, no, eqO_ok s3, eqO_ok s4, s5, of_decide_eq_true s6, top⟩
structure SaysS (file : PySem.Str) (fc : List DefC) (fx : List Tst) (fa : List Fa) (fn : List DefA) (tf : List He.Defn) (h : Heap) (K : Frag) : Prop where
  l : SaysL fx fa fn tf h K
  ok : (fc.all fun d => d.ok file K) = true
  fn : (fc.map fun d => fnC K (d.at_ K)) = fc.map DefC.val
theorem SaysS.def_ {file : PySem.Str} {fc : List DefC} {fx : List Tst} {fa : List Fa} {fn : List DefA} {tf : List He.Defn} {h : Heap} {K : Frag} {P : Program} {mg : PySem.Str → Option Value} (c : SaysS file fc fx fa fn tf h K) (hfile : ((P.main.file : PySem.Str) == file) = true) (top : (P.main.scope.names.lookup ("super" : PySem.Str)).isSome = false) (no : mg "super" = none)
    (i : Nat) {d : DefC} (at_ : fc[i]? = some d := by rfl) : ∃ fd, FunS P K mg d.name d.qual d.params d.body d.scope d.kws (d.at_ K) fd (d.cls K) d.name (d.sup K) := by
  have e : fnC K (d.at_ K) = d.val := by
    have := congrArg (fun l => l[i]?) c.fn
    simpa [at_] using this
  exact DefC.funS e (List.all_eq_true.mp c.ok d (List.mem_of_getElem? at_)) hfile top no
end HC

/-! ### sorted, by data -/
namespace HC
open PyProof.Rows PySem L2 PySem.Spec
def leP (p q : Int × Int) : Bool := !SrtO.lexB q p
def srtP (ps : List (Int × Int)) : List (Int × Int) := ps.mergeSort leP
def srtI (ns : List Int) : List Int := ns.mergeSort fun a b => decide (a ≤ b)
def pairD (p : Int × Int) : Da := .tup [.int p.1, .int p.2]
theorem leP_iff {p q : Int × Int} : leP p q = true ↔ SrtO.lexB q p = false := by unfold leP; cases SrtO.lexB q p <;> simp
theorem srtP_uniq {l ps : List (Int × Int)} (h : l.Pairwise fun x y => SrtO.lexB y x = false) (p : l.Perm ps) : l = srtP ps := by
  have hs : (srtP ps).Pairwise fun x y => leP x y = true := List.pairwise_mergeSort (fun a b c h1 h2 => by
      have a1 := SrtO.lexB_no.mp (leP_iff.mp h1)
      have a2 := SrtO.lexB_no.mp (leP_iff.mp h2)
      refine leP_iff.mpr (SrtO.lexB_no.mpr ?_)
      omega) (fun a b => by
      simp only [Bool.or_eq_true]
      by_cases q : SrtO.lexB b a = false
      · exact .inl (leP_iff.mpr q)
      · refine .inr (leP_iff.mpr (SrtO.lexB_no.mpr ?_))
        have q := SrtO.lexB_iff.mp (by simpa using q)
        omega) ps
  refine List.Perm.eq_of_pairwise (le := fun x y => SrtO.lexB y x = false) (fun a b _ _ h1 h2 => ?_) h (hs.imp fun x => leP_iff.mp x) (p.trans (List.mergeSort_perm ps _).symm)
  have a1 := SrtO.lexB_no.mp h1
  have a2 := SrtO.lexB_no.mp h2
  exact Prod.ext (by omega) (by omega)
theorem srtI_uniq {l ns : List Int} (h : l.Pairwise (· ≤ ·)) (p : l.Perm ns) : l = srtI ns := by
  have hs : (srtI ns).Pairwise fun x y => decide (x ≤ y) = true := List.pairwise_mergeSort (fun a b c h1 h2 => by
      have := of_decide_eq_true h1
      have := of_decide_eq_true h2
      exact decide_eq_true (by omega)) (fun a b => by simp only [Bool.or_eq_true, decide_eq_true_eq]; omega) ns
  exact List.Perm.eq_of_pairwise (le := (· ≤ ·)) (fun a b _ _ h1 h2 => by omega) h (hs.imp fun x => of_decide_eq_true x) (p.trans (List.mergeSort_perm ns _).symm)
section
variable {K : PySem.W.Frag} {S0 : Addr → Prop} {H : Hp} {rs : List (Rs K)} {F : List Addr} {v : V} {y : Sl} {vs : List V} {ys : List Sl} {q : QD K} {Q : VK}
def keyP (H : Hp) : V → Int × Int
  | .ref t => match H t with
    | some (.tup [.int a, .int b]) => (a, b)
    | _ => (0, 0)
  | _ => (0, 0)
theorem pair_D {S : Addr → Prop} {v : V} {p : Int × Int} (h : De K S H v (pairD p)) : keyP H v = p ∧ ∃ t, v = V.ref t ∧ H t = some (.tup [.int p.1, .int p.2]) := by
  cases h with
  | tup e d =>
    rename_i a vs
    obtain rfl : vs = [V.int p.1, V.int p.2] := ints_D (ns := [p.1, p.2]) d
    exact ⟨by simp only [keyP, e], a, rfl, e⟩
theorem pairs_D {S : Addr → Prop} : ∀ {ws : List V} {ps : List (Int × Int)}, DeAll K S H ws (ps.map pairD) → ws.map (keyP H) = ps ∧ ∀ w ∈ ws, De K S H w (pairD (keyP H w)) ∧ ∃ t, w = V.ref t ∧ H t = some (.tup [.int (keyP H w).1, .int (keyP H w).2])
  | [], [], _ => ⟨rfl, fun w hw => nomatch hw⟩
  | w :: ws, p :: ps, .cons a b => by
    obtain ⟨h1, h2⟩ := pairs_D b
    obtain ⟨e, h3⟩ := pair_D a
    refine ⟨by rw [List.map_cons, e, h1], fun x hx => ?_⟩
    rcases List.mem_cons.mp hx with rfl | hx
    · rw [e]; exact ⟨a, h3⟩
    · exact h2 x hx
theorem deAll_of {S : Addr → Prop} {f : V → Da} : ∀ {ws : List V}, (∀ w ∈ ws, De K S H w (f w)) → DeAll K S H ws (ws.map f)
  | [], _ => .nil
  | w :: ws, h => .cons (h w List.mem_cons_self) (deAll_of fun x hx => h x (List.mem_cons_of_mem _ hx))
def aSortP : AN K := fun ys rs q => ∃ (y : Sl) (ps : List (Int × Int)), ys = [y] ∧ See rs y (.lst (ps.map pairD)) ∧ q (.da (.lst ((srtP ps).map pairD))) rs
theorem act_sortP : ActN K (rSortedPO K) aSortP := fun S0 H rs F vs ys q Q A r ⟨y, ps, e, see, h⟩ k => by
  subst e
  obtain ⟨u, rfl, ru⟩ := vone r
  obtain ⟨a, ws, rfl, h1, d1⟩ := (see.top A ru).l
  obtain ⟨e1, e2⟩ := pairs_D d1
  refine ⟨a, ws, keyP H, rfl, SqL.of h1, fun x hx => (e2 x hx).2, fun zs p hs hp np => ?_⟩
  have sm := same_new (o := .lst zs) np
  have eq : zs.map (keyP H) = srtP ps := by
    rw [← e1]
    exact srtP_uniq (List.pairwise_map.mpr hs) (hp.perm.map _)
  have all : DeAll K (Mu S0 F) H zs ((srtP ps).map pairD) := by
    rw [← eq, List.map_map]
    exact deAll_of fun w hw => (e2 w (hp.perm.mem_iff.mp hw)).1
  exact k _ _ rs F _ (Stp.same sm) (A.same sm) (.da (.lst (A.fresh np) (upd_same ..) (all.ev (Ev.same (F := []) sm)))) h
def aSortI : AN K := fun ys rs q => ∃ (y : Sl) (ns : List Int), ys = [y] ∧ See rs y (.lst (ns.map .int)) ∧ q (.da (.lst ((srtI ns).map .int))) rs
theorem deAll_ints {S : Addr → Prop} : ∀ (ns : List Int), DeAll K S H (ns.map V.int) (ns.map Da.int)
  | [] => .nil
  | n :: r => .cons (.int n) (deAll_ints r)
theorem act_sortI : ActN K (rSortedI K) aSortI := fun S0 H rs F vs ys q Q A r ⟨y, ns, e, see, h⟩ k => by
  subst e
  obtain ⟨u, rfl, ru⟩ := vone r
  obtain ⟨a, ws, rfl, h1, d1⟩ := (see.top A ru).l
  obtain rfl := ints_D d1
  refine ⟨a, ns, rfl, SqL.of h1, fun ns' p hp hs np => ?_⟩
  have sm := same_new (o := .lst (ns'.map V.int)) np
  rw [← srtI_uniq hs hp] at h
  exact k _ _ rs F _ (Stp.same sm) (A.same sm) (.da (.lst (A.fresh np) (upd_same ..) (deAll_ints ns'))) h
end
section
variable {X : Cx} {e : Expr} {te : TE} {p pos : Pos}
theorem bt_sorted : bootBuiltins "sorted" = some (.builtin "sorted") := by kernel_rfl
theorem pe_sortP (K' : PySem.W.Frag) (m : Bts X.mg) (he : PE X e te) (hg : Gl X "sorted" := by rfl) (hs : starEach (e :: []) X.env = (false, eval e X.env) :: starEach [] X.env := by rfl) (hK : X.K = K' := by rfl) : PE X (.Call (.Name "sorted" p) [e] [] pos) (tCB (rSortedPO K') (tCons te tNil)) := by
  subst hK
  exact pe_callB cr_sortedPO hg m.sorted bt_sorted (pa_cons he pa_nil hs) (by decide) (by decide) hs rfl
theorem pe_sortI (K' : PySem.W.Frag) (m : Bts X.mg) (he : PE X e te) (hg : Gl X "sorted" := by rfl) (hs : starEach (e :: []) X.env = (false, eval e X.env) :: starEach [] X.env := by rfl) (hK : X.K = K' := by rfl) : PE X (.Call (.Name "sorted" p) [e] [] pos) (tCB (rSortedI K') (tCons te tNil)) := by
  subst hK
  exact pe_callB cr_sortedI hg m.sorted bt_sorted (pa_cons he pa_nil hs) (by decide) (by decide) hs rfl
end
section
variable {K : PySem.W.Frag} {rs : List (Rs K)} {q : QD K} {y : Sl}
theorem s_sortP {ps : List (Int × Int)} (see : See rs y (.lst (ps.map pairD))) (h : q (.da (.lst ((srtP ps).map pairD))) rs) : aSortP [y] rs q := ⟨y, ps, rfl, see, h⟩
theorem s_sortI {ns : List Int} (see : See rs y (.lst (ns.map .int))) (h : q (.da (.lst ((srtI ns).map .int))) rs) : aSortI [y] rs q := ⟨y, ns, rfl, see, h⟩
end
end HC

/-! ### things in a box; an own operator; list(d.values()) by data -/
namespace HC
open PyProof.Rows PySem L2 PySem.Spec
section
variable {K : PySem.W.Frag} {S0 : Addr → Prop} {H : Hp} {F : List Addr} {rs : List (Rs K)} {y : Sl} {sl : List Sl} {α : Type} {B : α → Prop} {g : α → List (Rs K)} {b : α}
/-- some things of the kind g, told as one -/
def boxR (B : α → Prop) (g : α → List (Rs K)) : Rs K where
  p S H F := ∃ b, B b ∧ Sep K S H (g b) F
  stb := fun {S S' H H' F} h e => by
    obtain ⟨b, hb, h⟩ := h
    exact ⟨b, hb, h.ev e fun _ z => z⟩
theorem At.unbox (A : At K S0 H (boxR B g :: rs) F) : ∃ b, B b ∧ At K S0 H (g b ++ rs) F := by
  obtain ⟨sep, nd, off, liv⟩ := A
  obtain ⟨F1, F2, rfl, ⟨b, hb, h⟩, hr⟩ := sep
  exact ⟨b, hb, h.app hr, nd, off, liv⟩
theorem At.box (hb : B b) (A : At K S0 H (g b ++ rs) F) : At K S0 H (boxR B g :: rs) F := by
  obtain ⟨sep, nd, off, liv⟩ := A
  obtain ⟨F1, F2, rfl, h1, h2⟩ := sep.split
  exact ⟨⟨F1, F2, rfl, ⟨b, hb, h1⟩, h2⟩, nd, off, liv⟩
theorem GhV.box (hb : B b) : GhV y (g b ++ rs) y (boxR B g :: rs) := fun S0 H F v A r => ⟨F, fun _ h => h, A.box hb, r⟩
theorem Gh.box (hb : B b) : Gh sl (g b ++ rs) sl (boxR B g :: rs) := fun S0 σ H F N => ⟨F, fun _ h => h, N.at_.box hb, N.sl⟩
/-- an exception, things told otherwise -/
def Xb (xc : XD K) : XD K := fun x rs => ∃ rs', (∀ S0 H F, At K S0 H rs F → At K S0 H rs' F) ∧ xc x rs'
theorem outX_xb {xc : XD K} {E : XK} (k : OutX S0 F H xc E) : OutX S0 F H (Xb xc) E := fun x u d rs' F' H' st A r ⟨rs2, im, h⟩ => k x u d rs2 F' H' st (im _ _ _ A) r h
/-- a promise over a box, from one over what is in it -/
theorem spD_box (α : Type) {D D0 : SpD K} (h : ∀ as rs xc q, D as rs xc q → ∃ (B : α → Prop) (g : α → List (Rs K)) (r2 : List (Rs K)), rs = boxR B g :: r2 ∧ ∀ b, B b → D0 as (g b ++ r2) (Xb xc) (Gv q)) : ∀ vs H Q E, spD D vs H Q E → spD D0 vs H Q E := fun vs H Q E ⟨S0, as, rs, F, xc, q, A, r, hd, k, kx⟩ => by
  obtain ⟨B, g, r2, rfl, hh⟩ := h as rs xc q hd
  obtain ⟨b, hb, A2⟩ := A.unbox
  exact ⟨S0, as, g b ++ r2, F, Xb xc, Gv q, A2, r, hh b hb, out_gv k, outX_xb kx⟩
theorem DefR.imp {P : Program} {w : World} {mg : Str → Option Value} {base : Heap} {x : Str} {k : Nat} {D D0 : SpD K} (R : DefR P w K mg base x k (spD D0)) (h : ∀ vs H Q E, spD D vs H Q E → spD D0 vs H Q E) : DefR P w K mg base x k (spD D) := by
  obtain ⟨f, h1, h2, F⟩ := R
  exact ⟨f, h1, h2, F.data h⟩
end
section
variable {X : Cx} {K : PySem.W.Frag} {E : XK} {C : Addr} {D : SpD K}
/-- x op y by the own method of their class -/
def aOwn (C : Addr) (D : SpD K) : A2 K := fun y z rs q => (∃ nm, IsO rs y C nm) ∧ (∃ nm, IsO rs z C nm) ∧ Ask D [y, z] rs xF q
theorem act_own : Act2 K (rOwn2 C (spD D)) (aOwn C D) := fun S0 H rs F v w y z q Q A r1 r2 ⟨⟨n1, i1⟩, ⟨n2, i2⟩, t⟩ k => by
  obtain ⟨a, dx, fs, rfl, h1, _⟩ := i1.ok A r1
  obtain ⟨b, dy, gs, rfl, h2, _⟩ := i2.ok A r2
  exact ⟨a, b, dx, dy, fs, gs, rfl, rfl, h1, h2, t.sp A (.cons r1 (.cons r2 .nil)) k outX_F⟩
theorem s_own {rs : List (Rs K)} {q : QD K} {fs gs : List (Str × Da)} (h : Ask D [.da (.obj C fs), .da (.obj C gs)] rs xF q) : aOwn C D (.da (.obj C fs)) (.da (.obj C gs)) rs q := ⟨⟨_, .da fs⟩, ⟨_, .da gs⟩, h⟩
/-! isinstance(e, (tuple, list)) -/
def IsTTd (q : QD K) : QD K := fun y rs => ∃ x t b c, See rs y x ∧ tyD x = some t ∧ kitB t "tuple" = some b ∧ kitB t "list" = some c ∧ q (.da (.bl (b || c))) rs
def dIsTT (te : TD K) : TD K := fun sl rs xc q => te sl rs xc (IsTTd q)
theorem d_isiTT {e : Expr} {te : TD K} (h : PE X e (tIsTT K (LE E te))) : PE X e (LE E (dIsTT te)) := pe_weak h fun σ H Q ⟨S0, sl, rs, F, xc, q, N, t, k, kx⟩ =>
  g_isTT (LE.use N t kx fun v y rs1 F1 H1 st1 N1 r1 ⟨x, tt, b, c, see, ht, h1, h2, hq⟩ =>
    n_isTT (fun H' s => (see.top (N1.at_.same s) (r1.ev (Ev.same (F := []) s))).ty ht) h1 h2 fun H' s => k _ _ rs1 F1 H' (st1.trans (Stp.same s)) (N1.at_.same s) (.da (.bl _)) hq)
theorem s_isTT {sl : List Sl} {rs : List (Rs K)} {xc : XD K} {q : QD K} {te : TD K} (h : te sl rs xc (IsTTd q)) : dIsTT te sl rs xc q := h
theorem s_isTTK {rs : List (Rs K)} {q : QD K} {x : Da} {t : String} {b c : Bool} (ht : tyD x = some t) (h1 : kitB t "tuple" = some b) (h2 : kitB t "list" = some c) (h : q (.da (.bl (b || c))) rs) : IsTTd q (.da x) rs := ⟨x, t, b, c, .da x, ht, h1, h2, h⟩
/-! list(d.values()) -/
def ValsK (q : QD K) : QD K := fun y rs => ∃ (a : Addr) (fs : List (Key × Da)) (rs' : List (Rs K)), y = .raw (.ref a) ∧ Ext (dctR a (fs.map fun f => (f.1, .da f.2))) rs rs' ∧ q (.da (.lst (fs.map (·.2)))) rs
def dVals (te : TD K) : TD K := fun sl rs xc q => te sl rs xc (ValsK q)
theorem s_vals {sl : List Sl} {rs : List (Rs K)} {xc : XD K} {q : QD K} {te : TD K} (h : te sl rs xc (ValsK q)) : dVals te sl rs xc q := h
end
end HC

/-! ### dicts whose keys are tuples, by data; locking such a dict for good -/
namespace HC
open PyProof.Rows PySem L2 PySem.Spec
section
variable {K : PySem.W.Frag} {S S' S0 : Addr → Prop} {H H' : Hp} {F F' : List Addr} {rs rs' rs1 : List (Rs K)} {v : V} {y : Sl} {sl sl' : List Sl}
/-! ### a dict is locked: from then on it is data -/
inductive FzV (v : V) (x : Da) : Sl → Sl → Prop
  | fz : FzV v x (.raw v) (.da x)
  | same (y : Sl) : FzV v x y y
inductive FzR (v : V) (x : Da) : Rs K → Rs K → Prop
  | same (R : Rs K) : FzR v x R R
  | obj {b C : Addr} {fs fs' : List (Str × Sl)} : Paired (fun p q => p.1 = q.1 ∧ FzV v x p.2 q.2) fs fs' → FzR v x (objR b C fs) (objR b C fs')
theorem VOk.fzV {u : V} {x : Da} {y' : Sl} (h : VOk K S H u y) (d : De K S H v x) (f : FzV v x y y') : VOk K S H u y' := by
  cases f with
  | fz => cases h; exact .da d
  | same => exact h
theorem fs_fz {x : Da} (d : De K S H v x) : ∀ {fs fs' : List (Str × Sl)} {us : List V}, Paired (fun p q => p.1 = q.1 ∧ FzV v x p.2 q.2) fs fs' → VAll K S H us (fs.map (·.2)) → VAll K S H us (fs'.map (·.2)) ∧ fs.map (·.1) = fs'.map (·.1)
  | _, _, _, .nil, h => ⟨h, rfl⟩
  | _, _, _, .cons ⟨e, f⟩ t, .cons r rr => ⟨.cons (r.fzV d f) (fs_fz d t rr).1, by rw [List.map_cons, List.map_cons, e, (fs_fz d t rr).2]⟩
theorem FzR.ok {x : Da} {R R' : Rs K} {G : List Addr} (f : FzR v x R R') (d : De K S H v x) (h : R.p S H G) : R'.p S H G := by
  cases f with
  | same => exact h
  | obj z =>
    obtain ⟨e, dx, gs, h1, h2, h3⟩ := h
    obtain ⟨a1, a2⟩ := fs_fz d z h3
    exact ⟨e, dx, gs, h1, h2.trans a2, a1⟩
end
section
variable {X : Cx} {K : PySem.W.Frag} {E : XK} {a b c e o k : Expr} {pos pos' apos cpos : Pos} {ta tb td ty tv : TD K} {st : Stmt} {t : TDs K}
end
/-! ### what a dict holds -/
def ktD (ks : List Key) : Da := .tup (ks.map kD)
def getT {α : Type} (kvs : List (List Key × α)) (k : List Key) : Option α := (kvs.find? fun kv => decide (kv.1 = k)).map (·.2)
def putT {α : Type} (kvs : List (List Key × α)) (k : List Key) (x : α) : List (List Key × α) := if (kvs.any fun kv => decide (kv.1 = k)) = true then kvs.map (fun kv => if kv.1 = k then (kv.1, x) else kv) else kvs ++ [(k, x)]
section
variable {K : PySem.W.Frag} {S S0 : Addr → Prop} {H : Hp} {rs rs' : List (Rs K)} {F : List Addr} {v : V} {y : Sl}
/-- y is such a dict: its keys and values -/
inductive SeeT (rs : List (Rs K)) : Sl → List (List Key × Sl) → Prop
  | da (kvs : List (List Key × Da)) : SeeT rs (.da (.dT kvs)) (kvs.map fun f => (f.1, .da f.2))
  | raw {a : Addr} {ys : List (List Key × Sl)} {rs' : List (Rs K)} : Ext (dctT a ys) rs rs' → SeeT rs (.raw (.ref a)) ys
theorem SeeT.ok {ys : List (List Key × Sl)} (s : SeeT rs y ys) (A : At K S0 H rs F) (r : VOk K (Mu S0 F) H v y) : ∃ a gs, v = .ref a ∧ Rd H a (.dT gs) ∧ gs.map (·.1) = ys.map (·.1) ∧ VAll K (Mu S0 F) H (gs.map (·.2)) (ys.map (·.2)) := by
  cases s with
  | da kvs =>
    cases r with | da d => cases d with | @dT a ob gs _ n h1 h2 h3 =>
      refine ⟨_, gs, rfl, .inr ⟨_, h1⟩, by rw [h2, List.map_map]; rfl, ?_⟩
      have := h3.vall
      rw [List.map_map] at this ⊢
      exact this
  | raw e =>
    cases r
    obtain ⟨gs, h1, h2, h3, _⟩ := A.dctT e
    exact ⟨_, gs, rfl, .inl h1, h2, h3⟩
theorem kD_v {k : Key} (h : De K S H v (kD k)) : v = kV k := by
  cases k with
  | inl i => cases h; rfl
  | inr z => cases h; rfl
end
section
variable {X : Cx} {K : PySem.W.Frag} {E : XK} {a b c e o k : Expr} {pos pos' apos cpos : Pos} {td ty tv tx : TD K} {st : Stmt}
/-! d[k], k in d, k not in d -/
def dDGet (td ty : TD K) : TD K := fun sl rs xc q => td sl rs xc fun y rs1 => ty sl rs1 xc fun z rs2 => ∃ ys ks w, SeeT rs2 y ys ∧ z = .da (ktD ks) ∧ getT ys ks = some w ∧ q w rs2
def dDIn (f : Bool → Bool) (ty td : TD K) : TD K := fun sl rs xc q => ty sl rs xc fun z rs1 => td sl rs1 xc fun y rs2 => ∃ ys ks, SeeT rs2 y ys ∧ z = .da (ktD ks) ∧ q (.da (.bl (f (getT ys ks).isSome))) rs2
theorem le_tB {t : TE} {te : TD K} (i : ∀ σ H Q, LE E te σ H Q → t σ H Q) {σ : L2.St} {H : Hp} {Q : Bool → Hp → Prop} (l : LT E (dT te) σ H Q) : tB t σ H Q := le_test i l
/-! d.get(k), d.get(k, x) -/
def dDGet1 (td ty : TD K) : TD K := fun sl rs xc q => td sl rs xc fun y rs1 => (∃ ys, SeeT rs1 y ys) ∧ ty sl rs1 xc fun z rs2 => ∃ ys ks, SeeT rs2 y ys ∧ z = .da (ktD ks) ∧ q ((getT ys ks).getD (.da .non)) rs2
def dDGet2 (td ty tx : TD K) : TD K := fun sl rs xc q => td sl rs xc fun y rs1 => (∃ ys, SeeT rs1 y ys) ∧ ty sl rs1 xc fun z rs2 => tx sl rs2 xc fun w rs3 => ∃ ys ks, SeeT rs3 y ys ∧ z = .da (ktD ks) ∧ q ((getT ys ks).getD w) rs3
/-! d[k] = v, d[k] -= n -/
def dDPut (td ty tv : TD K) : TDs K := fun d sl rs => tv sl rs d.xc fun w rs1 => td sl rs1 d.xc fun y rs2 => ty sl rs2 d.xc fun z rs3 => ∃ p ys ks rs4, y = .raw (.ref p) ∧ z = .da (ktD ks) ∧ Rep (dctT p ys) (dctT p (putT ys ks w)) rs3 rs4 ∧ ys.length < 1000000 ∧ d.nx sl rs4
end
end HC

/-! ### dicts whose keys are tuples: walked by keys, values, pairs; len, list, list of values; new ones; empty or not -/
namespace HC
open PyProof.Rows PySem L2 PySem.Spec
/-- what a locked dict holds, entry by entry -/
structure Ents (H : Hp) (s : Shared) (d : Addr) (kvs : List (List Key × V)) (es : Array DictEntry) (ep : Nat) : Prop where
  low : (d == sysModules) = false
  raw : s.heap.DictRaw d es ep
  size : es.size = kvs.length
  at_ : ∀ i k v, kvs[i]? = some (k, v) → ∃ hi : i < es.size, ∃ q, es[i].key = .ref q ∧ H q = some (.tup (k.map kV)) ∧ RelV v es[i].val
section
variable {X : Cx} {pins : List (Addr × Obj)} {σ : L2.St} {H : Hp} {s : Shared} {d : Addr} {o : Obj} {kvs : List (List Key × V)}
end
section
variable {P : Program} {w : World} {K : PySem.W.Frag} {tg : Expr} {d : Addr} {o : Obj} {es : Array DictEntry} {ep : Nat} {kvs : List (List Key × V)}
end
section
variable {X : Cx} {tg e : Expr} {td : TE} {apos cpos : Pos}
end
end HC

/-! ### dicts whose keys are tuples, by data: walked, counted, listed, new -/
namespace HC
open PyProof.Rows PySem L2 PySem.Spec
section
variable {K : PySem.W.Frag} {S S0 : Addr → Prop} {H : Hp} {rs : List (Rs K)} {F : List Addr} {v : V} {y : Sl}
variable {d : Addr} {o : Obj} {gs : List (List Key × V)} {kvs : List (List Key × Da)}
end
section
variable {X : Cx} {K : PySem.W.Frag} {E : XK} {a b c e o tg : Expr} {p pos : Pos} {td te : TD K}
/-! walked -/
def diDT (f : List (List Key × Da) → List Sl) (ok : List (List Key × Da) → Prop) (te : TD K) : TDi K := fun sl rs xc q => te sl rs xc fun y rs1 => ∃ kvs, y = .da (.dT kvs) ∧ ok kvs ∧ q (f kvs) (fun _ => True) rs1
/-! {} -/
/-! len(d), list(d), list(d.values()) -/
/-! list(d.values()) -/
def ValsTK (q : QD K) : QD K := fun y rs => ∃ kvs, SeeT rs y kvs ∧ ∀ l, q (.raw (.ref l)) (lstR l (kvs.map (·.2)) :: rs)
def dValsT (te : TD K) : TD K := fun sl rs xc q => te sl rs xc (ValsTK q)
end
/-! ### steps -/
section
variable {K : PySem.W.Frag} {rs rs' : List (Rs K)} {sl : List Sl} {q : QD K} {xc : XD K} {td ty tv tx : TD K} {y z : Sl} {d : DEnds K}
def DGetK (q : QD K) (y : Sl) : QD K := fun z rs2 => ∃ ys ks w, SeeT rs2 y ys ∧ z = .da (ktD ks) ∧ getT ys ks = some w ∧ q w rs2
theorem s_dget (h : td sl rs xc fun y rs1 => ty sl rs1 xc (DGetK q y)) : dDGet td ty sl rs xc q := h
def DInK (f : Bool → Bool) (q : QD K) (z : Sl) : QD K := fun y rs2 => ∃ ys ks, SeeT rs2 y ys ∧ z = .da (ktD ks) ∧ q (.da (.bl (f (getT ys ks).isSome))) rs2
theorem s_din {f : Bool → Bool} (h : ty sl rs xc fun z rs1 => td sl rs1 xc (DInK f q z)) : dDIn f ty td sl rs xc q := h
def DGet1K (q : QD K) (y : Sl) : QD K := fun z rs2 => ∃ ys ks, SeeT rs2 y ys ∧ z = .da (ktD ks) ∧ q ((getT ys ks).getD (.da .non)) rs2
def DGet1L (ty : TD K) (sl : List Sl) (xc : XD K) (q : QD K) : QD K := fun y rs1 => (∃ ys, SeeT rs1 y ys) ∧ ty sl rs1 xc (DGet1K q y)
theorem s_dget1 (h : td sl rs xc (DGet1L ty sl xc q)) : dDGet1 td ty sl rs xc q := h
theorem s_dget1L {ys : List (List Key × Sl)} (se : SeeT rs y ys) (h : ty sl rs xc (DGet1K q y)) : DGet1L ty sl xc q y rs := ⟨⟨ys, se⟩, h⟩
def DGet2K (q : QD K) (y z : Sl) : QD K := fun w rs3 => ∃ ys ks, SeeT rs3 y ys ∧ z = .da (ktD ks) ∧ q ((getT ys ks).getD w) rs3
def DGet2L (ty tx : TD K) (sl : List Sl) (xc : XD K) (q : QD K) : QD K := fun y rs1 => (∃ ys, SeeT rs1 y ys) ∧ ty sl rs1 xc fun z rs2 => tx sl rs2 xc (DGet2K q y z)
theorem s_dget2 (h : td sl rs xc (DGet2L ty tx sl xc q)) : dDGet2 td ty tx sl rs xc q := h
theorem s_dget2L {ys : List (List Key × Sl)} (se : SeeT rs y ys) (h : ty sl rs xc fun z rs2 => tx sl rs2 xc (DGet2K q y z)) : DGet2L ty tx sl xc q y rs := ⟨⟨ys, se⟩, h⟩
def DPutK (w y : Sl) (d : DEnds K) (sl : List Sl) : QD K := fun z rs3 => ∃ p ys ks rs4, y = .raw (.ref p) ∧ z = .da (ktD ks) ∧ Rep (dctT p ys) (dctT p (putT ys ks w)) rs3 rs4 ∧ ys.length < 1000000 ∧ d.nx sl rs4
theorem s_dput (h : tv sl rs d.xc fun w rs1 => td sl rs1 d.xc fun y rs2 => ty sl rs2 d.xc (DPutK w y d sl)) : dDPut td ty tv d sl rs := h
theorem s_valsT (h : td sl rs xc (ValsTK q)) : dValsT td sl rs xc q := h
def DiDTK (f : List (List Key × Da) → List Sl) (ok : List (List Key × Da) → Prop) (q : List Sl → (List (Rs K) → Prop) → List (Rs K) → Prop) : QD K := fun y rs1 => ∃ kvs, y = .da (.dT kvs) ∧ ok kvs ∧ q (f kvs) (fun _ => True) rs1
theorem s_diDT {f : List (List Key × Da) → List Sl} {ok : List (List Key × Da) → Prop} {r : List Sl → (List (Rs K) → Prop) → List (Rs K) → Prop} (h : td sl rs xc (DiDTK f ok r)) : diDT f ok td sl rs xc r := h
end
end HC

/-! ### C(e, .., kw=v), C( *xs, kw=v), len(set(xs)) by data -/
namespace HC
open PyProof.Rows PySem L2 PySem.Spec
section
variable {P : Program} {w : World} {K : PySem.W.Frag} {mg : Str → Option Value} {base : Heap} {k : Nat} {f : Addr}
theorem FnRK.imp {kw : Str} {sp sp' : Sp} (F : FnRK P w K mg base k f kw sp) (i : ∀ vs H Q E, sp' vs H Q E → sp vs H Q E) : FnRK P w K mg base k f kw sp' := fun A outer s H us vs u z Q E hr env rel rz h => F A outer s H us vs u z Q E hr env rel rz (i _ _ _ _ h)
/-- the arguments one and two, exchanged -/
def swapD (D : SpD K) : SpD K := fun as rs xc q => ∃ a z ys, as = a :: z :: ys ∧ D (z :: a :: ys) rs xc q
structure MakeDK (P : Program) (w : World) (K : PySem.W.Frag) (mg : Str → Option Value) (base : Heap) (x : Str) (C : Addr) (k : Nat) (kw : Str) (D D' : SpD K) : Prop where
  mkr : MakeRK P w K mg base x C k kw (spD D)
  it : Mks C (swapD D) D'
end
section
variable {X : Cx} {K : PySem.W.Frag} {E : XK} {e : Expr} {ts tk : TDa K} {te : TD K} {C : Addr} {D D' : SpD K} {sl : List Sl} {rs : List (Rs K)} {q : QD K} {xc : XD K}
def KwK (D' : SpD K) (xc : XD K) (q : QD K) (ys : List Sl) : List Sl → List (Rs K) → Prop := fun zs rs2 => ∃ z, zs = [z] ∧ Ask D' (z :: ys) rs2 xc q
def dMakeK (D' : SpD K) (ts tk : TDa K) : TD K := fun sl rs xc q => ts sl rs xc fun ys rs1 => tk sl rs1 xc (KwK D' xc q ys)
def SkwD (D' : SpD K) (xc : XD K) (q : QD K) (y : Sl) : List Sl → List (Rs K) → Prop := fun zs rs2 => ∃ ys, Itm rs2 y ys ∧ KwK D' xc q ys zs rs2
def dMakeSK (D' : SpD K) (te : TD K) (tk : TDa K) : TD K := fun sl rs xc q => te sl rs xc fun y rs1 => tk sl rs1 xc (SkwD D' xc q y)
theorem s_makeK (h : ts sl rs xc fun ys rs1 => tk sl rs1 xc (KwK D' xc q ys)) : dMakeK D' ts tk sl rs xc q := h
theorem s_makeSK (h : te sl rs xc fun y rs1 => tk sl rs1 xc (SkwD D' xc q y)) : dMakeSK D' te tk sl rs xc q := h
theorem s_kwK {ys : List Sl} {z : Sl} (h : Ask D' (z :: ys) rs xc q) : KwK D' xc q ys [z] rs := ⟨z, rfl, h⟩
/-! len(set(xs)), texts -/
def LenSetK (q : QD K) : QD K := fun y rs => ∃ zs : List Str, (∃ ys, Itm rs y ys ∧ ys = (zs.map Da.str).map .da) ∧ zs.length ≤ 1000 ∧ q (.da (.int (dst zs))) rs
def dLenSet (te : TD K) : TD K := fun sl rs xc q => te sl rs xc (LenSetK q)
theorem s_lenSet (h : te sl rs xc (LenSetK q)) : dLenSet te sl rs xc q := h
end
end HC

/-! ### (e, .., *xs) by data -/
namespace HC
open PyProof.Rows PySem L2 PySem.Spec
section
variable {X : Cx} {K : PySem.W.Frag} {E : XK} {e : Expr} {es : List Expr} {p : Pos} {te : TD K} {ts : TDa K} {sl : List Sl} {rs : List (Rs K)} {xc : XD K}
def AppK (ys : List Sl) (q : List Sl → List (Rs K) → Prop) : List Sl → List (Rs K) → Prop := fun zs rs2 => q (ys ++ zs) rs2
def StarK (ts : TDa K) (sl : List Sl) (xc : XD K) (q : List Sl → List (Rs K) → Prop) : QD K := fun y rs1 => ∃ ys, Itm rs1 y ys ∧ ts sl rs1 xc (AppK ys q)
def dStar (te : TD K) (ts : TDa K) : TDa K := fun sl rs xc q => te sl rs xc (StarK ts sl xc q)
theorem s_star {q : List Sl → List (Rs K) → Prop} (h : te sl rs xc (StarK ts sl xc q)) : dStar te ts sl rs xc q := h
theorem s_starK {q : List Sl → List (Rs K) → Prop} {y : Sl} {ys : List Sl} (im : Itm rs y ys) (h : ts sl rs xc (AppK ys q)) : StarK ts sl xc q y rs := ⟨ys, im, h⟩
theorem s_appK {q : List Sl → List (Rs K) → Prop} {ys zs : List Sl} (h : q (ys ++ zs) rs) : AppK ys q zs rs := h
end
end HC
/-! ### for over a generator inside a generator, the frame K apart -/
namespace HC
open PyProof.Rows PySem L2 PySem.Spec GenW
section
variable {h : Home} {E : XK}
end
end HC

/-! dicts whose keys are tuples, at the machine: d != {}, dict(d) -/
namespace PySem
open PySem.Calls PyProof.Rows PyProof.V PySem.Spec PySem.W
section
variable {K : Type} [DecidableEq K] {prog : Program} {w : World} {knd : HeapKind prog w K} {A : Around} {E : Value → Shared → Prop} {s : Shared} {n o a b : Addr} {xs : List (K × Addr × Value)} {Q : Value → Shared → Prop}
end
end PySem

/-! dicts whose keys are tuples, by data: dict(d), dict([(k, v), ..]), d != {}; a lock that may be none -/
namespace L2
open PySem PySem.Spec PyProof.Rows
section
variable {X : Cx}
theorem KT.keys {H : Hp} {kvs : List (List Key × V)} {xs : List (List Key × Addr × Value)} (r : KT H kvs xs) : xs.map (·.1) = kvs.map (·.1) := by
  induction r with
  | nil => rfl
  | cons h t ih => rw [List.map_cons, List.map_cons, h.1, ih]
theorem KT.mem {H : Hp} {kvs : List (List Key × V)} {xs : List (List Key × Addr × Value)} (r : KT H kvs xs) : ∀ x ∈ xs, H x.2.1 = some (.tup (x.1.map kV)) := by
  induction r with
  | nil => intro x hx; cases hx
  | cons h t ih =>
    intro x hx
    cases hx with
    | head => rw [← h.1]; exact h.2.1
    | tail _ hx => exact ih x hx
/-! d != {} -/
/-! dict([(k, v), ..]) -/
end
end L2
namespace HC
open PyProof.Rows PySem L2 PySem.Spec
section
variable {K : PySem.W.Frag} {S S' S0 : Addr → Prop} {H H' : Hp} {F F' : List Addr} {rs rs' rs1 : List (Rs K)} {v : V} {y : Sl} {sl sl' : List Sl}
/-! locks: what stands in dicts is told too; a lock that may be none -/
inductive FzR2 (v : V) (x : Da) : Rs K → Rs K → Prop
  | same (R : Rs K) : FzR2 v x R R
  | obj {b C : Addr} {fs fs' : List (Str × Sl)} : Paired (fun p q => p.1 = q.1 ∧ FzV v x p.2 q.2) fs fs' → FzR2 v x (objR b C fs) (objR b C fs')
  | dct {b : Addr} {fs fs' : List (List Key × Sl)} : Paired (fun p q => p.1 = q.1 ∧ FzV v x p.2 q.2) fs fs' → FzR2 v x (dctT b fs) (dctT b fs')
theorem fs_fz2 {α : Type} {x : Da} (d : De K S H v x) : ∀ {fs fs' : List (α × Sl)} {us : List V}, Paired (fun p q => p.1 = q.1 ∧ FzV v x p.2 q.2) fs fs' → VAll K S H us (fs.map (·.2)) → VAll K S H us (fs'.map (·.2)) ∧ fs.map (·.1) = fs'.map (·.1)
  | _, _, _, .nil, h => ⟨h, rfl⟩
  | _, _, _, .cons ⟨e, f⟩ t, .cons r rr => ⟨.cons (r.fzV d f) (fs_fz2 d t rr).1, by rw [List.map_cons, List.map_cons, e, (fs_fz2 d t rr).2]⟩
theorem FzR2.ok {x : Da} {R R' : Rs K} {G : List Addr} (f : FzR2 v x R R') (d : De K S H v x) (h : R.p S H G) : R'.p S H G := by
  cases f with
  | same => exact h
  | obj z =>
    obtain ⟨e, dx, gs, h1, h2, h3⟩ := h
    obtain ⟨a1, a2⟩ := fs_fz2 d z h3
    exact ⟨e, dx, gs, h1, h2.trans a2, a1⟩
  | dct z =>
    obtain ⟨e, gs, h1, h2, h3⟩ := h
    obtain ⟨a1, a2⟩ := fs_fz2 d z h3
    exact ⟨e, gs, h1, h2.trans a2, a1⟩
theorem sep_fz2 {x : Da} (d : De K S H v x) : ∀ {rs rs' : List (Rs K)} {F : List Addr}, Sep K S H rs F → Paired (FzR2 v x) rs rs' → Sep K S H rs' F
  | [], _, _, h, .nil => h
  | _ :: _, _, _, ⟨F1, F2, e, h1, h2⟩, .cons f t => ⟨F1, F2, e, f.ok d h1, sep_fz2 d h2 t⟩
end
section
variable {X : Cx} {K : PySem.W.Frag} {E : XK} {st : Stmt} {t : TDs K} {e : Expr} {p pos : Pos}
end
end HC

/-! ### texts taken apart, numbers of texts, head and rest, several items set at once, by data -/
namespace HC
open PyProof.Rows PySem L2 PySem.Spec
section
variable {K : PySem.W.Frag} {S0 : Addr → Prop} {H : Hp} {rs : List (Rs K)} {F : List Addr} {v : V} {y : Sl} {vs : List V} {ys : List Sl} {q : QD K} {Q : VK}
end
section
variable {X : Cx} {K : PySem.W.Frag} {E : XK} {e o i tg : Expr} {pos : Pos} {te to ti : TD K} {sl : List Sl} {rs rs' : List (Rs K)} {d : DEnds K} {y z : Sl}
/-- head, *rest = list -/
def dHead (te : TD K) (gd : TDgs K) : TDs K := fun d sl rs => te sl rs d.xc fun y rs1 => ∃ x xs, NlL rs1 y (x :: xs.map .da) ∧ gd [x, .da (.lst xs)] sl rs1 d.nx
def HeadK (gd : TDgs K) (d : DEnds K) (sl : List Sl) : QD K := fun y rs1 => ∃ x xs, NlL rs1 y (x :: xs.map .da) ∧ gd [x, .da (.lst xs)] sl rs1 d.nx
theorem s_head {gd : TDgs K} (h : te sl rs d.xc (HeadK gd d sl)) : dHead te gd d sl rs := h
/-- o[i] as a target -/
def gdSub (to ti : TD K) : TDg K := fun y sl rs q => to sl rs xF fun z rs1 => ti sl rs1 xF fun i rs2 => ∃ a ys k j rs3, z = .raw (.ref a) ∧ i = .da (.int k) ∧ ixN ys.length k = some j ∧ Rep (lstR a ys) (lstR a (ys.set j y)) rs2 rs3 ∧ q sl rs3
def GSub1 (ti : TD K) (y : Sl) (sl : List Sl) (q : List Sl → List (Rs K) → Prop) : QD K := fun z rs1 => ti sl rs1 xF fun i rs2 => ∃ a ys k j rs3, z = .raw (.ref a) ∧ i = .da (.int k) ∧ ixN ys.length k = some j ∧ Rep (lstR a ys) (lstR a (ys.set j y)) rs2 rs3 ∧ q sl rs3
def GSub2 (y : Sl) (sl : List Sl) (q : List Sl → List (Rs K) → Prop) (z : Sl) : QD K := fun i rs2 => ∃ a ys k j rs3, z = .raw (.ref a) ∧ i = .da (.int k) ∧ ixN ys.length k = some j ∧ Rep (lstR a ys) (lstR a (ys.set j y)) rs2 rs3 ∧ q sl rs3
theorem s_gsub {q : List Sl → List (Rs K) → Prop} (h : to sl rs xF (GSub1 ti y sl q)) : gdSub to ti y sl rs q := h
theorem s_gsub1 {q : List Sl → List (Rs K) → Prop} (h : ti sl rs xF (GSub2 y sl q z)) : GSub1 ti y sl q z rs := h
end
end HC

/-! ### == and != of own classes, isinstance of an own class, f-strings, by data -/
namespace HC
open PyProof.Rows PySem L2 PySem.Spec
/-- what isinstance(x, C) asks of the class at C -/
structure KitC (K : PySem.W.Frag) (C : Addr) : Prop where
  cl : Cls K C
  at_ : PySem.W.findIn K (.ref C) "__class__" = some (some (.builtin "object.__class__"))
  get : PySem.W.specialIn K (.builtin "object.__class__") "__get__" = some (some (.builtin "getset_descriptor.__get__"))
  tk : PySem.W.takesIn K (.builtin "object.__class__") = some true
  obj : PySem.W.mroIn K C (.type "object") = some true
  one : PySem.W.kitOne K (.ref C) (.ref C) = some true
section
variable {X : Cx} {K : PySem.W.Frag} {E : XK} {C : Addr} {D : SpD K} {e : Expr} {te : TD K} {sl : List Sl} {rs : List (Rs K)} {xc : XD K} {q : QD K} {neg : Bool}
/-- isinstance(x, C), x of the class C -/
def IsCd (C : Addr) (q : QD K) : QD K := fun y rs => (∃ nm, IsO rs y C nm) ∧ q (.da (.bl true)) rs
def dIsC (C : Addr) (te : TD K) : TD K := fun sl rs xc q => te sl rs xc (IsCd C q)
theorem s_isC (h : te sl rs xc (IsCd C q)) : dIsC C te sl rs xc q := h
theorem s_isCK {fs : List (Str × Da)} (h : q (.da (.bl true)) rs) : IsCd C q (.da (.obj C fs)) rs := ⟨⟨_, .da fs⟩, h⟩
def OwnEqK (neg : Bool) (q : QD K) : QD K := fun v rs1 => ∃ r : Bool, v = .da (.bl r) ∧ q (.da (.bl (if neg then !r else r))) rs1
theorem s_ownEqK {r : Bool} (h : q (.da (.bl (if neg then !r else r))) rs) : OwnEqK neg q (.da (.bl r)) rs := ⟨r, rfl, h⟩
/-! o[i] by an own __getitem__ -/
def OwnIx2 (C : Addr) (D : SpD K) (q : QD K) (y : Sl) : QD K := fun i rs2 => (∃ nm, IsO rs2 y C nm) ∧ Ask D [y, i] rs2 xF q
def OwnIx1 (C : Addr) (D : SpD K) (ti : TD K) (sl : List Sl) (xc : XD K) (q : QD K) : QD K := fun y rs1 => ti sl rs1 xc (OwnIx2 C D q y)
def dOwnIx (C : Addr) (D : SpD K) (to ti : TD K) : TD K := fun sl rs xc q => to sl rs xc (OwnIx1 C D ti sl xc q)
theorem d_ownIx {o i : Expr} {to ti : TD K} {k : Nat} {pos : Pos} (M : MethR X.prog X.w K X.mg X.base C "__getitem__" k (spD D)) (fi : ∀ f, Meth K C "__getitem__" f → PySem.W.fnIn K f = true) (room : Room (k + 1) X.A) (ho : PE X o (LE E to)) (hi : PE X i (LE E ti))
    (plain : ∀ (a : Addr) (v : Value), subscripted i true (.ref a) v = runValue (.builtin "lifetime.subscript" ⟨[.ref a, v], []⟩) := by intro _ _; rfl) (hK : X.K = K := by rfl) : PE X (.Subscript o i pos) (LE E (dOwnIx C D to ti)) := by
  subst hK
  exact pe_weak (pe_ownIx M fi room ho hi plain) fun σ H Q ⟨S0, sl, rs, F, xc, q, N, t, k, kx⟩ =>
    LE.use N t kx fun v y rs1 F1 H1 st1 N1 r1 t1 => LE.use N1 t1 (kx.after st1) fun w i rs2 F2 H2 st2 N2 r2 ⟨⟨nm, io⟩, t2⟩ => by
      have r3 := r1.ev (st2.ev N1.at_)
      obtain ⟨a, dx, gs, rfl, h1, _⟩ := io.ok N2.at_ r3
      exact ⟨a, dx, gs, rfl, h1, t2.sp N2.at_ (.cons r3 (.cons r2 .nil)) (k.after (st1.trans st2)) outX_F⟩
theorem s_ownIx {to ti : TD K} (h : to sl rs xc (OwnIx1 C D ti sl xc q)) : dOwnIx C D to ti sl rs xc q := h
theorem s_ownIx1 {ti : TD K} {y : Sl} (h : ti sl rs xc (OwnIx2 C D q y)) : OwnIx1 C D ti sl xc q y rs := h
theorem s_ownIx2 {fs : List (Str × Da)} {i : Sl} (h : Ask D [.da (.obj C fs), i] rs xF q) : OwnIx2 C D q (.da (.obj C fs)) i rs := ⟨⟨_, .da fs⟩, h⟩
/-! f-strings -/
def dFmt (te : TD K) : TD K := fun sl rs xc q => te sl rs xc fun y rs1 => (∃ s : Str, y = .da (.str s) ∧ s.length ≤ sizeLine ∧ q (.da (.str s)) rs1) ∨ ∃ i : Int, y = .da (.int i) ∧ i.natAbs.log2 < 1920 ∧ PyData.strOk (numS i) = true ∧ q (.da (.str (numS i))) rs1
def FmtK (q : QD K) : QD K := fun y rs1 => (∃ s : Str, y = .da (.str s) ∧ s.length ≤ sizeLine ∧ q (.da (.str s)) rs1) ∨ ∃ i : Int, y = .da (.int i) ∧ i.natAbs.log2 < 1920 ∧ PyData.strOk (numS i) = true ∧ q (.da (.str (numS i))) rs1
theorem s_fmt (h : te sl rs xc (FmtK q)) : dFmt te sl rs xc q := h
def dJs : List (TD K) → Str → List Sl → List (Rs K) → XD K → QD K → Prop
  | [], acc, _, rs, _, q => q (.da (.str acc)) rs
  | t :: ts, acc, sl, rs, xc, q => t sl rs xc fun y rs1 => ∃ s : Str, y = .da (.str s) ∧ (acc ++ s).length ≤ sizeLine ∧ dJs ts (acc ++ s) sl rs1 xc q
/-- the parts' readings -/
inductive PJd (X : Cx) (E : XK) : List Expr → List (TD K) → Prop where
  | nil : PJd X E [] []
  | cons {e : Expr} {t : TD K} {es : List Expr} {ts : List (TD K)} (h : PE X e (LE E t)) (r : PJd X E es ts) : PJd X E (e :: es) (t :: ts)
theorem PJd.pj {es : List Expr} {ts : List (TD K)} (h : PJd X E es ts) : PJ X es (ts.map (LE E)) := by
  induction h with
  | nil => exact .nil
  | cons h _ ih => exact .cons h ih
def dFs (ts : List (TD K)) : TD K := fun sl rs xc q => dJs ts Str.empty sl rs xc q
def JsK (ts : List (TD K)) (acc : Str) (sl : List Sl) (xc : XD K) (q : QD K) : QD K := fun y rs1 => ∃ s : Str, y = .da (.str s) ∧ (acc ++ s).length ≤ sizeLine ∧ dJs ts (acc ++ s) sl rs1 xc q
theorem s_fs {ts : List (TD K)} (h : dJs ts Str.empty sl rs xc q) : dFs ts sl rs xc q := h
theorem s_jsC {t : TD K} {ts : List (TD K)} {acc : Str} (h : t sl rs xc (JsK ts acc sl xc q)) : dJs (t :: ts) acc sl rs xc q := h
theorem s_jsN {acc : Str} (h : q (.da (.str acc)) rs) : dJs [] acc sl rs xc q := h
end
end HC

/-! ### a part of a text, by data -/
namespace HC
open PyProof.Rows PySem L2 PySem.Spec
section
variable {X : Cx} {K : PySem.W.Frag} {E : XK} {e : Expr} {te : TD K} {tl th : TDo K} {sl : List Sl} {rs : List (Rs K)} {xc : XD K} {q : QD K}
theorem strOk_cut {z : Str} (h : PyData.strOk z = true) (lo hi : Option Int) : PyData.strOk (cutS z lo hi) = true := by
  unfold PyData.strOk at h ⊢
  rw [← Array.all_toList] at h ⊢
  rw [List.all_eq_true] at h ⊢
  exact fun x hx => h x (List.mem_of_mem_drop (List.mem_of_mem_take hx))
def SlSK (l h : Option Int) (q : QD K) : QD K := fun y rs => ∃ z, y = .da (.str z) ∧ z.length ≤ sizeLine ∧ q (.da (.str (cutS z l h))) rs
def dSlS (te : TD K) (tl th : TDo K) : TD K := fun sl rs xc q => te sl rs xc fun y rs1 => tl sl rs1 xc fun l rs2 => th sl rs2 xc fun h rs3 => SlSK l h q y rs3
theorem d_slS (h : PE X e (tSl rSlS (LE E te) (LO E tl) (LO E th))) : PE X e (LE E (dSlS te tl th)) := pe_weak h fun σ H Q ⟨S0, sl, rs, F, xc, q, N, t, k, kx⟩ =>
  LE.use N t kx fun v y rs1 F1 H1 st1 N1 r1 t1 => LO.use N1 t1 (kx.after st1) fun l rs2 F2 H2 st2 N2 t2 => LO.use N2 t2 (kx.after (st1.trans st2)) fun h rs3 F3 H3 st3 N3 ⟨z, ey, hz, t3⟩ => by
    subst ey
    cases r1 with
    | da r =>
      cases r
      exact ⟨z, rfl, hz, k.after ((st1.trans st2).trans st3) _ _ rs3 F3 H3 (Stp.refl _ _) N3.at_ (.da (.str (strOk_cut (by assumption) _ _))) t3⟩
theorem s_slS (h : te sl rs xc fun y rs1 => tl sl rs1 xc fun l rs2 => th sl rs2 xc fun h rs3 => SlSK l h q y rs3) : dSlS te tl th sl rs xc q := h
theorem s_slSK {l h : Option Int} {z : Str} (hz : z.length ≤ sizeLine) (g : q (.da (.str (cutS z l h))) rs) : SlSK l h q (.da (.str z)) rs := ⟨z, rfl, hz, g⟩
end
end HC

/-! ### x op text by the own method of x's class, by data -/
namespace HC
open PyProof.Rows PySem L2 PySem.Spec
/-- what op between an instance of C and a text asks of the written part -/
structure BinS (K : PySem.W.Frag) (C : Addr) (nm : Str × Str) : Prop where
  self : PySem.W.selfFirst K C = true
  noR : PySem.W.findIn K (.ref C) nm.2 = some none
  i1 : ∃ fo, PySem.W.findIn K (.type "str") nm.1 = some fo
  i2 : ∃ ro, PySem.W.findIn K (.type "str") nm.2 = some ro
  sub : PySem.W.subIn K (.type "str") (.ref C) = some false
section
variable {X : Cx} {K : PySem.W.Frag} {C : Addr} {D : SpD K} {k : Nat} {sp : Sp} {m : Str}
end
end HC

/-! ### [x for x in g], g a new generator that does not raise: the block's table is held as a pin of the consumer -/
namespace HC
open PyProof.Rows PySem L2 PySem.Spec GenW
def dLcG {K : PySem.W.Frag} (dg : TDn K) : TD K := fun sl rs xc q => dg sl rs (fun _ _ => False) fun ys rs1 => ys.length ≤ sizeLine ∧ ∀ l, q (.raw (.ref l)) (lstR l (ys.map .da) :: rs1)
/-- the block's table, as an object of the heap -/
def TblAt (h : Heap) (C : Addr) (o : Obj) : Prop := h.get? C = some o ∧ (∃ es ep, o.data = .dict es ep) ∧ ∃ m, h.Ns C m
theorem TblAt.ns {h : Heap} {C : Addr} {m : Str → Option Value} (n : h.Ns C m) : ∃ o, TblAt h C o := by
  obtain ⟨o, es, ep, h1, h2, h3⟩ := id n
  exact ⟨o, h1, ⟨es, ep, h2⟩, m, n⟩
section
variable {X : Cx}
end
section
variable {X : Cx} {K : PySem.W.Frag} {E : XK} {k i : Nat} {x y : Str} {e : Expr} {scope : Scope} {p1 p2 pos py spos : Pos} {dg : TDn K}
theorem s_lcG {sl : List Sl} {rs : List (Rs K)} {xc : XD K} {q : QD K} (h : dg sl rs (fun _ _ => False) (ListGK q)) : dLcG dg sl rs xc q := h
end
end HC

/-! // by a divisor of up to 64 bits, by data -/
namespace HC
open PyProof.Rows PySem L2 PySem.Spec
def CDivW (i j : Int) : Prop := 0 < j ∧ j < 2 ^ 64
theorem op_fdivW {X : Cx} : OpR X (binaryOp .FloorDiv) (rI CDivW fun i j => .int (i / j)) := opI fun i j _ _ _ _ _ hc q => by
  have h1 : (0 : Int) < j := hc.1
  have h2 : j < 2 ^ 64 := hc.2
  have h3 : j.natAbs.log2 < 64 := (Nat.log2_lt (by omega)).mpr (by omega)
  exact floordiv_int (by omega) (by rw [Int.fdiv_eq_ediv_of_nonneg i (by omega)]; exact q) (.inl (PyProof.noPylong_of_log2 (by omega)))
end HC

/-! list(text) by data -/
namespace HC
open PyProof.Rows PySem L2 PySem.Spec
section
variable {K : PySem.W.Frag} {rs : List (Rs K)} {q : QD K}
def aListS : AN K := fun ys rs q => ∃ z : Str, ys = [.da (.str z)] ∧ z.cps.size ≤ sizeLine ∧ (∀ c ∈ signs z, PyData.strOk c = true) ∧ ∀ a, q (.raw (.ref a)) (lstR a (((signs z).map Da.str).map .da) :: rs)
theorem vall_str {S : Addr → Prop} {H : Hp} : ∀ zs : List Str, (∀ z ∈ zs, PyData.strOk z = true) → VAll K S H (zs.map V.str) ((zs.map Da.str).map .da)
  | [], _ => .nil
  | z :: zs, h => .cons (.da (.str (h z List.mem_cons_self))) (vall_str zs fun y hy => h y (List.mem_cons_of_mem _ hy))
theorem act_listS : ActN K rListS aListS := fun S0 H rs F vs ys q Q A r ⟨z, e, hz, ok, h⟩ k => by
  subst e
  obtain ⟨u, rfl, ru⟩ := vone r
  cases ru with | da d => cases d with | str _ =>
  refine ⟨z, rfl, hz, fun l nl => ?_⟩
  obtain ⟨A', st⟩ := at_newL A nl (vall_str (signs z) ok)
  exact k _ _ _ _ _ st A' (.raw _) (h l)
theorem s_listS {z : Str} (ys : List Str) (e : signs z = ys) (hz : z.cps.size ≤ sizeLine) (ok : ∀ c ∈ ys, PyData.strOk c = true) (h : ∀ a, q (.raw (.ref a)) (lstR a ((ys.map Da.str).map .da) :: rs)) : aListS [.da (.str z)] rs q := ⟨z, rfl, hz, by rw [e]; exact ok, by rw [e]; exact h⟩
end
end HC

/-! ### [f(x) for x in xs], xs a list of lambdas of the def itself, f a def that tells what a lambda does, by data -/
namespace HC
open PyProof.Rows PySem L2 PySem.Spec LamX
section
variable {X : Cx} {K : PySem.W.Frag} {E : XK} {e : Expr} {k : Nat}
/-- f is a lambda of X; tb: its body's reading -/
def lamQ (X : Cx) (k : Nat) (f : Addr) (tb : TD K) : Rs K where
  p S H F := ∃ l d, (BodyR X k l d fun E => LE E tb) ∧ (lamR (K := K) X.env f l d).p S H F
  stb := fun {S S' H H' F} ⟨l, d, b, h⟩ e => ⟨l, d, b, (lamR X.env f l d).stb h e⟩
def dLamQ (P : Addr) (nm : Str) (X : Cx) (k : Nat) (tb : TD K) : TD K := fun _ rs _ q => (∃ rs', Ext (tabR P nm) rs rs') ∧ ∀ f, q (.raw (.ref f)) (lamQ X k f tb :: rs)
theorem d_lamQ {P : Addr} {nm : Str} {l : LF} {d : Option V} {tb : TD K} (h : PE X e (tLamK P nm X.env l d)) (b : BodyR X k l d fun E => LE E tb) : PE X e (LE E (dLamQ P nm X k tb)) := pe_weak (d_lam (E := E) (K := K) h) fun σ H Q ⟨S0, sl, rs, F, xc, q, N, ⟨tab, t⟩, kq, kx⟩ => by
  refine ⟨S0, sl, rs, F, xc, fun y rs1 => ∃ f, y = .raw (.ref f) ∧ rs1 = lamR X.env f l d :: rs, N, ⟨tab, fun f => ⟨f, rfl, rfl⟩⟩, ?_, kx⟩
  rintro v y rs1 F1 H1 st A r ⟨f, rfl, rfl⟩
  obtain ⟨G, F2, eF, hp, hs⟩ := A.sep
  exact kq v _ (lamQ X k f tb :: rs) F1 H1 st ⟨⟨G, F2, eF, ⟨l, d, b, hp⟩, hs⟩, A.nd, A.off, A.liv⟩ r (t f)
theorem s_lamQ {P : Addr} {nm : Str} {tb : TD K} {sl : List Sl} {rs rs' : List (Rs K)} {xc : XD K} {q : QD K} (ex : Ext (tabR P nm) rs rs') (h : ∀ f, q (.raw (.ref f)) (lamQ X k f tb :: rs)) : dLamQ P nm X k tb sl rs xc q := ⟨⟨rs', ex⟩, h⟩
/-- the element: what the def tells of the lambda in slot i -/
def dOutI (X : Cx) (k : Nat) (xD : QD K → XD K) (qD : QD K → QD K) (i : Nat) : TD K := fun sl rs _ q => ∃ f tb, sl[i]? = some (.raw (.ref f)) ∧ (∃ rs', Ext (lamQ X k f tb) rs rs') ∧ tb (sl.set i .no) rs (xD q) (qD q)
theorem slots_len {S : Addr → Prop} {H : Hp} : ∀ {σ : L2.St} {sl : List Sl}, Slots K S H σ sl → σ.length = sl.length
  | _, _, .nil => rfl
  | _, _, .cons _ t => congrArg Nat.succ (slots_len t)
theorem slots_back {S : Addr → Prop} {H : Hp} {v : Nat} : ∀ {σ : L2.St} {sl : List Sl}, Slots K S H (σ.set v none) (sl.set v .no) → Slots K S H σ (sl.set v .no)
  | [], [], _ => .nil
  | a :: σ, b :: sl, h => by
    cases v with
    | zero => cases h with | cons h1 h2 => exact .cons (.no _) h2
    | succ v => cases h with | cons h1 h2 => exact .cons h1 (slots_back h2)
  | [], _ :: _, h => by have := slots_len h; simp at this
  | _ :: _, [], h => by have := slots_len h; simp at this
theorem out_le {EE : VK → XK} {QQ : VK → VK} {xD : QD K → XD K} {qD : QD K → QD K} {i : Nat} (tl : Tells K EE QQ xD qD) {E' : XK} {σ σ2 : L2.St} {H : Hp} {Q : VK} (hw : wipe σ2 [i] = wipe σ [i]) (h : LE E' (dOutI X k xD qD i) σ2 H Q) : tOut X k (TTof EE QQ) (tVar i) σ σ2 H Q := by
  obtain ⟨S0, sl, rs, F, xc, q, N, ⟨f, tb, hi, ⟨rs', ex⟩, t⟩, kq, kx⟩ := h
  obtain ⟨o, e1, r⟩ := paired_get1 N.sl hi
  cases r with
  | some r =>
    cases r
    obtain ⟨G, ⟨l, d, b, rfl, c, dV, _, _, g1, g2, g3⟩, _⟩ := N.at_.get ex
    have sl1 : Slots K (Mu S0 F) H σ (sl.set i .no) := by
      have h1 : Slots K (Mu S0 F) H (wipe σ2 [i]) (wipeD sl [i]) := slots_wipe N.sl [i]
      rw [hw] at h1
      exact slots_back h1
    exact ⟨_, e1, f, l, d, _, rfl, b, ⟨c, dV, g1, g2, g3⟩, ⟨S0, sl.set i .no, rs, F, xD q, qD q, ⟨N.at_, sl1⟩, t, tl.q kq, tl.x kq⟩⟩
theorem lc_more {ti : TDi K} {te te' : TE} {i : Nat} {σ : L2.St} {H : Hp} {Q : VK} {E2 : XK} (hte : ∀ σ2 H Q, wipe σ2 [i] = wipe σ [i] → te' σ2 H Q → te σ2 H Q) (h : tLc (LI E ti) (gName i) (LT E2 (dYes (K := K))) te' [i] σ H Q) : tLc (LI E ti) (gName i) tYes te [i] σ H Q := by
  obtain ⟨S0, sl, rs, F, xc, q, N, t, k, kx⟩ := h
  refine ⟨S0, sl, rs, F, xc, q, N, t, fun J ys g rs' F' H' st A di hq => ?_, kx⟩
  intro D hD
  obtain ⟨W, w0, step⟩ := k J ys g rs' F' H' st A di hq D hD
  refine ⟨W, w0, fun j m H w => (step j m H w).imp id fun ⟨go, Nx, less, st⟩ => ⟨go, Nx, less, fun x H' y => ?_⟩⟩
  obtain ⟨wp, t2⟩ := st x H' y
  obtain ⟨S1, sl1, rs1, F1, xc1, q1, N1, t3, k1, _⟩ := t2
  refine ⟨wp, ?_⟩
  have := k1 true rs1 F1 H' (Stp.refl _ _) N1.at_ t3
  simp only [tYes, if_true]
  simp only [if_true] at this
  exact hte _ _ _ wp this
theorem d_lcOut {EE : VK → XK} {QQ : VK → VK} {xD : QD K → XD K} {qD : QD K → QD K} {ti : TDi K} {i : Nat} (tl : Tells K EE QQ xD qD) (h : PE X e (fun σ H Q => tLc (LI E ti) (gName i) tYes (tOut X k (TTof EE QQ) (tVar i) σ) [i] σ H Q)) :
    PE X e (LE E (dLc ti (gdName i) dYes (dOutI X k xD qD i) [i])) := pe_weak h fun σ H Q l =>
  lc_more (E2 := E0) (te' := LE E0 (dOutI X k xD qD i)) (fun _ _ _ hw t => out_le tl hw t) (le_lc (tg_name i) (fun _ h => h) l)
end
end HC

/-! ### a def that tells the outcome of what it is given: clauses `except C: return ("C",)` and `except C as e: return ("C", e.a)` -/
namespace HC
open PyProof.Rows PySem L2 PySem.Spec LamX
/-- a clause: its class, the text told, the attribute told -/
structure Oc where
  c : Addr
  nm : Str
  at_ : Option Str
section
variable {K : PySem.W.Frag}
/-- what stands when the clause takes an exception of its class -/
def OcV (o : Oc) (Q : VK) (d : Option Addr) (H' : Hp) : Prop := match o.at_ with
  | none => ∀ H2 p, Same H' H2 → H2 p = some (.tup [.str o.nm]) → Q (.ref p) H2
  | some a => ∃ dd v, d = some dd ∧ H' dd = some (.xd [(a, v)]) ∧ ∀ H2 p, Same H' H2 → H2 p = some (.tup [.str o.nm, v]) → Q (.ref p) H2
def eeO (T : List Oc) : VK → XK := fun Q cls d H' => ∃ o ∈ T, cls = .ref o.c ∧ OcV o Q d H'
def xO (T : List Oc) (q : QD K) : XD K := fun x rs => ∃ o ∈ T, (o.at_ = none ∧ x = ⟨o.c, none⟩ ∧ q (.da (.tup [.str o.nm])) rs) ∨ ∃ a y, o.at_ = some a ∧ x = ⟨o.c, some [(a, y)]⟩ ∧ q (.da (.tup [.str o.nm, y])) rs
theorem xd_one {S : Addr → Prop} {H : Hp} {u : Value} {d : Option Addr} {c : Addr} {n : Str} {x : Da} (h : ExOk K S H u d ⟨c, some [(n, x)]⟩) : u = .ref c ∧ ∃ dd v, d = some dd ∧ H dd = some (.xd [(n, v)]) ∧ De K S H v x := by
  obtain ⟨e, a, gs, e1, e2, e3, e4, _⟩ := h
  match gs, e3, e4 with
  | [(m, v)], e3, .cons dv .nil =>
    obtain rfl : m = n := by injection e3
    exact ⟨e, a, v, e1, e2, dv⟩
theorem tells_oc (T : List Oc) (ok : ∀ o ∈ T, PyData.strOk o.nm = true) : Tells K (eeO T) id (xO T) id := by
  refine ⟨fun {S0 F H q Q} k => ?_, fun {S0 F H q Q} k => k⟩
  rintro x u d rs F' H' st A ex ⟨o, ho, ⟨na, rfl, hq⟩ | ⟨a, y, na, rfl, hq⟩⟩
  · refine ⟨o, ho, ex.1, ?_⟩
    unfold OcV
    rw [na]
    exact fun H2 p s h => k (.ref p) (.da (.tup [.str o.nm])) rs F' H2 (st.trans (Stp.same s)) (A.same s) (.da (.tup h (.cons (.str (ok o ho)) .nil))) hq
  · obtain ⟨e1, dd, v, e2, e3, dv⟩ := xd_one ex
    refine ⟨o, ho, e1, ?_⟩
    unfold OcV
    rw [na]
    exact ⟨dd, v, e2, e3, fun H2 p s h => k (.ref p) (.da (.tup [.str o.nm, y])) rs F' H2 (st.trans (Stp.same s)) (A.same s) (.da (.tup h (.cons (.str (ok o ho)) (.cons (dv.ev (F := []) (Ev.same s)) .nil)))) hq⟩
/-- a clause's suite returns what is told -/
def OcOk (n : Nat) (k : Cl) (o : Oc) : Prop := k.c = .ref o.c ∧ ∀ (a : Addr) (d : Option Addr) (σ : L2.St) (H : Hp) (D : Ends), H a = none → σ.length = n → OcV o D.rt d H → k.ts a (.ref o.c) d (k.ends D) (k.set σ (some (.ref a))) H
inductive OcsOk (n : Nat) : List Cl → List Oc → Prop
  | nil : OcsOk n [] []
  | cons {k : Cl} {o : Oc} {l : List Cl} {T : List Oc} : OcOk n k o → OcsOk n l T → OcsOk n (k :: l) (o :: T)
theorem oc_mix {Wout : WX} {D : Ends} {d : Option Addr} {σ : L2.St} {H : Hp} {o : Oc} {n : Nat} (v : OcV o D.rt d H) (hl : σ.length = n) : ∀ {l : List Cl} {T : List Oc}, OcsOk n l T → o ∈ T → (∀ p ∈ T, PySem.W.exmOne K (.ref o.c) (.ref p.c) = some (decide (o.c = p.c))) → (∀ p ∈ T, o.c = p.c → o = p) → wMix K Wout D l (.ref o.c) d σ H
  | _, _, .nil, m, _, _ => nomatch m
  | k :: l, p :: T, .cons ⟨e, run⟩ t, m, ex, un => by
    refine ⟨decide (o.c = p.c), by rw [e]; exact ex p List.mem_cons_self, fun hd a na => ?_, fun hd => ?_⟩
    · obtain rfl := un p List.mem_cons_self (of_decide_eq_true hd)
      exact run a d σ H D na hl v
    · have ne : o ≠ p := fun z => of_decide_eq_false hd (by rw [z])
      exact oc_mix v hl t ((List.mem_cons.mp m).resolve_left ne) (fun q hq => ex q (List.mem_cons_of_mem _ hq)) fun q hq => un q (List.mem_cons_of_mem _ hq)
/-- the classes of the clauses are all apart -/
structure OcsX (K : PySem.W.Frag) (T : List Oc) : Prop where
  ex : ∀ o ∈ T, ∀ p ∈ T, PySem.W.exmOne K (.ref o.c) (.ref p.c) = some (decide (o.c = p.c))
  un : ∀ o ∈ T, ∀ p ∈ T, o.c = p.c → o = p
end
section
variable {P : Program} {w : World} {K : PySem.W.Frag} {mg : Str → Option Value} {base : Heap} {x qual : Str} {params : Arguments} {body : List Stmt} {scope : Scope} {f : Addr} {fd : FuncData} {N ps : List Str} {k : Nat} {D : SpD K} {t : TDs K}
end
end HC

/-! ### own operators, o[i], o(x) of an own class, whose methods may raise -/
namespace HC
open PyProof.Rows PySem L2 PySem.Spec
section
variable {X : Cx} {k : Nat} {C : Addr} {sp : Sp} {m : Str} {a b : Expr} {ta tb : TE} {E : XK} {pos : Pos} {op : Operator} {nm : Str × Str}
end
section
variable {X : Cx} {K : PySem.W.Frag} {k : Nat} {C : Addr} {D : SpD K} {m : Str} {a b : Expr} {ta tb : TD K} {E : XK} {pos : Pos} {op : Operator} {nm : Str × Str} {sl : List Sl} {rs : List (Rs K)} {xc : XD K} {q : QD K}
def OpX2 (C : Addr) (D : SpD K) (R : Sl → List (Rs K) → Prop) (xc : XD K) (q : QD K) (y : Sl) : QD K := fun z rs2 => (∃ nm, IsO rs2 y C nm) ∧ R z rs2 ∧ Ask D [y, z] rs2 xc q
def OpX1 (C : Addr) (D : SpD K) (R : Sl → List (Rs K) → Prop) (tb : TD K) (sl : List Sl) (xc : XD K) (q : QD K) : QD K := fun y rs1 => tb sl rs1 xc (OpX2 C D R xc q y)
def dOpX (C : Addr) (D : SpD K) (R : Sl → List (Rs K) → Prop) (ta tb : TD K) : TD K := fun sl rs xc q => ta sl rs xc (OpX1 C D R tb sl xc q)
def dInt1 : Sl → List (Rs K) → Prop := fun z _ => ∃ i : Int, z = .da (.int i)
def dTxt1 : Sl → List (Rs K) → Prop := fun z _ => ∃ i : Str, z = .da (.str i)
def dIns1 (C : Addr) : Sl → List (Rs K) → Prop := fun z rs => ∃ nm, IsO rs z C nm
theorem s_opX {R : Sl → List (Rs K) → Prop} (h : ta sl rs xc (OpX1 C D R tb sl xc q)) : dOpX C D R ta tb sl rs xc q := h
theorem s_opX1 {R : Sl → List (Rs K) → Prop} {y : Sl} (h : tb sl rs xc (OpX2 C D R xc q y)) : OpX1 C D R tb sl xc q y rs := h
theorem s_opXI {fs : List (Str × Da)} {i : Int} (h : Ask D [.da (.obj C fs), .da (.int i)] rs xc q) : OpX2 C D dInt1 xc q (.da (.obj C fs)) (.da (.int i)) rs := ⟨⟨_, .da fs⟩, ⟨i, rfl⟩, h⟩
theorem s_opXT {fs : List (Str × Da)} {i : Str} (h : Ask D [.da (.obj C fs), .da (.str i)] rs xc q) : OpX2 C D dTxt1 xc q (.da (.obj C fs)) (.da (.str i)) rs := ⟨⟨_, .da fs⟩, ⟨i, rfl⟩, h⟩
theorem s_opXO {fs gs : List (Str × Da)} (h : Ask D [.da (.obj C fs), .da (.obj C gs)] rs xc q) : OpX2 C D (dIns1 C) xc q (.da (.obj C fs)) (.da (.obj C gs)) rs := ⟨⟨_, .da fs⟩, ⟨_, .da gs⟩, h⟩
/-! o(x, ..) -/
def CallI2 (C : Addr) (D : SpD K) (xc : XD K) (q : QD K) (y : Sl) : List Sl → List (Rs K) → Prop := fun ys rs2 => (∃ nm, IsO rs2 y C nm) ∧ Ask D (y :: ys) rs2 xc q
def CallI1 (C : Addr) (D : SpD K) (ts : TDa K) (sl : List Sl) (xc : XD K) (q : QD K) : QD K := fun y rs1 => (∃ nm, IsO rs1 y C nm) ∧ ts sl rs1 xc (CallI2 C D xc q y)
def dCallI (C : Addr) (D : SpD K) (ta : TD K) (ts : TDa K) : TD K := fun sl rs xc q => ta sl rs xc (CallI1 C D ts sl xc q)
theorem d_callI {fe e : Expr} {es : List Expr} {ts : TDa K} (M : MethR X.prog X.w K X.mg X.base C "__call__" k (spD D)) (fi : ∀ f, Meth K C "__call__" f → PySem.W.fnIn K f = true) (room : Room k X.A) (px : Passes (CXW X.prog X.w) X E) (hf : PE X fe (LE E ta)) (ha : PA X (e :: es) (LA E ts))
    (ht : eval (.Call fe (e :: es) [] pos) X.env = (do callWith pos (← eval fe X.env) [] (backTo pos (starEach (e :: es) X.env)) (backToKw pos (keywordEach [] X.env))) := by rfl) (he : starEach (e :: es) X.env = (false, eval e X.env) :: starEach es X.env := by rfl) (hpl : (backTo pos (starEach es X.env)).any (·.1) = false := by rfl) (hK : X.K = K := by rfl) :
    PE X (.Call fe (e :: es) [] pos) (LE E (dCallI C D ta ts)) := by
  subst hK
  exact pe_weak (StX.pe_callO (E := E) hf ⟨M.at_.at_, M.at_.fn, fi _ M.at_⟩ M.fn room px ha ht he hpl) fun σ H Q ⟨S0, sl, rs, F, xc, q, N, t, k, kx⟩ => LE.use N t kx fun v y rs1 F1 H1 st1 N1 r1 ⟨⟨nm, io⟩, t1⟩ => by
    obtain ⟨a, dx, gs, rfl, h1, _⟩ := io.ok N1.at_ r1
    refine ⟨a, rfl, LA.use N1 t1 (kx.after st1) fun vs ys rs2 F2 H2 st2 N2 r2 ⟨⟨nm2, io2⟩, t2⟩ => ?_⟩
    have r3 := r1.ev (st2.ev N1.at_)
    obtain ⟨a2, dx2, gs2, e2, h2, _⟩ := io2.ok N2.at_ r3
    cases e2
    exact ⟨insC_of h2, t2.sp N2.at_ (.cons r3 r2) (k.after (st1.trans st2)) (kx.after (st1.trans st2))⟩
theorem s_callI {ts : TDa K} (h : ta sl rs xc (CallI1 C D ts sl xc q)) : dCallI C D ta ts sl rs xc q := h
theorem s_callI1 {ts : TDa K} {fs : List (Str × Da)} (h : ts sl rs xc (CallI2 C D xc q (.da (.obj C fs)))) : CallI1 C D ts sl xc q (.da (.obj C fs)) rs := ⟨⟨_, .da fs⟩, h⟩
theorem s_callI2 {fs : List (Str × Da)} {ys : List Sl} (h : Ask D (.da (.obj C fs) :: ys) rs xc q) : CallI2 C D xc q (.da (.obj C fs)) ys rs := ⟨⟨_, .da fs⟩, h⟩
end
end HC

/-! ### C(kw=v); lists of what may change, joined; the outcomes of a list of lambdas -/
namespace HC
open PyProof.Rows PySem L2 PySem.Spec LamX
section
variable {X : Cx} {k : Nat} {C f : Addr} {sp : Sp} {E : XK} {x kw : Str} {ke : Expr} {tk : TA} {p pos kpos : Pos}
end
section
variable {X : Cx} {K : PySem.W.Frag} {E : XK} {e : Expr} {C : Addr} {D D' : SpD K} {tk : TDa K}
end
section
variable {K : PySem.W.Frag} {y z : Sl} {rs : List (Rs K)} {q : QD K}
end
section
variable {X : Cx} {K : PySem.W.Frag} {k i : Nat} {xD : QD K → XD K} {qD : QD K → QD K} {sl : List Sl} {rs : List (Rs K)} {q : QD K} {ok : List (Rs K) → Prop}
/-- what is told of each lambda of a row -/
inductive Outs (X : Cx) (k : Nat) (xD : QD K → XD K) (qD : QD K → QD K) (sl : List Sl) (rs : List (Rs K)) : List (Addr × Da) → Prop
  | nil : Outs X k xD qD sl rs []
  | cons {f : Addr} {x : Da} {tb : TD K} {rs' : List (Rs K)} {cs : List (Addr × Da)} : Ext (lamQ X k f tb) rs rs' → (∀ T : QD K, T (.da x) rs → tb sl rs (xD T) (qD T)) → Outs X k xD qD sl rs cs → Outs X k xD qD sl rs ((f, x) :: cs)
theorem Outs.at {cs : List (Addr × Da)} (h : Outs X k xD qD sl rs cs) : ∀ c ∈ cs, ∃ tb : TD K, (∃ rs', Ext (lamQ X k c.1 tb) rs rs') ∧ ∀ T : QD K, T (.da c.2) rs → tb sl rs (xD T) (qD T) := by
  induction h with
  | nil => exact fun _ h => nomatch h
  | cons ex run _ ih => exact fun c hc => (List.mem_cons.mp hc).elim (fun e => by subst e; exact ⟨_, ⟨_, ex⟩, run⟩) (ih c)
/-- [f(x) for x in xs]: a row of lambdas, and what is told of each -/
theorem s_outs {sl2 : List Sl} {ys : List Sl} (cs : List (Addr × Da)) (hy : ys = cs.map fun c => .raw (.ref c.1)) (few : cs.length ≤ 1000000) (hok : ok rs) (hi : i < sl.length) (e2 : sl.set i .no = sl2) (hs : Outs X k xD qD sl2 rs cs)
    (h : q (.da (.lst (cs.map fun c => c.2))) rs) : LcKD (gdName i) dYes (dOutI X k xD qD i) [i] sl q ys ok rs := by
  subst hy
  refine s_lcM cs (fun c => .raw (.ref c.1)) (fun c => c.2) rfl few hok (fun j c T hc ht => ?_) h
  obtain ⟨tb, ex, run⟩ := hs.at c (List.mem_of_getElem? hc)
  show dOutI X k xD qD i ((wipeD sl [i]).set i (.raw (.ref c.1))) rs xF T
  have e : (((wipeD sl [i]).set i (.raw (.ref c.1))).set i .no) = sl2 := by
    show (((sl.set i .no).set i _).set i _) = _
    rw [List.set_set, List.set_set, e2]
  refine ⟨c.1, tb, ?_, ex, ?_⟩
  · rw [List.getElem?_set_self]
    show i < (sl.set i .no).length
    rw [List.length_set]; exact hi
  · rw [e]; exact run T ht
end
section
variable {P : Program} {w : World} {K : PySem.W.Frag} {mg : Str → Option Value} {base : Heap} {x qual : Str} {params : Arguments} {body : List Stmt} {scope : Scope} {f : Addr} {fd : FuncData} {N ps : List Str} {k : Nat} {D : SpD K}
end
end HC

/-! ### xs.reverse() by data -/
namespace HC
open PyProof.Rows PySem L2 PySem.Spec
section
variable {K : PySem.W.Frag}
theorem VAll.turned {S : Addr → Prop} {H : Hp} : ∀ {vs : List V} {ys : List Sl}, VAll K S H vs ys → VAll K S H vs.reverse ys.reverse
  | _, _, .nil => .nil
  | _, _, .cons r t => by
    have h := VAll.app t.turned (.cons r .nil)
    simpa only [List.reverse_cons] using h
end
end HC

/-! ### sorted of pairs (int, text), by data -/
namespace HC
open PyProof.Rows PySem L2 PySem.Spec
def ltCS (p q : Int × Str) : Bool := decide (p.1 < q.1 ∨ p.1 = q.1 ∧ p.2.cps.toList < q.2.cps.toList)
theorem str_eq {a b : Str} (h : a.cps.toList = b.cps.toList) : a = b := by
  obtain ⟨x⟩ := a
  obtain ⟨y⟩ := b
  rw [show x = y from Array.toList_inj.mp h]
theorem str_tri (a b : Str) : a.cps.toList < b.cps.toList ∨ a = b ∨ b.cps.toList < a.cps.toList := by
  by_cases h : a.cps.toList < b.cps.toList
  · exact .inl h
  by_cases g : b.cps.toList < a.cps.toList
  · exact .inr (.inr g)
  · exact .inr (.inl (str_eq (List.le_antisymm (List.not_lt.mp g) (List.not_lt.mp h))))
theorem swo_ltCS {α : Type} (k : α → Int × Str) : SrtO.Swo fun v u => ltCS (k v) (k u) := by
  have no : ∀ {p q : Int × Str}, ltCS p q = false ↔ q.1 < p.1 ∨ q.1 = p.1 ∧ q.2.cps.toList ≤ p.2.cps.toList := fun {p q} => by
    unfold ltCS
    rw [decide_eq_false_iff_not, ← List.not_lt]
    constructor
    · intro h
      by_cases e : q.1 = p.1
      · exact .inr ⟨e, fun l => h (.inr ⟨e.symm, l⟩)⟩
      · exact .inl (by have := fun l => h (.inl l); omega)
    · rintro (h | ⟨e, h⟩) (g | ⟨e2, g⟩)
      · omega
      · omega
      · omega
      · exact h g
  constructor
  · intro x y h
    have h := of_decide_eq_true h
    refine no.mpr ?_
    rcases h with h | ⟨e, h⟩
    · exact .inl h
    · exact .inr ⟨e, List.le_of_lt h⟩
  · intro x y z h1 h2
    have a := no.mp h1
    have b := no.mp h2
    refine no.mpr ?_
    rcases a with a | ⟨e1, a⟩ <;> rcases b with b | ⟨e2, b⟩
    · exact .inl (by omega)
    · exact .inl (by omega)
    · exact .inl (by omega)
    · exact .inr ⟨by omega, by first | exact List.le_trans a b | exact List.le_trans b a⟩
def srtCS (ps : List (Int × Str)) : List (Int × Str) := ps.mergeSort fun p q => !ltCS q p
theorem srtCS_uniq {l ps : List (Int × Str)} (h : l.Pairwise fun x y => ltCS y x = false) (p : l.Perm ps) : l = srtCS ps := by
  have O := swo_ltCS (fun x : Int × Str => x)
  have hs : (srtCS ps).Pairwise fun x y => (!ltCS y x) = true := List.pairwise_mergeSort (fun a b c h1 h2 => by
      have h1 : ltCS b a = false := by simpa using h1
      have h2 : ltCS c b = false := by simpa using h2
      have := O.tr _ _ _ h1 h2
      simpa using this) (fun a b => by
      cases q : ltCS b a with
      | false => rfl
      | true => have := O.asym _ _ q; simp_all) ps
  refine List.Perm.eq_of_pairwise (le := fun x y => ltCS y x = false) (fun a b _ _ h1 h2 => ?_) h (hs.imp fun x => by simpa using x) (p.trans (List.mergeSort_perm ps _).symm)
  have h1 := of_decide_eq_false h1
  have h2 := of_decide_eq_false h2
  have e : a.1 = b.1 := by
    have a1 := fun l => h1 (.inl l)
    have a2 := fun l => h2 (.inl l)
    omega
  rcases str_tri a.2 b.2 with q | q | q
  · exact absurd (.inr ⟨e, q⟩) h2
  · exact Prod.ext e q
  · exact absurd (.inr ⟨e.symm, q⟩) h1
/-- v stands for a pair of an int and a text -/
def IsCS (h : Heap) (v : Value) (p : Int × Str) : Prop := ∃ a o t u n, v = .ref a ∧ h.get? a = some o ∧ o.cls = .type "tuple" ∧ o.data = .seq #[.int p.1 t, .str p.2 u] n
theorem IsCS.old {h h' : Heap} {v : Value} {p : Int × Str} (x : IsCS h v p) (k : ∀ b o, h.get? b = some o → o.cls = .type "tuple" → h'.get? b = some o) : IsCS h' v p :=
  let ⟨a, o, t, u, n, e, g, c, d⟩ := x; ⟨a, o, t, u, n, e, k a o g c, c, d⟩
section
variable {w : World} {s : Shared} {prog : Program} {E : Value → Shared → Prop} {A : Around}
theorem cmp_S {vs : List Value} {k : Value → Int × Str} (all : ∀ v ∈ vs, IsCS s.heap v (k v)) : SrtO.Cmp prog w A s (tuples' true) (fun p => p.1 ∈ vs) (SrtO.lt2 fun v u => ltCS (k v) (k u)) := by
  rintro ⟨v, v2⟩ ⟨z, z2⟩ hv hz
  obtain ⟨a, o, t, u, n, rfl, g, c, d⟩ := all _ hv
  obtain ⟨a', o', t', u', n', rfl, g', c', d'⟩ := all _ hz
  have fin : ∀ b : Bool, b = ltCS (k (.ref a)) (k (.ref a')) → (fun (r : Bool) (s' : Shared) => s' = s ∧ r = ltCS (k (.ref a)) (k (.ref a'))) b s := fun b e => ⟨rfl, e⟩
  have val : ∀ P : Prop, ∀ _ : Decidable P, (P ↔ ((k (.ref a)).1 < (k (.ref a')).1 ∨ (k (.ref a)).1 = (k (.ref a')).1 ∧ (k (.ref a)).2.cps.toList < (k (.ref a')).2.cps.toList)) → decide P = ltCS (k (.ref a)) (k (.ref a')) := fun P _ e => decide_eq_decide.mpr e
  refine PySem.W.kat_lt g d g' d' (PySem.W.kat_cons (wpAny_eqBool_int ?_))
  by_cases e : (k (.ref a)).1 = (k (.ref a')).1
  · rw [show ((k (.ref a)).1 == (k (.ref a')).1) = true from beq_iff_eq.mpr e]
    refine PySem.W.kat_yes (PySem.W.kat_cons (wpAny_eqBool_str ?_))
    by_cases f : (k (.ref a)).2 = (k (.ref a')).2
    · rw [decide_eq_true f]
      refine PySem.W.kat_yes (PySem.W.kat_nil (fin _ (val _ inferInstance ⟨fun x => absurd x (Nat.lt_irrefl 2), fun x => ?_⟩)))
      rcases x with x | ⟨_, x⟩
      · omega
      · rw [f] at x; exact absurd x (List.lt_irrefl _)
    · rw [decide_eq_false f]
      exact PySem.W.kat_no (PySem.W.kat_one _ _ (PyProof.Rows.lt_str (fin _ (val _ inferInstance ⟨fun x => .inr ⟨e, x⟩, fun x => x.elim (fun x => by omega) fun x => x.2⟩))))
  · rw [show ((k (.ref a)).1 == (k (.ref a')).1) = false from beq_eq_false_iff_ne.mpr e]
    exact PySem.W.kat_no (oneLt_int (fin _ (val _ inferInstance ⟨.inl, fun x => x.elim id fun x => absurd x.1 e⟩)))
theorem first_S {h : Heap} : ∀ {vs : List Value}, (∀ v ∈ vs, ∃ p, IsCS h v p) → ∃ fs : List Value, PySem.W.KatTups h vs fs ∧ fs.length = vs.length ∧ ∀ f ∈ fs, ∃ i t, f = Value.int i t
  | [], _ => ⟨[], .nil, rfl, nofun⟩
  | v :: vs, all => by
    obtain ⟨fs, a1, a2, a3⟩ := first_S fun x hx => all x (List.mem_cons_of_mem _ hx)
    obtain ⟨p, a, o, t, u, n, rfl, g, c, d⟩ := all v List.mem_cons_self
    exact ⟨.int p.1 t :: fs, .cons g c d rfl a1, congrArg (· + 1) a2, fun f hf => (List.mem_cons.mp hf).elim (fun e => ⟨_, _, e⟩) (a3 f)⟩
theorem sorted_S {l : Addr} {vs : List Value} {k : Value → Int × Str} {Q : Value → Shared → Prop} (hl : s.heap.IsList l vs.toArray) (hz : vs.length ≤ sizeLine) (all : ∀ v ∈ vs, IsCS s.heap v (k v))
    (h : ∀ out : List Value, SrtO.Srtd (fun v u => ltCS (k v) (k u)) out → SrtO.Stb (fun v u => ltCS (k v) (k u)) out vs → Q (.ref (s.heap.objs.size + 1)) { s with heap := sortedAll s.heap vs out.toArray }) : wpAny (model prog w) A (call (.builtin "sorted") [.ref l]) Q E s := by
  refine SrtO.sorted_ord (swo_ltCS k) hl hz (fun two h1 a at_ keep => ?_) h
  intro h2 old
  have all2 : ∀ v ∈ vs, IsCS h2 v (k v) := fun v hv => (all v hv).old fun b o g c => old b o (keep b o g).1 (keep b o g).2
  obtain ⟨fs, a1, a2, a3⟩ := first_S fun v hv => ⟨_, all2 v hv⟩
  refine ⟨tuples' true, fun Q2 E2 hq => PySem.W.kat_kind (T := .type "int") a1 (by omega) (fun f hf => ?_) (by rfl) ?_, cmp_S all2⟩
  · obtain ⟨i, t, rfl⟩ := a3 f hf
    exact PySem.W.Looks.now
  · rw [show (Value.type "int" != Value.type "tuple") = true by decide +kernel]
    exact hq
end
/-- what a value that stands for such a pair says -/
def keyCS (H : Hp) (v : V) : Int × Str := match v with
  | .ref t => match H t with
    | some (.tup [.int i, .str z]) => (i, z)
    | _ => (0, "")
  | _ => (0, "")
abbrev csD (p : Int × Str) : Da := .tup [.int p.1, .str p.2]
def rSortCS (K : PySem.W.Frag) : List V → Hp → VK → Prop := fun vs H Q => ∃ (a : Addr) (xs : List V), vs = [V.ref a] ∧ SqL K H a xs ∧ (∀ x ∈ xs, ∃ t, x = V.ref t ∧ H t = some (.tup [.int (keyCS H x).1, .str (keyCS H x).2])) ∧
  ∀ ys p, ys.Pairwise (fun x y => ltCS (keyCS H y) (keyCS H x) = false) → ys.Perm xs → H p = none → Q (.ref p) (upd H p (.lst ys))
theorem cr_sortCS {X : Cx} : CallR X (.builtin "sorted") (rSortCS X.K) := by
  rintro pn s σ G vs us Q J rel ⟨a, xs, rfl, sq, shape, q⟩
  obtain ⟨its, rv, isl, few⟩ := J.list sq
  obtain ⟨u, rfl, hu⟩ := vals1 rel
  obtain rfl : u = Value.ref a := hu
  obtain ⟨ex, refs⟩ := refs_back rv fun x hx => let ⟨t, e, _⟩ := shape x hx; ⟨t, e⟩
  refine sorted_S (k := fun u => keyCS G (backV u)) isl.isList (by rw [← rv.length]; exact few) (fun v hv => ?_) fun out so st => ?_
  · obtain ⟨t, rfl⟩ := refs v hv
    obtain ⟨t2, e, at_⟩ := shape (V.ref t) (by rw [ex]; exact List.mem_map.mpr ⟨_, hv, rfl⟩)
    cases e
    obtain ⟨_, its2, r2, o, ho, hc, n, hd⟩ := J.hok _ _ at_
    obtain ⟨v1, v2, rfl, ⟨t1, rfl⟩, r4⟩ := vals2 r2
    obtain ⟨t3, rfl⟩ := r4
    exact ⟨t, o, t1, t3, n, rfl, ho, hc, hd⟩
  · have pm := st.perm.map backV
    rw [← ex] at pm
    have ro : ∀ u ∈ out, ∃ b, u = Value.ref b := fun u hu => refs u (st.perm.mem_iff.mp hu)
    obtain ⟨n, at_⟩ := sortedAll_at s.heap its out.toArray
    refine ⟨.ref (s.heap.objs.size + 1), upd G (s.heap.objs.size + 1) (.lst (out.map backV)), J.laid (t' := s.toks) (fun b o e => sortedAll_old e) (Nat.le_succ _) ⟨?_, out, n, vals_back ro, at_⟩, rfl, q _ _ (List.pairwise_map.mpr so) pm (J.hok.fresh (Nat.le_succ _))⟩
    rw [pm.length_eq]
    exact few
section
variable {K : PySem.W.Frag} {S0 : Addr → Prop} {H : Hp} {rs : List (Rs K)} {q : QD K} {y : Sl}
theorem cs_at {S : Addr → Prop} {v : V} {p : Int × Str} (h : De K S H v (csD p)) : keyCS H v = p ∧ ∃ t, v = V.ref t ∧ H t = some (.tup [.int (keyCS H v).1, .str (keyCS H v).2]) := by
  cases h with
  | tup e d =>
    cases d with | cons d1 d2 => cases d2 with | cons d2 d3 => cases d3 with | nil =>
      cases d1
      cases d2
      exact ⟨by simp only [keyCS, e], _, rfl, by simp only [keyCS, e]⟩
theorem cs_all {S : Addr → Prop} : ∀ {ws : List V} {ps : List (Int × Str)}, DeAll K S H ws (ps.map csD) → ws.map (keyCS H) = ps ∧ ∀ w ∈ ws, De K S H w (csD (keyCS H w)) ∧ ∃ t, w = V.ref t ∧ H t = some (.tup [.int (keyCS H w).1, .str (keyCS H w).2])
  | [], [], _ => ⟨rfl, nofun⟩
  | w :: ws, p :: ps, .cons a b => by
    have ⟨h1, h2⟩ := cs_all b
    have ⟨e, h3⟩ := cs_at a
    exact ⟨by rw [List.map_cons, e, h1], fun x hx => (List.mem_cons.mp hx).elim (fun q => q ▸ ⟨e.symm ▸ a, h3⟩) (h2 x)⟩
/-- sorted(xs), xs a list of pairs (int, text) -/
def aSortCS : AN K := fun ys rs q => ∃ (y : Sl) (ps : List (Int × Str)), ys = [y] ∧ See rs y (.lst (ps.map csD)) ∧ q (.da (.lst ((srtCS ps).map csD))) rs
theorem act_sortCS : ActN K (rSortCS K) aSortCS := by
  rintro S0 H rs F vs ys q Q A r ⟨y, ps, rfl, see, h⟩ k
  obtain ⟨u, rfl, ru⟩ := vone r
  obtain ⟨a, ws, rfl, at_, d⟩ := (see.top A ru).l
  obtain ⟨e1, e2⟩ := cs_all d
  refine ⟨a, ws, rfl, SqL.of at_, fun x hx => (e2 x hx).2, fun zs p so pm np => ?_⟩
  have sm := same_new (o := .lst zs) np
  have e : zs.map (keyCS H) = srtCS ps := srtCS_uniq (List.pairwise_map.mpr so) (e1 ▸ pm.map (keyCS H))
  have all : DeAll K (Mu S0 F) H zs ((srtCS ps).map csD) := by
    rw [← e, List.map_map]
    exact deAll_of fun w hw => (e2 w (pm.mem_iff.mp hw)).1
  exact k _ _ rs F _ (Stp.same sm) (A.same sm) (.da (.lst (A.fresh np) (upd_same ..) (all.ev (Ev.same (F := []) sm)))) h
theorem s_sortCS {ps : List (Int × Str)} (see : See rs y (.lst (ps.map csD))) (h : q (.da (.lst ((srtCS ps).map csD))) rs) : aSortCS [y] rs q := ⟨y, ps, rfl, see, h⟩
end
theorem pe_sortCS {X : Cx} {e : Expr} {te : TE} {p pos : Pos} (K' : PySem.W.Frag) (m : Bts X.mg) (he : PE X e te) (hg : Gl X "sorted" := by rfl) (hs : starEach (e :: []) X.env = (false, eval e X.env) :: starEach [] X.env := by rfl) (hK : X.K = K' := by rfl) : PE X (.Call (.Name "sorted" p) [e] [] pos) (tCB (rSortCS K') (tCons te tNil)) := by
  subst hK
  exact pe_callB cr_sortCS hg m.sorted bt_sorted (pa_cons he pa_nil hs) (by decide) (by decide) hs rfl
end HC

/-! ### dicts with plain keys, by data: {}, d[k], in, d[k] = v -/
namespace HC
open PyProof.Rows PySem L2 PySem.Spec
def getP {α : Type} (kvs : List (Key × α)) (k : Key) : Option α := (kvs.find? fun kv => decide (kv.1 = k)).map (·.2)
def putP {α : Type} (kvs : List (Key × α)) (k : Key) (x : α) : List (Key × α) := if (kvs.any fun kv => decide (kv.1 = k)) = true then kvs.map (fun kv => if kv.1 = k then (kv.1, x) else kv) else kvs ++ [(k, x)]
section
variable {K : PySem.W.Frag} {S S0 : Addr → Prop} {H : Hp} {rs rs' : List (Rs K)} {F : List Addr} {v : V} {y : Sl}
theorem getP_v {k : Key} : ∀ {gs : List (Key × V)} {ys : List (Key × Sl)}, gs.map (·.1) = ys.map (·.1) → VAll K S H (gs.map (·.2)) (ys.map (·.2)) → (∀ y, getP ys k = some y → ∃ v, valV gs k = some v ∧ VOk K S H v y) ∧ (getP ys k = none → valV gs k = none)
  | [], [], _, _ => ⟨fun y h => (nomatch h), fun _ => rfl⟩
  | (g, v) :: gs, (g', y) :: ys, e, .cons r rr => by
    injection e with e1 e2
    dsimp only at e1
    subst e1
    obtain ⟨i1, i2⟩ := getP_v (k := k) e2 rr
    by_cases h : g = k
    · rw [valV_pos (p := (g, v)) h]
      simp only [getP, List.find?_cons, decide_eq_true h, Option.map_some]
      exact ⟨fun y' h => ⟨v, rfl, by cases h; exact r⟩, fun h => (nomatch h)⟩
    · rw [valV_neg (p := (g, v)) h]
      simp only [getP, List.find?_cons, decide_eq_false h]
      exact ⟨i1, i2⟩
  | [], _ :: _, e, _ => nomatch e
  | _ :: _, [], e, _ => nomatch e
theorem getP_some {k : Key} {gs : List (Key × V)} {ys : List (Key × Sl)} (m : gs.map (·.1) = ys.map (·.1)) (all : VAll K S H (gs.map (·.2)) (ys.map (·.2))) : (valV gs k).isSome = (getP ys k).isSome := by
  obtain ⟨h1, h2⟩ := getP_v (k := k) m all
  cases hy : getP ys k with
  | none => rw [h2 hy]; rfl
  | some y => obtain ⟨v, hv, _⟩ := h1 y hy; rw [hv]; rfl
theorem any_keyP {α β : Type} {k : Key} : ∀ {gs : List (Key × α)} {ys : List (Key × β)}, gs.map (·.1) = ys.map (·.1) → (gs.any fun kv => decide (kv.1 = k)) = ys.any fun kv => decide (kv.1 = k)
  | [], [], _ => rfl
  | (g, v) :: gs, (g', y) :: ys, e => by
    injection e with e1 e2
    dsimp only at e1
    subst e1
    rw [List.any_cons, List.any_cons, any_keyP e2]
  | [], _ :: _, e => nomatch e
  | _ :: _, [], e => nomatch e
theorem putP_v {k : Key} {v : V} {y : Sl} (r : VOk K S H v y) {gs : List (Key × V)} {ys : List (Key × Sl)} (e : gs.map (·.1) = ys.map (·.1)) (a : VAll K S H (gs.map (·.2)) (ys.map (·.2))) :
    (putK gs k v).map (·.1) = (putP ys k y).map (·.1) ∧ VAll K S H ((putK gs k v).map (·.2)) ((putP ys k y).map (·.2)) := by
  unfold putK putP
  rw [any_keyP e]
  by_cases h : (ys.any fun kv => decide (kv.1 = k)) = true
  · rw [if_pos h, if_pos h]
    clear h
    induction gs generalizing ys with
    | nil => cases ys with
      | nil => exact ⟨rfl, .nil⟩
      | cons => cases e
    | cons g gs ih => cases ys with
      | nil => cases e
      | cons z ys =>
        obtain ⟨g1, g2⟩ := g
        obtain ⟨z1, z2⟩ := z
        injection e with e1 e2
        dsimp only at e1
        subst e1
        cases a with
        | cons a1 a2 =>
          obtain ⟨i1, i2⟩ := ih e2 a2
          simp only [List.map_cons]
          by_cases q : g1 = k
          · rw [if_pos q, if_pos q]
            exact ⟨by rw [i1], .cons r i2⟩
          · rw [if_neg q, if_neg q]
            exact ⟨by rw [i1], .cons a1 i2⟩
  · rw [if_neg h, if_neg h]
    refine ⟨by rw [List.map_append, List.map_append, e]; rfl, ?_⟩
    rw [List.map_append, List.map_append]
    exact a.app (.cons r .nil)
/-- y is such a dict: its keys and values -/
inductive SeeP (rs : List (Rs K)) : Sl → List (Key × Sl) → Prop
  | da (kvs : List (Key × Da)) : SeeP rs (.da (.dK kvs)) (kvs.map fun f => (f.1, .da f.2))
  | raw {a : Addr} {ys : List (Key × Sl)} {rs' : List (Rs K)} : Ext (dctR a ys) rs rs' → SeeP rs (.raw (.ref a)) ys
theorem SeeP.ok {ys : List (Key × Sl)} (s : SeeP rs y ys) (A : At K S0 H rs F) (r : VOk K (Mu S0 F) H v y) : ∃ a gs, v = .ref a ∧ Rd H a (.dK gs) ∧ gs.map (·.1) = ys.map (·.1) ∧ VAll K (Mu S0 F) H (gs.map (·.2)) (ys.map (·.2)) := by
  cases s with
  | da kvs =>
    cases r with | da d => cases d with | dK n h1 h2 h3 =>
      refine ⟨_, _, rfl, h1, by rw [h2, List.map_map]; rfl, ?_⟩
      have := h3.vall
      rw [List.map_map] at this ⊢
      exact this
  | raw e =>
    cases r
    obtain ⟨gs, h1, h2, h3, _⟩ := A.dct e
    exact ⟨_, gs, rfl, .inl h1, h2, h3⟩
theorem keyP_v {k : Key} (h : VOk K S H v (.da (kD k))) : v = kV k := by cases h with | da d => exact kD_v d
end
section
variable {X : Cx} {K : PySem.W.Frag} {E : XK} {a b c e o k : Expr} {pos pos' apos cpos : Pos} {td ty tv tx : TD K} {st : Stmt}
/-! d[k], k in d, k not in d -/
def dPGet (td ty : TD K) : TD K := fun sl rs xc q => td sl rs xc fun y rs1 => ty sl rs1 xc fun z rs2 => ∃ ys ks w, SeeP rs2 y ys ∧ z = .da (kD ks) ∧ getP ys ks = some w ∧ q w rs2
theorem d_pget (h : PE X e (tDGet (LE E td) (LE E ty))) : PE X e (LE E (dPGet td ty)) := pe_weak h fun σ H Q ⟨S0, sl, rs, F, xc, q, N, t, k, kx⟩ =>
  LE.use N t kx fun v y rs1 F1 H1 st1 N1 r1 t1 => LE.use N1 t1 (kx.after st1) fun u z rs2 F2 H2 st2 N2 r2 ⟨ys, ks, w, se, ez, hg, t2⟩ => by
    subst ez
    obtain ⟨p, gs, ev, rd, m, all⟩ := se.ok N2.at_ (r1.ev (st2.ev N1.at_))
    obtain ⟨x, hx, rx⟩ := (getP_v m all).1 w hg
    exact ⟨p, x, ev, .inl ⟨gs, ks, rd, keyP_v r2, hx.symm⟩, k x w rs2 F2 H2 (st1.trans st2) N2.at_ rx t2⟩
def dPIn (f : Bool → Bool) (ty td : TD K) : TD K := fun sl rs xc q => ty sl rs xc fun z rs1 => td sl rs1 xc fun y rs2 => ∃ ys ks, SeeP rs2 y ys ∧ z = .da (kD ks) ∧ q (.da (.bl (f (getP ys ks).isSome))) rs2
theorem le_pin {f : Bool → Bool} {σ : L2.St} {H : Hp} {Q : VK} (l : LE E (dPIn f ty td) σ H Q) : (LE E ty) σ H fun y H1 => (LE E td) σ H1 fun x H2 => ∃ a o, x = .ref a ∧ DGet H2 a y o ∧ Q (.bl (f o.isSome)) H2 := by
  obtain ⟨S0, sl, rs, F, xc, q, N, t, k, kx⟩ := l
  refine LE.use N t kx fun u z rs1 F1 H1 st1 N1 r1 t1 => LE.use N1 t1 (kx.after st1) fun v y rs2 F2 H2 st2 N2 r2 ⟨ys, ks, se, ez, t2⟩ => ?_
  subst ez
  obtain ⟨p, gs, ev, rd, m, all⟩ := se.ok N2.at_ r2
  refine ⟨p, _, ev, .inl ⟨gs, ks, rd, keyP_v (r1.ev (st2.ev N1.at_)), rfl⟩, ?_⟩
  rw [getP_some m all]
  exact k _ _ rs2 F2 H2 (st1.trans st2) N2.at_ (.da (.bl _)) t2
theorem dt_pnin (h : PC X .NotIn a b (tDNotIn (LE E ty) (LE E td))) (h1 : behindInMarks .NotIn b = false := by rfl) : PT X (.Compare a [.NotIn] [b] pos) (LT E (dT (dPIn not ty td))) := pt_weak (pt_cmp h h1) fun _ _ _ => le_tB fun σ H Q (l : LE E (dPIn _ ty td) σ H Q) => le_pin l
/-! {} -/
def dNewP : TD K := fun _ rs _ q => ∀ p, q (.raw (.ref p)) (dctR p [] :: rs)
theorem d_newP (h : PE X e tDNewK) : PE X e (LE E (dNewP (K := K))) := pe_weak h fun σ H Q ⟨S0, sl, rs, F, xc, q, N, t, k, kx⟩ p hp => by
  obtain ⟨A, st⟩ := at_newD (gs := []) (fs := []) N.at_ hp rfl .nil
  exact k _ _ _ _ _ st A (.raw _) (t p)
/-! d[k] = v -/
theorem At.put_p {p : Addr} {ks : Key} {ys : List (Key × Sl)} {v : V} {y : Sl} {S0 : Addr → Prop} {H : Hp} {rs rs' : List (Rs K)} {F : List Addr} (A : At K S0 H rs F) (rep : Rep (HC.dctR p ys) (HC.dctR p (putP ys ks y)) rs rs') (r : VOk K (Mu S0 F) H v y) :
    ∃ gs, H p = some (.dK gs) ∧ gs.length = ys.length ∧ ∃ F', F.Perm F' ∧ At K S0 (upd H p (.dK (putK gs ks v))) rs' F' ∧ Stp F H F' (upd H p (.dK (putK gs ks v))) := by
  obtain ⟨r0, e⟩ := rep.ext
  obtain ⟨gs, h1, h2, h3, _⟩ := A.dct e
  refine ⟨gs, h1, by have := congrArg List.length h2; simpa using this, A.write rep trivial (fun G h => h.1) fun ev => ?_⟩
  obtain ⟨i1, i2⟩ := putP_v (k := ks) (r.ev ev) h2 (h3.ev ev)
  exact ⟨rfl, _, upd_same, i1, i2⟩
def dPPut (td ty tv : TD K) : TDs K := fun d sl rs => tv sl rs d.xc fun w rs1 => td sl rs1 d.xc fun y rs2 => ty sl rs2 d.xc fun z rs3 => ∃ p ys ks rs4, y = .raw (.ref p) ∧ z = .da (kD ks) ∧ Rep (dctR p ys) (dctR p (putP ys ks w)) rs3 rs4 ∧ ys.length < 1000000 ∧ d.nx sl rs4
theorem ds_pput (h : PS X st (sDPut (LE E td) (LE E ty) (LE E tv))) : PS X st (LS E (dPPut td ty tv)) := ps_weak h fun D σ H ⟨S0, sl, rs, F, d, N, t, k1, k2, k3, k4, k5⟩ =>
  LE.use N t k5 fun v w rs1 F1 H1 st1 N1 r1 t1 => LE.use N1 t1 (k5.after st1) fun u y rs2 F2 H2 st2 N2 r2 t2 => LE.use N2 t2 ((k5.after st1).after st2) fun x z rs3 F3 H3 st3 N3 r3 ⟨p, ys, ks, rs4, ey, ez, rep, few, t3⟩ => by
    subst ey ez
    obtain rfl := keyP_v r3
    cases r2
    obtain ⟨gs, h1, hl, F4, pm, A4, st4⟩ := N3.at_.put_p rep ((r1.ev (st2.ev N1.at_)).ev (st3.ev N2.at_))
    refine ⟨p, _, rfl, .inl ⟨gs, ks, h1, rfl, by rw [sizeLine_eq]; omega, rfl⟩, k1 σ sl rs4 F4 _ (((st1.trans st2).trans st3).trans st4) (N3.step st4 A4) t3⟩
end
section
variable {K : PySem.W.Frag} {td ty tv : TD K} {sl : List Sl} {rs rs' : List (Rs K)} {xc : XD K} {q : QD K} {d : DEnds K} {y w : Sl}
def PGetK (ty : TD K) (sl : List Sl) (xc : XD K) (q : QD K) : QD K := fun y rs1 => ty sl rs1 xc fun z rs2 => ∃ ys ks w, SeeP rs2 y ys ∧ z = .da (kD ks) ∧ getP ys ks = some w ∧ q w rs2
def PGetV (y : Sl) (q : QD K) : QD K := fun z rs2 => ∃ ys ks w, SeeP rs2 y ys ∧ z = .da (kD ks) ∧ getP ys ks = some w ∧ q w rs2
theorem s_pget (h : td sl rs xc (PGetK ty sl xc q)) : dPGet td ty sl rs xc q := h
theorem s_pgetK (h : ty sl rs xc (PGetV y q)) : PGetK ty sl xc q y rs := h
theorem s_pgetV {ys : List (Key × Sl)} {z : Str} (se : SeeP rs y ys) (hg : getP ys (.inr z) = some w) (h : q w rs) : PGetV y q (.da (.str z)) rs := ⟨ys, .inr z, w, se, rfl, hg, h⟩
def PInK (f : Bool → Bool) (td : TD K) (sl : List Sl) (xc : XD K) (q : QD K) : QD K := fun z rs1 => td sl rs1 xc fun y rs2 => ∃ ys ks, SeeP rs2 y ys ∧ z = .da (kD ks) ∧ q (.da (.bl (f (getP ys ks).isSome))) rs2
def PInV (f : Bool → Bool) (z : Sl) (q : QD K) : QD K := fun y rs2 => ∃ ys ks, SeeP rs2 y ys ∧ z = .da (kD ks) ∧ q (.da (.bl (f (getP ys ks).isSome))) rs2
theorem s_pin {f : Bool → Bool} (h : ty sl rs xc (PInK f td sl xc q)) : dPIn f ty td sl rs xc q := h
theorem s_pinK {f : Bool → Bool} {z : Sl} (h : td sl rs xc (PInV f z q)) : PInK f td sl xc q z rs := h
theorem s_pinV {f : Bool → Bool} {ys : List (Key × Sl)} {z : Str} (se : SeeP rs y ys) (h : q (.da (.bl (f (getP ys (.inr z)).isSome))) rs) : PInV f (.da (.str z)) q y rs := ⟨ys, .inr z, se, rfl, h⟩
theorem s_newP (h : ∀ p, q (.raw (.ref p)) (dctR p [] :: rs)) : dNewP sl rs xc q := h
def PPutK (td ty : TD K) (d : DEnds K) (sl : List Sl) : QD K := fun w rs1 => td sl rs1 d.xc fun y rs2 => ty sl rs2 d.xc fun z rs3 => ∃ p ys ks rs4, y = .raw (.ref p) ∧ z = .da (kD ks) ∧ Rep (dctR p ys) (dctR p (putP ys ks w)) rs3 rs4 ∧ ys.length < 1000000 ∧ d.nx sl rs4
def PPutL (ty : TD K) (d : DEnds K) (sl : List Sl) (w : Sl) : QD K := fun y rs2 => ty sl rs2 d.xc fun z rs3 => ∃ p ys ks rs4, y = .raw (.ref p) ∧ z = .da (kD ks) ∧ Rep (dctR p ys) (dctR p (putP ys ks w)) rs3 rs4 ∧ ys.length < 1000000 ∧ d.nx sl rs4
def PPutV (d : DEnds K) (sl : List Sl) (w y : Sl) : QD K := fun z rs3 => ∃ p ys ks rs4, y = .raw (.ref p) ∧ z = .da (kD ks) ∧ Rep (dctR p ys) (dctR p (putP ys ks w)) rs3 rs4 ∧ ys.length < 1000000 ∧ d.nx sl rs4
theorem s_pput (h : tv sl rs d.xc (PPutK td ty d sl)) : dPPut td ty tv d sl rs := h
theorem s_pputK (h : td sl rs d.xc (PPutL ty d sl w)) : PPutK td ty d sl w rs := h
theorem s_pputL (h : ty sl rs d.xc (PPutV d sl w y)) : PPutL ty d sl w y rs := h
theorem s_pputV {p : Addr} {ys : List (Key × Sl)} {z : Str} (rep : Rep (dctR p ys) (dctR p (putP ys (.inr z) w)) rs rs') (few : ys.length < 1000000) (h : d.nx sl rs') : PPutV d sl w (.raw (.ref p)) (.da (.str z)) rs := ⟨p, ys, .inr z, rs', rfl, rfl, rep, few, h⟩
end
end HC

/-! ### sorted of a tuple of ints, by data -/
namespace HC
open PyProof.Rows PySem L2 PySem.Spec
theorem sorted_tupI {w : World} {s : Shared} {prog : Program} {E : Value → Shared → Prop} {A : Around} {t : Addr} {o : Obj} {vs : List Value} {ns : List Int} {n : Nat} {Q : Value → Shared → Prop} (at_ : s.heap.get? t = some o) (hc : o.cls = .type "tuple") (hd : o.data = .seq vs.toArray n) (few : vs.length ≤ sizeLine) (all : IntsAre vs ns)
    (fin : ∀ (h2 : Heap) (l : Addr) (out : List Value) (ms : List Int) (e : Nat), IntsAre out ms → ms.Perm ns → ms.Pairwise (· ≤ ·) → (∀ b p, s.heap.get? b = some p → h2.get? b = some p ∧ b ≠ l) → h2.get? l = some (seqObj "list" out.toArray e) → Q (.ref l) { s with heap := h2 }) : wpAny (model prog w) A (call (.builtin "sorted") [.ref t]) Q E s := by
  have few2 : vs.toArray.size ≤ sizeLine := by rw [List.size_toArray]; exact few
  refine Calls.call_function_entry kind_sorted plain_sorted entry_sorted (args_sorted1 _) (show wpAny _ _ (checkCount "sorted" 1 1 1 >>= fun _ => _) _ _ _ from wpAny_bind (wpAny_pure (wpAny_bind (wpAny_collect_seq t (.inr rfl) at_ hc hd (fun h1 old => wpAny_bind (wpAny_newList ?_ few)) few2))))
  have made : (h1.push (seqObj "list" vs.toArray 0)).get? h1.objs.size = some (seqObj "list" vs.toArray 0) := Heap.get?_push_size _ rfl
  refine wpAny_bind (wpAny_holding (wpAny_call_entry slot_list_sort ⟨_, made, rfl⟩ entry_list_sort (SrtO.list_sort_ord SrtO.swo_int made few (fun two => SrtO.ints_sortable all two) fun out so st => ⟨_, rfl, wpAny_pure ⟨_, rfl, ?_⟩⟩) (args_list_sort _)))
  obtain ⟨i1, i2, i3⟩ := SrtO.ints_out all so st
  obtain ⟨e, he⟩ := sortedHeap_at (vs := vs) (out := out.toArray) made
  exact fin _ _ out _ e i1 i2 i3 (fun b p hb => have h3 := old b p hb; have ne : b ≠ h1.objs.size := Nat.ne_of_lt (Heap.lt_size h3); ⟨sortedHeap_old ne (Heap.lt_size (Heap.get?_push_of_some _ h3)) |>.trans (Heap.get?_push_of_some _ h3), ne⟩) he
/-- sorted(t), t a tuple of ints -/
def rSortTI (K : PySem.W.Frag) : List V → Hp → VK → Prop := fun vs H Q => ∃ (a : Addr) (ns : List Int), vs = [V.ref a] ∧ SqT K H a (ns.map V.int) ∧ ∀ (ms : List Int) (p : Addr), ms.Perm ns → ms.Pairwise (· ≤ ·) → H p = none → Q (.ref p) (upd H p (.lst (ms.map V.int)))
theorem cr_sortTI {X : Cx} : CallR X (.builtin "sorted") (rSortTI X.K) := by
  rintro pn s σ G vs us Q J rel ⟨a, ns, rfl, sq, q⟩
  obtain ⟨u, rfl, hu⟩ := vals1 rel
  obtain rfl : u = Value.ref a := hu
  obtain ⟨its, rv, ⟨o, at_, hc, n, hd⟩, few⟩ := J.tuple sq
  rw [rv.length] at few
  refine sorted_tupI at_ hc hd few rv.ints fun h2 l out ms e i1 pm so old here => ?_
  have gone : s.heap.get? l = none := by
    cases q : s.heap.get? l with
    | none => rfl
    | some u => exact absurd rfl (old l u q).2
  have fr : G l = none := by
    cases g : G l with
    | none => rfl
    | some o => obtain ⟨u, hu⟩ := objOk_get (J.hok l o g); rw [gone] at hu; cases hu
  refine ⟨.ref l, upd G l (.lst (ms.map V.int)), J.laidN (t' := s.toks) (fun b p hb => (old b p hb).1) gone fr ⟨?_, out, e, vals_of_ints i1, here⟩, rfl, q ms l pm so fr⟩
  rw [List.length_map, pm.length_eq]
  have := rv.ints.length
  omega
theorem pe_sortTI {X : Cx} {e : Expr} {te : TE} {p pos : Pos} (K' : PySem.W.Frag) (m : Bts X.mg) (he : PE X e te) (hg : Gl X "sorted" := by rfl) (hs : starEach (e :: []) X.env = (false, eval e X.env) :: starEach [] X.env := by rfl) (hK : X.K = K' := by rfl) : PE X (.Call (.Name "sorted" p) [e] [] pos) (tCB (rSortTI K') (tCons te tNil)) := by
  subst hK
  exact pe_callB cr_sortTI hg m.sorted bt_sorted (pa_cons he pa_nil hs) (by decide) (by decide) hs rfl
section
variable {K : PySem.W.Frag} {rs : List (Rs K)} {q : QD K} {y : Sl}
def aSortTI : AN K := fun ys rs q => ∃ (ns : List Int), ys = [.da (.tup (ns.map .int))] ∧ q (.da (.lst ((srtI ns).map .int))) rs
theorem act_sortTI : ActN K (rSortTI K) aSortTI := by
  rintro S0 H rs F vs ys q Q A r ⟨ns, rfl, h⟩ k
  obtain ⟨u, rfl, ru⟩ := vone r
  cases ru with | da ru => cases ru with | tup h1 h2 =>
    obtain rfl := ints_D h2
    refine ⟨_, ns, rfl, SqT.of h1, fun ms p pm so np => ?_⟩
    have sm := same_new (o := .lst (ms.map V.int)) np
    rw [← srtI_uniq so pm] at h
    exact k _ _ rs F _ (Stp.same sm) (A.same sm) (.da (.lst (A.fresh np) (upd_same ..) (deAll_ints ms))) h
theorem s_sortTI {ns : List Int} {xs : List Da} (e : xs = ns.map .int) (h : q (.da (.lst ((srtI ns).map .int))) rs) : aSortTI [.da (.tup xs)] rs q := ⟨ns, by rw [e], h⟩
end
end HC

namespace HC
open PyProof.Rows PySem L2 PySem.Spec
section
variable {P : Program} {w : World} {K : PySem.W.Frag}
variable {mg : Str → Option Value} {base : Heap}
/-- the module's constants, classes -/
structure Md (K : PySem.W.Frag) (mg : Str → Option Value) where
  b : Bts mg
  g_LETTERS : GStr mg "LETTERS" "abcdefghijklmnopqrstuvwxyz"
  g_MAX_LETTERS : GInt mg "MAX_LETTERS" 8
  g_MAX_LIMIT : GInt mg "MAX_LIMIT" 30
  g_MAX_DAY : GInt mg "MAX_DAY" 1000000000000000000
  k_Farm_MAX_FIELDS : GCon K mg "Farm" "MAX_FIELDS" (.int 6)
  k_Farm_MAX_STATES : GCon K mg "Farm" "MAX_STATES" (.int 4000)
  a_Farm : Addr
  a_Rule : Addr
  a_InvalidNumber : Addr
  a_NotHarmonic : Addr
  a_TooFewCarts : Addr
  self_Farm : PySem.W.selfFirst K a_Farm = true
  f_Farm : FN K a_Farm "rows"
  f_Rule : FN K a_Rule "farm" ∧ FN K a_Rule "classes"
abbrev FnD (K : PySem.W.Frag) (x q : Str) (st : Stmt) (f : Addr) (fd : FuncData) : Prop := FunD K x q (defArgs st) (defBody st) (defScope st) [] [] f fd
/-- a def of the module; a method; a class; a property's getter -/
def Gd (K : PySem.W.Frag) (mg : Str → Option Value) (x : Str) (st : Stmt) : Prop := ∃ f fd, mg x = some (.ref f) ∧ FnD K x x st f fd
def Gm (K : PySem.W.Frag) (C : Addr) (m q : Str) (st : Stmt) : Prop := Cls K C ∧ ∃ f fd, Meth K C m f ∧ FnD K m q st f fd
def Gk (K : PySem.W.Frag) (mg : Str → Option Value) (x : Str) (C : Addr) (q : Str) (st : Stmt) : Prop := mg x = some (.ref C) ∧ ∃ f fd, Mk K C f ∧ FnD K "__init__" q st f fd
def Gp (K : PySem.W.Frag) (C : Addr) (f q : Str) (st : Stmt) : Prop := Cls K C ∧ ∃ p g fd, PropOf K C f p g ∧ FnD K f q st g fd
theorem def_mk {x : Str} {st : Stmt} {k : Nat} {sp : Sp} (G : Gd K mg x st) (h : ∀ f fd, FnD K x x st f fd → FnU P w K mg base k f sp) : DefR P w K mg base x k sp := by
  obtain ⟨f, fd, h1, h2⟩ := G
  exact ⟨f, h1, h2.kp, h f fd h2⟩
theorem meth_mk {C : Addr} {m q : Str} {st : Stmt} {k : Nat} {sp : Sp} (G : Gm K C m q st) (h : ∀ f fd, FnD K m q st f fd → FnR P w K mg base (CXW P w) k f sp) : MethR P w K mg base C m k sp := by
  obtain ⟨c, f, fd, h1, h2⟩ := G
  exact ⟨c, f, h1, h f fd h2⟩
theorem make_mk {x : Str} {C : Addr} {q : Str} {st : Stmt} {k : Nat} {sp : Sp} (G : Gk K mg x C q st) (h : ∀ f fd, FnD K "__init__" q st f fd → FnR P w K mg base (CXW P w) k f sp) : MakeR P w K mg base x C k sp := by
  obtain ⟨c, f, fd, h1, h2⟩ := G
  exact ⟨c, f, h1, h f fd h2⟩
theorem prop_mk {C : Addr} {f q : Str} {st : Stmt} {k : Nat} {sp : Sp} (G : Gp K C f q st) (h : ∀ g fd, FnD K f q st g fd → FnU P w K mg base k g sp) : PropR P w K mg base C f k sp := by
  obtain ⟨c, p, g, fd, h1, h2⟩ := G
  exact ⟨c, p, g, h1, h g fd h2⟩
theorem fi_of {C : Addr} {m q : Str} {st : Stmt} (G : Gm K C m q st) : ∀ f, Meth K C m f → PySem.W.fnIn K f = true := by
  obtain ⟨c, f, fd, h1, h2⟩ := G
  intro g hg
  have e : g = f := by
    have := hg.at_.symm.trans h1.at_
    simpa using this
  subst e
  obtain ⟨c1, c2, dv, kv, dc, pm, an, cdv, ct, sl, e, at_, _⟩ := h2.ex
  unfold PySem.W.fnIn
  rw [at_]

end
end HC
namespace HC
open PyProof.Rows PySem L2 PySem.Spec
local macro_rules | `(tactic| walk_at "ext") => `(tactic| first | exact .here | exact .there .here | exact .there (.there .here) | exact .there (.there (.there .here)) | exact .there (.there (.there (.there .here))) | exact .there (.there (.there (.there (.there .here)))))
local macro_rules | `(tactic| walk_at "gets") => `(tactic| first | exact Gets.nil | ((refine' Gets.cons ?he ?hr); (case he => walk_at "ext"); (case hr => walk_at "gets")))
local macro_rules | `(tactic| walk_at "ar") => `(tactic| first | exact ar_eq rfl | (refine ar_ex fun _ => ?_; walk_at "ar"))
local macro_rules | `(tactic| walk_at "rep") => `(tactic| first | exact .here | exact .there .here | exact .there (.there .here) | exact .there (.there (.there .here)) | exact .there (.there (.there (.there .here))))
local macro_rules | `(tactic| walk_at "see") => `(tactic| first | exact .da _ | exact .lst (by walk_at "ext"))
local macro_rules | `(tactic| walk_at "itm") => `(tactic| first | exact .tup _ | exact .tupS _ | exact .lst _ | exact .scr _ | exact .btup _ | exact .raw (by walk_at "ext"))
local macro_rules | `(tactic| walk_at "wk") => `(tactic| first | exact .tup _ | exact .tupS _ | exact .lst _ | exact .scr _ | exact .btup _ | exact .str _ | exact .raw (by walk_at "ext"))
local macro_rules | `(tactic| walk_at "alld") => `(tactic| first | exact allDa0 | exact allDa1 | exact allDa2 | exact allDa3 | exact allDa4 | exact allDa5 | rfl)
local macro_rules | `(tactic| walk_at "put") => `(tactic| (simp (config := { decide := true }) only [putS, if_true, if_false]; try rfl))
local macro_rules | `(tactic| walk_at "pl") => `(tactic| first | rfl | assumption | exact pls_map (fun _ => rfl) | exact pl_lm (fun _ => rfl) | exact pl_tm (fun _ => rfl))
local macro_rules | `(tactic| walk_at "size") => `(tactic| first | exact (by decide : _ ≤ sizeLine) | (simp [sizeLine_eq]; done) | (simp [sizeLine_eq]; omega))
local macro_rules | `(tactic| walk_at "d1") => `(tactic| first
  | with_reducible refine s_seq ?_ | with_reducible refine s_asg ?_ | ((with_reducible refine' s_var ?hv ?_ ?kn); (case hv => exact rfl); (case kn => trivial)) | with_reducible refine s_c ?_ | with_reducible refine s_r ?_
  | ((with_reducible refine' s_name ?hv ?_); (case hv => first | (simp only [List.set]; rfl) | (simp only [wipeD, List.set]; rfl)))
  | with_reducible refine s_b ?_ | with_reducible refine s_u ?_ | with_reducible refine s_t ?_ | with_reducible refine s_isB ?_ | with_reducible refine s_cons ?_ | with_reducible refine s_nil ?_
  | with_reducible refine s_p2 ?_ | with_reducible refine s_p1 ?_ | with_reducible refine s_add_i ?_ | ((with_reducible refine' s_I ?hc ?_); (case hc => first | trivial | (show (0 : Int) < _; omega) | (unfold CMul; omega) | (unfold CPow; decide) | (unfold CDiv; omega))) | with_reducible refine s_1I ?_
  | with_reducible refine s_eq_i ?_ | with_reducible refine s_eq_s ?_ | with_reducible refine s_eq_b ?_ | with_reducible refine s_ne_i ?_ | with_reducible refine s_ne_s ?_ | with_reducible refine s_ne_b ?_ | with_reducible refine s_isN ?_ | with_reducible refine s_notN ?_
  | with_reducible refine s_call ?_ | with_reducible refine s_make ?_ | with_reducible refine s_fld ?_ | with_reducible refine s_prop ?_ | with_reducible refine s_meth ?_ | with_reducible refine s_ret ?_ | with_reducible refine s_retN ?_ | with_reducible refine s_drop ?_ | with_reducible refine s_ifS ?_ | with_reducible refine s_next ?_
  | with_reducible refine s_and ?_ | with_reducible refine s_or ?_ | with_reducible refine s_not ?_ | with_reducible refine s_andV ?_ | with_reducible refine s_orV ?_ | with_reducible refine s_notV ?_ | with_reducible refine s_if ?_ | with_reducible refine s_chain ?_
  | ((with_reducible refine' s_mkT ?he ?hz ?_); (case he => first | exact mkT2 | exact mkT1 | exact mkT3 | exact mkT4 | exact mkT0 | rfl); (case hz => walk_at "size")) | ((with_reducible refine' s_mkL ?he ?hz ?_); (case he => walk_at "alld"); (case hz => walk_at "size"))
  | with_reducible refine s_partI ?_ | with_reducible refine s_slT ?_ | ((with_reducible refine' s_sfldV ?kn ?_); (case kn => trivial)) | ((with_reducible refine' s_lenI ?hi ?_); (case hi => walk_at "itm")) | with_reducible refine s_lenS ?_
  | ((with_reducible refine' s_fldD ?he ?fn ?_); (case he => rfl); (case fn => assumption)) | ((with_reducible refine' s_fldR ?hx ?he ?fn ?kn ?_); (case hx => walk_at "ext"); (case he => rfl); (case fn => assumption); (case kn => trivial))
  | ((with_reducible refine' s_sfldR ?hr ?he ?fn ?hf ?_); (case hr => walk_at "rep"); (case he => walk_at "put"); (case fn => assumption); (case hf => simp)) | ((with_reducible refine' s_add_t ?hz ?_); (case hz => walk_at "size")) | ((with_reducible refine' s_add_l ?hz ?_); (case hz => walk_at "size"))
  | ((with_reducible refine' s_parK ?he ?hl ?_); (case he => first | (simp only [List.zip_cons_cons, List.zip_nil_right, List.zip_nil_left, List.foldl_cons, List.foldl_nil, List.set_cons_succ, List.set_cons_zero]; rfl) | rfl); (case hl => rfl)) | ((with_reducible refine' s_raiseK ?he ?hl ?_); (case he => walk_at "alld"); (case hl => rfl)) | ((with_reducible refine' s_gtup ?hi ?hn ?_); (case hi => first | exact its2_2 | exact its2_3 | exact its2_4 | exact its2_1 | exact .tup _ | exact .da _); (case hn => rfl)) | with_reducible refine s_gcons ?_ | with_reducible refine s_gnil ?_
  | with_reducible refine s_for ?_ | with_reducible refine s_it ?_ | with_reducible refine s_rng1 ?_ | with_reducible refine s_rng2 ?_ | with_reducible refine s_enT ?_ | with_reducible refine s_enL ?_ | with_reducible refine s_enLK ?_ | with_reducible refine s_zip ?_ | with_reducible refine s_zipL ?_ | with_reducible refine s_lc ?_ | with_reducible refine s_yes ?_
  | with_reducible refine s_faug ?_ | with_reducible refine s_int ?_ | with_reducible refine s_intB ?_ | with_reducible refine s_n1 ?_ | with_reducible refine s_n2 ?_ | with_reducible refine s_star1 ?_ | with_reducible refine s_dictZip ?_ | with_reducible refine s_items ?_ | ((with_reducible refine' s_star1K ?hi ?_); (case hi => walk_at "itm")) | ((with_reducible refine' s_augI ?he ?_); (case he => rfl)) | ((with_reducible refine' s_augV ?hc ?he ?_); (case hc => (unfold CMul; omega)); (case he => first | (simp only [List.set_cons_succ, List.set_cons_zero]; rfl) | rfl)) | ((with_reducible refine' s_aug0 ?he ?_); (case he => rfl)) | ((with_reducible refine' s_aug0V ?he ?_); (case he => first | (simp only [List.set_cons_succ, List.set_cons_zero]; rfl) | rfl)) | with_reducible refine s_tupOfT ?_
  | ((with_reducible refine' s_ix ?him ?hat ?kn ?_); (case him => walk_at "itm"); (case hat => first | exact atI_mm (by assumption) | exact atI_c0 | exact atI_c1 | exact atI_c2 | exact atI_c3 | exact atI_c4); (case kn => trivial)) | ((with_reducible refine' s_bmK ?hi ?_); (case hi => first | exact .da _ | exact .raw (by walk_at "ext"))) | ((with_reducible refine' s_bmK0 ?hi ?_); (case hi => first | exact .da _ | exact .raw (by walk_at "ext")))
  | ((with_reducible refine' s_app ?hr ?hz ?_); (case hr => walk_at "rep"); (case hz => walk_at "size")) | ((with_reducible refine' s_itK ?hw ?_); (case hw => walk_at "wk")) | with_reducible refine s_propD ?_ | ((with_reducible refine' s_propR ?hx ?_); (case hx => walk_at "ext"))
  | ((with_reducible refine' s_methD ?hn ?_); (case hn => (simp (config := { decide := true }) only [List.map, List.mem_cons, List.not_mem_nil, or_false, not_or, not_false_eq_true, and_self])))
  | ((with_reducible refine' s_methR ?hx ?hn ?_); (case hx => walk_at "ext"); (case hn => (simp (config := { decide := true }) only [List.map, List.mem_cons, List.not_mem_nil, or_false, not_or, not_false_eq_true, and_self])))
  | ((with_reducible refine' s_enTK ?hi ?_); (case hi => first | exact .da _ | exact .btup _ | exact .tup _)) | ((with_reducible refine' s_zipT ?hi ?hj ?_); (case hi => first | exact .da _ | exact .btup _ | exact .tup _); (case hj => first | exact .da _ | exact .btup _ | exact .tup _))
  | ((with_reducible refine' s_tupOfL ?hs ?_); (case hs => walk_at "see")) | ((with_reducible refine' s_tupNew ?hs ?_); (case hs => walk_at "see")) | ((with_reducible refine' s_slL ?hs ?_); (case hs => walk_at "see"))
  | ((with_reducible refine' s_notIn_bt ?h1 ?h2 ?_); (case h1 => walk_at "pl"); (case h2 => walk_at "pl")) | ((with_reducible refine' s_in_bt ?h1 ?h2 ?_); (case h1 => walk_at "pl"); (case h2 => walk_at "pl")) | ((with_reducible refine' s_notIn_t ?h1 ?h2 ?_); (case h1 => walk_at "pl"); (case h2 => walk_at "pl")) | ((with_reducible refine' s_in_t ?h1 ?h2 ?_); (case h1 => walk_at "pl"); (case h2 => walk_at "pl")) | ((with_reducible refine' s_notIn_l ?h1 ?h2 ?_); (case h1 => walk_at "pl"); (case h2 => walk_at "pl")) | ((with_reducible refine' s_in_l ?h1 ?h2 ?_); (case h1 => walk_at "pl"); (case h2 => walk_at "pl"))
  | ((with_reducible refine' s_nilEq ?hi ?_); (case hi => first | exact .lst _ | exact .raw (by walk_at "ext"))) | ((with_reducible refine' s_popE ?hr ?_); (case hr => walk_at "rep"))
  | with_reducible refine s_setL ?_ | with_reducible refine s_setL1 ?_ | with_reducible refine s_setL2 ?_ | ((with_reducible refine' s_addR ?h1 ?h2 ?hz ?_); (case h1 => walk_at "see"); (case h2 => walk_at "see"); (case hz => walk_at "size")) | with_reducible refine s_m1 ?_ | with_reducible refine s_m1K ?_ | with_reducible refine s_m1Q ?_ | with_reducible refine s_lcR ?_ | with_reducible refine s_tupIx ?_ | with_reducible refine s_lenOD ?_ | ((with_reducible refine' s_lenOR ?hx ?_); (case hx => walk_at "ext")) | with_reducible refine s_raise0 ?_ | with_reducible refine s_raise ?_ | with_reducible refine s_tup ?_ | with_reducible refine s_lst ?_ | with_reducible refine s_lstR ?_ | with_reducible refine s_cb ?_ | with_reducible refine s_sl ?_ | with_reducible refine s_noP ?_ | with_reducible refine s_part ?_ | with_reducible refine s_bm ?_ | with_reducible refine s_bm0 ?_ | with_reducible refine s_sfld ?_ | with_reducible refine s_par ?_)
local macro_rules | `(tactic| walk_at "side") => `(tactic| first | assumption | omega | trivial | (decide; done))
local macro_rules | `(tactic| walk_at "wit") => `(tactic| ((repeat apply Exists.intro); (refine' And.intro (rfl : @Eq (List Sl) _ _) ?_); (first | (refine' And.intro (rfl : @Eq (List (Rs _)) _ _) ?_) | (fail_if_success (refine' And.intro (?_ : @Eq (List (Rs _)) _ _) ?_))); (repeat refine' And.intro (by walk_at "side") ?_)))
local macro_rules | `(tactic| walk_at "ask") => `(tactic| first | ((with_reducible refine' s_ask0 ?kk); (case' kk => walk_at "wit")) | ((with_reducible refine' s_ask ?gg ?kk); (case' kk => walk_at "wit"); (case' gg => walk_at "gets")))
local macro_rules | `(tactic| walk_at "d") => `(tactic| repeat walk_at "d1")
local macro_rules | `(tactic| walk_at "in") => `(tactic| simp only [startD, List.length_cons, List.length_nil, Nat.zero_add, Nat.reduceAdd, Nat.reduceSub, List.replicate_succ, List.replicate_zero, List.cons_append, List.nil_append])
local macro_rules | `(tactic| walk_at "yes") => `(tactic| refine if_T (by first | rfl | exact decide_eq_true (by first | assumption | omega) | assumption) ?_)
local macro_rules | `(tactic| walk_at "no") => `(tactic| refine if_F (by first | rfl | exact decide_eq_false (by first | assumption | omega) | assumption) ?_)
local macro_rules | `(tactic| walk_at "nyes") => `(tactic| refine if_T (by first | rfl | (rw [decide_eq_false (by first | assumption | omega)]; rfl)) ?_)
local macro_rules | `(tactic| walk_at "nno") => `(tactic| refine if_F (by first | rfl | (rw [decide_eq_true (by first | assumption | omega)]; rfl)) ?_)
local macro_rules | `(tactic| walk_at "dec") => `(tactic| first | rfl | assumption | (simp (config := { failIfUnchanged := false }) only [*, decide_true, decide_false, decide_eq_true_eq, decide_eq_false_iff_not, Bool.not_true, Bool.not_false, Bool.and_true, Bool.and_false, Bool.true_and, Bool.false_and, Bool.or_true, Bool.or_false, Bool.true_or, Bool.false_or, not_false_eq_true, Bool.not_eq_true']; done))
local macro_rules | `(tactic| walk_at "di") => `(tactic| repeat first | walk_at "d1" | ((with_reducible refine' if_T ?hc ?_); (case hc => walk_at "dec")) | ((with_reducible refine' if_F ?hc ?_); (case hc => walk_at "dec")))
local macro_rules | `(tactic| walk_at "wipe") => `(tactic| simp only [List.map_cons, List.map_nil, wipeD, List.set_cons_zero, List.set_cons_succ])
local macro_rules | `(tactic| walk_at "d2") => `(tactic| first
  | ((with_reducible refine' s_gunl ?hi ?hn ?_); (case hi => first | exact nl5 | exact nl4 | exact nl3 | exact nl2 | exact .lst _ | exact .raw (by walk_at "ext")); (case hn => rfl)) | with_reducible refine s_gv ?_ | with_reducible refine s_meth0 ?_
  | ((with_reducible refine' s_meth0D ?hn ?_); (case hn => (simp (config := { decide := true }) only [List.map, List.mem_cons, List.not_mem_nil, or_false, not_or, not_false_eq_true, and_self])))
  | ((with_reducible refine' s_meth0R ?hx ?hn ?_); (case hx => walk_at "ext"); (case hn => (simp (config := { decide := true }) only [List.map, List.mem_cons, List.not_mem_nil, or_false, not_or, not_false_eq_true, and_self]))))
local macro_rules | `(tactic| walk_at "d") => `(tactic| repeat first | walk_at "d1" | walk_at "d2")
local macro_rules | `(tactic| walk_at "wit1") => `(tactic| ((repeat apply Exists.intro); (refine' And.intro (rfl : @Eq (List Sl) _ _) ?_); (first | (refine' And.intro (rfl : @Eq (List (Rs _)) _ _) ?_) | (fail_if_success (refine' And.intro (?_ : @Eq (List (Rs _)) _ _) ?_)))))
local macro_rules | `(tactic| walk_at "sides") => `(tactic| (repeat refine' And.intro (by walk_at "side") ?_))
local macro_rules | `(tactic| walk_at "ask") => `(tactic| first | ((with_reducible refine' s_ask0 ?kk); (case' kk => walk_at "wit")) | ((with_reducible refine' s_ask ?gg ?kk); (case' kk => walk_at "wit1"); (case' gg => walk_at "gets"); walk_at "sides"))
section
variable {P : Program} {w : World} {K : PySem.W.Frag}
variable {mg : Str → Option Value} {base : Heap}
/-! ### the law's start -/
abbrev lamNm : Str := ("law" : Str) ++ ".<locals>." ++ "<lambda>"
def D_law (M : Md K mg) (P0 : Addr) : SpD K := fun as rs xc q => ∃ ns, as = [.da (.scr ns)] ∧ rs = [tabR P0 lamNm] ∧ ns.length ≤ 63 ∧ q (.da (.bl true)) []
theorem not_rd_tbl {H : Hp} {a : Addr} {vs : List V} {ps : Array Value} (h : H a = some (.tbl ps)) (r : Rd H a (.lst vs)) : False := by
  rcases r with r | ⟨_, r⟩ <;> · rw [h] at r; cases r
theorem law_start {M : Md K mg} {P0 : Addr} {vs : List V} {H : Hp} {Q : VK} {E : XK} (h : sp_law K P0 vs H Q E) : spD (D_law M P0) vs H Q E := by
  obtain ⟨a, ns, rfl, sq, hl, hP, k⟩ := h
  have one : ∀ {b}, Mu (fun _ => False) [P0] b → b = P0 := fun h => h.elim (fun z => z.elim) fun z => List.mem_singleton.mp z
  refine ⟨fun _ => False, [.da (.scr ns)], [tabR P0 lamNm], [P0], fun _ _ => False, fun y _ => y = .da (.bl true), ⟨⟨[P0], [], rfl, ⟨rfl, #[], hP, trivial, fun pos cv hc => by cases hc⟩, rfl⟩, by simp, fun _ _ z => z, fun b hb => by rw [one hb, hP]; exact ⟨trivial, nofun⟩⟩, .cons (.da (.scr ?_)) .nil, ⟨ns, rfl, rfl, hl, rfl⟩, ?_, fun _ _ _ _ _ _ _ _ _ z => z.elim⟩
  · rcases sq with sq | sq
    · exact .inl ⟨fun m => by rw [one m] at sq; exact not_rd_tbl hP sq, sq⟩
    · exact .inr fun _ => .inr sq
  · rintro v y rs' F' H' st A r rfl
    cases r with | da r => cases r; exact k H'

end
end HC
namespace HC
open PyProof.Rows PySem L2 PySem.Spec
local macro_rules | `(tactic| walk_at "ext") => `(tactic| first | exact .here | exact .there .here | exact .there (.there .here) | exact .there (.there (.there .here)) | exact .there (.there (.there (.there .here))) | exact .there (.there (.there (.there (.there .here)))))
local macro_rules | `(tactic| walk_at "gets") => `(tactic| first | exact Gets.nil | ((refine' Gets.cons ?he ?hr); (case he => walk_at "ext"); (case hr => walk_at "gets")))
local macro_rules | `(tactic| walk_at "ar") => `(tactic| first | exact ar_eq rfl | (refine ar_ex fun _ => ?_; walk_at "ar"))
local macro_rules | `(tactic| walk_at "rep") => `(tactic| first | exact .here | exact .there .here | exact .there (.there .here) | exact .there (.there (.there .here)) | exact .there (.there (.there (.there .here))))
local macro_rules | `(tactic| walk_at "see") => `(tactic| first | exact .da _ | exact .lst (by walk_at "ext"))
local macro_rules | `(tactic| walk_at "itm") => `(tactic| first | exact .tup _ | exact .tupS _ | exact .lst _ | exact .scr _ | exact .btup _ | exact .raw (by walk_at "ext"))
local macro_rules | `(tactic| walk_at "wk") => `(tactic| first | exact .tup _ | exact .tupS _ | exact .lst _ | exact .scr _ | exact .btup _ | exact .str _ | exact .raw (by walk_at "ext"))
local macro_rules | `(tactic| walk_at "alld") => `(tactic| first | exact allDa0 | exact allDa1 | exact allDa2 | exact allDa3 | exact allDa4 | exact allDa5 | rfl)
local macro_rules | `(tactic| walk_at "put") => `(tactic| (simp (config := { decide := true }) only [putS, if_true, if_false]; try rfl))
local macro_rules | `(tactic| walk_at "pl") => `(tactic| first | rfl | assumption | exact pls_map (fun _ => rfl) | exact pl_lm (fun _ => rfl) | exact pl_tm (fun _ => rfl))
local macro_rules | `(tactic| walk_at "size") => `(tactic| first | exact (by decide : _ ≤ sizeLine) | (simp [sizeLine_eq]; done) | (simp [sizeLine_eq]; omega))
local macro_rules | `(tactic| walk_at "d1") => `(tactic| first
  | with_reducible refine s_seq ?_ | with_reducible refine s_asg ?_ | ((with_reducible refine' s_var ?hv ?_ ?kn); (case hv => exact rfl); (case kn => trivial)) | with_reducible refine s_c ?_ | with_reducible refine s_r ?_
  | ((with_reducible refine' s_name ?hv ?_); (case hv => first | (simp only [List.set]; rfl) | (simp only [wipeD, List.set]; rfl)))
  | with_reducible refine s_b ?_ | with_reducible refine s_u ?_ | with_reducible refine s_t ?_ | with_reducible refine s_isB ?_ | with_reducible refine s_cons ?_ | with_reducible refine s_nil ?_
  | with_reducible refine s_p2 ?_ | with_reducible refine s_p1 ?_ | with_reducible refine s_add_i ?_ | ((with_reducible refine' s_I ?hc ?_); (case hc => first | trivial | (show (0 : Int) < _; omega) | (unfold CMul; omega) | (unfold CPow; decide) | (unfold CDiv; omega))) | with_reducible refine s_1I ?_
  | with_reducible refine s_eq_i ?_ | with_reducible refine s_eq_s ?_ | with_reducible refine s_eq_b ?_ | with_reducible refine s_ne_i ?_ | with_reducible refine s_ne_s ?_ | with_reducible refine s_ne_b ?_ | with_reducible refine s_isN ?_ | with_reducible refine s_notN ?_
  | with_reducible refine s_call ?_ | with_reducible refine s_make ?_ | with_reducible refine s_fld ?_ | with_reducible refine s_prop ?_ | with_reducible refine s_meth ?_ | with_reducible refine s_ret ?_ | with_reducible refine s_retN ?_ | with_reducible refine s_drop ?_ | with_reducible refine s_ifS ?_ | with_reducible refine s_next ?_
  | with_reducible refine s_and ?_ | with_reducible refine s_or ?_ | with_reducible refine s_not ?_ | with_reducible refine s_andV ?_ | with_reducible refine s_orV ?_ | with_reducible refine s_notV ?_ | with_reducible refine s_if ?_ | with_reducible refine s_chain ?_
  | ((with_reducible refine' s_mkT ?he ?hz ?_); (case he => first | exact mkT2 | exact mkT1 | exact mkT3 | exact mkT4 | exact mkT0 | rfl); (case hz => walk_at "size")) | ((with_reducible refine' s_mkL ?he ?hz ?_); (case he => walk_at "alld"); (case hz => walk_at "size"))
  | with_reducible refine s_partI ?_ | with_reducible refine s_slT ?_ | ((with_reducible refine' s_sfldV ?kn ?_); (case kn => trivial)) | ((with_reducible refine' s_lenI ?hi ?_); (case hi => walk_at "itm")) | with_reducible refine s_lenS ?_
  | ((with_reducible refine' s_fldD ?he ?fn ?_); (case he => rfl); (case fn => assumption)) | ((with_reducible refine' s_fldR ?hx ?he ?fn ?kn ?_); (case hx => walk_at "ext"); (case he => rfl); (case fn => assumption); (case kn => trivial))
  | ((with_reducible refine' s_sfldR ?hr ?he ?fn ?hf ?_); (case hr => walk_at "rep"); (case he => walk_at "put"); (case fn => assumption); (case hf => simp)) | ((with_reducible refine' s_add_t ?hz ?_); (case hz => walk_at "size")) | ((with_reducible refine' s_add_l ?hz ?_); (case hz => walk_at "size"))
  | ((with_reducible refine' s_parK ?he ?hl ?_); (case he => first | (simp only [List.zip_cons_cons, List.zip_nil_right, List.zip_nil_left, List.foldl_cons, List.foldl_nil, List.set_cons_succ, List.set_cons_zero]; rfl) | rfl); (case hl => rfl)) | ((with_reducible refine' s_raiseK ?he ?hl ?_); (case he => walk_at "alld"); (case hl => rfl)) | ((with_reducible refine' s_gtup ?hi ?hn ?_); (case hi => first | exact its2_2 | exact its2_3 | exact its2_4 | exact its2_1 | exact .tup _ | exact .da _); (case hn => rfl)) | with_reducible refine s_gcons ?_ | with_reducible refine s_gnil ?_
  | with_reducible refine s_for ?_ | with_reducible refine s_it ?_ | with_reducible refine s_rng1 ?_ | with_reducible refine s_rng2 ?_ | with_reducible refine s_enT ?_ | with_reducible refine s_enL ?_ | with_reducible refine s_enLK ?_ | with_reducible refine s_zip ?_ | with_reducible refine s_zipL ?_ | with_reducible refine s_lc ?_ | with_reducible refine s_yes ?_
  | with_reducible refine s_faug ?_ | with_reducible refine s_int ?_ | with_reducible refine s_intB ?_ | with_reducible refine s_n1 ?_ | with_reducible refine s_n2 ?_ | with_reducible refine s_star1 ?_ | with_reducible refine s_dictZip ?_ | with_reducible refine s_items ?_ | ((with_reducible refine' s_star1K ?hi ?_); (case hi => walk_at "itm")) | ((with_reducible refine' s_augI ?he ?_); (case he => rfl)) | ((with_reducible refine' s_augV ?hc ?he ?_); (case hc => (unfold CMul; omega)); (case he => first | (simp only [List.set_cons_succ, List.set_cons_zero]; rfl) | rfl)) | ((with_reducible refine' s_aug0 ?he ?_); (case he => rfl)) | ((with_reducible refine' s_aug0V ?he ?_); (case he => first | (simp only [List.set_cons_succ, List.set_cons_zero]; rfl) | rfl)) | with_reducible refine s_tupOfT ?_
  | ((with_reducible refine' s_ix ?him ?hat ?kn ?_); (case him => walk_at "itm"); (case hat => first | exact atI_mm (by assumption) | exact atI_c0 | exact atI_c1 | exact atI_c2 | exact atI_c3 | exact atI_c4); (case kn => trivial)) | ((with_reducible refine' s_bmK ?hi ?_); (case hi => first | exact .da _ | exact .raw (by walk_at "ext"))) | ((with_reducible refine' s_bmK0 ?hi ?_); (case hi => first | exact .da _ | exact .raw (by walk_at "ext")))
  | ((with_reducible refine' s_app ?hr ?hz ?_); (case hr => walk_at "rep"); (case hz => walk_at "size")) | ((with_reducible refine' s_itK ?hw ?_); (case hw => walk_at "wk")) | with_reducible refine s_propD ?_ | ((with_reducible refine' s_propR ?hx ?_); (case hx => walk_at "ext"))
  | ((with_reducible refine' s_methD ?hn ?_); (case hn => (simp (config := { decide := true }) only [List.map, List.mem_cons, List.not_mem_nil, or_false, not_or, not_false_eq_true, and_self])))
  | ((with_reducible refine' s_methR ?hx ?hn ?_); (case hx => walk_at "ext"); (case hn => (simp (config := { decide := true }) only [List.map, List.mem_cons, List.not_mem_nil, or_false, not_or, not_false_eq_true, and_self])))
  | ((with_reducible refine' s_enTK ?hi ?_); (case hi => first | exact .da _ | exact .btup _ | exact .tup _)) | ((with_reducible refine' s_zipT ?hi ?hj ?_); (case hi => first | exact .da _ | exact .btup _ | exact .tup _); (case hj => first | exact .da _ | exact .btup _ | exact .tup _))
  | ((with_reducible refine' s_tupOfL ?hs ?_); (case hs => walk_at "see")) | ((with_reducible refine' s_tupNew ?hs ?_); (case hs => walk_at "see")) | ((with_reducible refine' s_slL ?hs ?_); (case hs => walk_at "see"))
  | ((with_reducible refine' s_notIn_bt ?h1 ?h2 ?_); (case h1 => walk_at "pl"); (case h2 => walk_at "pl")) | ((with_reducible refine' s_in_bt ?h1 ?h2 ?_); (case h1 => walk_at "pl"); (case h2 => walk_at "pl")) | ((with_reducible refine' s_notIn_t ?h1 ?h2 ?_); (case h1 => walk_at "pl"); (case h2 => walk_at "pl")) | ((with_reducible refine' s_in_t ?h1 ?h2 ?_); (case h1 => walk_at "pl"); (case h2 => walk_at "pl")) | ((with_reducible refine' s_notIn_l ?h1 ?h2 ?_); (case h1 => walk_at "pl"); (case h2 => walk_at "pl")) | ((with_reducible refine' s_in_l ?h1 ?h2 ?_); (case h1 => walk_at "pl"); (case h2 => walk_at "pl"))
  | ((with_reducible refine' s_nilEq ?hi ?_); (case hi => first | exact .lst _ | exact .raw (by walk_at "ext"))) | ((with_reducible refine' s_popE ?hr ?_); (case hr => walk_at "rep"))
  | with_reducible refine s_setL ?_ | with_reducible refine s_setL1 ?_ | with_reducible refine s_setL2 ?_ | ((with_reducible refine' s_addR ?h1 ?h2 ?hz ?_); (case h1 => walk_at "see"); (case h2 => walk_at "see"); (case hz => walk_at "size")) | with_reducible refine s_m1 ?_ | with_reducible refine s_m1K ?_ | with_reducible refine s_m1Q ?_ | with_reducible refine s_lcR ?_ | with_reducible refine s_tupIx ?_ | with_reducible refine s_lenOD ?_ | ((with_reducible refine' s_lenOR ?hx ?_); (case hx => walk_at "ext")) | with_reducible refine s_raise0 ?_ | with_reducible refine s_raise ?_ | with_reducible refine s_tup ?_ | with_reducible refine s_lst ?_ | with_reducible refine s_lstR ?_ | with_reducible refine s_cb ?_ | with_reducible refine s_sl ?_ | with_reducible refine s_noP ?_ | with_reducible refine s_part ?_ | with_reducible refine s_bm ?_ | with_reducible refine s_bm0 ?_ | with_reducible refine s_sfld ?_ | with_reducible refine s_par ?_)
local macro_rules | `(tactic| walk_at "side") => `(tactic| first | assumption | omega | trivial | (decide; done))
local macro_rules | `(tactic| walk_at "wit") => `(tactic| ((repeat apply Exists.intro); (refine' And.intro (rfl : @Eq (List Sl) _ _) ?_); (first | (refine' And.intro (rfl : @Eq (List (Rs _)) _ _) ?_) | (fail_if_success (refine' And.intro (?_ : @Eq (List (Rs _)) _ _) ?_))); (repeat refine' And.intro (by walk_at "side") ?_)))
local macro_rules | `(tactic| walk_at "ask") => `(tactic| first | ((with_reducible refine' s_ask0 ?kk); (case' kk => walk_at "wit")) | ((with_reducible refine' s_ask ?gg ?kk); (case' kk => walk_at "wit"); (case' gg => walk_at "gets")))
local macro_rules | `(tactic| walk_at "d") => `(tactic| repeat walk_at "d1")
local macro_rules | `(tactic| walk_at "in") => `(tactic| simp only [startD, List.length_cons, List.length_nil, Nat.zero_add, Nat.reduceAdd, Nat.reduceSub, List.replicate_succ, List.replicate_zero, List.cons_append, List.nil_append])
local macro_rules | `(tactic| walk_at "yes") => `(tactic| refine if_T (by first | rfl | exact decide_eq_true (by first | assumption | omega) | assumption) ?_)
local macro_rules | `(tactic| walk_at "no") => `(tactic| refine if_F (by first | rfl | exact decide_eq_false (by first | assumption | omega) | assumption) ?_)
local macro_rules | `(tactic| walk_at "nyes") => `(tactic| refine if_T (by first | rfl | (rw [decide_eq_false (by first | assumption | omega)]; rfl)) ?_)
local macro_rules | `(tactic| walk_at "nno") => `(tactic| refine if_F (by first | rfl | (rw [decide_eq_true (by first | assumption | omega)]; rfl)) ?_)
local macro_rules | `(tactic| walk_at "dec") => `(tactic| first | rfl | assumption | (simp (config := { failIfUnchanged := false }) only [*, decide_true, decide_false, decide_eq_true_eq, decide_eq_false_iff_not, Bool.not_true, Bool.not_false, Bool.and_true, Bool.and_false, Bool.true_and, Bool.false_and, Bool.or_true, Bool.or_false, Bool.true_or, Bool.false_or, not_false_eq_true, Bool.not_eq_true']; done))
local macro_rules | `(tactic| walk_at "di") => `(tactic| repeat first | walk_at "d1" | ((with_reducible refine' if_T ?hc ?_); (case hc => walk_at "dec")) | ((with_reducible refine' if_F ?hc ?_); (case hc => walk_at "dec")))
local macro_rules | `(tactic| walk_at "wipe") => `(tactic| simp only [List.map_cons, List.map_nil, wipeD, List.set_cons_zero, List.set_cons_succ])
section
variable {P : Program} {w : World} {K : PySem.W.Frag}
variable {mg : Str → Option Value} {base : Heap}
def D_validate_number (M : Md K mg) : SpD K := fun as rs xc q => ∃ n a b : Int, as = [.da (.int n), .da (.int a), .da (.int b)] ∧ (a ≤ n → n ≤ b → q (.da .non) rs) ∧ (¬ (a ≤ n ∧ n ≤ b) → xc ⟨M.a_InvalidNumber, none⟩ rs)
theorem ok_validate_number (M : Md K mg) (G : Gd K mg "validate_number" s_validate_number) (R_InvalidNumber : ExcT K mg "InvalidNumber" M.a_InvalidNumber) : DefR P w K mg base "validate_number" 2 (spD (D_validate_number M)) := by
  refine def_mk G fun f fd F => fnr_mk (dfn_ok (k := 1) F sc_validate_number (by intro as rs xc q; walk_at "ar") (fun cdv A outer s H E hr => by
    have nd := sc_validate_number.nd
    exact (dss_one (ds_if (dt_not (dt_chain op_le (pu2 (pu_I0 fun _ _ _ _ => .bl _)) op_le (pu2 (pu_I0 fun _ _ _ _ => .bl _)) (d_var (i := 1) (pv 1)) (d_var (i := 0) (pv 0)) (d_var (i := 2) (pv 2)))) (dss_one (ds_raise0 (L2N.ps_raise rfl tk_def (pmk_px R_InvalidNumber)))) dss_nil))) ?_) (F.bindsN (fun _ _ _ _ _ _ us hl => match us, hl with | [_, _, _], _ => rfl))
  rintro as rs xc q ⟨n, a, b, rfl, k1, k2⟩
  walk_at "in"
  walk_at "d"
  refine if_D (fun h1 => ?_) (fun h1 => ?_)
  · walk_at "d"
    refine if_ND (fun h2 => ?_) (fun h2 => ?_)
    · exact gx_id (k2 fun z => h2 z.2)
    · exact gv_id (k1 h1 h2)
  · walk_at "d"
    walk_at "nyes"
    exact gx_id (k2 fun z => h1 z.1)

end
section
variable {P : Program} {w : World} {K : PySem.W.Frag}
variable {mg : Str → Option Value} {base : Heap}
/-! ### farms as data -/
abbrev fieldD (f : Str × Int) : Da := .tup [.str f.1, .int f.2]
abbrev farmD (C : Addr) (fs : List (Str × Int)) : Da := .obj C [("rows", .tup (fs.map fieldD))]
def D_Farm_names (M : Md K mg) : SpD K := fun as rs xc q => ∃ fs, as = [.da (farmD M.a_Farm fs)] ∧ fs.length ≤ 6 ∧ q (.da (.tup (fs.map fun f => .str f.1))) rs
theorem ok_Farm_names (M : Md K mg) (G : Gp K M.a_Farm "names" "Farm.names" s_Farm_names)  : PropR P w K mg base M.a_Farm "names" 2 (spD (D_Farm_names M)) := by
  refine prop_mk G fun f fd F => fnr_mk (dfn_ok (k := 1) F sc_Farm_names (by intro as rs xc q; walk_at "ar") (fun cdv A outer s H E hr => by
    have nd := sc_Farm_names.nd
    exact (dss_one (ds_ret (d_cb1 (pe_tupOf K M.b (d_lc (E' := E0) (E2 := E0) (pe_lc (own := [("name", 1), ("limit", 2)]) (g := (gTup K 2 (gCons (gName 1) (gCons (gName 2) gNil)))) rfl nd (di_seq (d_fld (pe_fldK K (d_var (i := 0) (pv 0))))) (blkOk_by (N := N_Farm_names) (sc := defScope s_Farm_names) (by decide +kernel)) (fun _ _ _ _ _ => (pg_tupK K (n := 2) rfl (pgs_cons (pg_name (i := 1) nd rfl (by first | exact Or.inl rfl | exact Or.inr rfl)) (pgs_cons (pg_name (i := 2) nd rfl (by first | exact Or.inl rfl | exact Or.inr rfl)) pgs_nil)))) (fun _ _ _ _ _ => dts_nil) (fun _ _ _ _ _ => (d_var (i := 1) (pv 1)))) (tg_tup (tgs_cons (tg_name 1) (tgs_cons (tg_name 2) tgs_nil))) (by decide))) act_tupOf)))) ?_) (F.bindsN (fun _ _ _ _ _ _ us hl => match us, hl with | [_], _ => rfl))
  rintro as rs xc q ⟨fs, rfl, f6, k⟩
  have fn := M.f_Farm
  walk_at "in"
  walk_at "d"
  refine s_lcM fs (fun f => .da (fieldD f)) (fun f => .str f.1) (by rw [List.map_map]; rfl) (by omega) trivial (fun i c T hc ht => ?_) ?_
  · walk_at "wipe"
    walk_at "d"
    exact ht
  · walk_at "d"
    exact gv_id k
def D_Farm_limits (M : Md K mg) : SpD K := fun as rs xc q => ∃ fs, as = [.da (farmD M.a_Farm fs)] ∧ fs.length ≤ 6 ∧ q (.da (.tup (fs.map fun f => .int f.2))) rs
theorem ok_Farm_limits (M : Md K mg) (G : Gp K M.a_Farm "limits" "Farm.limits" s_Farm_limits)  : PropR P w K mg base M.a_Farm "limits" 2 (spD (D_Farm_limits M)) := by
  refine prop_mk G fun f fd F => fnr_mk (dfn_ok (k := 1) F sc_Farm_limits (by intro as rs xc q; walk_at "ar") (fun cdv A outer s H E hr => by
    have nd := sc_Farm_limits.nd
    exact (dss_one (ds_ret (d_cb1 (pe_tupOf K M.b (d_lc (E' := E0) (E2 := E0) (pe_lc (own := [("name", 1), ("limit", 2)]) (g := (gTup K 2 (gCons (gName 1) (gCons (gName 2) gNil)))) rfl nd (di_seq (d_fld (pe_fldK K (d_var (i := 0) (pv 0))))) (blkOk_by (N := N_Farm_limits) (sc := defScope s_Farm_limits) (by decide +kernel)) (fun _ _ _ _ _ => (pg_tupK K (n := 2) rfl (pgs_cons (pg_name (i := 1) nd rfl (by first | exact Or.inl rfl | exact Or.inr rfl)) (pgs_cons (pg_name (i := 2) nd rfl (by first | exact Or.inl rfl | exact Or.inr rfl)) pgs_nil)))) (fun _ _ _ _ _ => dts_nil) (fun _ _ _ _ _ => (d_var (i := 2) (pv 2)))) (tg_tup (tgs_cons (tg_name 1) (tgs_cons (tg_name 2) tgs_nil))) (by decide))) act_tupOf)))) ?_) (F.bindsN (fun _ _ _ _ _ _ us hl => match us, hl with | [_], _ => rfl))
  rintro as rs xc q ⟨fs, rfl, f6, k⟩
  have fn := M.f_Farm
  walk_at "in"
  walk_at "d"
  refine s_lcM fs (fun f => .da (fieldD f)) (fun f => .int f.2) (by rw [List.map_map]; rfl) (by omega) trivial (fun i c T hc ht => ?_) ?_
  · walk_at "wipe"
    walk_at "d"
    exact ht
  · walk_at "d"
    exact gv_id k
def D_Farm_fields (M : Md K mg) : SpD K := fun as rs xc q => ∃ fs, as = [.da (farmD M.a_Farm fs)] ∧ q (.da (.tup (fs.map fieldD))) rs
theorem ok_Farm_fields (M : Md K mg) (G : Gp K M.a_Farm "fields" "Farm.fields" s_Farm_fields)  : PropR P w K mg base M.a_Farm "fields" 2 (spD (D_Farm_fields M)) := by
  refine prop_mk G fun f fd F => fnr_mk (dfn_ok (k := 1) F sc_Farm_fields (by intro as rs xc q; walk_at "ar") (fun cdv A outer s H E hr => by
    have nd := sc_Farm_fields.nd
    exact (dss_one (ds_ret (d_fld (pe_fldK K (d_var (i := 0) (pv 0))))))) ?_) (F.bindsN (fun _ _ _ _ _ _ us hl => match us, hl with | [_], _ => rfl))
  rintro as rs xc q ⟨fs, rfl, k⟩
  have fn := M.f_Farm
  walk_at "in"
  walk_at "d"
  exact gv_id k
theorem anyD_str (z : Str) (zs : List Str) : anyD (.str z) (zs.map .str) = decide (z ∈ zs) := by
  unfold anyD
  rw [List.any_map]
  induction zs with
  | nil => rfl
  | cons y r ih =>
    rw [List.any_cons, ih]
    show (PyData.eqv (.str y) (.str z) || _) = _
    simp only [PyData.eqv]
    by_cases e : y = z
    · subst e; simp
    · have : z ≠ y := fun q => e q.symm
      simp [e, this]

end
end HC
namespace HC
open PyProof.Rows PySem L2 PySem.Spec
local macro_rules | `(tactic| walk_at "ext") => `(tactic| first | exact .here | exact .there .here | exact .there (.there .here) | exact .there (.there (.there .here)) | exact .there (.there (.there (.there .here))) | exact .there (.there (.there (.there (.there .here)))))
local macro_rules | `(tactic| walk_at "gets") => `(tactic| first | exact Gets.nil | ((refine' Gets.cons ?he ?hr); (case he => walk_at "ext"); (case hr => walk_at "gets")))
local macro_rules | `(tactic| walk_at "ar") => `(tactic| first | exact ar_eq rfl | (refine ar_ex fun _ => ?_; walk_at "ar"))
local macro_rules | `(tactic| walk_at "rep") => `(tactic| first | exact .here | exact .there .here | exact .there (.there .here) | exact .there (.there (.there .here)) | exact .there (.there (.there (.there .here))))
local macro_rules | `(tactic| walk_at "see") => `(tactic| first | exact .da _ | exact .lst (by walk_at "ext"))
local macro_rules | `(tactic| walk_at "itm") => `(tactic| first | exact .tup _ | exact .tupS _ | exact .lst _ | exact .scr _ | exact .btup _ | exact .raw (by walk_at "ext"))
local macro_rules | `(tactic| walk_at "wk") => `(tactic| first | exact .tup _ | exact .tupS _ | exact .lst _ | exact .scr _ | exact .btup _ | exact .str _ | exact .raw (by walk_at "ext"))
local macro_rules | `(tactic| walk_at "alld") => `(tactic| first | exact allDa0 | exact allDa1 | exact allDa2 | exact allDa3 | exact allDa4 | exact allDa5 | rfl)
local macro_rules | `(tactic| walk_at "put") => `(tactic| (simp (config := { decide := true }) only [putS, if_true, if_false]; try rfl))
local macro_rules | `(tactic| walk_at "pl") => `(tactic| first | rfl | assumption | exact pls_map (fun _ => rfl) | exact pl_lm (fun _ => rfl) | exact pl_tm (fun _ => rfl))
local macro_rules | `(tactic| walk_at "size") => `(tactic| first | exact (by decide : _ ≤ sizeLine) | (simp [sizeLine_eq]; done) | (simp [sizeLine_eq]; omega))
local macro_rules | `(tactic| walk_at "d1") => `(tactic| first
  | with_reducible refine s_seq ?_ | with_reducible refine s_asg ?_ | ((with_reducible refine' s_var ?hv ?_ ?kn); (case hv => exact rfl); (case kn => trivial)) | with_reducible refine s_c ?_ | with_reducible refine s_r ?_
  | ((with_reducible refine' s_name ?hv ?_); (case hv => first | (simp only [List.set]; rfl) | (simp only [wipeD, List.set]; rfl)))
  | with_reducible refine s_b ?_ | with_reducible refine s_u ?_ | with_reducible refine s_t ?_ | with_reducible refine s_isB ?_ | with_reducible refine s_cons ?_ | with_reducible refine s_nil ?_
  | with_reducible refine s_p2 ?_ | with_reducible refine s_p1 ?_ | with_reducible refine s_add_i ?_ | ((with_reducible refine' s_I ?hc ?_); (case hc => first | trivial | (show (0 : Int) < _; omega) | (unfold CMul; omega) | (unfold CPow; decide) | (unfold CDiv; omega))) | with_reducible refine s_1I ?_
  | with_reducible refine s_eq_i ?_ | with_reducible refine s_eq_s ?_ | with_reducible refine s_eq_b ?_ | with_reducible refine s_ne_i ?_ | with_reducible refine s_ne_s ?_ | with_reducible refine s_ne_b ?_ | with_reducible refine s_isN ?_ | with_reducible refine s_notN ?_
  | with_reducible refine s_call ?_ | with_reducible refine s_make ?_ | with_reducible refine s_fld ?_ | with_reducible refine s_prop ?_ | with_reducible refine s_meth ?_ | with_reducible refine s_ret ?_ | with_reducible refine s_retN ?_ | with_reducible refine s_drop ?_ | with_reducible refine s_ifS ?_ | with_reducible refine s_next ?_
  | with_reducible refine s_and ?_ | with_reducible refine s_or ?_ | with_reducible refine s_not ?_ | with_reducible refine s_andV ?_ | with_reducible refine s_orV ?_ | with_reducible refine s_notV ?_ | with_reducible refine s_if ?_ | with_reducible refine s_chain ?_
  | ((with_reducible refine' s_mkT ?he ?hz ?_); (case he => first | exact mkT2 | exact mkT1 | exact mkT3 | exact mkT4 | exact mkT0 | rfl); (case hz => walk_at "size")) | ((with_reducible refine' s_mkL ?he ?hz ?_); (case he => walk_at "alld"); (case hz => walk_at "size"))
  | with_reducible refine s_partI ?_ | with_reducible refine s_slT ?_ | ((with_reducible refine' s_sfldV ?kn ?_); (case kn => trivial)) | ((with_reducible refine' s_lenI ?hi ?_); (case hi => walk_at "itm")) | with_reducible refine s_lenS ?_
  | ((with_reducible refine' s_fldD ?he ?fn ?_); (case he => rfl); (case fn => assumption)) | ((with_reducible refine' s_fldR ?hx ?he ?fn ?kn ?_); (case hx => walk_at "ext"); (case he => rfl); (case fn => assumption); (case kn => trivial))
  | ((with_reducible refine' s_sfldR ?hr ?he ?fn ?hf ?_); (case hr => walk_at "rep"); (case he => walk_at "put"); (case fn => assumption); (case hf => simp)) | ((with_reducible refine' s_add_t ?hz ?_); (case hz => walk_at "size")) | ((with_reducible refine' s_add_l ?hz ?_); (case hz => walk_at "size"))
  | ((with_reducible refine' s_parK ?he ?hl ?_); (case he => first | (simp only [List.zip_cons_cons, List.zip_nil_right, List.zip_nil_left, List.foldl_cons, List.foldl_nil, List.set_cons_succ, List.set_cons_zero]; rfl) | rfl); (case hl => rfl)) | ((with_reducible refine' s_raiseK ?he ?hl ?_); (case he => walk_at "alld"); (case hl => rfl)) | ((with_reducible refine' s_gtup ?hi ?hn ?_); (case hi => first | exact its2_2 | exact its2_3 | exact its2_4 | exact its2_1 | exact .tup _ | exact .da _); (case hn => rfl)) | with_reducible refine s_gcons ?_ | with_reducible refine s_gnil ?_
  | with_reducible refine s_for ?_ | with_reducible refine s_it ?_ | with_reducible refine s_rng1 ?_ | with_reducible refine s_rng2 ?_ | with_reducible refine s_enT ?_ | with_reducible refine s_enL ?_ | with_reducible refine s_enLK ?_ | with_reducible refine s_zip ?_ | with_reducible refine s_zipL ?_ | with_reducible refine s_lc ?_ | with_reducible refine s_yes ?_
  | with_reducible refine s_faug ?_ | with_reducible refine s_int ?_ | with_reducible refine s_intB ?_ | with_reducible refine s_n1 ?_ | with_reducible refine s_n2 ?_ | with_reducible refine s_star1 ?_ | with_reducible refine s_dictZip ?_ | with_reducible refine s_items ?_ | ((with_reducible refine' s_star1K ?hi ?_); (case hi => walk_at "itm")) | ((with_reducible refine' s_augI ?he ?_); (case he => rfl)) | ((with_reducible refine' s_augV ?hc ?he ?_); (case hc => (unfold CMul; omega)); (case he => first | (simp only [List.set_cons_succ, List.set_cons_zero]; rfl) | rfl)) | ((with_reducible refine' s_aug0 ?he ?_); (case he => rfl)) | ((with_reducible refine' s_aug0V ?he ?_); (case he => first | (simp only [List.set_cons_succ, List.set_cons_zero]; rfl) | rfl)) | with_reducible refine s_tupOfT ?_
  | ((with_reducible refine' s_ix ?him ?hat ?kn ?_); (case him => walk_at "itm"); (case hat => first | exact atI_mm (by assumption) | exact atI_c0 | exact atI_c1 | exact atI_c2 | exact atI_c3 | exact atI_c4); (case kn => trivial)) | ((with_reducible refine' s_bmK ?hi ?_); (case hi => first | exact .da _ | exact .raw (by walk_at "ext"))) | ((with_reducible refine' s_bmK0 ?hi ?_); (case hi => first | exact .da _ | exact .raw (by walk_at "ext")))
  | ((with_reducible refine' s_app ?hr ?hz ?_); (case hr => walk_at "rep"); (case hz => walk_at "size")) | ((with_reducible refine' s_itK ?hw ?_); (case hw => walk_at "wk")) | with_reducible refine s_propD ?_ | ((with_reducible refine' s_propR ?hx ?_); (case hx => walk_at "ext"))
  | ((with_reducible refine' s_methD ?hn ?_); (case hn => (simp (config := { decide := true }) only [List.map, List.mem_cons, List.not_mem_nil, or_false, not_or, not_false_eq_true, and_self])))
  | ((with_reducible refine' s_methR ?hx ?hn ?_); (case hx => walk_at "ext"); (case hn => (simp (config := { decide := true }) only [List.map, List.mem_cons, List.not_mem_nil, or_false, not_or, not_false_eq_true, and_self])))
  | ((with_reducible refine' s_enTK ?hi ?_); (case hi => first | exact .da _ | exact .btup _ | exact .tup _)) | ((with_reducible refine' s_zipT ?hi ?hj ?_); (case hi => first | exact .da _ | exact .btup _ | exact .tup _); (case hj => first | exact .da _ | exact .btup _ | exact .tup _))
  | ((with_reducible refine' s_tupOfL ?hs ?_); (case hs => walk_at "see")) | ((with_reducible refine' s_tupNew ?hs ?_); (case hs => walk_at "see")) | ((with_reducible refine' s_slL ?hs ?_); (case hs => walk_at "see"))
  | ((with_reducible refine' s_notIn_bt ?h1 ?h2 ?_); (case h1 => walk_at "pl"); (case h2 => walk_at "pl")) | ((with_reducible refine' s_in_bt ?h1 ?h2 ?_); (case h1 => walk_at "pl"); (case h2 => walk_at "pl")) | ((with_reducible refine' s_notIn_t ?h1 ?h2 ?_); (case h1 => walk_at "pl"); (case h2 => walk_at "pl")) | ((with_reducible refine' s_in_t ?h1 ?h2 ?_); (case h1 => walk_at "pl"); (case h2 => walk_at "pl")) | ((with_reducible refine' s_notIn_l ?h1 ?h2 ?_); (case h1 => walk_at "pl"); (case h2 => walk_at "pl")) | ((with_reducible refine' s_in_l ?h1 ?h2 ?_); (case h1 => walk_at "pl"); (case h2 => walk_at "pl"))
  | ((with_reducible refine' s_nilEq ?hi ?_); (case hi => first | exact .lst _ | exact .raw (by walk_at "ext"))) | ((with_reducible refine' s_popE ?hr ?_); (case hr => walk_at "rep"))
  | with_reducible refine s_setL ?_ | with_reducible refine s_setL1 ?_ | with_reducible refine s_setL2 ?_ | ((with_reducible refine' s_addR ?h1 ?h2 ?hz ?_); (case h1 => walk_at "see"); (case h2 => walk_at "see"); (case hz => walk_at "size")) | with_reducible refine s_m1 ?_ | with_reducible refine s_m1K ?_ | with_reducible refine s_m1Q ?_ | with_reducible refine s_lcR ?_ | with_reducible refine s_tupIx ?_ | with_reducible refine s_lenOD ?_ | ((with_reducible refine' s_lenOR ?hx ?_); (case hx => walk_at "ext")) | with_reducible refine s_raise0 ?_ | with_reducible refine s_raise ?_ | with_reducible refine s_tup ?_ | with_reducible refine s_lst ?_ | with_reducible refine s_lstR ?_ | with_reducible refine s_cb ?_ | with_reducible refine s_sl ?_ | with_reducible refine s_noP ?_ | with_reducible refine s_part ?_ | with_reducible refine s_bm ?_ | with_reducible refine s_bm0 ?_ | with_reducible refine s_sfld ?_ | with_reducible refine s_par ?_)
local macro_rules | `(tactic| walk_at "side") => `(tactic| first | assumption | omega | trivial | (decide; done))
local macro_rules | `(tactic| walk_at "wit") => `(tactic| ((repeat apply Exists.intro); (refine' And.intro (rfl : @Eq (List Sl) _ _) ?_); (first | (refine' And.intro (rfl : @Eq (List (Rs _)) _ _) ?_) | (fail_if_success (refine' And.intro (?_ : @Eq (List (Rs _)) _ _) ?_))); (repeat refine' And.intro (by walk_at "side") ?_)))
local macro_rules | `(tactic| walk_at "ask") => `(tactic| first | ((with_reducible refine' s_ask0 ?kk); (case' kk => walk_at "wit")) | ((with_reducible refine' s_ask ?gg ?kk); (case' kk => walk_at "wit"); (case' gg => walk_at "gets")))
local macro_rules | `(tactic| walk_at "d") => `(tactic| repeat walk_at "d1")
local macro_rules | `(tactic| walk_at "in") => `(tactic| simp only [startD, List.length_cons, List.length_nil, Nat.zero_add, Nat.reduceAdd, Nat.reduceSub, List.replicate_succ, List.replicate_zero, List.cons_append, List.nil_append])
local macro_rules | `(tactic| walk_at "yes") => `(tactic| refine if_T (by first | rfl | exact decide_eq_true (by first | assumption | omega) | assumption) ?_)
local macro_rules | `(tactic| walk_at "no") => `(tactic| refine if_F (by first | rfl | exact decide_eq_false (by first | assumption | omega) | assumption) ?_)
local macro_rules | `(tactic| walk_at "nyes") => `(tactic| refine if_T (by first | rfl | (rw [decide_eq_false (by first | assumption | omega)]; rfl)) ?_)
local macro_rules | `(tactic| walk_at "nno") => `(tactic| refine if_F (by first | rfl | (rw [decide_eq_true (by first | assumption | omega)]; rfl)) ?_)
local macro_rules | `(tactic| walk_at "dec") => `(tactic| first | rfl | assumption | (simp (config := { failIfUnchanged := false }) only [*, decide_true, decide_false, decide_eq_true_eq, decide_eq_false_iff_not, Bool.not_true, Bool.not_false, Bool.and_true, Bool.and_false, Bool.true_and, Bool.false_and, Bool.or_true, Bool.or_false, Bool.true_or, Bool.false_or, not_false_eq_true, Bool.not_eq_true']; done))
local macro_rules | `(tactic| walk_at "di") => `(tactic| repeat first | walk_at "d1" | ((with_reducible refine' if_T ?hc ?_); (case hc => walk_at "dec")) | ((with_reducible refine' if_F ?hc ?_); (case hc => walk_at "dec")))
local macro_rules | `(tactic| walk_at "wipe") => `(tactic| simp only [List.map_cons, List.map_nil, wipeD, List.set_cons_zero, List.set_cons_succ])
local macro_rules | `(tactic| walk_at "d2") => `(tactic| first
  | ((with_reducible refine' s_gunl ?hi ?hn ?_); (case hi => first | exact nl5 | exact nl4 | exact nl3 | exact nl2 | exact .lst _ | exact .raw (by walk_at "ext")); (case hn => rfl)) | with_reducible refine s_gv ?_ | with_reducible refine s_meth0 ?_
  | ((with_reducible refine' s_meth0D ?hn ?_); (case hn => (simp (config := { decide := true }) only [List.map, List.mem_cons, List.not_mem_nil, or_false, not_or, not_false_eq_true, and_self])))
  | ((with_reducible refine' s_meth0R ?hx ?hn ?_); (case hx => walk_at "ext"); (case hn => (simp (config := { decide := true }) only [List.map, List.mem_cons, List.not_mem_nil, or_false, not_or, not_false_eq_true, and_self]))))
local macro_rules | `(tactic| walk_at "d") => `(tactic| repeat first | walk_at "d1" | walk_at "d2")
local macro_rules | `(tactic| walk_at "wit1") => `(tactic| ((repeat apply Exists.intro); (refine' And.intro (rfl : @Eq (List Sl) _ _) ?_); (first | (refine' And.intro (rfl : @Eq (List (Rs _)) _ _) ?_) | (fail_if_success (refine' And.intro (?_ : @Eq (List (Rs _)) _ _) ?_)))))
local macro_rules | `(tactic| walk_at "sides") => `(tactic| (repeat refine' And.intro (by walk_at "side") ?_))
local macro_rules | `(tactic| walk_at "ask") => `(tactic| first | ((with_reducible refine' s_ask0 ?kk); (case' kk => walk_at "wit")) | ((with_reducible refine' s_ask ?gg ?kk); (case' kk => walk_at "wit1"); (case' gg => walk_at "gets"); walk_at "sides"))
section
variable {P : Program} {w : World} {K : PySem.W.Frag}
variable {mg : Str → Option Value} {base : Heap}
/-! ### plain mathematics of farms -/
def NmOk (z : Str) : Prop := 1 ≤ z.cps.toList.length ∧ z.cps.toList.length ≤ 8 ∧ ∀ c ∈ z.cps.toList, 97 ≤ c ∧ c ≤ 122
instance (z : Str) : Decidable (NmOk z) := by unfold NmOk; infer_instance
def prodL (l : List Int) : Int := l.foldl (· * ·) 1
theorem prodL_snoc (l : List Int) (x : Int) : prodL (l ++ [x]) = prodL l * x := by simp [prodL]
structure FOk (fs : List (Str × Int)) : Prop where
  one : 1 ≤ fs.length
  six : fs.length ≤ 6
  nd : (fs.map (·.1)).Nodup
  nm : ∀ f ∈ fs, NmOk f.1
  lo : ∀ f ∈ fs, 1 ≤ f.2 ∧ f.2 ≤ 30
  pr : prodL (fs.map (·.2)) ≤ 4000
theorem NmOk.str {z : Str} (h : NmOk z) : PyData.strOk z = true := by
  unfold PyData.strOk
  rw [← Array.all_toList]
  exact List.all_eq_true.mpr fun c hc => decide_eq_true (by have := (h.2.2 c hc).2; omega)
def six : List Str := ["a", "bo", "carl", "dora", "ella", "hannahhh"]
/-- the bytes of a farm -/
def lets (z : Str) : List Int := z.cps.toList.map fun (c : Nat) => ((c - 97 : Nat) : Int)
def ALPH : Str := "abcdefghijklmnopqrstuvwxyz"
theorem alph_mem {c : Nat} (h1 : 97 ≤ c) (h2 : c ≤ 122) : c ∈ ALPH.cps.toList := by
  have h : ∀ k : Fin 26, 97 + k.val ∈ ALPH.cps.toList := by decide +kernel
  have := h ⟨c - 97, by omega⟩
  simpa [show 97 + (c - 97) = c by omega] using this
end
end HC
namespace HC
open PyProof.Rows PySem L2 PySem.Spec
local macro_rules | `(tactic| walk_at "ext") => `(tactic| first | exact .here | exact .there .here | exact .there (.there .here) | exact .there (.there (.there .here)) | exact .there (.there (.there (.there .here))) | exact .there (.there (.there (.there (.there .here)))))
local macro_rules | `(tactic| walk_at "gets") => `(tactic| first | exact Gets.nil | ((refine' Gets.cons ?he ?hr); (case he => walk_at "ext"); (case hr => walk_at "gets")))
local macro_rules | `(tactic| walk_at "ar") => `(tactic| first | exact ar_eq rfl | (refine ar_ex fun _ => ?_; walk_at "ar"))
local macro_rules | `(tactic| walk_at "rep") => `(tactic| first | exact .here | exact .there .here | exact .there (.there .here) | exact .there (.there (.there .here)) | exact .there (.there (.there (.there .here))))
local macro_rules | `(tactic| walk_at "see") => `(tactic| first | exact .da _ | exact .lst (by walk_at "ext"))
local macro_rules | `(tactic| walk_at "itm") => `(tactic| first | exact .tup _ | exact .tupS _ | exact .lst _ | exact .scr _ | exact .btup _ | exact .raw (by walk_at "ext"))
local macro_rules | `(tactic| walk_at "wk") => `(tactic| first | exact .tup _ | exact .tupS _ | exact .lst _ | exact .scr _ | exact .btup _ | exact .str _ | exact .raw (by walk_at "ext"))
local macro_rules | `(tactic| walk_at "alld") => `(tactic| first | exact allDa0 | exact allDa1 | exact allDa2 | exact allDa3 | exact allDa4 | exact allDa5 | rfl)
local macro_rules | `(tactic| walk_at "put") => `(tactic| (simp (config := { decide := true }) only [putS, if_true, if_false]; try rfl))
local macro_rules | `(tactic| walk_at "pl") => `(tactic| first | rfl | assumption | exact pls_map (fun _ => rfl) | exact pl_lm (fun _ => rfl) | exact pl_tm (fun _ => rfl))
local macro_rules | `(tactic| walk_at "size") => `(tactic| first | exact (by decide : _ ≤ sizeLine) | (simp [sizeLine_eq]; done) | (simp [sizeLine_eq]; omega))
local macro_rules | `(tactic| walk_at "d1") => `(tactic| first
  | with_reducible refine s_seq ?_ | with_reducible refine s_asg ?_ | ((with_reducible refine' s_var ?hv ?_ ?kn); (case hv => exact rfl); (case kn => trivial)) | with_reducible refine s_c ?_ | with_reducible refine s_r ?_
  | ((with_reducible refine' s_name ?hv ?_); (case hv => first | (simp only [List.set]; rfl) | (simp only [wipeD, List.set]; rfl)))
  | with_reducible refine s_b ?_ | with_reducible refine s_u ?_ | with_reducible refine s_t ?_ | with_reducible refine s_isB ?_ | with_reducible refine s_cons ?_ | with_reducible refine s_nil ?_
  | with_reducible refine s_p2 ?_ | with_reducible refine s_p1 ?_ | with_reducible refine s_add_i ?_ | ((with_reducible refine' s_I ?hc ?_); (case hc => first | trivial | (show (0 : Int) < _; omega) | (unfold CMul; omega) | (unfold CPow; decide) | (unfold CDiv; omega))) | with_reducible refine s_1I ?_
  | with_reducible refine s_eq_i ?_ | with_reducible refine s_eq_s ?_ | with_reducible refine s_eq_b ?_ | with_reducible refine s_ne_i ?_ | with_reducible refine s_ne_s ?_ | with_reducible refine s_ne_b ?_ | with_reducible refine s_isN ?_ | with_reducible refine s_notN ?_
  | with_reducible refine s_call ?_ | with_reducible refine s_make ?_ | with_reducible refine s_fld ?_ | with_reducible refine s_prop ?_ | with_reducible refine s_meth ?_ | with_reducible refine s_ret ?_ | with_reducible refine s_retN ?_ | with_reducible refine s_drop ?_ | with_reducible refine s_ifS ?_ | with_reducible refine s_next ?_
  | with_reducible refine s_and ?_ | with_reducible refine s_or ?_ | with_reducible refine s_not ?_ | with_reducible refine s_andV ?_ | with_reducible refine s_orV ?_ | with_reducible refine s_notV ?_ | with_reducible refine s_if ?_ | with_reducible refine s_chain ?_
  | ((with_reducible refine' s_mkT ?he ?hz ?_); (case he => first | exact mkT2 | exact mkT1 | exact mkT3 | exact mkT4 | exact mkT0 | rfl); (case hz => walk_at "size")) | ((with_reducible refine' s_mkL ?he ?hz ?_); (case he => walk_at "alld"); (case hz => walk_at "size"))
  | with_reducible refine s_partI ?_ | with_reducible refine s_slT ?_ | ((with_reducible refine' s_sfldV ?kn ?_); (case kn => trivial)) | ((with_reducible refine' s_lenI ?hi ?_); (case hi => walk_at "itm")) | with_reducible refine s_lenS ?_
  | ((with_reducible refine' s_fldD ?he ?fn ?_); (case he => rfl); (case fn => assumption)) | ((with_reducible refine' s_fldR ?hx ?he ?fn ?kn ?_); (case hx => walk_at "ext"); (case he => rfl); (case fn => assumption); (case kn => trivial))
  | ((with_reducible refine' s_sfldR ?hr ?he ?fn ?hf ?_); (case hr => walk_at "rep"); (case he => walk_at "put"); (case fn => assumption); (case hf => simp)) | ((with_reducible refine' s_add_t ?hz ?_); (case hz => walk_at "size")) | ((with_reducible refine' s_add_l ?hz ?_); (case hz => walk_at "size"))
  | ((with_reducible refine' s_parK ?he ?hl ?_); (case he => first | (simp only [List.zip_cons_cons, List.zip_nil_right, List.zip_nil_left, List.foldl_cons, List.foldl_nil, List.set_cons_succ, List.set_cons_zero]; rfl) | rfl); (case hl => rfl)) | ((with_reducible refine' s_raiseK ?he ?hl ?_); (case he => walk_at "alld"); (case hl => rfl)) | ((with_reducible refine' s_gtup ?hi ?hn ?_); (case hi => first | exact its2_2 | exact its2_3 | exact its2_4 | exact its2_1 | exact .tup _ | exact .da _); (case hn => rfl)) | with_reducible refine s_gcons ?_ | with_reducible refine s_gnil ?_
  | with_reducible refine s_for ?_ | with_reducible refine s_it ?_ | with_reducible refine s_rng1 ?_ | with_reducible refine s_rng2 ?_ | with_reducible refine s_enT ?_ | with_reducible refine s_enL ?_ | with_reducible refine s_enLK ?_ | with_reducible refine s_zip ?_ | with_reducible refine s_zipL ?_ | with_reducible refine s_lc ?_ | with_reducible refine s_yes ?_
  | with_reducible refine s_faug ?_ | with_reducible refine s_int ?_ | with_reducible refine s_intB ?_ | with_reducible refine s_n1 ?_ | with_reducible refine s_n2 ?_ | with_reducible refine s_star1 ?_ | with_reducible refine s_dictZip ?_ | with_reducible refine s_items ?_ | ((with_reducible refine' s_star1K ?hi ?_); (case hi => walk_at "itm")) | ((with_reducible refine' s_augI ?he ?_); (case he => rfl)) | ((with_reducible refine' s_augV ?hc ?he ?_); (case hc => (unfold CMul; omega)); (case he => first | (simp only [List.set_cons_succ, List.set_cons_zero]; rfl) | rfl)) | ((with_reducible refine' s_aug0 ?he ?_); (case he => rfl)) | ((with_reducible refine' s_aug0V ?he ?_); (case he => first | (simp only [List.set_cons_succ, List.set_cons_zero]; rfl) | rfl)) | with_reducible refine s_tupOfT ?_
  | ((with_reducible refine' s_ix ?him ?hat ?kn ?_); (case him => walk_at "itm"); (case hat => first | exact atI_mm (by assumption) | exact atI_c0 | exact atI_c1 | exact atI_c2 | exact atI_c3 | exact atI_c4); (case kn => trivial)) | ((with_reducible refine' s_bmK ?hi ?_); (case hi => first | exact .da _ | exact .raw (by walk_at "ext"))) | ((with_reducible refine' s_bmK0 ?hi ?_); (case hi => first | exact .da _ | exact .raw (by walk_at "ext")))
  | ((with_reducible refine' s_app ?hr ?hz ?_); (case hr => walk_at "rep"); (case hz => walk_at "size")) | ((with_reducible refine' s_itK ?hw ?_); (case hw => walk_at "wk")) | with_reducible refine s_propD ?_ | ((with_reducible refine' s_propR ?hx ?_); (case hx => walk_at "ext"))
  | ((with_reducible refine' s_methD ?hn ?_); (case hn => (simp (config := { decide := true }) only [List.map, List.mem_cons, List.not_mem_nil, or_false, not_or, not_false_eq_true, and_self])))
  | ((with_reducible refine' s_methR ?hx ?hn ?_); (case hx => walk_at "ext"); (case hn => (simp (config := { decide := true }) only [List.map, List.mem_cons, List.not_mem_nil, or_false, not_or, not_false_eq_true, and_self])))
  | ((with_reducible refine' s_enTK ?hi ?_); (case hi => first | exact .da _ | exact .btup _ | exact .tup _)) | ((with_reducible refine' s_zipT ?hi ?hj ?_); (case hi => first | exact .da _ | exact .btup _ | exact .tup _); (case hj => first | exact .da _ | exact .btup _ | exact .tup _))
  | ((with_reducible refine' s_tupOfL ?hs ?_); (case hs => walk_at "see")) | ((with_reducible refine' s_tupNew ?hs ?_); (case hs => walk_at "see")) | ((with_reducible refine' s_slL ?hs ?_); (case hs => walk_at "see"))
  | ((with_reducible refine' s_notIn_bt ?h1 ?h2 ?_); (case h1 => walk_at "pl"); (case h2 => walk_at "pl")) | ((with_reducible refine' s_in_bt ?h1 ?h2 ?_); (case h1 => walk_at "pl"); (case h2 => walk_at "pl")) | ((with_reducible refine' s_notIn_t ?h1 ?h2 ?_); (case h1 => walk_at "pl"); (case h2 => walk_at "pl")) | ((with_reducible refine' s_in_t ?h1 ?h2 ?_); (case h1 => walk_at "pl"); (case h2 => walk_at "pl")) | ((with_reducible refine' s_notIn_l ?h1 ?h2 ?_); (case h1 => walk_at "pl"); (case h2 => walk_at "pl")) | ((with_reducible refine' s_in_l ?h1 ?h2 ?_); (case h1 => walk_at "pl"); (case h2 => walk_at "pl"))
  | ((with_reducible refine' s_nilEq ?hi ?_); (case hi => first | exact .lst _ | exact .raw (by walk_at "ext"))) | ((with_reducible refine' s_popE ?hr ?_); (case hr => walk_at "rep"))
  | with_reducible refine s_setL ?_ | with_reducible refine s_setL1 ?_ | with_reducible refine s_setL2 ?_ | ((with_reducible refine' s_addR ?h1 ?h2 ?hz ?_); (case h1 => walk_at "see"); (case h2 => walk_at "see"); (case hz => walk_at "size")) | with_reducible refine s_m1 ?_ | with_reducible refine s_m1K ?_ | with_reducible refine s_m1Q ?_ | with_reducible refine s_lcR ?_ | with_reducible refine s_tupIx ?_ | with_reducible refine s_lenOD ?_ | ((with_reducible refine' s_lenOR ?hx ?_); (case hx => walk_at "ext")) | with_reducible refine s_raise0 ?_ | with_reducible refine s_raise ?_ | with_reducible refine s_tup ?_ | with_reducible refine s_lst ?_ | with_reducible refine s_lstR ?_ | with_reducible refine s_cb ?_ | with_reducible refine s_sl ?_ | with_reducible refine s_noP ?_ | with_reducible refine s_part ?_ | with_reducible refine s_bm ?_ | with_reducible refine s_bm0 ?_ | with_reducible refine s_sfld ?_ | with_reducible refine s_par ?_)
local macro_rules | `(tactic| walk_at "side") => `(tactic| first | assumption | omega | trivial | (decide; done))
local macro_rules | `(tactic| walk_at "wit") => `(tactic| ((repeat apply Exists.intro); (refine' And.intro (rfl : @Eq (List Sl) _ _) ?_); (first | (refine' And.intro (rfl : @Eq (List (Rs _)) _ _) ?_) | (fail_if_success (refine' And.intro (?_ : @Eq (List (Rs _)) _ _) ?_))); (repeat refine' And.intro (by walk_at "side") ?_)))
local macro_rules | `(tactic| walk_at "ask") => `(tactic| first | ((with_reducible refine' s_ask0 ?kk); (case' kk => walk_at "wit")) | ((with_reducible refine' s_ask ?gg ?kk); (case' kk => walk_at "wit"); (case' gg => walk_at "gets")))
local macro_rules | `(tactic| walk_at "d") => `(tactic| repeat walk_at "d1")
local macro_rules | `(tactic| walk_at "in") => `(tactic| simp only [startD, List.length_cons, List.length_nil, Nat.zero_add, Nat.reduceAdd, Nat.reduceSub, List.replicate_succ, List.replicate_zero, List.cons_append, List.nil_append])
local macro_rules | `(tactic| walk_at "yes") => `(tactic| refine if_T (by first | rfl | exact decide_eq_true (by first | assumption | omega) | assumption) ?_)
local macro_rules | `(tactic| walk_at "no") => `(tactic| refine if_F (by first | rfl | exact decide_eq_false (by first | assumption | omega) | assumption) ?_)
local macro_rules | `(tactic| walk_at "nyes") => `(tactic| refine if_T (by first | rfl | (rw [decide_eq_false (by first | assumption | omega)]; rfl)) ?_)
local macro_rules | `(tactic| walk_at "nno") => `(tactic| refine if_F (by first | rfl | (rw [decide_eq_true (by first | assumption | omega)]; rfl)) ?_)
local macro_rules | `(tactic| walk_at "dec") => `(tactic| first | rfl | assumption | (simp (config := { failIfUnchanged := false }) only [*, decide_true, decide_false, decide_eq_true_eq, decide_eq_false_iff_not, Bool.not_true, Bool.not_false, Bool.and_true, Bool.and_false, Bool.true_and, Bool.false_and, Bool.or_true, Bool.or_false, Bool.true_or, Bool.false_or, not_false_eq_true, Bool.not_eq_true']; done))
local macro_rules | `(tactic| walk_at "di") => `(tactic| repeat first | walk_at "d1" | ((with_reducible refine' if_T ?hc ?_); (case hc => walk_at "dec")) | ((with_reducible refine' if_F ?hc ?_); (case hc => walk_at "dec")))
local macro_rules | `(tactic| walk_at "wipe") => `(tactic| simp only [List.map_cons, List.map_nil, wipeD, List.set_cons_zero, List.set_cons_succ])
section
variable {P : Program} {w : World} {K : PySem.W.Frag}
variable {mg : Str → Option Value} {base : Heap}
def D_is_name (M : Md K mg) : SpD K := fun as rs xc q => ∃ z, as = [.da (.str z)] ∧ rs = [] ∧ (NmOk z ∧ q (.da (.bl true)) [] ∨ z = "-" ∧ q (.da (.bl false)) [])
theorem ok_is_name (M : Md K mg) (G : Gd K mg "is_name" s_is_name)  : DefR P w K mg base "is_name" 2 (spD (D_is_name M)) := by
  refine def_mk G fun f fd F => fnr_mk (dfn_ok (k := 1) F sc_is_name (by intro as rs xc q; walk_at "ar") (fun cdv A outer s H E hr => by
    have nd := sc_is_name.nd
    exact (dss_one (ds_ret (d_and (d_chain op_le (pu2 (pu_I0 fun _ _ _ _ => .bl _)) op_le (pu2 (pu_I0 fun _ _ _ _ => .bl _)) (d_int pe_int) (d_cb1 (pe_len K M.b (d_var (i := 0) (pv 0))) act_len) (d_int (pe_gi M.g_MAX_LETTERS))) (pe_one (d_cb1 (pe_all K M.b (d_lc (E' := E0) (E2 := E0) (pe_lc (own := [("letter", 1)]) (g := (gName 1)) rfl nd (di_seq (d_var (i := 0) (pv 0))) (blkOk_by (N := N_is_name) (sc := defScope s_is_name) (by decide +kernel)) (fun _ _ _ _ _ => (pg_name (i := 1) nd rfl (by first | exact Or.inl rfl | exact Or.inr rfl))) (fun _ _ _ _ _ => dts_nil) (fun _ _ _ _ _ => (d_cmp (op_inK K hr) (pu2 pu_in) (d_var (i := 1) (pv 1)) (d_str (pe_gs M.g_LETTERS))))) (tg_name 1) (by decide))) act_all)))))) ?_) (F.bindsN (fun _ _ _ _ _ _ us hl => match us, hl with | [_], _ => rfl))
  rintro as rs xc q ⟨z, rfl, rfl, h⟩
  rcases h with ⟨nm, k⟩ | ⟨rfl, k⟩
  · have c0 := nm.1
    have c8 := nm.2.1
    walk_at "in"
    walk_at "d"
    have zl : (z.length : Int) = z.cps.toList.length := by show ((z.cps.size : Nat) : Int) = _; rw [← Array.length_toList]
    refine s_lenS (by show z.cps.size ≤ sizeLine; rw [← Array.length_toList]; simp only [sizeLine_eq]; omega) ?_
    walk_at "d"
    refine if_T (decide_eq_true (by omega)) ?_
    walk_at "d"
    refine if_T (decide_eq_true (by omega)) ?_
    walk_at "d"
    refine s_lcM z.cps.toList (fun c => .da (.str ⟨#[c]⟩)) (fun _ => .bl true) rfl (by omega) trivial (fun j c T hc ht => ?_) ?_
    · have cb := nm.2.2 c (List.mem_of_getElem? hc)
      walk_at "wipe"
      walk_at "d"
      refine ⟨c, rfl, ?_⟩
      rw [show decide (c ∈ (("abcdefghijklmnopqrstuvwxyz" : Str)).cps.toList) = true from decide_eq_true (alph_mem cb.1 cb.2)]
      exact ht
    · walk_at "d"
      refine ⟨_, z.cps.toList.map fun _ => true, rfl, by rw [List.map_map]; exact .da _, ?_⟩
      show (dEnds q xc).rt (.da (.bl ((z.cps.toList.map fun _ => true).all id))) []
      rw [show (z.cps.toList.map fun _ => true).all id = true by rw [List.all_eq_true]; intro b hb; obtain ⟨_, _, rfl⟩ := List.mem_map.mp hb; rfl]
      exact gv_id k
  · walk_at "in"
    walk_at "d"
    refine s_lenS (by decide +kernel) ?_
    walk_at "d"
    refine if_T (by decide +kernel) ?_
    walk_at "d"
    refine if_T (by decide +kernel) ?_
    walk_at "d"
    refine s_lcM ("-" : Str).cps.toList (fun c => .da (.str ⟨#[c]⟩)) (fun _ => .bl false) rfl (by decide +kernel) trivial (fun j c T hc ht => ?_) ?_
    · have cm := List.mem_of_getElem? hc
      walk_at "wipe"
      walk_at "d"
      refine ⟨c, rfl, ?_⟩
      rw [show decide (c ∈ (("abcdefghijklmnopqrstuvwxyz" : Str)).cps.toList) = false from (by decide +kernel : ∀ c ∈ ("-" : Str).cps.toList, decide (c ∈ (("abcdefghijklmnopqrstuvwxyz" : Str)).cps.toList) = false) c cm]
      exact ht
    · walk_at "d"
      refine ⟨_, [false], rfl, .da _, ?_⟩
      show (dEnds q xc).rt (.da (.bl false)) []
      exact gv_id k
theorem prod_take {fs : List (Str × Int)} (lo : ∀ f ∈ fs, 1 ≤ f.2 ∧ f.2 ≤ 30) : ∀ i, 1 ≤ prodL ((fs.take i).map (·.2)) ∧ prodL ((fs.take i).map (·.2)) ≤ 30 ^ i
  | 0 => by simp [prodL]
  | i + 1 => by
    have ih := prod_take lo i
    cases h : fs[i]? with
    | none =>
      have hl : fs.length ≤ i := List.getElem?_eq_none_iff.mp h
      rw [List.take_of_length_le (by omega)]
      rw [List.take_of_length_le hl] at ih
      refine ⟨ih.1, Int.le_trans ih.2 ?_⟩
      rw [Int.pow_succ]
      have : (0 : Int) ≤ 30 ^ i := Int.pow_nonneg (by decide)
      omega
    | some f =>
      have hf := lo f (List.mem_of_getElem? h)
      rw [List.take_add_one, h]
      simp only [Option.toList_some, List.map_append, List.map_cons, List.map_nil, prodL_snoc]
      constructor
      · have : 1 * 1 ≤ prodL ((fs.take i).map (·.2)) * f.2 := Int.mul_le_mul ih.1 hf.1 (by decide) (by omega)
        omega
      · rw [Int.pow_succ]
        exact Int.mul_le_mul ih.2 hf.2 (by omega) (Int.pow_nonneg (by decide))
theorem nodup_take {fs : List (Str × Int)} {i : Nat} {f : Str × Int} (h : (fs.map (·.1)).Nodup) (hf : fs[i]? = some f) : f.1 ∉ (fs.take i).map (·.1) := by
  intro hm
  rw [List.map_take] at hm
  obtain ⟨j, hj, e⟩ := List.mem_iff_getElem.mp hm
  simp at hj
  have h1 : (fs.map (·.1))[j]? = some f.1 := by
    rw [List.getElem?_eq_getElem (by simp; omega)]
    congr 1
    simpa using e
  have h2 : (fs.map (·.1))[i]? = some f.1 := by rw [List.getElem?_map, hf]; rfl
  have := nd_ix h h1 h2
  omega
def D_Farm___init__ (M : Md K mg) : SpD K := fun as rs xc q => ∃ a fs, as = [.raw (.ref a), .da (.tup (fs.map fieldD))] ∧ rs = [objR a M.a_Farm []] ∧ FOk fs ∧ q (.da .non) [objR a M.a_Farm [("rows", .da (.tup (fs.map fieldD)))]]
theorem ok_Farm___init__ (M : Md K mg) (G : Gk K mg "Farm" M.a_Farm "Farm.__init__" s_Farm___init__) (R_is_name : DefR P w K mg base "is_name" 2 (spD (D_is_name M))) : MakeR P w K mg base "Farm" M.a_Farm 4 (spD (starD (D_Farm___init__ M))) := by
  refine make_mk G fun f fd F => star_ok (k := 3) F sc_Farm___init__ (fun _ _ _ _ _ _ _ => rfl) (fun _ _ _ _ _ _ _ _ _ => rfl) (fun cdv A outer s H E hr => by
    have nd := sc_Farm___init__.nd
    exact (dss_cons (ds_if (dt_cmp (op_eqK K hr) (pu2 pu_eq) (d_var (i := 1) (pv 1)) (d_tup da_nil)) (dss_one ds_never) dss_nil)
    (dss_cons (ds_set (i := 2) nd rfl (by first | exact Or.inl rfl | exact Or.inr rfl) (d_int pe_int))
    (dss_cons (ds_for po_def rfl (di_enT (pi_enumTK K rfl M.b.enumerate (da_cons (d_var (i := 1) (pv 1)) da_nil))) (pg_tupK K (n := 2) rfl (pgs_cons (pg_name (i := 3) nd rfl (by first | exact Or.inl rfl | exact Or.inr rfl)) (pgs_cons (pg_tupK K (n := 2) rfl (pgs_cons (pg_name (i := 4) nd rfl (by first | exact Or.inl rfl | exact Or.inr rfl)) (pgs_cons (pg_name (i := 5) nd rfl (by first | exact Or.inl rfl | exact Or.inr rfl)) pgs_nil))) pgs_nil))) (tg_tup (tgs_cons (tg_name 3) (tgs_cons (tg_tup (tgs_cons (tg_name 4) (tgs_cons (tg_name 5) tgs_nil))) tgs_nil))) (dss_cons (ds_setLc (E' := E0) (E2 := E0) (ps_setLc (i := 6) (own := [("other", 7)]) (g := (gName 7)) rfl nd rfl rfl (sw_true rfl rfl rfl (by decide +kernel)) (di_seq (d_sl (pe_slice (sl_X K) (d_var (i := 1) (pv 1)) do_none (do_some (d_var (i := 3) (pv 3)))))) (blkOk_by (N := N_Farm___init__) (sc := defScope s_Farm___init__) (by decide +kernel)) (fun _ _ _ _ _ => (pg_name (i := 7) nd rfl (by first | exact Or.inl rfl | exact Or.inr rfl))) (fun _ _ _ _ _ => dts_nil) (fun _ _ _ _ _ => (d_ix (d_var (i := 7) (pv 7)) (d_int pe_int)))) (tg_name 7) (by decide))
    (dss_cons (ds_if (PW.pt (dw_or (dt_cmp (op_eqK K hr) (pu2 pu_eq) (d_var (i := 3) (pv 3)) (d_int (pe_gcon M.k_Farm_MAX_FIELDS))) (dw_or (dt_not (dt_val (d_call (pe_callR R_is_name (hr.mono (by first | decide | omega)) pz_def (da_cons (d_var (i := 4) (pv 4)) da_nil))))) (dw_or (dt_not (dt_chain op_le (pu2 (pu_I0 fun _ _ _ _ => .bl _)) op_le (pu2 (pu_I0 fun _ _ _ _ => .bl _)) (d_int pe_int) (d_var (i := 5) (pv 5)) (d_int (pe_gi M.g_MAX_LIMIT)))) (dw_or1 (dt_cmp (op_inK K hr) (pu2 pu_in) (d_var (i := 4) (pv 4)) (d_var (i := 6) (pv 6)))))))) (dss_one ds_never) dss_nil)
    (dss_one (ds_set (i := 2) nd rfl (by first | exact Or.inl rfl | exact Or.inr rfl) (d_op op_mul (pu2 (pu_I fun _ _ _ _ => .int _)) (d_var (i := 2) (pv 2)) (d_var (i := 5) (pv 5))))))))
    (dss_cons (ds_if (dt_cmp op_gt (pu2 (pu_I0 fun _ _ _ _ => .bl _)) (d_var (i := 2) (pv 2)) (d_int (pe_gcon M.k_Farm_MAX_STATES))) (dss_one ds_never) dss_nil)
    (dss_one (ds_fld (ps_fldK K (d_var (i := 0) (pv 0)) (d_var (i := 1) (pv 1)))))))))) ?_
  rintro as rs xc q ⟨a, fs, rfl, rfl, ok, k⟩
  have fn := M.f_Farm
  walk_at "in"
  walk_at "d"
  have pl : plN 60 (.tup (fs.map fieldD)) = true := pl_tm fun _ => rfl
  refine s_eq_d rfl pl rfl ?_
  have en : PyData.eqv (pyD (.tup (fs.map fieldD))) (pyD (.tup [])) = false := by
    cases fs with
    | nil => exact absurd ok.one (by decide)
    | cons f r => rfl
  rw [en]
  walk_at "d"
  refine if_F rfl ?_
  walk_at "d"
  refine s_forK (fun i sl rs => ∃ u1 u2 u3 u4 u5, sl = [.raw (.ref a), .da (.tup (fs.map fieldD)), .da (.int (prodL ((fs.take i).map (·.2)))), u1, u2, u3, u4, u5] ∧ rs = [objR a M.a_Farm []]) ?_ ?_ ?_ ?_
  · exact gs_id ⟨_, _, _, _, _, rfl, rfl⟩
  · exact fun _ _ _ _ => trivial
  · rintro i y sl rs hy ⟨u1, u2, u3, u4, u5, rfl, rfl⟩
    obtain ⟨fi, hfi, rfl⟩ := enumS_mm hy
    have fm : fi ∈ fs := List.mem_of_getElem? hfi
    have hi6 : i < 6 := by have := (List.getElem?_eq_some_iff.mp hfi).1; have := ok.six; omega
    walk_at "d"
    rw [cutG_to, ← List.map_take]
    refine s_lcM (fs.take i) (fun f => .da (fieldD f)) (fun f => .str f.1) (by rw [List.map_map]; rfl) (by rw [List.length_take]; omega) trivial (fun j c T hc ht => ?_) ?_
    · walk_at "wipe"
      walk_at "d"
      exact ht
    · walk_at "d"
      refine if_F (decide_eq_false (by omega)) ?_
      walk_at "d"
      refine s_ask0 ⟨fi.1, rfl, rfl, .inl ⟨ok.nm fi fm, ?_⟩⟩
      walk_at "d"
      refine if_F rfl ?_
      walk_at "d"
      have lo := ok.lo fi fm
      refine if_T (decide_eq_true lo.1) ?_
      walk_at "d"
      refine if_F (by rw [decide_eq_true lo.2]; rfl) ?_
      walk_at "d"
      rw [show ((fs.take i).map fun f => Da.str f.1) = ((fs.take i).map (·.1)).map .str from (List.map_map ..).symm, anyD_str, decide_eq_false (nodup_take ok.nd hfi)]
      refine if_F rfl ?_
      have hp := prod_take ok.lo i
      have ep : prodL ((fs.take i).map (·.2)) * fi.2 = prodL ((fs.take (i + 1)).map (·.2)) := by
        rw [List.take_add_one, hfi]
        simp only [Option.toList_some, List.map_append, List.map_cons, List.map_nil, prodL_snoc]
      walk_at "d"
      rw [ep]
      exact gs_id ⟨_, _, _, _, _, rfl, rfl⟩
  · rintro sl rs ⟨u1, u2, u3, u4, u5, rfl, rfl⟩
    refine gs_id ?_
    rw [enumS_len, List.length_map, List.length_map, List.take_length]
    walk_at "d"
    refine if_F (decide_eq_false (by have := ok.pr; omega)) ?_
    walk_at "d"
    exact gv_id k

end
end HC
namespace HC
open PyProof.Rows PySem L2 PySem.Spec
local macro_rules | `(tactic| walk_at "ext") => `(tactic| first | exact .here | exact .there .here | exact .there (.there .here) | exact .there (.there (.there .here)) | exact .there (.there (.there (.there .here))) | exact .there (.there (.there (.there (.there .here)))))
local macro_rules | `(tactic| walk_at "gets") => `(tactic| first | exact Gets.nil | ((refine' Gets.cons ?he ?hr); (case he => walk_at "ext"); (case hr => walk_at "gets")))
local macro_rules | `(tactic| walk_at "ar") => `(tactic| first | exact ar_eq rfl | (refine ar_ex fun _ => ?_; walk_at "ar"))
local macro_rules | `(tactic| walk_at "rep") => `(tactic| first | exact .here | exact .there .here | exact .there (.there .here) | exact .there (.there (.there .here)) | exact .there (.there (.there (.there .here))))
local macro_rules | `(tactic| walk_at "see") => `(tactic| first | exact .da _ | exact .lst (by walk_at "ext"))
local macro_rules | `(tactic| walk_at "itm") => `(tactic| first | exact .tup _ | exact .tupS _ | exact .lst _ | exact .scr _ | exact .btup _ | exact .raw (by walk_at "ext"))
local macro_rules | `(tactic| walk_at "wk") => `(tactic| first | exact .tup _ | exact .tupS _ | exact .lst _ | exact .scr _ | exact .btup _ | exact .str _ | exact .raw (by walk_at "ext"))
local macro_rules | `(tactic| walk_at "alld") => `(tactic| first | exact allDa0 | exact allDa1 | exact allDa2 | exact allDa3 | exact allDa4 | exact allDa5 | rfl)
local macro_rules | `(tactic| walk_at "put") => `(tactic| (simp (config := { decide := true }) only [putS, if_true, if_false]; try rfl))
local macro_rules | `(tactic| walk_at "pl") => `(tactic| first | rfl | assumption | exact pls_map (fun _ => rfl) | exact pl_lm (fun _ => rfl) | exact pl_tm (fun _ => rfl))
local macro_rules | `(tactic| walk_at "size") => `(tactic| first | exact (by decide : _ ≤ sizeLine) | (simp [sizeLine_eq]; done) | (simp [sizeLine_eq]; omega))
local macro_rules | `(tactic| walk_at "d1") => `(tactic| first
  | with_reducible refine s_seq ?_ | with_reducible refine s_asg ?_ | ((with_reducible refine' s_var ?hv ?_ ?kn); (case hv => exact rfl); (case kn => trivial)) | with_reducible refine s_c ?_ | with_reducible refine s_r ?_
  | ((with_reducible refine' s_name ?hv ?_); (case hv => first | (simp only [List.set]; rfl) | (simp only [wipeD, List.set]; rfl)))
  | with_reducible refine s_b ?_ | with_reducible refine s_u ?_ | with_reducible refine s_t ?_ | with_reducible refine s_isB ?_ | with_reducible refine s_cons ?_ | with_reducible refine s_nil ?_
  | with_reducible refine s_p2 ?_ | with_reducible refine s_p1 ?_ | with_reducible refine s_add_i ?_ | ((with_reducible refine' s_I ?hc ?_); (case hc => first | trivial | (show (0 : Int) < _; omega) | (unfold CMul; omega) | (unfold CPow; decide) | (unfold CDiv; omega))) | with_reducible refine s_1I ?_
  | with_reducible refine s_eq_i ?_ | with_reducible refine s_eq_s ?_ | with_reducible refine s_eq_b ?_ | with_reducible refine s_ne_i ?_ | with_reducible refine s_ne_s ?_ | with_reducible refine s_ne_b ?_ | with_reducible refine s_isN ?_ | with_reducible refine s_notN ?_
  | with_reducible refine s_call ?_ | with_reducible refine s_make ?_ | with_reducible refine s_fld ?_ | with_reducible refine s_prop ?_ | with_reducible refine s_meth ?_ | with_reducible refine s_ret ?_ | with_reducible refine s_retN ?_ | with_reducible refine s_drop ?_ | with_reducible refine s_ifS ?_ | with_reducible refine s_next ?_
  | with_reducible refine s_and ?_ | with_reducible refine s_or ?_ | with_reducible refine s_not ?_ | with_reducible refine s_andV ?_ | with_reducible refine s_orV ?_ | with_reducible refine s_notV ?_ | with_reducible refine s_if ?_ | with_reducible refine s_chain ?_
  | ((with_reducible refine' s_mkT ?he ?hz ?_); (case he => first | exact mkT2 | exact mkT1 | exact mkT3 | exact mkT4 | exact mkT0 | rfl); (case hz => walk_at "size")) | ((with_reducible refine' s_mkL ?he ?hz ?_); (case he => walk_at "alld"); (case hz => walk_at "size"))
  | with_reducible refine s_partI ?_ | with_reducible refine s_slT ?_ | ((with_reducible refine' s_sfldV ?kn ?_); (case kn => trivial)) | ((with_reducible refine' s_lenI ?hi ?_); (case hi => walk_at "itm")) | with_reducible refine s_lenS ?_
  | ((with_reducible refine' s_fldD ?he ?fn ?_); (case he => rfl); (case fn => assumption)) | ((with_reducible refine' s_fldR ?hx ?he ?fn ?kn ?_); (case hx => walk_at "ext"); (case he => rfl); (case fn => assumption); (case kn => trivial))
  | ((with_reducible refine' s_sfldR ?hr ?he ?fn ?hf ?_); (case hr => walk_at "rep"); (case he => walk_at "put"); (case fn => assumption); (case hf => simp)) | ((with_reducible refine' s_add_t ?hz ?_); (case hz => walk_at "size")) | ((with_reducible refine' s_add_l ?hz ?_); (case hz => walk_at "size"))
  | ((with_reducible refine' s_parK ?he ?hl ?_); (case he => first | (simp only [List.zip_cons_cons, List.zip_nil_right, List.zip_nil_left, List.foldl_cons, List.foldl_nil, List.set_cons_succ, List.set_cons_zero]; rfl) | rfl); (case hl => rfl)) | ((with_reducible refine' s_raiseK ?he ?hl ?_); (case he => walk_at "alld"); (case hl => rfl)) | ((with_reducible refine' s_gtup ?hi ?hn ?_); (case hi => first | exact its2_2 | exact its2_3 | exact its2_4 | exact its2_1 | exact .tup _ | exact .da _); (case hn => rfl)) | with_reducible refine s_gcons ?_ | with_reducible refine s_gnil ?_
  | with_reducible refine s_for ?_ | with_reducible refine s_it ?_ | with_reducible refine s_rng1 ?_ | with_reducible refine s_rng2 ?_ | with_reducible refine s_enT ?_ | with_reducible refine s_enL ?_ | with_reducible refine s_enLK ?_ | with_reducible refine s_zip ?_ | with_reducible refine s_zipL ?_ | with_reducible refine s_lc ?_ | with_reducible refine s_yes ?_
  | with_reducible refine s_faug ?_ | with_reducible refine s_int ?_ | with_reducible refine s_intB ?_ | with_reducible refine s_n1 ?_ | with_reducible refine s_n2 ?_ | with_reducible refine s_star1 ?_ | with_reducible refine s_dictZip ?_ | with_reducible refine s_items ?_ | ((with_reducible refine' s_star1K ?hi ?_); (case hi => walk_at "itm")) | ((with_reducible refine' s_augI ?he ?_); (case he => rfl)) | ((with_reducible refine' s_augV ?hc ?he ?_); (case hc => (unfold CMul; omega)); (case he => first | (simp only [List.set_cons_succ, List.set_cons_zero]; rfl) | rfl)) | ((with_reducible refine' s_aug0 ?he ?_); (case he => rfl)) | ((with_reducible refine' s_aug0V ?he ?_); (case he => first | (simp only [List.set_cons_succ, List.set_cons_zero]; rfl) | rfl)) | with_reducible refine s_tupOfT ?_
  | ((with_reducible refine' s_ix ?him ?hat ?kn ?_); (case him => walk_at "itm"); (case hat => first | exact atI_mm (by assumption) | exact atI_c0 | exact atI_c1 | exact atI_c2 | exact atI_c3 | exact atI_c4); (case kn => trivial)) | ((with_reducible refine' s_bmK ?hi ?_); (case hi => first | exact .da _ | exact .raw (by walk_at "ext"))) | ((with_reducible refine' s_bmK0 ?hi ?_); (case hi => first | exact .da _ | exact .raw (by walk_at "ext")))
  | ((with_reducible refine' s_app ?hr ?hz ?_); (case hr => walk_at "rep"); (case hz => walk_at "size")) | ((with_reducible refine' s_itK ?hw ?_); (case hw => walk_at "wk")) | with_reducible refine s_propD ?_ | ((with_reducible refine' s_propR ?hx ?_); (case hx => walk_at "ext"))
  | ((with_reducible refine' s_methD ?hn ?_); (case hn => (simp (config := { decide := true }) only [List.map, List.mem_cons, List.not_mem_nil, or_false, not_or, not_false_eq_true, and_self])))
  | ((with_reducible refine' s_methR ?hx ?hn ?_); (case hx => walk_at "ext"); (case hn => (simp (config := { decide := true }) only [List.map, List.mem_cons, List.not_mem_nil, or_false, not_or, not_false_eq_true, and_self])))
  | ((with_reducible refine' s_enTK ?hi ?_); (case hi => first | exact .da _ | exact .btup _ | exact .tup _)) | ((with_reducible refine' s_zipT ?hi ?hj ?_); (case hi => first | exact .da _ | exact .btup _ | exact .tup _); (case hj => first | exact .da _ | exact .btup _ | exact .tup _))
  | ((with_reducible refine' s_tupOfL ?hs ?_); (case hs => walk_at "see")) | ((with_reducible refine' s_tupNew ?hs ?_); (case hs => walk_at "see")) | ((with_reducible refine' s_slL ?hs ?_); (case hs => walk_at "see"))
  | ((with_reducible refine' s_notIn_bt ?h1 ?h2 ?_); (case h1 => walk_at "pl"); (case h2 => walk_at "pl")) | ((with_reducible refine' s_in_bt ?h1 ?h2 ?_); (case h1 => walk_at "pl"); (case h2 => walk_at "pl")) | ((with_reducible refine' s_notIn_t ?h1 ?h2 ?_); (case h1 => walk_at "pl"); (case h2 => walk_at "pl")) | ((with_reducible refine' s_in_t ?h1 ?h2 ?_); (case h1 => walk_at "pl"); (case h2 => walk_at "pl")) | ((with_reducible refine' s_notIn_l ?h1 ?h2 ?_); (case h1 => walk_at "pl"); (case h2 => walk_at "pl")) | ((with_reducible refine' s_in_l ?h1 ?h2 ?_); (case h1 => walk_at "pl"); (case h2 => walk_at "pl"))
  | ((with_reducible refine' s_nilEq ?hi ?_); (case hi => first | exact .lst _ | exact .raw (by walk_at "ext"))) | ((with_reducible refine' s_popE ?hr ?_); (case hr => walk_at "rep"))
  | with_reducible refine s_setL ?_ | with_reducible refine s_setL1 ?_ | with_reducible refine s_setL2 ?_ | ((with_reducible refine' s_addR ?h1 ?h2 ?hz ?_); (case h1 => walk_at "see"); (case h2 => walk_at "see"); (case hz => walk_at "size")) | with_reducible refine s_m1 ?_ | with_reducible refine s_m1K ?_ | with_reducible refine s_m1Q ?_ | with_reducible refine s_lcR ?_ | with_reducible refine s_tupIx ?_ | with_reducible refine s_lenOD ?_ | ((with_reducible refine' s_lenOR ?hx ?_); (case hx => walk_at "ext")) | with_reducible refine s_raise0 ?_ | with_reducible refine s_raise ?_ | with_reducible refine s_tup ?_ | with_reducible refine s_lst ?_ | with_reducible refine s_lstR ?_ | with_reducible refine s_cb ?_ | with_reducible refine s_sl ?_ | with_reducible refine s_noP ?_ | with_reducible refine s_part ?_ | with_reducible refine s_bm ?_ | with_reducible refine s_bm0 ?_ | with_reducible refine s_sfld ?_ | with_reducible refine s_par ?_)
local macro_rules | `(tactic| walk_at "side") => `(tactic| first | assumption | omega | trivial | (decide; done))
local macro_rules | `(tactic| walk_at "wit") => `(tactic| ((repeat apply Exists.intro); (refine' And.intro (rfl : @Eq (List Sl) _ _) ?_); (first | (refine' And.intro (rfl : @Eq (List (Rs _)) _ _) ?_) | (fail_if_success (refine' And.intro (?_ : @Eq (List (Rs _)) _ _) ?_))); (repeat refine' And.intro (by walk_at "side") ?_)))
local macro_rules | `(tactic| walk_at "ask") => `(tactic| first | ((with_reducible refine' s_ask0 ?kk); (case' kk => walk_at "wit")) | ((with_reducible refine' s_ask ?gg ?kk); (case' kk => walk_at "wit"); (case' gg => walk_at "gets")))
local macro_rules | `(tactic| walk_at "d") => `(tactic| repeat walk_at "d1")
local macro_rules | `(tactic| walk_at "in") => `(tactic| simp only [startD, List.length_cons, List.length_nil, Nat.zero_add, Nat.reduceAdd, Nat.reduceSub, List.replicate_succ, List.replicate_zero, List.cons_append, List.nil_append])
local macro_rules | `(tactic| walk_at "yes") => `(tactic| refine if_T (by first | rfl | exact decide_eq_true (by first | assumption | omega) | assumption) ?_)
local macro_rules | `(tactic| walk_at "no") => `(tactic| refine if_F (by first | rfl | exact decide_eq_false (by first | assumption | omega) | assumption) ?_)
local macro_rules | `(tactic| walk_at "nyes") => `(tactic| refine if_T (by first | rfl | (rw [decide_eq_false (by first | assumption | omega)]; rfl)) ?_)
local macro_rules | `(tactic| walk_at "nno") => `(tactic| refine if_F (by first | rfl | (rw [decide_eq_true (by first | assumption | omega)]; rfl)) ?_)
local macro_rules | `(tactic| walk_at "dec") => `(tactic| first | rfl | assumption | (simp (config := { failIfUnchanged := false }) only [*, decide_true, decide_false, decide_eq_true_eq, decide_eq_false_iff_not, Bool.not_true, Bool.not_false, Bool.and_true, Bool.and_false, Bool.true_and, Bool.false_and, Bool.or_true, Bool.or_false, Bool.true_or, Bool.false_or, not_false_eq_true, Bool.not_eq_true']; done))
local macro_rules | `(tactic| walk_at "di") => `(tactic| repeat first | walk_at "d1" | ((with_reducible refine' if_T ?hc ?_); (case hc => walk_at "dec")) | ((with_reducible refine' if_F ?hc ?_); (case hc => walk_at "dec")))
local macro_rules | `(tactic| walk_at "wipe") => `(tactic| simp only [List.map_cons, List.map_nil, wipeD, List.set_cons_zero, List.set_cons_succ])
local macro_rules | `(tactic| walk_at "d2") => `(tactic| first
  | ((with_reducible refine' s_gunl ?hi ?hn ?_); (case hi => first | exact nl5 | exact nl4 | exact nl3 | exact nl2 | exact .lst _ | exact .raw (by walk_at "ext")); (case hn => rfl)) | with_reducible refine s_gv ?_ | with_reducible refine s_meth0 ?_
  | ((with_reducible refine' s_meth0D ?hn ?_); (case hn => (simp (config := { decide := true }) only [List.map, List.mem_cons, List.not_mem_nil, or_false, not_or, not_false_eq_true, and_self])))
  | ((with_reducible refine' s_meth0R ?hx ?hn ?_); (case hx => walk_at "ext"); (case hn => (simp (config := { decide := true }) only [List.map, List.mem_cons, List.not_mem_nil, or_false, not_or, not_false_eq_true, and_self]))))
local macro_rules | `(tactic| walk_at "d") => `(tactic| repeat first | walk_at "d1" | walk_at "d2")
local macro_rules | `(tactic| walk_at "wit1") => `(tactic| ((repeat apply Exists.intro); (refine' And.intro (rfl : @Eq (List Sl) _ _) ?_); (first | (refine' And.intro (rfl : @Eq (List (Rs _)) _ _) ?_) | (fail_if_success (refine' And.intro (?_ : @Eq (List (Rs _)) _ _) ?_)))))
local macro_rules | `(tactic| walk_at "sides") => `(tactic| (repeat refine' And.intro (by walk_at "side") ?_))
local macro_rules | `(tactic| walk_at "ask") => `(tactic| first | ((with_reducible refine' s_ask0 ?kk); (case' kk => walk_at "wit")) | ((with_reducible refine' s_ask ?gg ?kk); (case' kk => walk_at "wit1"); (case' gg => walk_at "gets"); walk_at "sides"))
section
variable {P : Program} {w : World} {K : PySem.W.Frag}
variable {mg : Str → Option Value} {base : Heap}
/-- Farm( *fields): data -/
def D_Farm (M : Md K mg) : SpD K := fun ys rs xc q => ∃ fs, ys = fs.map (fun f => .da (fieldD f)) ∧ rs = [] ∧ FOk fs ∧ q (.da (farmD M.a_Farm fs)) []
theorem mk_Farm (M : Md K mg) : Mks M.a_Farm (starD (D_Farm___init__ M)) (D_Farm M) := by
  rintro ys rs xc q ⟨fs, rfl, rfl, ok, k⟩ a
  refine ⟨_, fs.map fieldD, by rw [List.map_map]; rfl, by rw [List.length_map]; have := ok.six; simp [sizeLine_eq]; omega, a, fs, rfl, rfl, ok, rfl, ?_⟩
  exact gv_via (GhV.frz (fr_obj (fs := [("rows", .tup (fs.map fieldD))])) .here) (gv_id k)
theorem prodL_app (a b : List Int) : prodL (a ++ b) = prodL a * prodL b := by
  have : ∀ (b : List Int) (z : Int), b.foldl (· * ·) z = z * prodL b := by
    intro b
    induction b with
    | nil => intro z; simp [prodL]
    | cons x r ih =>
      intro z
      have e : prodL (x :: r) = x * prodL r := by rw [show prodL (x :: r) = r.foldl (· * ·) (1 * x) from rfl, ih, Int.one_mul]
      rw [List.foldl_cons, ih, e, Int.mul_assoc]
  rw [prodL, List.foldl_append, this]; rfl
theorem prodL_pos {l : List Int} (h : ∀ x ∈ l, 1 ≤ x) : 1 ≤ prodL l := by
  induction l with
  | nil => decide
  | cons x r ih =>
    have e : prodL (x :: r) = x * prodL r := by rw [show x :: r = [x] ++ r from rfl, prodL_app]; simp [prodL]
    have := Int.mul_le_mul (h x (by simp)) (ih fun y hy => h y (by simp [hy])) (by decide) (by have := h x (by simp); omega)
    omega
theorem prod_pre {fs : List (Str × Int)} (lo : ∀ f ∈ fs, 1 ≤ f.2 ∧ f.2 ≤ 30) (i : Nat) : prodL ((fs.take i).map (·.2)) ≤ prodL (fs.map (·.2)) := by
  have e : fs.map (·.2) = (fs.take i).map (·.2) ++ (fs.drop i).map (·.2) := by rw [← List.map_append, List.take_append_drop]
  have h1 := prodL_pos (l := (fs.take i).map (·.2)) fun x hx => by obtain ⟨f, hf, rfl⟩ := List.mem_map.mp hx; exact (lo f (List.mem_of_mem_take hf)).1
  have h2 := prodL_pos (l := (fs.drop i).map (·.2)) fun x hx => by obtain ⟨f, hf, rfl⟩ := List.mem_map.mp hx; exact (lo f (List.mem_of_mem_drop hf)).1
  rw [e, prodL_app]
  have := Int.mul_le_mul_of_nonneg_left h2 (show 0 ≤ prodL ((fs.take i).map (·.2)) by omega)
  omega
theorem prodL_sub {fs gs : List (Str × Int)} (h : ∀ f ∈ fs ++ gs, 1 ≤ f.2) : prodL (fs.map (·.2)) ≤ prodL ((fs ++ gs).map (·.2)) ∧ 1 ≤ prodL (fs.map (·.2)) := by
  have h1 := prodL_pos (l := fs.map (·.2)) fun x hx => by obtain ⟨f, hf, rfl⟩ := List.mem_map.mp hx; exact h f (List.mem_append_left _ hf)
  have h2 := prodL_pos (l := gs.map (·.2)) fun x hx => by obtain ⟨f, hf, rfl⟩ := List.mem_map.mp hx; exact h f (List.mem_append_right _ hf)
  rw [List.map_append, prodL_app]
  have := Int.mul_le_mul_of_nonneg_left h2 (show 0 ≤ prodL (fs.map (·.2)) by omega)
  omega
def D_Farm___add__ (M : Md K mg) : SpD K := fun as rs xc q => ∃ fs gs, as = [.da (farmD M.a_Farm fs), .da (farmD M.a_Farm gs)] ∧ rs = [] ∧ FOk (fs ++ gs) ∧ q (.da (farmD M.a_Farm (fs ++ gs))) []
theorem ok_Farm___add__ (M : Md K mg) (G : Gm K M.a_Farm "__add__" "Farm.__add__" s_Farm___add__) (K_Farm : MakeD P w K mg base "Farm" M.a_Farm 4 (starD (D_Farm___init__ M)) (D_Farm M)) : MethR P w K mg base M.a_Farm "__add__" 6 (spD (D_Farm___add__ M)) := by
  refine meth_mk G fun f fd F => FnU.raw <| fnr_mk (dfn_ok (k := 5) F sc_Farm___add__ (by intro as rs xc q; walk_at "ar") (fun cdv A outer s H E hr => by
    have nd := sc_Farm___add__.nd
    exact (dss_cons (ds_set (i := 2) nd rfl (by first | exact Or.inl rfl | exact Or.inr rfl) (d_op (op_addK K) (pu2 pu_add) (d_fld (pe_fldK K (d_var (i := 0) (pv 0)))) (d_fld (pe_fldK K (d_var (i := 1) (pv 1))))))
    (dss_one (ds_ret (d_makeS (pe_makeSK K K_Farm.mkr (hr.mono (by first | decide | omega)) pz_def (d_var (i := 2) (pv 2))) K_Farm.it))))) ?_) (F.bindsN (fun _ _ _ _ _ _ us hl => match us, hl with | [_, _], _ => rfl))
  rintro as rs xc q ⟨fs, gs, rfl, rfl, ok, k⟩
  have fn := M.f_Farm
  have f6 := ok.six
  rw [List.length_append] at f6
  walk_at "in"
  walk_at "d"
  rw [← List.map_append]
  walk_at "d"
  refine s_ask0 ⟨fs ++ gs, by rw [List.map_map]; rfl, rfl, ok, ?_⟩
  exact gv_id k

end
end HC
namespace HC
open PyProof.Rows PySem L2 PySem.Spec
local macro_rules | `(tactic| walk_at "ext") => `(tactic| first | exact .here | exact .there .here | exact .there (.there .here) | exact .there (.there (.there .here)) | exact .there (.there (.there (.there .here))) | exact .there (.there (.there (.there (.there .here)))))
local macro_rules | `(tactic| walk_at "gets") => `(tactic| first | exact Gets.nil | ((refine' Gets.cons ?he ?hr); (case he => walk_at "ext"); (case hr => walk_at "gets")))
local macro_rules | `(tactic| walk_at "ar") => `(tactic| first | exact ar_eq rfl | (refine ar_ex fun _ => ?_; walk_at "ar"))
local macro_rules | `(tactic| walk_at "rep") => `(tactic| first | exact .here | exact .there .here | exact .there (.there .here) | exact .there (.there (.there .here)) | exact .there (.there (.there (.there .here))))
local macro_rules | `(tactic| walk_at "see") => `(tactic| first | exact .da _ | exact .lst (by walk_at "ext"))
local macro_rules | `(tactic| walk_at "itm") => `(tactic| first | exact .tup _ | exact .tupS _ | exact .lst _ | exact .scr _ | exact .btup _ | exact .raw (by walk_at "ext"))
local macro_rules | `(tactic| walk_at "wk") => `(tactic| first | exact .tup _ | exact .tupS _ | exact .lst _ | exact .scr _ | exact .btup _ | exact .str _ | exact .raw (by walk_at "ext"))
local macro_rules | `(tactic| walk_at "alld") => `(tactic| first | exact allDa0 | exact allDa1 | exact allDa2 | exact allDa3 | exact allDa4 | exact allDa5 | rfl)
local macro_rules | `(tactic| walk_at "put") => `(tactic| (simp (config := { decide := true }) only [putS, if_true, if_false]; try rfl))
local macro_rules | `(tactic| walk_at "pl") => `(tactic| first | rfl | assumption | exact pls_map (fun _ => rfl) | exact pl_lm (fun _ => rfl) | exact pl_tm (fun _ => rfl))
local macro_rules | `(tactic| walk_at "size") => `(tactic| first | exact (by decide : _ ≤ sizeLine) | (simp [sizeLine_eq]; done) | (simp [sizeLine_eq]; omega))
local macro_rules | `(tactic| walk_at "d1") => `(tactic| first
  | with_reducible refine s_seq ?_ | with_reducible refine s_asg ?_ | ((with_reducible refine' s_var ?hv ?_ ?kn); (case hv => exact rfl); (case kn => trivial)) | with_reducible refine s_c ?_ | with_reducible refine s_r ?_
  | ((with_reducible refine' s_name ?hv ?_); (case hv => first | (simp only [List.set]; rfl) | (simp only [wipeD, List.set]; rfl)))
  | with_reducible refine s_b ?_ | with_reducible refine s_u ?_ | with_reducible refine s_t ?_ | with_reducible refine s_isB ?_ | with_reducible refine s_cons ?_ | with_reducible refine s_nil ?_
  | with_reducible refine s_p2 ?_ | with_reducible refine s_p1 ?_ | with_reducible refine s_add_i ?_ | ((with_reducible refine' s_I ?hc ?_); (case hc => first | trivial | (show (0 : Int) < _; omega) | (unfold CMul; omega) | (unfold CPow; decide) | (unfold CDiv; omega))) | with_reducible refine s_1I ?_
  | with_reducible refine s_eq_i ?_ | with_reducible refine s_eq_s ?_ | with_reducible refine s_eq_b ?_ | with_reducible refine s_ne_i ?_ | with_reducible refine s_ne_s ?_ | with_reducible refine s_ne_b ?_ | with_reducible refine s_isN ?_ | with_reducible refine s_notN ?_
  | with_reducible refine s_call ?_ | with_reducible refine s_make ?_ | with_reducible refine s_fld ?_ | with_reducible refine s_prop ?_ | with_reducible refine s_meth ?_ | with_reducible refine s_ret ?_ | with_reducible refine s_retN ?_ | with_reducible refine s_drop ?_ | with_reducible refine s_ifS ?_ | with_reducible refine s_next ?_
  | with_reducible refine s_and ?_ | with_reducible refine s_or ?_ | with_reducible refine s_not ?_ | with_reducible refine s_andV ?_ | with_reducible refine s_orV ?_ | with_reducible refine s_notV ?_ | with_reducible refine s_if ?_ | with_reducible refine s_chain ?_
  | ((with_reducible refine' s_mkT ?he ?hz ?_); (case he => first | exact mkT2 | exact mkT1 | exact mkT3 | exact mkT4 | exact mkT0 | rfl); (case hz => walk_at "size")) | ((with_reducible refine' s_mkL ?he ?hz ?_); (case he => walk_at "alld"); (case hz => walk_at "size"))
  | with_reducible refine s_partI ?_ | with_reducible refine s_slT ?_ | ((with_reducible refine' s_sfldV ?kn ?_); (case kn => trivial)) | ((with_reducible refine' s_lenI ?hi ?_); (case hi => walk_at "itm")) | with_reducible refine s_lenS ?_
  | ((with_reducible refine' s_fldD ?he ?fn ?_); (case he => rfl); (case fn => assumption)) | ((with_reducible refine' s_fldR ?hx ?he ?fn ?kn ?_); (case hx => walk_at "ext"); (case he => rfl); (case fn => assumption); (case kn => trivial))
  | ((with_reducible refine' s_sfldR ?hr ?he ?fn ?hf ?_); (case hr => walk_at "rep"); (case he => walk_at "put"); (case fn => assumption); (case hf => simp)) | ((with_reducible refine' s_add_t ?hz ?_); (case hz => walk_at "size")) | ((with_reducible refine' s_add_l ?hz ?_); (case hz => walk_at "size"))
  | ((with_reducible refine' s_parK ?he ?hl ?_); (case he => first | (simp only [List.zip_cons_cons, List.zip_nil_right, List.zip_nil_left, List.foldl_cons, List.foldl_nil, List.set_cons_succ, List.set_cons_zero]; rfl) | rfl); (case hl => rfl)) | ((with_reducible refine' s_raiseK ?he ?hl ?_); (case he => walk_at "alld"); (case hl => rfl)) | ((with_reducible refine' s_gtup ?hi ?hn ?_); (case hi => first | exact its2_2 | exact its2_3 | exact its2_4 | exact its2_1 | exact .tup _ | exact .da _); (case hn => rfl)) | with_reducible refine s_gcons ?_ | with_reducible refine s_gnil ?_
  | with_reducible refine s_for ?_ | with_reducible refine s_it ?_ | with_reducible refine s_rng1 ?_ | with_reducible refine s_rng2 ?_ | with_reducible refine s_enT ?_ | with_reducible refine s_enL ?_ | with_reducible refine s_enLK ?_ | with_reducible refine s_zip ?_ | with_reducible refine s_zipL ?_ | with_reducible refine s_lc ?_ | with_reducible refine s_yes ?_
  | with_reducible refine s_faug ?_ | with_reducible refine s_int ?_ | with_reducible refine s_intB ?_ | with_reducible refine s_n1 ?_ | with_reducible refine s_n2 ?_ | with_reducible refine s_star1 ?_ | with_reducible refine s_dictZip ?_ | with_reducible refine s_items ?_ | ((with_reducible refine' s_star1K ?hi ?_); (case hi => walk_at "itm")) | ((with_reducible refine' s_augI ?he ?_); (case he => rfl)) | ((with_reducible refine' s_augV ?hc ?he ?_); (case hc => (unfold CMul; omega)); (case he => first | (simp only [List.set_cons_succ, List.set_cons_zero]; rfl) | rfl)) | ((with_reducible refine' s_aug0 ?he ?_); (case he => rfl)) | ((with_reducible refine' s_aug0V ?he ?_); (case he => first | (simp only [List.set_cons_succ, List.set_cons_zero]; rfl) | rfl)) | with_reducible refine s_tupOfT ?_
  | ((with_reducible refine' s_ix ?him ?hat ?kn ?_); (case him => walk_at "itm"); (case hat => first | exact atI_mm (by assumption) | exact atI_c0 | exact atI_c1 | exact atI_c2 | exact atI_c3 | exact atI_c4); (case kn => trivial)) | ((with_reducible refine' s_bmK ?hi ?_); (case hi => first | exact .da _ | exact .raw (by walk_at "ext"))) | ((with_reducible refine' s_bmK0 ?hi ?_); (case hi => first | exact .da _ | exact .raw (by walk_at "ext")))
  | ((with_reducible refine' s_app ?hr ?hz ?_); (case hr => walk_at "rep"); (case hz => walk_at "size")) | ((with_reducible refine' s_itK ?hw ?_); (case hw => walk_at "wk")) | with_reducible refine s_propD ?_ | ((with_reducible refine' s_propR ?hx ?_); (case hx => walk_at "ext"))
  | ((with_reducible refine' s_methD ?hn ?_); (case hn => (simp (config := { decide := true }) only [List.map, List.mem_cons, List.not_mem_nil, or_false, not_or, not_false_eq_true, and_self])))
  | ((with_reducible refine' s_methR ?hx ?hn ?_); (case hx => walk_at "ext"); (case hn => (simp (config := { decide := true }) only [List.map, List.mem_cons, List.not_mem_nil, or_false, not_or, not_false_eq_true, and_self])))
  | ((with_reducible refine' s_enTK ?hi ?_); (case hi => first | exact .da _ | exact .btup _ | exact .tup _)) | ((with_reducible refine' s_zipT ?hi ?hj ?_); (case hi => first | exact .da _ | exact .btup _ | exact .tup _); (case hj => first | exact .da _ | exact .btup _ | exact .tup _))
  | ((with_reducible refine' s_tupOfL ?hs ?_); (case hs => walk_at "see")) | ((with_reducible refine' s_tupNew ?hs ?_); (case hs => walk_at "see")) | ((with_reducible refine' s_slL ?hs ?_); (case hs => walk_at "see"))
  | ((with_reducible refine' s_notIn_bt ?h1 ?h2 ?_); (case h1 => walk_at "pl"); (case h2 => walk_at "pl")) | ((with_reducible refine' s_in_bt ?h1 ?h2 ?_); (case h1 => walk_at "pl"); (case h2 => walk_at "pl")) | ((with_reducible refine' s_notIn_t ?h1 ?h2 ?_); (case h1 => walk_at "pl"); (case h2 => walk_at "pl")) | ((with_reducible refine' s_in_t ?h1 ?h2 ?_); (case h1 => walk_at "pl"); (case h2 => walk_at "pl")) | ((with_reducible refine' s_notIn_l ?h1 ?h2 ?_); (case h1 => walk_at "pl"); (case h2 => walk_at "pl")) | ((with_reducible refine' s_in_l ?h1 ?h2 ?_); (case h1 => walk_at "pl"); (case h2 => walk_at "pl"))
  | ((with_reducible refine' s_nilEq ?hi ?_); (case hi => first | exact .lst _ | exact .raw (by walk_at "ext"))) | ((with_reducible refine' s_popE ?hr ?_); (case hr => walk_at "rep"))
  | with_reducible refine s_setL ?_ | with_reducible refine s_setL1 ?_ | with_reducible refine s_setL2 ?_ | ((with_reducible refine' s_addR ?h1 ?h2 ?hz ?_); (case h1 => walk_at "see"); (case h2 => walk_at "see"); (case hz => walk_at "size")) | with_reducible refine s_m1 ?_ | with_reducible refine s_m1K ?_ | with_reducible refine s_m1Q ?_ | with_reducible refine s_lcR ?_ | with_reducible refine s_tupIx ?_ | with_reducible refine s_lenOD ?_ | ((with_reducible refine' s_lenOR ?hx ?_); (case hx => walk_at "ext")) | with_reducible refine s_raise0 ?_ | with_reducible refine s_raise ?_ | with_reducible refine s_tup ?_ | with_reducible refine s_lst ?_ | with_reducible refine s_lstR ?_ | with_reducible refine s_cb ?_ | with_reducible refine s_sl ?_ | with_reducible refine s_noP ?_ | with_reducible refine s_part ?_ | with_reducible refine s_bm ?_ | with_reducible refine s_bm0 ?_ | with_reducible refine s_sfld ?_ | with_reducible refine s_par ?_)
local macro_rules | `(tactic| walk_at "side") => `(tactic| first | assumption | omega | trivial | (decide; done))
local macro_rules | `(tactic| walk_at "wit") => `(tactic| ((repeat apply Exists.intro); (refine' And.intro (rfl : @Eq (List Sl) _ _) ?_); (first | (refine' And.intro (rfl : @Eq (List (Rs _)) _ _) ?_) | (fail_if_success (refine' And.intro (?_ : @Eq (List (Rs _)) _ _) ?_))); (repeat refine' And.intro (by walk_at "side") ?_)))
local macro_rules | `(tactic| walk_at "ask") => `(tactic| first | ((with_reducible refine' s_ask0 ?kk); (case' kk => walk_at "wit")) | ((with_reducible refine' s_ask ?gg ?kk); (case' kk => walk_at "wit"); (case' gg => walk_at "gets")))
local macro_rules | `(tactic| walk_at "d") => `(tactic| repeat walk_at "d1")
local macro_rules | `(tactic| walk_at "in") => `(tactic| simp only [startD, List.length_cons, List.length_nil, Nat.zero_add, Nat.reduceAdd, Nat.reduceSub, List.replicate_succ, List.replicate_zero, List.cons_append, List.nil_append])
local macro_rules | `(tactic| walk_at "yes") => `(tactic| refine if_T (by first | rfl | exact decide_eq_true (by first | assumption | omega) | assumption) ?_)
local macro_rules | `(tactic| walk_at "no") => `(tactic| refine if_F (by first | rfl | exact decide_eq_false (by first | assumption | omega) | assumption) ?_)
local macro_rules | `(tactic| walk_at "nyes") => `(tactic| refine if_T (by first | rfl | (rw [decide_eq_false (by first | assumption | omega)]; rfl)) ?_)
local macro_rules | `(tactic| walk_at "nno") => `(tactic| refine if_F (by first | rfl | (rw [decide_eq_true (by first | assumption | omega)]; rfl)) ?_)
local macro_rules | `(tactic| walk_at "dec") => `(tactic| first | rfl | assumption | (simp (config := { failIfUnchanged := false }) only [*, decide_true, decide_false, decide_eq_true_eq, decide_eq_false_iff_not, Bool.not_true, Bool.not_false, Bool.and_true, Bool.and_false, Bool.true_and, Bool.false_and, Bool.or_true, Bool.or_false, Bool.true_or, Bool.false_or, not_false_eq_true, Bool.not_eq_true']; done))
local macro_rules | `(tactic| walk_at "di") => `(tactic| repeat first | walk_at "d1" | ((with_reducible refine' if_T ?hc ?_); (case hc => walk_at "dec")) | ((with_reducible refine' if_F ?hc ?_); (case hc => walk_at "dec")))
local macro_rules | `(tactic| walk_at "wipe") => `(tactic| simp only [List.map_cons, List.map_nil, wipeD, List.set_cons_zero, List.set_cons_succ])
local macro_rules | `(tactic| walk_at "d2") => `(tactic| first
  | ((with_reducible refine' s_gunl ?hi ?hn ?_); (case hi => first | exact nl5 | exact nl4 | exact nl3 | exact nl2 | exact .lst _ | exact .raw (by walk_at "ext")); (case hn => rfl)) | with_reducible refine s_gv ?_ | with_reducible refine s_meth0 ?_
  | ((with_reducible refine' s_meth0D ?hn ?_); (case hn => (simp (config := { decide := true }) only [List.map, List.mem_cons, List.not_mem_nil, or_false, not_or, not_false_eq_true, and_self])))
  | ((with_reducible refine' s_meth0R ?hx ?hn ?_); (case hx => walk_at "ext"); (case hn => (simp (config := { decide := true }) only [List.map, List.mem_cons, List.not_mem_nil, or_false, not_or, not_false_eq_true, and_self]))))
local macro_rules | `(tactic| walk_at "d") => `(tactic| repeat first | walk_at "d1" | walk_at "d2")
local macro_rules | `(tactic| walk_at "wit1") => `(tactic| ((repeat apply Exists.intro); (refine' And.intro (rfl : @Eq (List Sl) _ _) ?_); (first | (refine' And.intro (rfl : @Eq (List (Rs _)) _ _) ?_) | (fail_if_success (refine' And.intro (?_ : @Eq (List (Rs _)) _ _) ?_)))))
local macro_rules | `(tactic| walk_at "sides") => `(tactic| (repeat refine' And.intro (by walk_at "side") ?_))
local macro_rules | `(tactic| walk_at "ask") => `(tactic| first | ((with_reducible refine' s_ask0 ?kk); (case' kk => walk_at "wit")) | ((with_reducible refine' s_ask ?gg ?kk); (case' kk => walk_at "wit1"); (case' gg => walk_at "gets"); walk_at "sides"))
local macro_rules | `(tactic| walk_at "y1") => `(tactic| first
  | with_reducible refine y_seq ?_ | with_reducible refine y_pl ?_ | with_reducible refine y_next ?_ | with_reducible refine y_yld ?_ | with_reducible refine y_yldK ?_ | with_reducible refine y_if ?_ | with_reducible refine y_for ?_ | with_reducible refine y_forG ?_ | with_reducible refine s_gn ?_ | with_reducible refine s_diG ?_ | with_reducible refine s_diEnG ?_ | with_reducible refine s_listG ?_)
local macro_rules | `(tactic| walk_at "y") => `(tactic| repeat first | walk_at "d1" | walk_at "d2" | walk_at "y1")
local macro_rules | `(tactic| walk_at "seeT") => `(tactic| first | exact .raw (by walk_at "ext") | exact .da _)
local macro_rules | `(tactic| walk_at "d2") => `(tactic| first
  | with_reducible refine s_star ?_ | ((with_reducible refine' s_starK ?im ?_); (case im => walk_at "itm")) | with_reducible refine s_appK ?_ | with_reducible refine s_dget ?_ | with_reducible refine s_din ?_ | with_reducible refine s_dget1 ?_ | with_reducible refine s_dget2 ?_ | with_reducible refine s_dput ?_ | with_reducible refine s_valsT ?_ | with_reducible refine s_diDT ?_ | with_reducible refine s_makeK ?_ | with_reducible refine s_makeSK ?_ | with_reducible refine s_kwK ?_ | with_reducible refine s_lenSet ?_
  | ((with_reducible refine' s_dget1L ?se ?_); (case se => walk_at "seeT")) | ((with_reducible refine' s_dget2L ?se ?_); (case se => walk_at "seeT")))
local macro_rules | `(tactic| walk_at "d4") => `(tactic| first
  | with_reducible refine s_head ?_ | with_reducible refine s_gsub ?_ | with_reducible refine s_gsub1 ?_ | with_reducible refine s_isC ?_ | with_reducible refine s_isCK ?_ | with_reducible refine s_fmt ?_ | with_reducible refine s_fs ?_ | with_reducible refine s_jsC ?_ | with_reducible refine s_jsN ?_ | with_reducible refine s_ownEqK ?_ | with_reducible refine s_ownIx ?_ | with_reducible refine s_ownIx1 ?_ | with_reducible refine s_ownIx2 ?_)
local macro_rules | `(tactic| walk_at "y") => `(tactic| repeat first | walk_at "d1" | walk_at "d2" | walk_at "y1" | walk_at "d4")
local macro_rules | `(tactic| walk_at "d5") => `(tactic| first
  | with_reducible refine s_opX ?_ | with_reducible refine s_opX1 ?_ | with_reducible refine s_opXI ?_ | with_reducible refine s_opXT ?_ | with_reducible refine s_opXO ?_ | with_reducible refine s_callI ?_ | with_reducible refine s_callI1 ?_ | with_reducible refine s_callI2 ?_ | with_reducible refine s_lcG ?_)
local macro_rules | `(tactic| walk_at "y") => `(tactic| repeat first | walk_at "d1" | walk_at "d2" | walk_at "y1" | walk_at "d4" | walk_at "d5")
section
variable {P : Program} {w : World} {K : PySem.W.Frag}
variable {mg : Str → Option Value} {base : Heap}
/-! ### farm[name] of a known name -/
def D_Farm___getitem__ (M : Md K mg) : SpD K := fun as rs xc q => ∃ fs z, as = [.da (farmD M.a_Farm fs), .da (.str z)] ∧ fs.length ≤ 6 ∧ z ∈ fs.map (·.1) ∧ (∀ f ∈ fs, f.1 = z → q (.da (.int f.2)) rs)
theorem ok_Farm___getitem__ (M : Md K mg) (G : Gm K M.a_Farm "__getitem__" "Farm.__getitem__" s_Farm___getitem__)  : MethR P w K mg base M.a_Farm "__getitem__" 4 (spD (D_Farm___getitem__ M)) := by
  refine meth_mk G fun f fd F => FnU.raw <| fnr_mk (dfn_ok (k := 3) F sc_Farm___getitem__ (by intro as rs xc q; walk_at "ar") (fun cdv A outer s H E hr => by
    have nd := sc_Farm___getitem__.nd
    exact (dss_cons (ds_for po_def rfl (di_seq (d_fld (pe_fldK K (d_var (i := 0) (pv 0))))) (pg_tupK K (n := 2) rfl (pgs_cons (pg_name (i := 2) nd rfl (by first | exact Or.inl rfl | exact Or.inr rfl)) (pgs_cons (pg_name (i := 3) nd rfl (by first | exact Or.inl rfl | exact Or.inr rfl)) pgs_nil))) (tg_tup (tgs_cons (tg_name 2) (tgs_cons (tg_name 3) tgs_nil))) (dss_one (ds_if (dt_cmp (op_eqK K hr) (pu2 pu_eq) (d_var (i := 2) (pv 2)) (d_var (i := 1) (pv 1))) (dss_one (ds_ret (d_var (i := 3) (pv 3)))) dss_nil))) (dss_one ds_never))) ?_) (F.bindsN (fun _ _ _ _ _ _ us hl => match us, hl with | [_, _], _ => rfl))
  rintro as rs xc q ⟨fs, z, rfl, f6, hz, k⟩
  have fn := M.f_Farm
  walk_at "in"
  walk_at "y"
  refine s_forK (fun i sl rs' => rs' = rs ∧ ∃ (u2 u3 : Sl), sl = [.da (farmD M.a_Farm fs), .da (.str z), u2, u3] ∧ ∀ f ∈ fs.take i, f.1 ≠ z) ?_ ?_ ?_ ?_
  · exact gs_id ⟨rfl, _, _, rfl, fun f hf => nomatch hf⟩
  · exact fun _ _ _ _ => trivial
  · rintro i y sl rs' hy ⟨rfl, u2, u3, rfl, no⟩
    obtain ⟨f, hf, rfl⟩ := mm_get (cs := fs) hy
    have tk : fs.take (i + 1) = fs.take i ++ [f] := by rw [List.take_add_one, hf]; rfl
    walk_at "y"
    by_cases e : f.1 = z
    · refine if_T (decide_eq_true e) ?_
      walk_at "y"
      exact gv_id (k f (List.mem_of_getElem? hf) e)
    · refine if_F (decide_eq_false e) ?_
      walk_at "y"
      exact gs_id ⟨rfl, _, _, rfl, fun g hg => by
        rw [tk] at hg
        exact (List.mem_append.mp hg).elim (no g) fun hg => by rw [List.mem_singleton.mp hg]; exact e⟩
  · rintro sl rs' ⟨rfl, u2, u3, rfl, no⟩
    rw [List.length_map, List.length_map, List.take_length] at no
    obtain ⟨f, hf, e⟩ := List.mem_map.mp hz
    exact absurd e (no f hf)

end
end HC
namespace HC
open PyProof.Rows PySem L2 PySem.Spec
local macro_rules | `(tactic| walk_at "ext") => `(tactic| first | exact .here | exact .there .here | exact .there (.there .here) | exact .there (.there (.there .here)) | exact .there (.there (.there (.there .here))) | exact .there (.there (.there (.there (.there .here)))))
local macro_rules | `(tactic| walk_at "gets") => `(tactic| first | exact Gets.nil | ((refine' Gets.cons ?he ?hr); (case he => walk_at "ext"); (case hr => walk_at "gets")))
local macro_rules | `(tactic| walk_at "ar") => `(tactic| first | exact ar_eq rfl | (refine ar_ex fun _ => ?_; walk_at "ar"))
local macro_rules | `(tactic| walk_at "rep") => `(tactic| first | exact .here | exact .there .here | exact .there (.there .here) | exact .there (.there (.there .here)) | exact .there (.there (.there (.there .here))))
local macro_rules | `(tactic| walk_at "see") => `(tactic| first | exact .da _ | exact .lst (by walk_at "ext"))
local macro_rules | `(tactic| walk_at "itm") => `(tactic| first | exact .tup _ | exact .tupS _ | exact .lst _ | exact .scr _ | exact .btup _ | exact .raw (by walk_at "ext"))
local macro_rules | `(tactic| walk_at "wk") => `(tactic| first | exact .tup _ | exact .tupS _ | exact .lst _ | exact .scr _ | exact .btup _ | exact .str _ | exact .raw (by walk_at "ext"))
local macro_rules | `(tactic| walk_at "alld") => `(tactic| first | exact allDa0 | exact allDa1 | exact allDa2 | exact allDa3 | exact allDa4 | exact allDa5 | rfl)
local macro_rules | `(tactic| walk_at "put") => `(tactic| (simp (config := { decide := true }) only [putS, if_true, if_false]; try rfl))
local macro_rules | `(tactic| walk_at "pl") => `(tactic| first | rfl | assumption | exact pls_map (fun _ => rfl) | exact pl_lm (fun _ => rfl) | exact pl_tm (fun _ => rfl))
local macro_rules | `(tactic| walk_at "size") => `(tactic| first | exact (by decide : _ ≤ sizeLine) | (simp [sizeLine_eq]; done) | (simp [sizeLine_eq]; omega))
local macro_rules | `(tactic| walk_at "d1") => `(tactic| first
  | with_reducible refine s_seq ?_ | with_reducible refine s_asg ?_ | ((with_reducible refine' s_var ?hv ?_ ?kn); (case hv => exact rfl); (case kn => trivial)) | with_reducible refine s_c ?_ | with_reducible refine s_r ?_
  | ((with_reducible refine' s_name ?hv ?_); (case hv => first | (simp only [List.set]; rfl) | (simp only [wipeD, List.set]; rfl)))
  | with_reducible refine s_b ?_ | with_reducible refine s_u ?_ | with_reducible refine s_t ?_ | with_reducible refine s_isB ?_ | with_reducible refine s_cons ?_ | with_reducible refine s_nil ?_
  | with_reducible refine s_p2 ?_ | with_reducible refine s_p1 ?_ | with_reducible refine s_add_i ?_ | ((with_reducible refine' s_I ?hc ?_); (case hc => first | trivial | (show (0 : Int) < _; omega) | (unfold CMul; omega) | (unfold CPow; decide) | (unfold CDiv; omega))) | with_reducible refine s_1I ?_
  | with_reducible refine s_eq_i ?_ | with_reducible refine s_eq_s ?_ | with_reducible refine s_eq_b ?_ | with_reducible refine s_ne_i ?_ | with_reducible refine s_ne_s ?_ | with_reducible refine s_ne_b ?_ | with_reducible refine s_isN ?_ | with_reducible refine s_notN ?_
  | with_reducible refine s_call ?_ | with_reducible refine s_make ?_ | with_reducible refine s_fld ?_ | with_reducible refine s_prop ?_ | with_reducible refine s_meth ?_ | with_reducible refine s_ret ?_ | with_reducible refine s_retN ?_ | with_reducible refine s_drop ?_ | with_reducible refine s_ifS ?_ | with_reducible refine s_next ?_
  | with_reducible refine s_and ?_ | with_reducible refine s_or ?_ | with_reducible refine s_not ?_ | with_reducible refine s_andV ?_ | with_reducible refine s_orV ?_ | with_reducible refine s_notV ?_ | with_reducible refine s_if ?_ | with_reducible refine s_chain ?_
  | ((with_reducible refine' s_mkT ?he ?hz ?_); (case he => first | exact mkT2 | exact mkT1 | exact mkT3 | exact mkT4 | exact mkT0 | rfl); (case hz => walk_at "size")) | ((with_reducible refine' s_mkL ?he ?hz ?_); (case he => walk_at "alld"); (case hz => walk_at "size"))
  | with_reducible refine s_partI ?_ | with_reducible refine s_slT ?_ | ((with_reducible refine' s_sfldV ?kn ?_); (case kn => trivial)) | ((with_reducible refine' s_lenI ?hi ?_); (case hi => walk_at "itm")) | with_reducible refine s_lenS ?_
  | ((with_reducible refine' s_fldD ?he ?fn ?_); (case he => rfl); (case fn => assumption)) | ((with_reducible refine' s_fldR ?hx ?he ?fn ?kn ?_); (case hx => walk_at "ext"); (case he => rfl); (case fn => assumption); (case kn => trivial))
  | ((with_reducible refine' s_sfldR ?hr ?he ?fn ?hf ?_); (case hr => walk_at "rep"); (case he => walk_at "put"); (case fn => assumption); (case hf => simp)) | ((with_reducible refine' s_add_t ?hz ?_); (case hz => walk_at "size")) | ((with_reducible refine' s_add_l ?hz ?_); (case hz => walk_at "size"))
  | ((with_reducible refine' s_parK ?he ?hl ?_); (case he => first | (simp only [List.zip_cons_cons, List.zip_nil_right, List.zip_nil_left, List.foldl_cons, List.foldl_nil, List.set_cons_succ, List.set_cons_zero]; rfl) | rfl); (case hl => rfl)) | ((with_reducible refine' s_raiseK ?he ?hl ?_); (case he => walk_at "alld"); (case hl => rfl)) | ((with_reducible refine' s_gtup ?hi ?hn ?_); (case hi => first | exact its2_2 | exact its2_3 | exact its2_4 | exact its2_1 | exact .tup _ | exact .da _); (case hn => rfl)) | with_reducible refine s_gcons ?_ | with_reducible refine s_gnil ?_
  | with_reducible refine s_for ?_ | with_reducible refine s_it ?_ | with_reducible refine s_rng1 ?_ | with_reducible refine s_rng2 ?_ | with_reducible refine s_enT ?_ | with_reducible refine s_enL ?_ | with_reducible refine s_enLK ?_ | with_reducible refine s_zip ?_ | with_reducible refine s_zipL ?_ | with_reducible refine s_lc ?_ | with_reducible refine s_yes ?_
  | with_reducible refine s_faug ?_ | with_reducible refine s_int ?_ | with_reducible refine s_intB ?_ | with_reducible refine s_n1 ?_ | with_reducible refine s_n2 ?_ | with_reducible refine s_star1 ?_ | with_reducible refine s_dictZip ?_ | with_reducible refine s_items ?_ | ((with_reducible refine' s_star1K ?hi ?_); (case hi => walk_at "itm")) | ((with_reducible refine' s_augI ?he ?_); (case he => rfl)) | ((with_reducible refine' s_augV ?hc ?he ?_); (case hc => (unfold CMul; omega)); (case he => first | (simp only [List.set_cons_succ, List.set_cons_zero]; rfl) | rfl)) | ((with_reducible refine' s_aug0 ?he ?_); (case he => rfl)) | ((with_reducible refine' s_aug0V ?he ?_); (case he => first | (simp only [List.set_cons_succ, List.set_cons_zero]; rfl) | rfl)) | with_reducible refine s_tupOfT ?_
  | ((with_reducible refine' s_ix ?him ?hat ?kn ?_); (case him => walk_at "itm"); (case hat => first | exact atI_mm (by assumption) | exact atI_c0 | exact atI_c1 | exact atI_c2 | exact atI_c3 | exact atI_c4); (case kn => trivial)) | ((with_reducible refine' s_bmK ?hi ?_); (case hi => first | exact .da _ | exact .raw (by walk_at "ext"))) | ((with_reducible refine' s_bmK0 ?hi ?_); (case hi => first | exact .da _ | exact .raw (by walk_at "ext")))
  | ((with_reducible refine' s_app ?hr ?hz ?_); (case hr => walk_at "rep"); (case hz => walk_at "size")) | ((with_reducible refine' s_itK ?hw ?_); (case hw => walk_at "wk")) | with_reducible refine s_propD ?_ | ((with_reducible refine' s_propR ?hx ?_); (case hx => walk_at "ext"))
  | ((with_reducible refine' s_methD ?hn ?_); (case hn => (simp (config := { decide := true }) only [List.map, List.mem_cons, List.not_mem_nil, or_false, not_or, not_false_eq_true, and_self])))
  | ((with_reducible refine' s_methR ?hx ?hn ?_); (case hx => walk_at "ext"); (case hn => (simp (config := { decide := true }) only [List.map, List.mem_cons, List.not_mem_nil, or_false, not_or, not_false_eq_true, and_self])))
  | ((with_reducible refine' s_enTK ?hi ?_); (case hi => first | exact .da _ | exact .btup _ | exact .tup _)) | ((with_reducible refine' s_zipT ?hi ?hj ?_); (case hi => first | exact .da _ | exact .btup _ | exact .tup _); (case hj => first | exact .da _ | exact .btup _ | exact .tup _))
  | ((with_reducible refine' s_tupOfL ?hs ?_); (case hs => walk_at "see")) | ((with_reducible refine' s_tupNew ?hs ?_); (case hs => walk_at "see")) | ((with_reducible refine' s_slL ?hs ?_); (case hs => walk_at "see"))
  | ((with_reducible refine' s_notIn_bt ?h1 ?h2 ?_); (case h1 => walk_at "pl"); (case h2 => walk_at "pl")) | ((with_reducible refine' s_in_bt ?h1 ?h2 ?_); (case h1 => walk_at "pl"); (case h2 => walk_at "pl")) | ((with_reducible refine' s_notIn_t ?h1 ?h2 ?_); (case h1 => walk_at "pl"); (case h2 => walk_at "pl")) | ((with_reducible refine' s_in_t ?h1 ?h2 ?_); (case h1 => walk_at "pl"); (case h2 => walk_at "pl")) | ((with_reducible refine' s_notIn_l ?h1 ?h2 ?_); (case h1 => walk_at "pl"); (case h2 => walk_at "pl")) | ((with_reducible refine' s_in_l ?h1 ?h2 ?_); (case h1 => walk_at "pl"); (case h2 => walk_at "pl"))
  | ((with_reducible refine' s_nilEq ?hi ?_); (case hi => first | exact .lst _ | exact .raw (by walk_at "ext"))) | ((with_reducible refine' s_popE ?hr ?_); (case hr => walk_at "rep"))
  | with_reducible refine s_setL ?_ | with_reducible refine s_setL1 ?_ | with_reducible refine s_setL2 ?_ | ((with_reducible refine' s_addR ?h1 ?h2 ?hz ?_); (case h1 => walk_at "see"); (case h2 => walk_at "see"); (case hz => walk_at "size")) | with_reducible refine s_m1 ?_ | with_reducible refine s_m1K ?_ | with_reducible refine s_m1Q ?_ | with_reducible refine s_lcR ?_ | with_reducible refine s_tupIx ?_ | with_reducible refine s_lenOD ?_ | ((with_reducible refine' s_lenOR ?hx ?_); (case hx => walk_at "ext")) | with_reducible refine s_raise0 ?_ | with_reducible refine s_raise ?_ | with_reducible refine s_tup ?_ | with_reducible refine s_lst ?_ | with_reducible refine s_lstR ?_ | with_reducible refine s_cb ?_ | with_reducible refine s_sl ?_ | with_reducible refine s_noP ?_ | with_reducible refine s_part ?_ | with_reducible refine s_bm ?_ | with_reducible refine s_bm0 ?_ | with_reducible refine s_sfld ?_ | with_reducible refine s_par ?_)
local macro_rules | `(tactic| walk_at "side") => `(tactic| first | assumption | omega | trivial | (decide; done))
local macro_rules | `(tactic| walk_at "wit") => `(tactic| ((repeat apply Exists.intro); (refine' And.intro (rfl : @Eq (List Sl) _ _) ?_); (first | (refine' And.intro (rfl : @Eq (List (Rs _)) _ _) ?_) | (fail_if_success (refine' And.intro (?_ : @Eq (List (Rs _)) _ _) ?_))); (repeat refine' And.intro (by walk_at "side") ?_)))
local macro_rules | `(tactic| walk_at "ask") => `(tactic| first | ((with_reducible refine' s_ask0 ?kk); (case' kk => walk_at "wit")) | ((with_reducible refine' s_ask ?gg ?kk); (case' kk => walk_at "wit"); (case' gg => walk_at "gets")))
local macro_rules | `(tactic| walk_at "d") => `(tactic| repeat walk_at "d1")
local macro_rules | `(tactic| walk_at "in") => `(tactic| simp only [startD, List.length_cons, List.length_nil, Nat.zero_add, Nat.reduceAdd, Nat.reduceSub, List.replicate_succ, List.replicate_zero, List.cons_append, List.nil_append])
local macro_rules | `(tactic| walk_at "yes") => `(tactic| refine if_T (by first | rfl | exact decide_eq_true (by first | assumption | omega) | assumption) ?_)
local macro_rules | `(tactic| walk_at "no") => `(tactic| refine if_F (by first | rfl | exact decide_eq_false (by first | assumption | omega) | assumption) ?_)
local macro_rules | `(tactic| walk_at "nyes") => `(tactic| refine if_T (by first | rfl | (rw [decide_eq_false (by first | assumption | omega)]; rfl)) ?_)
local macro_rules | `(tactic| walk_at "nno") => `(tactic| refine if_F (by first | rfl | (rw [decide_eq_true (by first | assumption | omega)]; rfl)) ?_)
local macro_rules | `(tactic| walk_at "dec") => `(tactic| first | rfl | assumption | (simp (config := { failIfUnchanged := false }) only [*, decide_true, decide_false, decide_eq_true_eq, decide_eq_false_iff_not, Bool.not_true, Bool.not_false, Bool.and_true, Bool.and_false, Bool.true_and, Bool.false_and, Bool.or_true, Bool.or_false, Bool.true_or, Bool.false_or, not_false_eq_true, Bool.not_eq_true']; done))
local macro_rules | `(tactic| walk_at "di") => `(tactic| repeat first | walk_at "d1" | ((with_reducible refine' if_T ?hc ?_); (case hc => walk_at "dec")) | ((with_reducible refine' if_F ?hc ?_); (case hc => walk_at "dec")))
local macro_rules | `(tactic| walk_at "wipe") => `(tactic| simp only [List.map_cons, List.map_nil, wipeD, List.set_cons_zero, List.set_cons_succ])
local macro_rules | `(tactic| walk_at "d2") => `(tactic| first
  | ((with_reducible refine' s_gunl ?hi ?hn ?_); (case hi => first | exact nl5 | exact nl4 | exact nl3 | exact nl2 | exact .lst _ | exact .raw (by walk_at "ext")); (case hn => rfl)) | with_reducible refine s_gv ?_ | with_reducible refine s_meth0 ?_
  | ((with_reducible refine' s_meth0D ?hn ?_); (case hn => (simp (config := { decide := true }) only [List.map, List.mem_cons, List.not_mem_nil, or_false, not_or, not_false_eq_true, and_self])))
  | ((with_reducible refine' s_meth0R ?hx ?hn ?_); (case hx => walk_at "ext"); (case hn => (simp (config := { decide := true }) only [List.map, List.mem_cons, List.not_mem_nil, or_false, not_or, not_false_eq_true, and_self]))))
local macro_rules | `(tactic| walk_at "d") => `(tactic| repeat first | walk_at "d1" | walk_at "d2")
local macro_rules | `(tactic| walk_at "wit1") => `(tactic| ((repeat apply Exists.intro); (refine' And.intro (rfl : @Eq (List Sl) _ _) ?_); (first | (refine' And.intro (rfl : @Eq (List (Rs _)) _ _) ?_) | (fail_if_success (refine' And.intro (?_ : @Eq (List (Rs _)) _ _) ?_)))))
local macro_rules | `(tactic| walk_at "sides") => `(tactic| (repeat refine' And.intro (by walk_at "side") ?_))
local macro_rules | `(tactic| walk_at "ask") => `(tactic| first | ((with_reducible refine' s_ask0 ?kk); (case' kk => walk_at "wit")) | ((with_reducible refine' s_ask ?gg ?kk); (case' kk => walk_at "wit1"); (case' gg => walk_at "gets"); walk_at "sides"))
section
variable {P : Program} {w : World} {K : PySem.W.Frag}
variable {mg : Str → Option Value} {base : Heap}
/-! ### the draw state of a script, of the laws k01 .. k10 -/
structure Dw where
  ns : List Int
  p : Int
  m : Int
  r : Int
def DwOk (s : Dw) : Prop := s.ns.length ≤ 63 ∧ 0 ≤ s.p ∧ (0 ≤ s.m ∧ s.m < 2147483647)
abbrev dwM (d : Addr) (s : Dw) : List (Rs K) := [lstR d [.da (.scr s.ns), .da (.int s.p), .da (.int s.m), .da (.int s.r)]]
/-- the source at d -/
def srcR (d : Addr) : Rs K := boxR DwOk (dwM d)
def D_law_start (M : Md K mg) : SpD K := fun as rs xc q => ∃ ns, as = [.da (.scr ns)] ∧ rs = [] ∧ ns.length ≤ 63 ∧ ∀ d, q (.raw (.ref d)) [srcR d]
theorem ok_law_start (M : Md K mg) (G : Gd K mg "_law_start" s_law_start)  : DefR P w K mg base "_law_start" 2 (spD (D_law_start M)) := by
  refine def_mk G fun f fd F => fnr_mk (dfn_ok (k := 1) F sc_law_start (by intro as rs xc q; walk_at "ar") (fun cdv A outer s H E hr => by
    have nd := sc_law_start.nd
    exact (dss_cons (ds_set (i := 1) nd rfl (by first | exact Or.inl rfl | exact Or.inr rfl) (d_int pe_int))
    (dss_cons (ds_for po_def rfl (di_seq (d_var (i := 0) (pv 0))) (pg_name (i := 2) nd rfl (by first | exact Or.inl rfl | exact Or.inr rfl)) (tg_name 2) (dss_one (ds_set (i := 1) nd rfl (by first | exact Or.inl rfl | exact Or.inr rfl) (d_op op_mod (pu2 (pu_I fun _ _ _ _ => .int _)) (d_op (op_addK K) (pu2 pu_add) (d_op (op_addK K) (pu2 pu_add) (d_op op_mul (pu2 (pu_I fun _ _ _ _ => .int _)) (d_var (i := 1) (pv 1)) (d_int pe_int)) (d_var (i := 2) (pv 2))) (d_int pe_int)) (d_int pe_int)))))
    (dss_one (ds_ret (d_lstR (da_cons (d_var (i := 0) (pv 0)) (da_cons (d_int pe_int) (da_cons (d_var (i := 1) (pv 1)) (da_cons (d_int pe_int) da_nil)))))))))) ?_) (F.bindsN (fun _ _ _ _ _ _ us hl => match us, hl with | [_], _ => rfl))
  rintro as rs xc q ⟨ns, rfl, rfl, hl, k⟩
  walk_at "in"
  walk_at "d"
  refine s_forK (fun i sl rs => ∃ y c, sl = [.da (.scr ns), .da (.int y), c] ∧ rs = [] ∧ 0 ≤ y ∧ y < 2147483647) ?_ ?_ ?_ ?_
  · exact gs_id ⟨_, _, rfl, rfl, by decide, by decide⟩
  · exact fun _ _ _ _ => trivial
  · rintro i x sl rs hx ⟨y, c, rfl, rfl, y0, y1⟩
    obtain ⟨u, hu, rfl⟩ := getm hx
    walk_at "d"
    exact gs_id ⟨_, _, rfl, rfl, Int.emod_nonneg _ (by decide), Int.emod_lt_of_pos _ (by decide)⟩
  · rintro sl rs ⟨y, c, rfl, rfl, y0, y1⟩
    refine gs_id ?_
    walk_at "d"
    refine s_mkR (by walk_at "size") fun d => ?_
    walk_at "d"
    exact gv_via (GhV.box (rs := []) (B := DwOk) (g := dwM d) (b := ⟨ns, 0, y, 0⟩) ⟨hl, (by show (0 : Int) ≤ 0; decide), y0, y1⟩) (gv_id (k d))
def D_law_drawn0 (M : Md K mg) : SpD K := fun as rs xc q => ∃ d s n, as = [.raw (.ref d), .da (.int n)] ∧ rs = dwM d s ∧ DwOk s ∧ 0 < n ∧ n < 2 ^ 64 ∧ ∀ x s', 0 ≤ x → x < n → DwOk s' → q (.da (.int x)) (dwM d s')
def D_law_drawn (M : Md K mg) : SpD K := fun as rs xc q => ∃ d n, as = [.raw (.ref d), .da (.int n)] ∧ rs = [srcR d] ∧ 0 < n ∧ n < 2 ^ 64 ∧ ∀ r, 0 ≤ r → r < n → q (.da (.int r)) [srcR d]
theorem drawn0 (M : Md K mg) (G : Gd K mg "_law_drawn" s_law_drawn) : DefR P w K mg base "_law_drawn" 2 (spD (D_law_drawn0 M)) := by
  refine def_mk G fun f fd F => fnr_mk (dfn_ok (k := 1) F sc_law_drawn (by intro as rs xc q; walk_at "ar") (fun cdv A outer s H E hr => by
    have nd := sc_law_drawn.nd
    exact (dss_cons (ds_if (dt_cmp op_gt (pu2 (pu_I0 fun _ _ _ _ => .bl _)) (d_ix (d_var (i := 0) (pv 0)) (d_int pe_int)) (d_int pe_int)) (dss_cons (ds_set (i := 2) nd rfl (by first | exact Or.inl rfl | exact Or.inr rfl) (d_op op_mod (pu2 (pu_I fun _ _ _ _ => .int _)) (d_ix (d_var (i := 0) (pv 0)) (d_int pe_int)) (d_var (i := 1) (pv 1))))
    (dss_cons (ds_setL (ps_asg (d_op op_fdivW (pu2 (pu_I fun _ _ _ _ => .int _)) (d_ix (d_var (i := 0) (pv 0)) (d_int pe_int)) (d_var (i := 1) (pv 1))) (pg_sub (d_var (i := 0) (pv 0)) (d_int pe_int) set_list))) (dss_one (ds_ret (d_var (i := 2) (pv 2)))))) dss_nil)
    (dss_cons (ds_setL (ps_asg (d_op (op_addK K) (pu2 pu_add) (d_ix (d_var (i := 0) (pv 0)) (d_int pe_int)) (d_int pe_int)) (pg_sub (d_var (i := 0) (pv 0)) (d_int pe_int) set_list)))
    (dss_cons (ds_if (dt_cmp op_le (pu2 (pu_I0 fun _ _ _ _ => .bl _)) (d_ix (d_var (i := 0) (pv 0)) (d_int pe_int)) (d_cb1 (pe_len K M.b (d_ix (d_var (i := 0) (pv 0)) (d_int pe_int))) act_len)) (dss_cons (ds_set (i := 3) nd rfl (by first | exact Or.inl rfl | exact Or.inr rfl) (d_ix (d_ix (d_var (i := 0) (pv 0)) (d_int pe_int)) (d_op op_sub (pu2 (pu_I0 fun _ _ _ _ => .int _)) (d_ix (d_var (i := 0) (pv 0)) (d_int pe_int)) (d_int pe_int))))
    (dss_cons (ds_setL (ps_asg (d_if (dt_cmp op_ge (pu2 (pu_I0 fun _ _ _ _ => .bl _)) (d_var (i := 3) (pv 3)) (d_op op_pow (pu2 (pu_I fun _ _ _ _ => .int _)) (d_int pe_int) (d_int pe_int))) (d_op op_fdivW (pu2 (pu_I fun _ _ _ _ => .int _)) (d_var (i := 3) (pv 3)) (d_var (i := 1) (pv 1))) (d_int pe_int)) (pg_sub (d_var (i := 0) (pv 0)) (d_int pe_int) set_list)))
    (dss_one (ds_ret (d_op op_mod (pu2 (pu_I fun _ _ _ _ => .int _)) (d_var (i := 3) (pv 3)) (d_var (i := 1) (pv 1))))))) dss_nil)
    (dss_cons (ds_setL (ps_asg (d_op op_mod (pu2 (pu_I fun _ _ _ _ => .int _)) (d_op (op_addK K) (pu2 pu_add) (d_op op_mul (pu2 (pu_I fun _ _ _ _ => .int _)) (d_ix (d_var (i := 0) (pv 0)) (d_int pe_int)) (d_int pe_int)) (d_int pe_int)) (d_int pe_int)) (pg_sub (d_var (i := 0) (pv 0)) (d_int pe_int) set_list)))
    (dss_one (ds_ret (d_op op_mod (pu2 (pu_I fun _ _ _ _ => .int _)) (d_op op_fdiv (pu2 (pu_I fun _ _ _ _ => .int _)) (d_ix (d_var (i := 0) (pv 0)) (d_int pe_int)) (d_int pe_int)) (d_var (i := 1) (pv 1)))))))))) ?_) (F.bindsN (fun _ _ _ _ _ _ us hl => match us, hl with | [_, _], _ => rfl))
  rintro as rs xc q ⟨d, ⟨ns, p, m, r⟩, n, rfl, rfl, ⟨hl, p0, m0, m1⟩, n0, n1, k⟩
  dsimp only at hl p0 m0 m1
  walk_at "in"
  walk_at "d"
  refine if_D (fun e => ?_) (fun e => ?_)
  · walk_at "d"
    refine' s_setL3 3 ?he ?hr ?_
    case hr => walk_at "rep"
    case he => exact ixN_i (by decide) (by simp)
    walk_at "d"
    exact gv_gets (by walk_at "gets") (k _ ⟨ns, p, m, r / n⟩ (Int.emod_nonneg _ (by omega)) (Int.emod_lt_of_pos _ n0) ⟨hl, p0, m0, m1⟩)
  · walk_at "d"
    refine' s_setL3 1 ?he ?hr ?_
    case hr => walk_at "rep"
    case he => exact ixN_i (by decide) (by simp)
    walk_at "d"
    refine if_D (fun e1 => ?_) (fun e1 => ?_)
    · have hi : p.toNat < ns.length := by simp at e1; omega
      walk_at "d"
      refine s_ix (w := .da (.int ns[p.toNat])) (.scr _) (by rw [show p + 1 - 1 = ((p.toNat : Nat) : Int) by omega]; exact atI_nat (by simp [hi])) trivial ?_
      generalize ns[p.toNat] = cell
      walk_at "d"
      refine if_D (fun e2 => ?_) (fun e2 => ?_)
      · walk_at "d"
        refine' s_setL3 3 ?he3 ?hr3 ?_
        case hr3 => walk_at "rep"
        case he3 => exact ixN_i (by decide) (by simp)
        walk_at "d"
        exact gv_gets (by walk_at "gets") (k _ ⟨ns, p + 1, m, cell / n⟩ (Int.emod_nonneg _ (by omega)) (Int.emod_lt_of_pos _ n0) ⟨hl, show (0 : Int) ≤ p + 1 by omega, m0, m1⟩)
      · walk_at "d"
        refine' s_setL3 3 ?he4 ?hr4 ?_
        case hr4 => walk_at "rep"
        case he4 => exact ixN_i (by decide) (by simp)
        walk_at "d"
        exact gv_gets (by walk_at "gets") (k _ ⟨ns, p + 1, m, 0⟩ (Int.emod_nonneg _ (by omega)) (Int.emod_lt_of_pos _ n0) ⟨hl, show (0 : Int) ≤ p + 1 by omega, m0, m1⟩)
    · walk_at "d"
      refine' s_setL3 2 ?he5 ?hr5 ?_
      case hr5 => walk_at "rep"
      case he5 => exact ixN_i (by decide) (by simp)
      walk_at "d"
      exact gv_gets (by walk_at "gets") (k _ ⟨ns, p + 1, (m * 48271 + 11) % 2147483647, r⟩ (Int.emod_nonneg _ (by omega)) (Int.emod_lt_of_pos _ n0) ⟨hl, show (0 : Int) ≤ p + 1 by omega, Int.emod_nonneg _ (by decide), Int.emod_lt_of_pos _ (by decide)⟩)
theorem ok_law_drawn (M : Md K mg) (G : Gd K mg "_law_drawn" s_law_drawn) : DefR P w K mg base "_law_drawn" 2 (spD (D_law_drawn M)) :=
  (drawn0 M G).imp <| spD_box Dw fun as rs xc q ⟨d, n, e1, e2, n0, n1, k⟩ => ⟨_, _, [], e2, fun s hs => ⟨d, s, n, e1, rfl, hs, n0, n1, fun x s' x0 x1 hs' => gv_via (GhV.box (rs := []) (B := DwOk) (g := dwM d) (b := s') hs') (gv_id (k x x0 x1))⟩⟩

end
section
variable {P : Program} {w : World} {K : PySem.W.Frag}
variable {mg : Str → Option Value} {base : Heap}
/-! ### parts of farms -/
theorem FOk.pre {fs gs : List (Str × Int)} (h : FOk (fs ++ gs)) (h1 : 1 ≤ fs.length) : FOk fs := by
  refine ⟨h1, by have := h.six; rw [List.length_append] at this; omega, ?_, fun f hf => h.nm f (List.mem_append_left _ hf), fun f hf => h.lo f (List.mem_append_left _ hf), ?_⟩
  · have := h.nd
    rw [List.map_append] at this
    exact (List.nodup_append.mp this).1
  · exact Int.le_trans (prodL_sub (gs := gs) fun f hf => (h.lo f hf).1).1 h.pr
theorem FOk.one_ {fs : List (Str × Int)} (h : FOk fs) {f : Str × Int} (hf : f ∈ fs) : FOk [f] :=
  ⟨by simp, by simp, by simp, fun g hg => by rw [List.mem_singleton.mp hg]; exact h.nm f hf, fun g hg => by rw [List.mem_singleton.mp hg]; exact h.lo f hf, by have := (h.lo f hf).2; simp [prodL]; omega⟩

end
section
variable {P : Program} {w : World} {K : PySem.W.Frag}
variable {mg : Str → Option Value} {base : Heap}
/-! ### shares, plain -/
def shrL (fs : List (Str × Int)) : Int × Int := fs.foldl (fun p f => (p.1 * f.2 + p.2, p.2 * f.2)) (0, 1)
theorem shrL_snoc (fs : List (Str × Int)) (f : Str × Int) : shrL (fs ++ [f]) = ((shrL fs).1 * f.2 + (shrL fs).2, (shrL fs).2 * f.2) := by simp [shrL]
def WOk (P : Int) : List (Str × Int) → List Int → Prop
  | [], [] => True
  | f :: fs, w :: ws => (w * f.2 = P ∧ 0 ≤ w) ∧ WOk P fs ws
  | _, _ => False
theorem WOk.mul {P l : Int} (l0 : 0 ≤ l) : ∀ {fs : List (Str × Int)} {ws : List Int}, WOk P fs ws → WOk (P * l) fs (ws.map (· * l))
  | [], [], _ => trivial
  | f :: fs, w :: ws, ⟨⟨h1, h2⟩, h⟩ => ⟨⟨by rw [← h1, Int.mul_assoc, Int.mul_comm l, Int.mul_assoc], Int.mul_nonneg h2 l0⟩, h.mul l0⟩
  | [], _ :: _, h => h.elim
  | _ :: _, [], h => h.elim
theorem WOk.snoc {P w : Int} {f : Str × Int} (e : w * f.2 = P) (w0 : 0 ≤ w) : ∀ {fs : List (Str × Int)} {ws : List Int}, WOk P fs ws → WOk P (fs ++ [f]) (ws ++ [w])
  | [], [], _ => ⟨⟨e, w0⟩, trivial⟩
  | _ :: _, _ :: _, ⟨h1, h⟩ => ⟨h1, h.snoc e w0⟩
  | [], _ :: _, h => h.elim
  | _ :: _, [], h => h.elim
def sumL : List Int → Int
  | [] => 0
  | w :: ws => w + sumL ws
theorem sumL_snoc (w : Int) : ∀ ws : List Int, sumL (ws ++ [w]) = sumL ws + w
  | [] => by simp [sumL]
  | x :: ws => by rw [List.cons_append, sumL, sumL, sumL_snoc w ws, Int.add_assoc]
theorem sumL_mul (l : Int) : ∀ ws : List Int, sumL (ws.map (· * l)) = sumL ws * l
  | [] => by simp [sumL]
  | x :: ws => by rw [List.map_cons, sumL, sumL, sumL_mul l ws, Int.add_mul]
theorem shr_ok {fs : List (Str × Int)} (lo : ∀ f ∈ fs, 1 ≤ f.2) : 1 ≤ (shrL fs).2 ∧ 0 ≤ (shrL fs).1 ∧ ∃ ws, WOk (shrL fs).2 fs ws ∧ sumL ws = (shrL fs).1 := by
  have go : ∀ n : Nat, ∀ fs : List (Str × Int), fs.length = n → (∀ f ∈ fs, 1 ≤ f.2) → 1 ≤ (shrL fs).2 ∧ 0 ≤ (shrL fs).1 ∧ ∃ ws, WOk (shrL fs).2 fs ws ∧ sumL ws = (shrL fs).1 := by
    intro n
    induction n with
    | zero => intro fs h lo; rw [List.length_eq_zero_iff.mp h]; exact ⟨by decide, by decide, [], trivial, rfl⟩
    | succ n ih =>
      intro fs h lo
      rcases List.eq_nil_or_concat fs with rfl | ⟨gs, f, rfl⟩
      · cases h
      · rw [List.concat_eq_append] at h lo ⊢
        obtain ⟨h1, h2, ws, h3, h4⟩ := ih gs (by simpa using h) fun g hg => lo g (List.mem_append_left _ hg)
        have l1 := lo f (List.mem_append_right _ List.mem_cons_self)
        rw [shrL_snoc]
        have m1 := Int.mul_nonneg h2 (show 0 ≤ f.2 by omega)
        have m2 : 1 * 1 ≤ (shrL gs).2 * f.2 := Int.mul_le_mul h1 l1 (by decide) (by omega)
        refine ⟨by show 1 ≤ (shrL gs).2 * f.2; omega, by show 0 ≤ (shrL gs).1 * f.2 + (shrL gs).2; omega, ws.map (· * f.2) ++ [(shrL gs).2], WOk.snoc rfl (by omega) (h3.mul (by omega)), ?_⟩
        rw [sumL_snoc, sumL_mul, h4]
  exact go _ fs rfl lo

end
end HC
namespace HC
open PyProof.Rows PySem L2 PySem.Spec
local macro_rules | `(tactic| walk_at "ext") => `(tactic| first | exact .here | exact .there .here | exact .there (.there .here) | exact .there (.there (.there .here)) | exact .there (.there (.there (.there .here))) | exact .there (.there (.there (.there (.there .here)))))
local macro_rules | `(tactic| walk_at "gets") => `(tactic| first | exact Gets.nil | ((refine' Gets.cons ?he ?hr); (case he => walk_at "ext"); (case hr => walk_at "gets")))
local macro_rules | `(tactic| walk_at "ar") => `(tactic| first | exact ar_eq rfl | (refine ar_ex fun _ => ?_; walk_at "ar"))
local macro_rules | `(tactic| walk_at "rep") => `(tactic| first | exact .here | exact .there .here | exact .there (.there .here) | exact .there (.there (.there .here)) | exact .there (.there (.there (.there .here))))
local macro_rules | `(tactic| walk_at "see") => `(tactic| first | exact .da _ | exact .lst (by walk_at "ext"))
local macro_rules | `(tactic| walk_at "itm") => `(tactic| first | exact .tup _ | exact .tupS _ | exact .lst _ | exact .scr _ | exact .btup _ | exact .raw (by walk_at "ext"))
local macro_rules | `(tactic| walk_at "wk") => `(tactic| first | exact .tup _ | exact .tupS _ | exact .lst _ | exact .scr _ | exact .btup _ | exact .str _ | exact .raw (by walk_at "ext"))
local macro_rules | `(tactic| walk_at "alld") => `(tactic| first | exact allDa0 | exact allDa1 | exact allDa2 | exact allDa3 | exact allDa4 | exact allDa5 | rfl)
local macro_rules | `(tactic| walk_at "put") => `(tactic| (simp (config := { decide := true }) only [putS, if_true, if_false]; try rfl))
local macro_rules | `(tactic| walk_at "pl") => `(tactic| first | rfl | assumption | exact pls_map (fun _ => rfl) | exact pl_lm (fun _ => rfl) | exact pl_tm (fun _ => rfl))
local macro_rules | `(tactic| walk_at "size") => `(tactic| first | exact (by decide : _ ≤ sizeLine) | (simp [sizeLine_eq]; done) | (simp [sizeLine_eq]; omega))
local macro_rules | `(tactic| walk_at "d1") => `(tactic| first
  | with_reducible refine s_seq ?_ | with_reducible refine s_asg ?_ | ((with_reducible refine' s_var ?hv ?_ ?kn); (case hv => exact rfl); (case kn => trivial)) | with_reducible refine s_c ?_ | with_reducible refine s_r ?_
  | ((with_reducible refine' s_name ?hv ?_); (case hv => first | (simp only [List.set]; rfl) | (simp only [wipeD, List.set]; rfl)))
  | with_reducible refine s_b ?_ | with_reducible refine s_u ?_ | with_reducible refine s_t ?_ | with_reducible refine s_isB ?_ | with_reducible refine s_cons ?_ | with_reducible refine s_nil ?_
  | with_reducible refine s_p2 ?_ | with_reducible refine s_p1 ?_ | with_reducible refine s_add_i ?_ | ((with_reducible refine' s_I ?hc ?_); (case hc => first | trivial | (show (0 : Int) < _; omega) | (unfold CMul; omega) | (unfold CPow; decide) | (unfold CDiv; omega))) | with_reducible refine s_1I ?_
  | with_reducible refine s_eq_i ?_ | with_reducible refine s_eq_s ?_ | with_reducible refine s_eq_b ?_ | with_reducible refine s_ne_i ?_ | with_reducible refine s_ne_s ?_ | with_reducible refine s_ne_b ?_ | with_reducible refine s_isN ?_ | with_reducible refine s_notN ?_
  | with_reducible refine s_call ?_ | with_reducible refine s_make ?_ | with_reducible refine s_fld ?_ | with_reducible refine s_prop ?_ | with_reducible refine s_meth ?_ | with_reducible refine s_ret ?_ | with_reducible refine s_retN ?_ | with_reducible refine s_drop ?_ | with_reducible refine s_ifS ?_ | with_reducible refine s_next ?_
  | with_reducible refine s_and ?_ | with_reducible refine s_or ?_ | with_reducible refine s_not ?_ | with_reducible refine s_andV ?_ | with_reducible refine s_orV ?_ | with_reducible refine s_notV ?_ | with_reducible refine s_if ?_ | with_reducible refine s_chain ?_
  | ((with_reducible refine' s_mkT ?he ?hz ?_); (case he => first | exact mkT2 | exact mkT1 | exact mkT3 | exact mkT4 | exact mkT0 | rfl); (case hz => walk_at "size")) | ((with_reducible refine' s_mkL ?he ?hz ?_); (case he => walk_at "alld"); (case hz => walk_at "size"))
  | with_reducible refine s_partI ?_ | with_reducible refine s_slT ?_ | ((with_reducible refine' s_sfldV ?kn ?_); (case kn => trivial)) | ((with_reducible refine' s_lenI ?hi ?_); (case hi => walk_at "itm")) | with_reducible refine s_lenS ?_
  | ((with_reducible refine' s_fldD ?he ?fn ?_); (case he => rfl); (case fn => assumption)) | ((with_reducible refine' s_fldR ?hx ?he ?fn ?kn ?_); (case hx => walk_at "ext"); (case he => rfl); (case fn => assumption); (case kn => trivial))
  | ((with_reducible refine' s_sfldR ?hr ?he ?fn ?hf ?_); (case hr => walk_at "rep"); (case he => walk_at "put"); (case fn => assumption); (case hf => simp)) | ((with_reducible refine' s_add_t ?hz ?_); (case hz => walk_at "size")) | ((with_reducible refine' s_add_l ?hz ?_); (case hz => walk_at "size"))
  | ((with_reducible refine' s_parK ?he ?hl ?_); (case he => first | (simp only [List.zip_cons_cons, List.zip_nil_right, List.zip_nil_left, List.foldl_cons, List.foldl_nil, List.set_cons_succ, List.set_cons_zero]; rfl) | rfl); (case hl => rfl)) | ((with_reducible refine' s_raiseK ?he ?hl ?_); (case he => walk_at "alld"); (case hl => rfl)) | ((with_reducible refine' s_gtup ?hi ?hn ?_); (case hi => first | exact its2_2 | exact its2_3 | exact its2_4 | exact its2_1 | exact .tup _ | exact .da _); (case hn => rfl)) | with_reducible refine s_gcons ?_ | with_reducible refine s_gnil ?_
  | with_reducible refine s_for ?_ | with_reducible refine s_it ?_ | with_reducible refine s_rng1 ?_ | with_reducible refine s_rng2 ?_ | with_reducible refine s_enT ?_ | with_reducible refine s_enL ?_ | with_reducible refine s_enLK ?_ | with_reducible refine s_zip ?_ | with_reducible refine s_zipL ?_ | with_reducible refine s_lc ?_ | with_reducible refine s_yes ?_
  | with_reducible refine s_faug ?_ | with_reducible refine s_int ?_ | with_reducible refine s_intB ?_ | with_reducible refine s_n1 ?_ | with_reducible refine s_n2 ?_ | with_reducible refine s_star1 ?_ | with_reducible refine s_dictZip ?_ | with_reducible refine s_items ?_ | ((with_reducible refine' s_star1K ?hi ?_); (case hi => walk_at "itm")) | ((with_reducible refine' s_augI ?he ?_); (case he => rfl)) | ((with_reducible refine' s_augV ?hc ?he ?_); (case hc => (unfold CMul; omega)); (case he => first | (simp only [List.set_cons_succ, List.set_cons_zero]; rfl) | rfl)) | ((with_reducible refine' s_aug0 ?he ?_); (case he => rfl)) | ((with_reducible refine' s_aug0V ?he ?_); (case he => first | (simp only [List.set_cons_succ, List.set_cons_zero]; rfl) | rfl)) | with_reducible refine s_tupOfT ?_
  | ((with_reducible refine' s_ix ?him ?hat ?kn ?_); (case him => walk_at "itm"); (case hat => first | exact atI_mm (by assumption) | exact atI_c0 | exact atI_c1 | exact atI_c2 | exact atI_c3 | exact atI_c4); (case kn => trivial)) | ((with_reducible refine' s_bmK ?hi ?_); (case hi => first | exact .da _ | exact .raw (by walk_at "ext"))) | ((with_reducible refine' s_bmK0 ?hi ?_); (case hi => first | exact .da _ | exact .raw (by walk_at "ext")))
  | ((with_reducible refine' s_app ?hr ?hz ?_); (case hr => walk_at "rep"); (case hz => walk_at "size")) | ((with_reducible refine' s_itK ?hw ?_); (case hw => walk_at "wk")) | with_reducible refine s_propD ?_ | ((with_reducible refine' s_propR ?hx ?_); (case hx => walk_at "ext"))
  | ((with_reducible refine' s_methD ?hn ?_); (case hn => (simp (config := { decide := true }) only [List.map, List.mem_cons, List.not_mem_nil, or_false, not_or, not_false_eq_true, and_self])))
  | ((with_reducible refine' s_methR ?hx ?hn ?_); (case hx => walk_at "ext"); (case hn => (simp (config := { decide := true }) only [List.map, List.mem_cons, List.not_mem_nil, or_false, not_or, not_false_eq_true, and_self])))
  | ((with_reducible refine' s_enTK ?hi ?_); (case hi => first | exact .da _ | exact .btup _ | exact .tup _)) | ((with_reducible refine' s_zipT ?hi ?hj ?_); (case hi => first | exact .da _ | exact .btup _ | exact .tup _); (case hj => first | exact .da _ | exact .btup _ | exact .tup _))
  | ((with_reducible refine' s_tupOfL ?hs ?_); (case hs => walk_at "see")) | ((with_reducible refine' s_tupNew ?hs ?_); (case hs => walk_at "see")) | ((with_reducible refine' s_slL ?hs ?_); (case hs => walk_at "see"))
  | ((with_reducible refine' s_notIn_bt ?h1 ?h2 ?_); (case h1 => walk_at "pl"); (case h2 => walk_at "pl")) | ((with_reducible refine' s_in_bt ?h1 ?h2 ?_); (case h1 => walk_at "pl"); (case h2 => walk_at "pl")) | ((with_reducible refine' s_notIn_t ?h1 ?h2 ?_); (case h1 => walk_at "pl"); (case h2 => walk_at "pl")) | ((with_reducible refine' s_in_t ?h1 ?h2 ?_); (case h1 => walk_at "pl"); (case h2 => walk_at "pl")) | ((with_reducible refine' s_notIn_l ?h1 ?h2 ?_); (case h1 => walk_at "pl"); (case h2 => walk_at "pl")) | ((with_reducible refine' s_in_l ?h1 ?h2 ?_); (case h1 => walk_at "pl"); (case h2 => walk_at "pl"))
  | ((with_reducible refine' s_nilEq ?hi ?_); (case hi => first | exact .lst _ | exact .raw (by walk_at "ext"))) | ((with_reducible refine' s_popE ?hr ?_); (case hr => walk_at "rep"))
  | with_reducible refine s_setL ?_ | with_reducible refine s_setL1 ?_ | with_reducible refine s_setL2 ?_ | ((with_reducible refine' s_addR ?h1 ?h2 ?hz ?_); (case h1 => walk_at "see"); (case h2 => walk_at "see"); (case hz => walk_at "size")) | with_reducible refine s_m1 ?_ | with_reducible refine s_m1K ?_ | with_reducible refine s_m1Q ?_ | with_reducible refine s_lcR ?_ | with_reducible refine s_tupIx ?_ | with_reducible refine s_lenOD ?_ | ((with_reducible refine' s_lenOR ?hx ?_); (case hx => walk_at "ext")) | with_reducible refine s_raise0 ?_ | with_reducible refine s_raise ?_ | with_reducible refine s_tup ?_ | with_reducible refine s_lst ?_ | with_reducible refine s_lstR ?_ | with_reducible refine s_cb ?_ | with_reducible refine s_sl ?_ | with_reducible refine s_noP ?_ | with_reducible refine s_part ?_ | with_reducible refine s_bm ?_ | with_reducible refine s_bm0 ?_ | with_reducible refine s_sfld ?_ | with_reducible refine s_par ?_)
local macro_rules | `(tactic| walk_at "side") => `(tactic| first | assumption | omega | trivial | (decide; done))
local macro_rules | `(tactic| walk_at "wit") => `(tactic| ((repeat apply Exists.intro); (refine' And.intro (rfl : @Eq (List Sl) _ _) ?_); (first | (refine' And.intro (rfl : @Eq (List (Rs _)) _ _) ?_) | (fail_if_success (refine' And.intro (?_ : @Eq (List (Rs _)) _ _) ?_))); (repeat refine' And.intro (by walk_at "side") ?_)))
local macro_rules | `(tactic| walk_at "ask") => `(tactic| first | ((with_reducible refine' s_ask0 ?kk); (case' kk => walk_at "wit")) | ((with_reducible refine' s_ask ?gg ?kk); (case' kk => walk_at "wit"); (case' gg => walk_at "gets")))
local macro_rules | `(tactic| walk_at "d") => `(tactic| repeat walk_at "d1")
local macro_rules | `(tactic| walk_at "in") => `(tactic| simp only [startD, List.length_cons, List.length_nil, Nat.zero_add, Nat.reduceAdd, Nat.reduceSub, List.replicate_succ, List.replicate_zero, List.cons_append, List.nil_append])
local macro_rules | `(tactic| walk_at "yes") => `(tactic| refine if_T (by first | rfl | exact decide_eq_true (by first | assumption | omega) | assumption) ?_)
local macro_rules | `(tactic| walk_at "no") => `(tactic| refine if_F (by first | rfl | exact decide_eq_false (by first | assumption | omega) | assumption) ?_)
local macro_rules | `(tactic| walk_at "nyes") => `(tactic| refine if_T (by first | rfl | (rw [decide_eq_false (by first | assumption | omega)]; rfl)) ?_)
local macro_rules | `(tactic| walk_at "nno") => `(tactic| refine if_F (by first | rfl | (rw [decide_eq_true (by first | assumption | omega)]; rfl)) ?_)
local macro_rules | `(tactic| walk_at "dec") => `(tactic| first | rfl | assumption | (simp (config := { failIfUnchanged := false }) only [*, decide_true, decide_false, decide_eq_true_eq, decide_eq_false_iff_not, Bool.not_true, Bool.not_false, Bool.and_true, Bool.and_false, Bool.true_and, Bool.false_and, Bool.or_true, Bool.or_false, Bool.true_or, Bool.false_or, not_false_eq_true, Bool.not_eq_true']; done))
local macro_rules | `(tactic| walk_at "di") => `(tactic| repeat first | walk_at "d1" | ((with_reducible refine' if_T ?hc ?_); (case hc => walk_at "dec")) | ((with_reducible refine' if_F ?hc ?_); (case hc => walk_at "dec")))
local macro_rules | `(tactic| walk_at "wipe") => `(tactic| simp only [List.map_cons, List.map_nil, wipeD, List.set_cons_zero, List.set_cons_succ])
local macro_rules | `(tactic| walk_at "d2") => `(tactic| first
  | ((with_reducible refine' s_gunl ?hi ?hn ?_); (case hi => first | exact nl5 | exact nl4 | exact nl3 | exact nl2 | exact .lst _ | exact .raw (by walk_at "ext")); (case hn => rfl)) | with_reducible refine s_gv ?_ | with_reducible refine s_meth0 ?_
  | ((with_reducible refine' s_meth0D ?hn ?_); (case hn => (simp (config := { decide := true }) only [List.map, List.mem_cons, List.not_mem_nil, or_false, not_or, not_false_eq_true, and_self])))
  | ((with_reducible refine' s_meth0R ?hx ?hn ?_); (case hx => walk_at "ext"); (case hn => (simp (config := { decide := true }) only [List.map, List.mem_cons, List.not_mem_nil, or_false, not_or, not_false_eq_true, and_self]))))
local macro_rules | `(tactic| walk_at "d") => `(tactic| repeat first | walk_at "d1" | walk_at "d2")
local macro_rules | `(tactic| walk_at "wit1") => `(tactic| ((repeat apply Exists.intro); (refine' And.intro (rfl : @Eq (List Sl) _ _) ?_); (first | (refine' And.intro (rfl : @Eq (List (Rs _)) _ _) ?_) | (fail_if_success (refine' And.intro (?_ : @Eq (List (Rs _)) _ _) ?_)))))
local macro_rules | `(tactic| walk_at "sides") => `(tactic| (repeat refine' And.intro (by walk_at "side") ?_))
local macro_rules | `(tactic| walk_at "ask") => `(tactic| first | ((with_reducible refine' s_ask0 ?kk); (case' kk => walk_at "wit")) | ((with_reducible refine' s_ask ?gg ?kk); (case' kk => walk_at "wit1"); (case' gg => walk_at "gets"); walk_at "sides"))
local macro_rules | `(tactic| walk_at "y1") => `(tactic| first
  | with_reducible refine y_seq ?_ | with_reducible refine y_pl ?_ | with_reducible refine y_next ?_ | with_reducible refine y_yld ?_ | with_reducible refine y_yldK ?_ | with_reducible refine y_if ?_ | with_reducible refine y_for ?_ | with_reducible refine y_forG ?_ | with_reducible refine s_gn ?_ | with_reducible refine s_diG ?_ | with_reducible refine s_diEnG ?_ | with_reducible refine s_listG ?_)
local macro_rules | `(tactic| walk_at "y") => `(tactic| repeat first | walk_at "d1" | walk_at "d2" | walk_at "y1")
local macro_rules | `(tactic| walk_at "seeT") => `(tactic| first | exact .raw (by walk_at "ext") | exact .da _)
local macro_rules | `(tactic| walk_at "d2") => `(tactic| first
  | with_reducible refine s_star ?_ | ((with_reducible refine' s_starK ?im ?_); (case im => walk_at "itm")) | with_reducible refine s_appK ?_ | with_reducible refine s_dget ?_ | with_reducible refine s_din ?_ | with_reducible refine s_dget1 ?_ | with_reducible refine s_dget2 ?_ | with_reducible refine s_dput ?_ | with_reducible refine s_valsT ?_ | with_reducible refine s_diDT ?_ | with_reducible refine s_makeK ?_ | with_reducible refine s_makeSK ?_ | with_reducible refine s_kwK ?_ | with_reducible refine s_lenSet ?_
  | ((with_reducible refine' s_dget1L ?se ?_); (case se => walk_at "seeT")) | ((with_reducible refine' s_dget2L ?se ?_); (case se => walk_at "seeT")))
section
variable {P : Program} {w : World} {K : PySem.W.Frag}
variable {mg : Str → Option Value} {base : Heap}
/-! ### shares -/
def D_greatest_divisor (M : Md K mg) : SpD K := fun as rs xc q => ∃ x y : Nat, as = [.da (.int (x : Nat)), .da (.int (y : Nat))] ∧ q (.da (.int ((Nat.gcd x y : Nat) : Int))) rs
theorem ok_greatest_divisor (M : Md K mg) (G : Gd K mg "greatest_divisor" s_greatest_divisor)  : DefR P w K mg base "greatest_divisor" 2 (spD (D_greatest_divisor M)) := by
  refine def_mk G fun f fd F => fnr_mk (dfn_ok (k := 1) F sc_greatest_divisor (by intro as rs xc q; walk_at "ar") (fun cdv A outer s H E hr => by
    have nd := sc_greatest_divisor.nd
    exact (dss_cons (ds_while po_def (dt_cmp (op_neK K hr) (pu2 pu_ne) (d_var (i := 1) (pv 1)) (d_int pe_int)) (dss_one (ds_par (ps_par (i := 0) (j := 1) rfl nd rfl rfl (by decide) rfl rfl (da_cons (d_var (i := 1) (pv 1)) (da_cons (d_op op_mod (pu2 (pu_I fun _ _ _ _ => .int _)) (d_cb1 (pe_int1 M.b (d_var (i := 0) (pv 0))) act_int) (d_cb1 (pe_int1 M.b (d_var (i := 1) (pv 1))) act_int)) da_nil)) (by rfl))))) (dss_one (ds_ret (d_var (i := 0) (pv 0)))))) ?_) (F.bindsN (fun _ _ _ _ _ _ us hl => match us, hl with | [_, _], _ => rfl))
  rintro as rs xc q ⟨x, y, rfl, k⟩
  walk_at "in"
  walk_at "d"
  refine s_while (fun m sl rs' => ∃ a b : Nat, sl = [.da (.int (a : Nat)), .da (.int (b : Nat))] ∧ rs' = rs ∧ Nat.gcd a b = Nat.gcd x y ∧ m = b) y ?_ ?_
  · exact gs_id ⟨x, y, rfl, rfl, rfl, rfl⟩
  · rintro m sl rs' ⟨a, b, rfl, rfl, g, rfl⟩
    walk_at "d"
    by_cases h : m = 0
    · subst h
      refine s_whF (by simp) ?_
      refine gs_id ?_
      walk_at "d"
      rw [Nat.gcd_zero_right] at g
      rw [g]
      exact gv_id k
    · refine s_whT (by simp; omega) ?_
      walk_at "d"
      exact gs_id ⟨a % m, Nat.mod_lt _ (by omega), m, a % m, rfl, rfl, by rw [Nat.gcd_comm, ← Nat.gcd_rec, Nat.gcd_comm]; exact g, rfl⟩
theorem shr_bot {fs : List (Str × Int)} : (shrL fs).2 = prodL (fs.map (·.2)) := by
  have go : ∀ n : Nat, ∀ fs : List (Str × Int), fs.length = n → (shrL fs).2 = prodL (fs.map (·.2)) := by
    intro n
    induction n with
    | zero => intro fs h; rw [List.length_eq_zero_iff.mp h]; rfl
    | succ n ih =>
      intro fs h
      rcases List.eq_nil_or_concat fs with rfl | ⟨gs, f, rfl⟩
      · cases h
      · rw [List.concat_eq_append] at h ⊢
        rw [shrL_snoc, List.map_append, List.map_cons, List.map_nil, prodL_snoc, ih gs (by simpa using h)]
  exact go _ fs rfl
abbrev shareG (fs : List (Str × Int)) : Int := ((Nat.gcd (shrL fs).1.toNat (shrL fs).2.toNat : Nat) : Int)
def D_Farm_share (M : Md K mg) : SpD K := fun as rs xc q => ∃ fs, as = [.da (farmD M.a_Farm fs)] ∧ FOk fs ∧ q (.da (.tup [.int ((shrL fs).1 / shareG fs), .int ((shrL fs).2 / shareG fs)])) rs
theorem ok_Farm_share (M : Md K mg) (G : Gp K M.a_Farm "share" "Farm.share" s_Farm_share) (R_greatest_divisor : DefR P w K mg base "greatest_divisor" 2 (spD (D_greatest_divisor M))) : PropR P w K mg base M.a_Farm "share" 4 (spD (D_Farm_share M)) := by
  refine prop_mk G fun f fd F => fnr_mk (dfn_ok (k := 3) F sc_Farm_share (by intro as rs xc q; walk_at "ar") (fun cdv A outer s H E hr => by
    have nd := sc_Farm_share.nd
    exact (dss_cons (ds_asg (d_tup (da_cons (d_int pe_int) (da_cons (d_int pe_int) da_nil))) (pg_tupK K (n := 2) rfl (pgs_cons (pg_name (i := 1) nd rfl (by first | exact Or.inl rfl | exact Or.inr rfl)) (pgs_cons (pg_name (i := 2) nd rfl (by first | exact Or.inl rfl | exact Or.inr rfl)) pgs_nil))) (tg_tup (tgs_cons (tg_name 1) (tgs_cons (tg_name 2) tgs_nil))))
    (dss_cons (ds_for po_def rfl (di_seq (d_fld (pe_fldK K (d_var (i := 0) (pv 0))))) (pg_tupK K (n := 2) rfl (pgs_cons (pg_name (i := 3) nd rfl (by first | exact Or.inl rfl | exact Or.inr rfl)) (pgs_cons (pg_name (i := 4) nd rfl (by first | exact Or.inl rfl | exact Or.inr rfl)) pgs_nil))) (tg_tup (tgs_cons (tg_name 3) (tgs_cons (tg_name 4) tgs_nil))) (dss_one (ds_par (ps_par (i := 1) (j := 2) rfl nd rfl rfl (by decide) rfl rfl (da_cons (d_op (op_addK K) (pu2 pu_add) (d_op op_mul (pu2 (pu_I fun _ _ _ _ => .int _)) (d_var (i := 1) (pv 1)) (d_var (i := 4) (pv 4))) (d_var (i := 2) (pv 2))) (da_cons (d_op op_mul (pu2 (pu_I fun _ _ _ _ => .int _)) (d_var (i := 2) (pv 2)) (d_var (i := 4) (pv 4))) da_nil)) (by rfl)))))
    (dss_cons (ds_set (i := 5) nd rfl (by first | exact Or.inl rfl | exact Or.inr rfl) (d_call (pe_callR R_greatest_divisor (hr.mono (by first | decide | omega)) pz_def (da_cons (d_var (i := 1) (pv 1)) (da_cons (d_var (i := 2) (pv 2)) da_nil)))))
    (dss_one (ds_ret (d_tup (da_cons (d_op op_fdiv (pu2 (pu_I fun _ _ _ _ => .int _)) (d_var (i := 1) (pv 1)) (d_var (i := 5) (pv 5))) (da_cons (d_op op_fdiv (pu2 (pu_I fun _ _ _ _ => .int _)) (d_var (i := 2) (pv 2)) (d_var (i := 5) (pv 5))) da_nil))))))))) ?_) (F.bindsN (fun _ _ _ _ _ _ us hl => match us, hl with | [_], _ => rfl))
  rintro as rs xc q ⟨fs, rfl, ok, k⟩
  have fn := M.f_Farm
  have lo : ∀ f ∈ fs, 1 ≤ f.2 := fun f hf => (ok.lo f hf).1
  obtain ⟨p1, t0, _⟩ := shr_ok lo
  walk_at "in"
  walk_at "d"
  refine s_forK (fun i sl rs' => ∃ (u3 u4 u5 : Sl), sl = [.da (farmD M.a_Farm fs), .da (.int (shrL (fs.take i)).1), .da (.int (shrL (fs.take i)).2), u3, u4, u5] ∧ rs' = rs) ?_ ?_ ?_ ?_
  · exact gs_id ⟨_, _, _, rfl, rfl⟩
  · exact fun _ _ _ _ => trivial
  · rintro i y sl rs' hy ⟨u3, u4, u5, rfl, rfl⟩
    obtain ⟨f, hf, rfl⟩ := mm_get (cs := fs) hy
    have tk : fs.take (i + 1) = fs.take i ++ [f] := by rw [List.take_add_one, hf]; rfl
    have lf := ok.lo f (List.mem_of_getElem? hf)
    walk_at "d"
    exact gs_id ⟨_, _, _, by rw [tk, shrL_snoc], rfl⟩
  · rintro sl rs' ⟨u3, u4, u5, rfl, rfl⟩
    refine gs_id ?_
    rw [List.length_map, List.length_map, List.take_length]
    walk_at "d"
    refine s_ask0 (D := D_greatest_divisor M) ⟨(shrL fs).1.toNat, (shrL fs).2.toNat, by rw [Int.toNat_of_nonneg t0, Int.toNat_of_nonneg (by omega)], ?_⟩
    have g0 : 0 < Nat.gcd (shrL fs).1.toNat (shrL fs).2.toNat := Nat.gcd_pos_of_pos_right _ (by omega)
    have gl : Nat.gcd (shrL fs).1.toNat (shrL fs).2.toNat ≤ (shrL fs).2.toNat := Nat.gcd_le_right _ (by omega)
    have b4 : (shrL fs).2 ≤ 4000 := by rw [shr_bot]; exact ok.pr
    walk_at "d"
    exact gv_id k
theorem share_pos {fs : List (Str × Int)} (ok : FOk fs) : 0 < shareG fs ∧ 1 ≤ (shrL fs).2 / shareG fs ∧ (shrL fs).2 / shareG fs ≤ 4000 ∧ 0 ≤ (shrL fs).1 / shareG fs ∧ shareG fs ∣ (shrL fs).1 ∧ shareG fs ∣ (shrL fs).2 := by
  obtain ⟨p1, t0, _⟩ := shr_ok fun f hf => (ok.lo f hf).1
  have b4 : (shrL fs).2 ≤ 4000 := by rw [shr_bot]; exact ok.pr
  have g0 : 0 < Nat.gcd (shrL fs).1.toNat (shrL fs).2.toNat := Nat.gcd_pos_of_pos_right _ (by omega)
  have gl : Nat.gcd (shrL fs).1.toNat (shrL fs).2.toNat ≤ (shrL fs).2.toNat := Nat.gcd_le_right _ (by omega)
  have d1 : shareG fs ∣ (shrL fs).1 := by
    have := Int.natCast_dvd_natCast.mpr (Nat.gcd_dvd_left (shrL fs).1.toNat (shrL fs).2.toNat)
    rwa [Int.toNat_of_nonneg t0] at this
  have d2 : shareG fs ∣ (shrL fs).2 := by
    have := Int.natCast_dvd_natCast.mpr (Nat.gcd_dvd_right (shrL fs).1.toNat (shrL fs).2.toNat)
    rwa [Int.toNat_of_nonneg (a := (shrL fs).2) (by omega)] at this
  refine ⟨by show (0 : Int) < ((_ : Nat) : Int); omega, ?_, ?_, Int.ediv_nonneg t0 (by show (0 : Int) ≤ ((_ : Nat) : Int); omega), d1, d2⟩
  · rw [Int.le_ediv_iff_mul_le (by show (0 : Int) < ((_ : Nat) : Int); omega), Int.one_mul]
    show ((_ : Nat) : Int) ≤ _
    omega
  · exact Int.le_trans (Int.ediv_le_self _ (by omega)) b4
end
end HC
namespace HC
open PyProof.Rows PySem L2 PySem.Spec
local macro_rules | `(tactic| walk_at "ext") => `(tactic| first | exact .here | exact .there .here | exact .there (.there .here) | exact .there (.there (.there .here)) | exact .there (.there (.there (.there .here))) | exact .there (.there (.there (.there (.there .here)))))
local macro_rules | `(tactic| walk_at "gets") => `(tactic| first | exact Gets.nil | ((refine' Gets.cons ?he ?hr); (case he => walk_at "ext"); (case hr => walk_at "gets")))
local macro_rules | `(tactic| walk_at "ar") => `(tactic| first | exact ar_eq rfl | (refine ar_ex fun _ => ?_; walk_at "ar"))
local macro_rules | `(tactic| walk_at "rep") => `(tactic| first | exact .here | exact .there .here | exact .there (.there .here) | exact .there (.there (.there .here)) | exact .there (.there (.there (.there .here))))
local macro_rules | `(tactic| walk_at "see") => `(tactic| first | exact .da _ | exact .lst (by walk_at "ext"))
local macro_rules | `(tactic| walk_at "itm") => `(tactic| first | exact .tup _ | exact .tupS _ | exact .lst _ | exact .scr _ | exact .btup _ | exact .raw (by walk_at "ext"))
local macro_rules | `(tactic| walk_at "wk") => `(tactic| first | exact .tup _ | exact .tupS _ | exact .lst _ | exact .scr _ | exact .btup _ | exact .str _ | exact .raw (by walk_at "ext"))
local macro_rules | `(tactic| walk_at "alld") => `(tactic| first | exact allDa0 | exact allDa1 | exact allDa2 | exact allDa3 | exact allDa4 | exact allDa5 | rfl)
local macro_rules | `(tactic| walk_at "put") => `(tactic| (simp (config := { decide := true }) only [putS, if_true, if_false]; try rfl))
local macro_rules | `(tactic| walk_at "pl") => `(tactic| first | rfl | assumption | exact pls_map (fun _ => rfl) | exact pl_lm (fun _ => rfl) | exact pl_tm (fun _ => rfl))
local macro_rules | `(tactic| walk_at "size") => `(tactic| first | exact (by decide : _ ≤ sizeLine) | (simp [sizeLine_eq]; done) | (simp [sizeLine_eq]; omega))
local macro_rules | `(tactic| walk_at "d1") => `(tactic| first
  | with_reducible refine s_seq ?_ | with_reducible refine s_asg ?_ | ((with_reducible refine' s_var ?hv ?_ ?kn); (case hv => exact rfl); (case kn => trivial)) | with_reducible refine s_c ?_ | with_reducible refine s_r ?_
  | ((with_reducible refine' s_name ?hv ?_); (case hv => first | (simp only [List.set]; rfl) | (simp only [wipeD, List.set]; rfl)))
  | with_reducible refine s_b ?_ | with_reducible refine s_u ?_ | with_reducible refine s_t ?_ | with_reducible refine s_isB ?_ | with_reducible refine s_cons ?_ | with_reducible refine s_nil ?_
  | with_reducible refine s_p2 ?_ | with_reducible refine s_p1 ?_ | with_reducible refine s_add_i ?_ | ((with_reducible refine' s_I ?hc ?_); (case hc => first | trivial | (show (0 : Int) < _; omega) | (unfold CMul; omega) | (unfold CPow; decide) | (unfold CDiv; omega))) | with_reducible refine s_1I ?_
  | with_reducible refine s_eq_i ?_ | with_reducible refine s_eq_s ?_ | with_reducible refine s_eq_b ?_ | with_reducible refine s_ne_i ?_ | with_reducible refine s_ne_s ?_ | with_reducible refine s_ne_b ?_ | with_reducible refine s_isN ?_ | with_reducible refine s_notN ?_
  | with_reducible refine s_call ?_ | with_reducible refine s_make ?_ | with_reducible refine s_fld ?_ | with_reducible refine s_prop ?_ | with_reducible refine s_meth ?_ | with_reducible refine s_ret ?_ | with_reducible refine s_retN ?_ | with_reducible refine s_drop ?_ | with_reducible refine s_ifS ?_ | with_reducible refine s_next ?_
  | with_reducible refine s_and ?_ | with_reducible refine s_or ?_ | with_reducible refine s_not ?_ | with_reducible refine s_andV ?_ | with_reducible refine s_orV ?_ | with_reducible refine s_notV ?_ | with_reducible refine s_if ?_ | with_reducible refine s_chain ?_
  | ((with_reducible refine' s_mkT ?he ?hz ?_); (case he => first | exact mkT2 | exact mkT1 | exact mkT3 | exact mkT4 | exact mkT0 | rfl); (case hz => walk_at "size")) | ((with_reducible refine' s_mkL ?he ?hz ?_); (case he => walk_at "alld"); (case hz => walk_at "size"))
  | with_reducible refine s_partI ?_ | with_reducible refine s_slT ?_ | ((with_reducible refine' s_sfldV ?kn ?_); (case kn => trivial)) | ((with_reducible refine' s_lenI ?hi ?_); (case hi => walk_at "itm")) | with_reducible refine s_lenS ?_
  | ((with_reducible refine' s_fldD ?he ?fn ?_); (case he => rfl); (case fn => assumption)) | ((with_reducible refine' s_fldR ?hx ?he ?fn ?kn ?_); (case hx => walk_at "ext"); (case he => rfl); (case fn => assumption); (case kn => trivial))
  | ((with_reducible refine' s_sfldR ?hr ?he ?fn ?hf ?_); (case hr => walk_at "rep"); (case he => walk_at "put"); (case fn => assumption); (case hf => simp)) | ((with_reducible refine' s_add_t ?hz ?_); (case hz => walk_at "size")) | ((with_reducible refine' s_add_l ?hz ?_); (case hz => walk_at "size"))
  | ((with_reducible refine' s_parK ?he ?hl ?_); (case he => first | (simp only [List.zip_cons_cons, List.zip_nil_right, List.zip_nil_left, List.foldl_cons, List.foldl_nil, List.set_cons_succ, List.set_cons_zero]; rfl) | rfl); (case hl => rfl)) | ((with_reducible refine' s_raiseK ?he ?hl ?_); (case he => walk_at "alld"); (case hl => rfl)) | ((with_reducible refine' s_gtup ?hi ?hn ?_); (case hi => first | exact its2_2 | exact its2_3 | exact its2_4 | exact its2_1 | exact .tup _ | exact .da _); (case hn => rfl)) | with_reducible refine s_gcons ?_ | with_reducible refine s_gnil ?_
  | with_reducible refine s_for ?_ | with_reducible refine s_it ?_ | with_reducible refine s_rng1 ?_ | with_reducible refine s_rng2 ?_ | with_reducible refine s_enT ?_ | with_reducible refine s_enL ?_ | with_reducible refine s_enLK ?_ | with_reducible refine s_zip ?_ | with_reducible refine s_zipL ?_ | with_reducible refine s_lc ?_ | with_reducible refine s_yes ?_
  | with_reducible refine s_faug ?_ | with_reducible refine s_int ?_ | with_reducible refine s_intB ?_ | with_reducible refine s_n1 ?_ | with_reducible refine s_n2 ?_ | with_reducible refine s_star1 ?_ | with_reducible refine s_dictZip ?_ | with_reducible refine s_items ?_ | ((with_reducible refine' s_star1K ?hi ?_); (case hi => walk_at "itm")) | ((with_reducible refine' s_augI ?he ?_); (case he => rfl)) | ((with_reducible refine' s_augV ?hc ?he ?_); (case hc => (unfold CMul; omega)); (case he => first | (simp only [List.set_cons_succ, List.set_cons_zero]; rfl) | rfl)) | ((with_reducible refine' s_aug0 ?he ?_); (case he => rfl)) | ((with_reducible refine' s_aug0V ?he ?_); (case he => first | (simp only [List.set_cons_succ, List.set_cons_zero]; rfl) | rfl)) | with_reducible refine s_tupOfT ?_
  | ((with_reducible refine' s_ix ?him ?hat ?kn ?_); (case him => walk_at "itm"); (case hat => first | exact atI_mm (by assumption) | exact atI_c0 | exact atI_c1 | exact atI_c2 | exact atI_c3 | exact atI_c4); (case kn => trivial)) | ((with_reducible refine' s_bmK ?hi ?_); (case hi => first | exact .da _ | exact .raw (by walk_at "ext"))) | ((with_reducible refine' s_bmK0 ?hi ?_); (case hi => first | exact .da _ | exact .raw (by walk_at "ext")))
  | ((with_reducible refine' s_app ?hr ?hz ?_); (case hr => walk_at "rep"); (case hz => walk_at "size")) | ((with_reducible refine' s_itK ?hw ?_); (case hw => walk_at "wk")) | with_reducible refine s_propD ?_ | ((with_reducible refine' s_propR ?hx ?_); (case hx => walk_at "ext"))
  | ((with_reducible refine' s_methD ?hn ?_); (case hn => (simp (config := { decide := true }) only [List.map, List.mem_cons, List.not_mem_nil, or_false, not_or, not_false_eq_true, and_self])))
  | ((with_reducible refine' s_methR ?hx ?hn ?_); (case hx => walk_at "ext"); (case hn => (simp (config := { decide := true }) only [List.map, List.mem_cons, List.not_mem_nil, or_false, not_or, not_false_eq_true, and_self])))
  | ((with_reducible refine' s_enTK ?hi ?_); (case hi => first | exact .da _ | exact .btup _ | exact .tup _)) | ((with_reducible refine' s_zipT ?hi ?hj ?_); (case hi => first | exact .da _ | exact .btup _ | exact .tup _); (case hj => first | exact .da _ | exact .btup _ | exact .tup _))
  | ((with_reducible refine' s_tupOfL ?hs ?_); (case hs => walk_at "see")) | ((with_reducible refine' s_tupNew ?hs ?_); (case hs => walk_at "see")) | ((with_reducible refine' s_slL ?hs ?_); (case hs => walk_at "see"))
  | ((with_reducible refine' s_notIn_bt ?h1 ?h2 ?_); (case h1 => walk_at "pl"); (case h2 => walk_at "pl")) | ((with_reducible refine' s_in_bt ?h1 ?h2 ?_); (case h1 => walk_at "pl"); (case h2 => walk_at "pl")) | ((with_reducible refine' s_notIn_t ?h1 ?h2 ?_); (case h1 => walk_at "pl"); (case h2 => walk_at "pl")) | ((with_reducible refine' s_in_t ?h1 ?h2 ?_); (case h1 => walk_at "pl"); (case h2 => walk_at "pl")) | ((with_reducible refine' s_notIn_l ?h1 ?h2 ?_); (case h1 => walk_at "pl"); (case h2 => walk_at "pl")) | ((with_reducible refine' s_in_l ?h1 ?h2 ?_); (case h1 => walk_at "pl"); (case h2 => walk_at "pl"))
  | ((with_reducible refine' s_nilEq ?hi ?_); (case hi => first | exact .lst _ | exact .raw (by walk_at "ext"))) | ((with_reducible refine' s_popE ?hr ?_); (case hr => walk_at "rep"))
  | with_reducible refine s_setL ?_ | with_reducible refine s_setL1 ?_ | with_reducible refine s_setL2 ?_ | ((with_reducible refine' s_addR ?h1 ?h2 ?hz ?_); (case h1 => walk_at "see"); (case h2 => walk_at "see"); (case hz => walk_at "size")) | with_reducible refine s_m1 ?_ | with_reducible refine s_m1K ?_ | with_reducible refine s_m1Q ?_ | with_reducible refine s_lcR ?_ | with_reducible refine s_tupIx ?_ | with_reducible refine s_lenOD ?_ | ((with_reducible refine' s_lenOR ?hx ?_); (case hx => walk_at "ext")) | with_reducible refine s_raise0 ?_ | with_reducible refine s_raise ?_ | with_reducible refine s_tup ?_ | with_reducible refine s_lst ?_ | with_reducible refine s_lstR ?_ | with_reducible refine s_cb ?_ | with_reducible refine s_sl ?_ | with_reducible refine s_noP ?_ | with_reducible refine s_part ?_ | with_reducible refine s_bm ?_ | with_reducible refine s_bm0 ?_ | with_reducible refine s_sfld ?_ | with_reducible refine s_par ?_)
local macro_rules | `(tactic| walk_at "side") => `(tactic| first | assumption | omega | trivial | (decide; done))
local macro_rules | `(tactic| walk_at "wit") => `(tactic| ((repeat apply Exists.intro); (refine' And.intro (rfl : @Eq (List Sl) _ _) ?_); (first | (refine' And.intro (rfl : @Eq (List (Rs _)) _ _) ?_) | (fail_if_success (refine' And.intro (?_ : @Eq (List (Rs _)) _ _) ?_))); (repeat refine' And.intro (by walk_at "side") ?_)))
local macro_rules | `(tactic| walk_at "ask") => `(tactic| first | ((with_reducible refine' s_ask0 ?kk); (case' kk => walk_at "wit")) | ((with_reducible refine' s_ask ?gg ?kk); (case' kk => walk_at "wit"); (case' gg => walk_at "gets")))
local macro_rules | `(tactic| walk_at "d") => `(tactic| repeat walk_at "d1")
local macro_rules | `(tactic| walk_at "in") => `(tactic| simp only [startD, List.length_cons, List.length_nil, Nat.zero_add, Nat.reduceAdd, Nat.reduceSub, List.replicate_succ, List.replicate_zero, List.cons_append, List.nil_append])
local macro_rules | `(tactic| walk_at "yes") => `(tactic| refine if_T (by first | rfl | exact decide_eq_true (by first | assumption | omega) | assumption) ?_)
local macro_rules | `(tactic| walk_at "no") => `(tactic| refine if_F (by first | rfl | exact decide_eq_false (by first | assumption | omega) | assumption) ?_)
local macro_rules | `(tactic| walk_at "nyes") => `(tactic| refine if_T (by first | rfl | (rw [decide_eq_false (by first | assumption | omega)]; rfl)) ?_)
local macro_rules | `(tactic| walk_at "nno") => `(tactic| refine if_F (by first | rfl | (rw [decide_eq_true (by first | assumption | omega)]; rfl)) ?_)
local macro_rules | `(tactic| walk_at "dec") => `(tactic| first | rfl | assumption | (simp (config := { failIfUnchanged := false }) only [*, decide_true, decide_false, decide_eq_true_eq, decide_eq_false_iff_not, Bool.not_true, Bool.not_false, Bool.and_true, Bool.and_false, Bool.true_and, Bool.false_and, Bool.or_true, Bool.or_false, Bool.true_or, Bool.false_or, not_false_eq_true, Bool.not_eq_true']; done))
local macro_rules | `(tactic| walk_at "di") => `(tactic| repeat first | walk_at "d1" | ((with_reducible refine' if_T ?hc ?_); (case hc => walk_at "dec")) | ((with_reducible refine' if_F ?hc ?_); (case hc => walk_at "dec")))
local macro_rules | `(tactic| walk_at "wipe") => `(tactic| simp only [List.map_cons, List.map_nil, wipeD, List.set_cons_zero, List.set_cons_succ])
local macro_rules | `(tactic| walk_at "d2") => `(tactic| first
  | ((with_reducible refine' s_gunl ?hi ?hn ?_); (case hi => first | exact nl5 | exact nl4 | exact nl3 | exact nl2 | exact .lst _ | exact .raw (by walk_at "ext")); (case hn => rfl)) | with_reducible refine s_gv ?_ | with_reducible refine s_meth0 ?_
  | ((with_reducible refine' s_meth0D ?hn ?_); (case hn => (simp (config := { decide := true }) only [List.map, List.mem_cons, List.not_mem_nil, or_false, not_or, not_false_eq_true, and_self])))
  | ((with_reducible refine' s_meth0R ?hx ?hn ?_); (case hx => walk_at "ext"); (case hn => (simp (config := { decide := true }) only [List.map, List.mem_cons, List.not_mem_nil, or_false, not_or, not_false_eq_true, and_self]))))
local macro_rules | `(tactic| walk_at "d") => `(tactic| repeat first | walk_at "d1" | walk_at "d2")
local macro_rules | `(tactic| walk_at "wit1") => `(tactic| ((repeat apply Exists.intro); (refine' And.intro (rfl : @Eq (List Sl) _ _) ?_); (first | (refine' And.intro (rfl : @Eq (List (Rs _)) _ _) ?_) | (fail_if_success (refine' And.intro (?_ : @Eq (List (Rs _)) _ _) ?_)))))
local macro_rules | `(tactic| walk_at "sides") => `(tactic| (repeat refine' And.intro (by walk_at "side") ?_))
local macro_rules | `(tactic| walk_at "ask") => `(tactic| first | ((with_reducible refine' s_ask0 ?kk); (case' kk => walk_at "wit")) | ((with_reducible refine' s_ask ?gg ?kk); (case' kk => walk_at "wit1"); (case' gg => walk_at "gets"); walk_at "sides"))
section
variable {P : Program} {w : World} {K : PySem.W.Frag}
variable {mg : Str → Option Value} {base : Heap}
/-! ### classes of days: plain mathematics -/
abbrev RCl := Nat × Nat × Nat
/-- two classes (cart, rest, size) share no day -/
def RDis (x y : RCl) : Prop := x.1 = y.1 → ¬ ((min x.2.2 y.2.2 : Nat) : Int) ∣ (x.2.1 : Int) - (y.2.1 : Int)
theorem RDis.symm {x y : RCl} (h : RDis x y) : RDis y x := fun e d => h e.symm (by
  rw [Nat.min_comm]
  have := Int.dvd_neg.mpr d
  rwa [show -((y.2.1 : Int) - (x.2.1 : Int)) = (x.2.1 : Int) - y.2.1 by omega] at this)
structure FInv (n L : Nat) (A : List RCl) : Prop where
  dv : ∀ x ∈ A, x.2.2 ∣ L
  ps : ∀ x ∈ A, 0 < x.2.2
  ca : ∀ x ∈ A, x.1 < n
  rs : ∀ x ∈ A, x.2.1 < x.2.2
  ch : ∀ x ∈ A, ∀ y ∈ A, x.2.2 ∣ y.2.2 ∨ y.2.2 ∣ x.2.2
  ds : A.Pairwise RDis
theorem FInv.perm {n L : Nat} {A B : List RCl} (h : FInv n L A) (p : A.Perm B) : FInv n L B :=
  ⟨fun x hx => h.dv x (p.mem_iff.mpr hx), fun x hx => h.ps x (p.mem_iff.mpr hx), fun x hx => h.ca x (p.mem_iff.mpr hx), fun x hx => h.rs x (p.mem_iff.mpr hx),
    fun x hx y hy => h.ch x (p.mem_iff.mpr hx) y (p.mem_iff.mpr hy), (p.pairwise_iff (fun h => h.symm)).mp h.ds⟩
def partC (x : RCl) (l t : Nat) : RCl := (x.1, x.2.1 + x.2.2 * t, l)
def splitC (x : RCl) (l : Nat) : List RCl := (List.range (l / x.2.2 - 1)).map fun t => partC x l (t + 1)
theorem split_all {x : RCl} {l : Nat} (d : x.2.2 ∣ l) (s0 : 0 < x.2.2) (l0 : 0 < l) : partC x l 0 :: splitC x l = (List.range (l / x.2.2)).map (partC x l) := by
  have : 1 ≤ l / x.2.2 := Nat.div_pos (Nat.le_of_dvd l0 d) s0
  obtain ⟨k, hk⟩ : ∃ k, l / x.2.2 = k + 1 := ⟨l / x.2.2 - 1, by omega⟩
  rw [splitC, hk, List.range_succ_eq_map, List.map_cons, List.map_map]
  rfl
theorem FInv.split {n L l : Nat} {x : RCl} {A : List RCl} (h : FInv n L (x :: A)) (d : L ∣ l) (l0 : 0 < l) : FInv n l ((List.range (l / x.2.2)).map (partC x l) ++ A) := by
  have xm : x ∈ x :: A := List.mem_cons_self
  have am : ∀ y ∈ A, y ∈ x :: A := fun y hy => List.mem_cons_of_mem _ hy
  have s0 := h.ps x xm
  have sl : x.2.2 ∣ l := Nat.dvd_trans (h.dv x xm) d
  obtain ⟨k, hk⟩ := sl
  have ek : l / x.2.2 = k := by rw [hk]; exact Nat.mul_div_cancel_left _ s0
  have mem : ∀ y ∈ (List.range (l / x.2.2)).map (partC x l) ++ A, (∃ t, t < k ∧ y = partC x l t) ∨ y ∈ A := by
    intro y hy
    obtain hy | hy := List.mem_append.mp hy
    · obtain ⟨t, ht, rfl⟩ := List.mem_map.mp hy
      exact .inl ⟨t, by rw [ek] at ht; exact List.mem_range.mp ht, rfl⟩
    · exact .inr hy
  refine ⟨fun y hy => ?_, fun y hy => ?_, fun y hy => ?_, fun y hy => ?_, fun y hy z hz => ?_, ?_⟩
  · rcases mem y hy with ⟨t, ht, rfl⟩ | hy
    · exact Nat.dvd_refl _
    · exact Nat.dvd_trans (h.dv y (am y hy)) d
  · rcases mem y hy with ⟨t, ht, rfl⟩ | hy
    · exact l0
    · exact h.ps y (am y hy)
  · rcases mem y hy with ⟨t, ht, rfl⟩ | hy
    · exact h.ca x xm
    · exact h.ca y (am y hy)
  · rcases mem y hy with ⟨t, ht, rfl⟩ | hy
    · show x.2.1 + x.2.2 * t < l
      have r := h.rs x xm
      have := Nat.mul_le_mul_left x.2.2 (show t + 1 ≤ k by omega)
      simp only [Nat.mul_add, Nat.mul_one] at this
      omega
    · exact h.rs y (am y hy)
  · rcases mem y hy with ⟨t, ht, rfl⟩ | hy
    · refine .inr ?_
      rcases mem z hz with ⟨t, ht, rfl⟩ | hz
      · exact Nat.dvd_refl _
      · exact Nat.dvd_trans (h.dv z (am z hz)) d
    · rcases mem z hz with ⟨t, ht, rfl⟩ | hz
      · exact .inl (Nat.dvd_trans (h.dv y (am y hy)) d)
      · exact h.ch y (am y hy) z (am z hz)
  · obtain ⟨hx, hA⟩ := List.pairwise_cons.mp h.ds
    refine List.pairwise_append.mpr ⟨?_, hA, ?_⟩
    · rw [List.pairwise_map, ek]
      refine List.Pairwise.imp_of_mem ?_ List.pairwise_lt_range
      intro t u ht hu lt _ dd
      have hu := List.mem_range.mp hu
      have dd : ((l : Nat) : Int) ∣ ((x.2.1 + x.2.2 * t : Nat) : Int) - ((x.2.1 + x.2.2 * u : Nat) : Int) := by
        have : min l l = l := Nat.min_self l
        rw [← this]; exact dd
      have e : ((x.2.1 + x.2.2 * t : Nat) : Int) - ((x.2.1 + x.2.2 * u : Nat) : Int) = (x.2.2 : Int) * ((t : Int) - u) := by
        rw [Int.mul_sub]; push_cast; omega
      rw [e, hk, show ((x.2.2 * k : Nat) : Int) = (x.2.2 : Int) * (k : Int) by push_cast; rfl] at dd
      have d2 : (k : Int) ∣ (t : Int) - u := Int.dvd_of_mul_dvd_mul_left (by omega) dd
      have := Int.le_of_dvd (by omega : (0 : Int) < (u : Int) - t) (by
        have := Int.dvd_neg.mpr d2
        rwa [show -((t : Int) - u) = (u : Int) - t by omega] at this)
      omega
    · intro y hy z hz
      obtain ⟨t, ht, rfl⟩ := List.mem_map.mp hy
      intro ec dd
      have zl : z.2.2 ∣ l := Nat.dvd_trans (h.dv z (am z hz)) d
      have z0 := h.ps z (am z hz)
      have em : min l z.2.2 = z.2.2 := Nat.min_eq_right (Nat.le_of_dvd l0 zl)
      have dd : ((z.2.2 : Nat) : Int) ∣ ((x.2.1 + x.2.2 * t : Nat) : Int) - (z.2.1 : Int) := by rw [← em]; exact dd
      have e : ((x.2.1 + x.2.2 * t : Nat) : Int) - (z.2.1 : Int) = ((x.2.1 : Int) - z.2.1) + (x.2.2 : Int) * t := by push_cast; omega
      rw [e] at dd
      refine hx z hz ec ?_
      rcases h.ch x xm z (am z hz) with q | q
      · rw [Nat.min_eq_left (Nat.le_of_dvd z0 q)]
        have : (x.2.2 : Int) ∣ ((x.2.1 : Int) - z.2.1) + (x.2.2 : Int) * t := Int.dvd_trans (Int.natCast_dvd_natCast.mpr q) dd
        exact (Int.dvd_add_left (Int.dvd_mul_right _ _)).mp this
      · rw [Nat.min_eq_right (Nat.le_of_dvd s0 q)]
        exact (Int.dvd_add_left (Int.dvd_mul_of_dvd_left (Int.natCast_dvd_natCast.mpr q) )).mp dd
def wtC (P : Nat) (A : List RCl) : Nat := (A.map fun x => P / x.2.2).sum
theorem wtC_app (P : Nat) (A B : List RCl) : wtC P (A ++ B) = wtC P A + wtC P B := by rw [wtC, List.map_append, List.sum_append_nat]; rfl
theorem wtC_perm {P : Nat} {A B : List RCl} (p : A.Perm B) : wtC P A = wtC P B := by
  unfold wtC
  exact (p.map _).sum_nat
theorem wtC_split {P l : Nat} {x : RCl} (d : x.2.2 ∣ l) (s0 : 0 < x.2.2) (dP : l ∣ P) (l0 : 0 < l) : wtC P ((List.range (l / x.2.2)).map (partC x l)) = P / x.2.2 := by
  obtain ⟨k, hk⟩ := d
  obtain ⟨m, hm⟩ := dP
  have ek : l / x.2.2 = k := by rw [hk]; exact Nat.mul_div_cancel_left _ s0
  have : ∀ k : Nat, ((List.range k).map (partC x l)).map (fun x => P / x.2.2) = List.replicate k (P / l) := by
    intro k
    rw [List.map_map, show (List.range k).map ((fun x => P / x.2.2) ∘ partC x l) = (List.range k).map (fun _ => P / l) from rfl]
    simp [List.map_const']
  rw [wtC, this, List.sum_replicate_nat, ek, hm, Nat.mul_div_cancel_left _ l0, hk, Nat.mul_assoc, Nat.mul_div_cancel_left _ s0]
theorem finv_start (n : Nat) : FInv n 1 ((List.range n).map fun c => ((c, 0, 1) : RCl)) := by
  have m : ∀ x ∈ (List.range n).map fun c => ((c, 0, 1) : RCl), ∃ c < n, x = (c, 0, 1) := fun x hx => by
    obtain ⟨c, hc, rfl⟩ := List.mem_map.mp hx
    exact ⟨c, List.mem_range.mp hc, rfl⟩
  refine ⟨fun x hx => ?_, fun x hx => ?_, fun x hx => ?_, fun x hx => ?_, fun x hx y hy => ?_, ?_⟩
  · obtain ⟨c, hc, rfl⟩ := m x hx; exact Nat.dvd_refl _
  · obtain ⟨c, hc, rfl⟩ := m x hx; exact Nat.one_pos
  · obtain ⟨c, hc, rfl⟩ := m x hx; exact hc
  · obtain ⟨c, hc, rfl⟩ := m x hx; exact Nat.one_pos
  · obtain ⟨c, hc, rfl⟩ := m x hx; exact .inl (Nat.one_dvd _)
  · rw [List.pairwise_map]
    exact List.Pairwise.imp (fun {a b} lt e => absurd e (by show a ≠ b; omega)) List.pairwise_lt_range
theorem wtC_start (P n : Nat) : wtC P ((List.range n).map fun c => ((c, 0, 1) : RCl)) = n * P := by
  rw [wtC, List.map_map, show (List.range n).map ((fun x : RCl => P / x.2.2) ∘ fun c => ((c, 0, 1) : RCl)) = (List.range n).map (fun _ => P) from List.map_congr_left fun c _ => by show P / 1 = P; exact Nat.div_one P]
  simp [List.map_const']
theorem rule_step {n L P l i : Nat} {F D : List RCl} {Ls : List Nat} (hi : Ls[i]? = some l) (inv : FInv n L (F ++ D)) (hD : D.map (·.2.2) = Ls.take i) (wt : wtC P (F ++ D) = n * P) (dv : L ∣ l) (l0 : 0 < l) (lP : l ∣ P) (P0 : 0 < P) (le : (Ls.map (P / ·)).sum ≤ n * P) :
    ∃ x R, F = x :: R ∧ x.2.2 ∣ l ∧ 0 < x.2.2 ∧ FInv n l ((splitC x l ++ R) ++ (D ++ [partC x l 0])) ∧ wtC P ((splitC x l ++ R) ++ (D ++ [partC x l 0])) = n * P := by
  have wD : wtC P D = ((Ls.take i).map (P / ·)).sum := by rw [← hD, List.map_map]; rfl
  have lt := (List.getElem?_eq_some_iff.mp hi).1
  have more : ((Ls.take i).map (P / ·)).sum + P / l ≤ (Ls.map (P / ·)).sum := by
    have e : Ls = Ls.take i ++ (l :: Ls.drop (i + 1)) := by
      have := (List.getElem?_eq_some_iff.mp hi).2
      rw [← this, ← List.drop_eq_getElem_cons, List.take_append_drop]
    conv => rhs; rw [e]
    rw [List.map_append, List.sum_append_nat, List.map_cons, List.sum_cons]
    omega
  have one : 1 ≤ P / l := Nat.div_pos (Nat.le_of_dvd P0 lP) l0
  cases F with
  | nil =>
    rw [List.nil_append] at wt
    omega
  | cons x R =>
    have inv' : FInv n L (x :: (R ++ D)) := inv
    have xl : x.2.2 ∣ l := Nat.dvd_trans (inv'.dv x List.mem_cons_self) dv
    have x0 := inv'.ps x List.mem_cons_self
    have sp := inv'.split dv l0
    have ea := split_all xl x0 l0
    have pm : ((List.range (l / x.2.2)).map (partC x l) ++ (R ++ D)).Perm ((splitC x l ++ R) ++ (D ++ [partC x l 0])) := by
      rw [← ea, ← List.append_assoc, ← List.append_assoc]
      refine List.Perm.trans ?_ List.perm_append_comm
      rw [List.singleton_append, List.cons_append, List.cons_append]
    refine ⟨x, R, rfl, xl, x0, sp.perm pm, ?_⟩
    rw [← wtC_perm pm, wtC_app, wtC_split xl x0 lP l0]
    have : wtC P (x :: R ++ D) = P / x.2.2 + wtC P (R ++ D) := by
      show wtC P ([x] ++ (R ++ D)) = _
      rw [wtC_app]
      simp [wtC]
    omega
def cntR (r l d : Int) : Int := if r < d then (d - r + l - 1) / l else 0
theorem cntR_succ {r l d : Int} (r0 : 0 ≤ r) (rl : r < l) (d0 : 0 ≤ d) : cntR r l (d + 1) = cntR r l d + if d % l = r then 1 else 0 := by
  have l0 : 0 < l := by omega
  have e1 : ∀ a : Int, (a + l) / l = a / l + 1 := fun a => by
    have := Int.add_mul_ediv_right a 1 (c := l) (by omega)
    rwa [Int.one_mul] at this
  unfold cntR
  by_cases h : r < d
  · rw [if_pos (by omega), if_pos h]
    have h1 : d + 1 - r + l - 1 = (d - r) + l := by omega
    have h2 : d - r + l - 1 = (d - r - 1) + l := by omega
    rw [h1, h2, e1, e1]
    have a1 := Int.mul_ediv_add_emod (d - r) l
    have a2 := Int.emod_nonneg (d - r) (show l ≠ 0 by omega)
    have a3 := Int.emod_lt_of_pos (d - r) l0
    by_cases q : d % l = r
    · rw [if_pos q]
      have z : (d - r) % l = 0 := by rw [← q, Int.sub_emod, Int.emod_emod_of_dvd _ (Int.dvd_refl l), Int.sub_self]; exact Int.zero_emod _
      have : (d - r - 1) / l = (d - r) / l - 1 := ((Int.ediv_emod_unique l0 (a := d - r - 1) (q := (d - r) / l - 1) (r := l - 1)).mpr ⟨by rw [Int.mul_sub, Int.mul_one]; omega, by omega, by omega⟩).1
      omega
    · rw [if_neg q]
      have z : (d - r) % l ≠ 0 := fun z => q (by
        have e : d % l = ((d - r) + r) % l := by rw [Int.sub_add_cancel]
        rw [e, Int.add_emod, z, Int.zero_add, Int.emod_emod_of_dvd _ (Int.dvd_refl l), Int.emod_eq_of_lt r0 rl])
      have : (d - r - 1) / l = (d - r) / l := ((Int.ediv_emod_unique l0 (a := d - r - 1) (q := (d - r) / l) (r := (d - r) % l - 1)).mpr ⟨by omega, by omega, by omega⟩).1
      omega
  · rw [if_neg h]
    have dm : d % l = d := Int.emod_eq_of_lt d0 (by omega)
    rw [dm]
    by_cases q : d = r
    · rw [if_pos (by omega), if_pos q]
      have : d + 1 - r + l - 1 = l := by omega
      rw [this, Int.ediv_self (by omega)]
      rfl
    · rw [if_neg (by omega), if_neg q]
      rfl
theorem cntR_turn {r l d : Int} (r0 : 0 ≤ r) (rl : r < l) (d0 : 0 ≤ d) : cntR r l (d + l) = cntR r l d + 1 := by
  have l0 : 0 < l := by omega
  unfold cntR
  rw [if_pos (by omega)]
  by_cases h : r < d
  · rw [if_pos h, show d + l - r + l - 1 = (d - r + l - 1) + 1 * l by omega, Int.add_mul_ediv_right _ _ (by omega)]
  · rw [if_neg h]
    exact ((Int.ediv_emod_unique l0 (a := d + l - r + l - 1) (q := 0 + 1) (r := d + l - r - 1)).mpr ⟨by omega, by omega, by omega⟩).1

end
section
variable {P : Program} {w : World} {K : PySem.W.Frag}
variable {mg : Str → Option Value} {base : Heap}
/-! ### rules: limits in order, what the loop keeps -/
def harmB (ls : List Int) : Bool := ((srtI ls).zip ((srtI ls).drop 1)).all fun p => decide (p.2 % p.1 = 0)
theorem harm_at {ls : List Int} (h : harmB ls = true) {i : Nat} {a b : Int} (ha : (srtI ls)[i]? = some a) (hb : (srtI ls)[i + 1]? = some b) : b % a = 0 := by
  have m : (a, b) ∈ (srtI ls).zip ((srtI ls).drop 1) := by
    refine List.mem_of_getElem? (i := i) ?_
    rw [List.getElem?_zip_eq_some]
    refine ⟨ha, ?_⟩
    rw [List.getElem?_drop, Nat.add_comm]
    exact hb
  simpa using List.all_eq_true.mp h _ m
/-- the limits with their places -/
def limP (fs : List (Str × Int)) : List (Int × Int) := (fs.map (·.2)).zipIdx.map fun p => (p.1, (p.2 : Int))
theorem limP_mem {fs : List (Str × Int)} {p : Int × Int} (h : p ∈ limP fs) : ∃ k f, fs[k]? = some f ∧ p = (f.2, ((k : Nat) : Int)) := by
  obtain ⟨⟨l, k⟩, hk, rfl⟩ := List.mem_map.mp h
  have := List.mem_zipIdx_iff_getElem?.mp hk
  rw [List.getElem?_map] at this
  obtain ⟨f, hf, e⟩ := Option.map_eq_some_iff.mp this
  exact ⟨k, f, hf, by rw [← e]⟩
theorem limP_fst (fs : List (Str × Int)) : (limP fs).map (·.1) = fs.map (·.2) := by
  unfold limP
  rw [List.map_map]
  exact List.zipIdx_map_fst 0 _
theorem srtP_perm (ps : List (Int × Int)) : (srtP ps).Perm ps := List.mergeSort_perm ps _
theorem srtI_perm (ns : List Int) : (srtI ns).Perm ns := List.mergeSort_perm ns _
theorem srtP_fst (ps : List (Int × Int)) : (srtP ps).map (·.1) = srtI (ps.map (·.1)) := by
  refine srtI_uniq ?_ ((srtP_perm ps).map _)
  have hs : (srtP ps).Pairwise fun x y => leP x y = true := List.pairwise_mergeSort (fun a b c h1 h2 => by
      have a1 := SrtO.lexB_no.mp (leP_iff.mp h1)
      have a2 := SrtO.lexB_no.mp (leP_iff.mp h2)
      exact leP_iff.mpr (SrtO.lexB_no.mpr (by omega))) (fun a b => by
      simp only [Bool.or_eq_true]
      by_cases q : SrtO.lexB b a = false
      · exact .inl (leP_iff.mpr q)
      · have q := SrtO.lexB_iff.mp (by simpa using q)
        exact .inr (leP_iff.mpr (SrtO.lexB_no.mpr (by omega)))) ps
  exact List.pairwise_map.mpr (hs.imp fun {a b} h => by have := SrtO.lexB_no.mp (leP_iff.mp h); omega)
theorem wok_sum {P : Int} : ∀ {fs : List (Str × Int)} {ws : List Int}, WOk P fs ws → (∀ f ∈ fs, 1 ≤ f.2) → fs.map (fun f => P / f.2) = ws
  | [], [], _, _ => rfl
  | f :: fs, w :: ws, ⟨⟨h1, _⟩, h⟩, lo => by
    have l1 := lo f List.mem_cons_self
    rw [List.map_cons, wok_sum h fun g hg => lo g (List.mem_cons_of_mem _ hg), ← h1, Int.mul_ediv_cancel _ (by omega)]
  | [], _ :: _, h, _ => h.elim
  | _ :: _, [], h, _ => h.elim
/-- the limits in order, as numbers -/
def ordN (fs : List (Str × Int)) : List Nat := (srtP (limP fs)).map fun p => p.1.toNat
theorem ordN_eq (fs : List (Str × Int)) : ordN fs = (srtI (fs.map (·.2))).map Int.toNat := by
  rw [← limP_fst, ← srtP_fst, List.map_map]
  rfl
def prodN (fs : List (Str × Int)) : Nat := (prodL (fs.map (·.2))).toNat
theorem dvd_prodL : ∀ {l : List Int} {x : Int}, x ∈ l → x ∣ prodL l
  | a :: r, x, h => by
    have e : prodL (a :: r) = a * prodL r := by rw [show a :: r = [a] ++ r from rfl, prodL_app]; simp [prodL]
    rw [e]
    obtain rfl | h := List.mem_cons.mp h
    · exact Int.dvd_mul_right _ _
    · exact Int.dvd_mul_of_dvd_right (dvd_prodL h)
section
variable {fs : List (Str × Int)} (ok : FOk fs)
include ok
theorem ordN_mem {l : Nat} (h : l ∈ ordN fs) : ∃ f ∈ fs, (l : Int) = f.2 ∧ 0 < l ∧ l ∣ prodN fs := by
  rcases List.mem_map.mp h with ⟨p, hp, rfl⟩
  obtain ⟨k, f, hf, rfl⟩ := limP_mem ((srtP_perm _).mem_iff.mp hp)
  have fm := List.mem_of_getElem? hf
  have lo := (ok.lo f fm).1
  have d := dvd_prodL (List.mem_map.mpr ⟨f, fm, rfl⟩ : f.2 ∈ fs.map (·.2))
  have pp := prodL_pos (l := fs.map (·.2)) fun x hx => by obtain ⟨g, hg, rfl⟩ := List.mem_map.mp hx; exact (ok.lo g hg).1
  have e : ((f.2.toNat : Nat) : Int) = f.2 := Int.toNat_of_nonneg (by omega)
  refine ⟨f, fm, e, by show 0 < f.2.toNat; omega, ?_⟩
  refine Int.natCast_dvd_natCast.mp ?_
  show ((f.2.toNat : Nat) : Int) ∣ ((prodN fs : Nat) : Int)
  rw [e, prodN, Int.toNat_of_nonneg (by omega)]
  exact d
theorem ordN_chain (h : harmB (fs.map (·.2)) = true) {i : Nat} {a b : Nat} (ha : (ordN fs)[i]? = some a) (hb : (ordN fs)[i + 1]? = some b) : a ∣ b := by
  obtain ⟨fa, _, ea, pa, _⟩ := ordN_mem ok (List.mem_of_getElem? ha)
  obtain ⟨fb, _, eb, pb, _⟩ := ordN_mem ok (List.mem_of_getElem? hb)
  rw [ordN_eq, List.getElem?_map] at ha hb
  obtain ⟨x, hx, e1⟩ := Option.map_eq_some_iff.mp ha
  obtain ⟨y, hy, e2⟩ := Option.map_eq_some_iff.mp hb
  have := harm_at h hx hy
  have d : x ∣ y := Int.dvd_of_emod_eq_zero this
  refine Int.natCast_dvd_natCast.mp ?_
  rw [← e1, ← e2, Int.toNat_of_nonneg (by omega), Int.toNat_of_nonneg (by omega)]
  exact d
theorem ordN_sum : ((((ordN fs).map (prodN fs / ·)).sum : Nat) : Int) = (shrL fs).1 := by
  have lo : ∀ f ∈ fs, 1 ≤ f.2 := fun f hf => (ok.lo f hf).1
  obtain ⟨_, _, ws, hw, hs⟩ := shr_ok lo
  have pp := prodL_pos (l := fs.map (·.2)) fun x hx => by obtain ⟨g, hg, rfl⟩ := List.mem_map.mp hx; exact lo g hg
  have pm : (ordN fs).Perm (fs.map fun f => f.2.toNat) := by
    rw [ordN_eq]
    have := (srtI_perm (fs.map (·.2))).map Int.toNat
    rwa [List.map_map] at this
  rw [(pm.map (prodN fs / ·)).sum_nat, ← hs, ← wok_sum hw lo, shr_bot]
  have : ∀ gs : List (Str × Int), (∀ f ∈ gs, 1 ≤ f.2) → ((((gs.map fun f => f.2.toNat).map (prodN fs / ·)).sum : Nat) : Int) = sumL (gs.map fun f => prodL (fs.map (·.2)) / f.2) := by
    intro gs
    induction gs with
    | nil => intro _; rfl
    | cons g gs ih =>
      intro lo
      have l1 := lo g List.mem_cons_self
      rw [List.map_cons, List.map_cons, List.sum_cons, List.map_cons, sumL, Int.natCast_add, ih fun f hf => lo f (List.mem_cons_of_mem _ hf), Int.natCast_ediv]
      rw [Int.toNat_of_nonneg (by omega : (0 : Int) ≤ g.2), prodN, Int.toNat_of_nonneg (by omega)]
  exact this fs lo
end
/-- a name's limit -/
def limN (fs : List (Str × Int)) (z : Str) : Nat := ((fs.find? fun f => decide (f.1 = z)).map fun f => f.2.toNat).getD 0
theorem limN_eq {fs : List (Str × Int)} (nd : (fs.map (·.1)).Nodup) {f : Str × Int} (hf : f ∈ fs) : limN fs f.1 = f.2.toNat := by
  induction fs with
  | nil => cases hf
  | cons g gs ih =>
    have nd' := List.nodup_cons.mp nd
    unfold limN
    by_cases e : g.1 = f.1
    · rw [List.find?_cons_of_pos (by simpa using e)]
      rcases List.mem_cons.mp hf with rfl | hm
      · rfl
      · exact absurd (List.mem_map.mpr ⟨f, hm, e.symm⟩) nd'.1
    · rw [List.find?_cons_of_neg (by simpa using e)]
      rcases List.mem_cons.mp hf with rfl | hm
      · exact absurd rfl e
      · exact ih nd'.2 hm
/-- a rule's classes: name, cart, rest -/
abbrev REl := Str × Nat × Nat
def clO (fs : List (Str × Int)) (e : REl) : RCl := (e.2.1, e.2.2, limN fs e.1)
structure RuleOk (fs : List (Str × Int)) (n : Nat) (E : List REl) : Prop where
  nm : (E.map (·.1)).Perm (fs.map (·.1))
  ca : ∀ e ∈ E, e.2.1 < n
  rs : ∀ e ∈ E, e.2.2 < limN fs e.1
  ch : ∀ e ∈ E, ∀ e' ∈ E, limN fs e.1 ∣ limN fs e'.1 ∨ limN fs e'.1 ∣ limN fs e.1
  ds : (E.map (clO fs)).Pairwise RDis
def nameA (fs : List (Str × Int)) (p : Int × Int) : Str := (fs.map (·.1)).getD p.2.toNat ""
theorem nameA_lim {fs : List (Str × Int)} (nd : (fs.map (·.1)).Nodup) {p : Int × Int} (h : p ∈ limP fs) : limN fs (nameA fs p) = p.1.toNat ∧ nameA fs p ∈ fs.map (·.1) ∧ ∃ f ∈ fs, f.1 = nameA fs p ∧ f.2 = p.1 := by
  obtain ⟨k, f, hf, rfl⟩ := limP_mem h
  have fm := List.mem_of_getElem? hf
  have e : nameA fs (f.2, ((k : Nat) : Int)) = f.1 := by
    unfold nameA
    simp only [List.getD_eq_getElem?_getD]
    show ((fs.map (·.1))[k]?).getD _ = _
    rw [List.getElem?_map, hf]
    rfl
  rw [e]
  exact ⟨limN_eq nd fm, List.mem_map.mpr ⟨f, fm, rfl⟩, f, fm, rfl, rfl⟩
theorem names_perm (fs : List (Str × Int)) : ((srtP (limP fs)).map (nameA fs)).Perm (fs.map (·.1)) := by
  have h1 : (limP fs).map (nameA fs) = fs.map (·.1) := by
    refine List.ext_getElem? fun i => ?_
    unfold limP
    rw [List.map_map, List.getElem?_map, List.getElem?_zipIdx, List.getElem?_map, List.getElem?_map]
    cases hf : fs[i]? with
    | none => rfl
    | some f =>
      show some (nameA fs (f.2, ((0 + i : Nat) : Int))) = some f.1
      unfold nameA
      rw [List.getD_eq_getElem?_getD, Nat.zero_add]
      show some (((fs.map (·.1))[i]?).getD _) = _
      rw [List.getElem?_map, hf]
      rfl
  have := (srtP_perm (limP fs)).map (nameA fs)
  rwa [h1] at this
/-- what the loop over the limits keeps -/
structure RInv (fs : List (Str × Int)) (n i : Nat) (F : List RCl) (E : List REl) : Prop where
  nm : E.map (·.1) = ((srtP (limP fs)).take i).map (nameA fs)
  inv : ∃ L, FInv n L (F ++ E.map (clO fs)) ∧ L ∣ prodN fs ∧ ∀ l, (ordN fs)[i]? = some l → L ∣ l
  wt : wtC (prodN fs) (F ++ E.map (clO fs)) = n * prodN fs
theorem rinv_start (fs : List (Str × Int)) (n : Nat) : RInv fs n 0 ((List.range n).map fun c => ((c, 0, 1) : RCl)) [] :=
  ⟨rfl, ⟨1, by rw [List.map_nil, List.append_nil]; exact finv_start n, Nat.one_dvd _, fun l _ => Nat.one_dvd l⟩, by rw [List.map_nil, List.append_nil]; exact wtC_start _ _⟩
theorem rinv_step {fs : List (Str × Int)} (ok : FOk fs) {n i : Nat} {F : List RCl} {E : List REl} {p : Int × Int} (h : RInv fs n i F E) (hp : (srtP (limP fs))[i]? = some p) (hb : harmB (fs.map (·.2)) = true) (le : (shrL fs).1 ≤ (n : Int) * (shrL fs).2) :
    ∃ x R, F = x :: R ∧ 0 < x.2.2 ∧ x.2.2 ∣ p.1.toNat ∧ 1 ≤ p.1 ∧ RInv fs n (i + 1) (splitC x p.1.toNat ++ R) (E ++ [(nameA fs p, x.1, x.2.1)]) := by
  obtain ⟨nm, ⟨L, inv, _, dv⟩, wt⟩ := h
  have pm := (srtP_perm _).mem_iff.mp (List.mem_of_getElem? hp)
  obtain ⟨e1, _, f, fm, _, e2⟩ := nameA_lim ok.nd pm
  have l1 := (ok.lo f fm).1
  have hi : (ordN fs)[i]? = some p.1.toNat := by unfold ordN; rw [List.getElem?_map, hp]; rfl
  obtain ⟨_, _, _, l0, lP⟩ := ordN_mem ok (List.mem_of_getElem? hi)
  have lo : ∀ f ∈ fs, 1 ≤ f.2 := fun f hf => (ok.lo f hf).1
  have pp := prodL_pos (l := fs.map (·.2)) fun x hx => by obtain ⟨g, hg, rfl⟩ := List.mem_map.mp hx; exact lo g hg
  have P0 : 0 < prodN fs := by unfold prodN; omega
  have hD : (E.map (clO fs)).map (·.2.2) = (ordN fs).take i := by
    have : (E.map (clO fs)).map (·.2.2) = (E.map (·.1)).map (limN fs) := by rw [List.map_map, List.map_map]; rfl
    rw [this, nm, List.map_map, ordN, ← List.map_take]
    exact List.map_congr_left fun q hq => (nameA_lim ok.nd ((srtP_perm _).mem_iff.mp (List.mem_of_mem_take hq))).1
  have hs : ((ordN fs).map (prodN fs / ·)).sum ≤ n * prodN fs := by
    have h1 := ordN_sum ok
    have h2 : ((prodN fs : Nat) : Int) = (shrL fs).2 := by rw [prodN, Int.toNat_of_nonneg (by omega), shr_bot]
    rw [← h1, ← h2] at le
    exact Int.ofNat_le.mp (by rw [Int.natCast_mul]; exact le)
  obtain ⟨x, R, rfl, xl, x0, inv', wt'⟩ := rule_step hi inv hD wt (dv _ hi) l0 lP P0 hs
  have eE : (E ++ [(nameA fs p, x.1, x.2.1)]).map (clO fs) = E.map (clO fs) ++ [partC x p.1.toNat 0] := by
    rw [List.map_append, List.map_cons, List.map_nil]
    congr 2
    show (x.1, x.2.1, limN fs (nameA fs p)) = (x.1, x.2.1 + x.2.2 * 0, p.1.toNat)
    rw [e1, Nat.mul_zero, Nat.add_zero]
  refine ⟨x, R, rfl, x0, xl, by omega, ?_, ⟨p.1.toNat, by rw [eE]; exact inv', lP, fun l hl => ordN_chain ok hb hi hl⟩, by rw [eE]; exact wt'⟩
  rw [List.map_append, nm, List.take_add_one, hp, Option.toList_some, List.map_append]
  rfl
theorem rinv_end {fs : List (Str × Int)} {n : Nat} {F : List RCl} {E : List REl} (h : RInv fs n (srtP (limP fs)).length F E) : RuleOk fs n E := by
  obtain ⟨nm, ⟨L, inv, _, _⟩, _⟩ := h
  rw [List.take_length] at nm
  have em : ∀ e ∈ E, clO fs e ∈ F ++ E.map (clO fs) := fun e he => List.mem_append_right _ (List.mem_map.mpr ⟨e, he, rfl⟩)
  refine ⟨by rw [nm]; exact names_perm fs, fun e he => inv.ca _ (em e he), fun e he => inv.rs _ (em e he), fun e he e' he' => inv.ch _ (em e he) _ (em e' he'), (List.pairwise_append.mp inv.ds).2.1⟩
theorem wtC_few {P : Nat} : ∀ {A : List RCl}, (∀ x ∈ A, 1 ≤ P / x.2.2) → A.length ≤ wtC P A
  | [], _ => Nat.zero_le _
  | x :: A, h => by
    have h1 := h x List.mem_cons_self
    have h2 := wtC_few fun y hy => h y (List.mem_cons_of_mem _ hy)
    show A.length + 1 ≤ P / x.2.2 + wtC P A
    omega
theorem rinv_few {fs : List (Str × Int)} (P0 : 0 < prodN fs) {n i : Nat} {F : List RCl} {E : List REl} (h : RInv fs n i F E) : F.length ≤ n * prodN fs := by
  obtain ⟨_, ⟨L, inv, dP, _⟩, wt⟩ := h
  have := wtC_few (P := prodN fs) (A := F ++ E.map (clO fs)) fun x hx => Nat.div_pos (Nat.le_of_dvd P0 (Nat.dvd_trans (inv.dv x hx) dP)) (inv.ps x hx)
  rw [wt, List.length_append] at this
  omega
theorem rinv_rest {fs : List (Str × Int)} {n i : Nat} {F : List RCl} {E : List REl} (h : RInv fs n i F E) {x : RCl} (hx : x ∈ F ++ E.map (clO fs)) : x.2.1 < x.2.2 := by
  obtain ⟨_, ⟨L, inv, _, _⟩, _⟩ := h
  exact inv.rs x hx
theorem rinv_len {fs : List (Str × Int)} {n i : Nat} {F : List RCl} {E : List REl} (h : RInv fs n i F E) : E.length ≤ i := by
  have := congrArg List.length h.nm
  rw [List.length_map, List.length_map, List.length_take] at this
  omega
theorem rinv_new {fs : List (Str × Int)} (nd : ((srtP (limP fs)).map (nameA fs)).Nodup) {n i : Nat} {F : List RCl} {E : List REl} (h : RInv fs n i F E) {p : Int × Int} (hp : (srtP (limP fs))[i]? = some p) : nameA fs p ∉ E.map (·.1) := by
  rw [h.nm]
  intro m
  have e : ((srtP (limP fs)).map (nameA fs))[i]? = some (nameA fs p) := by rw [List.getElem?_map, hp]; rfl
  rw [List.map_take] at m
  obtain ⟨j, hj⟩ := List.getElem?_of_mem m
  have lt := (List.getElem?_eq_some_iff.mp hj).1
  rw [List.length_take] at lt
  rw [List.getElem?_take, if_pos (by omega)] at hj
  have := nd_ix nd hj e
  omega

end
end HC
namespace HC
open PyProof.Rows PySem L2 PySem.Spec
local macro_rules | `(tactic| walk_at "ext") => `(tactic| first | exact .here | exact .there .here | exact .there (.there .here) | exact .there (.there (.there .here)) | exact .there (.there (.there (.there .here))) | exact .there (.there (.there (.there (.there .here)))))
local macro_rules | `(tactic| walk_at "gets") => `(tactic| first | exact Gets.nil | ((refine' Gets.cons ?he ?hr); (case he => walk_at "ext"); (case hr => walk_at "gets")))
local macro_rules | `(tactic| walk_at "ar") => `(tactic| first | exact ar_eq rfl | (refine ar_ex fun _ => ?_; walk_at "ar"))
local macro_rules | `(tactic| walk_at "rep") => `(tactic| first | exact .here | exact .there .here | exact .there (.there .here) | exact .there (.there (.there .here)) | exact .there (.there (.there (.there .here))))
local macro_rules | `(tactic| walk_at "see") => `(tactic| first | exact .da _ | exact .lst (by walk_at "ext"))
local macro_rules | `(tactic| walk_at "itm") => `(tactic| first | exact .tup _ | exact .tupS _ | exact .lst _ | exact .scr _ | exact .btup _ | exact .raw (by walk_at "ext"))
local macro_rules | `(tactic| walk_at "wk") => `(tactic| first | exact .tup _ | exact .tupS _ | exact .lst _ | exact .scr _ | exact .btup _ | exact .str _ | exact .raw (by walk_at "ext"))
local macro_rules | `(tactic| walk_at "alld") => `(tactic| first | exact allDa0 | exact allDa1 | exact allDa2 | exact allDa3 | exact allDa4 | exact allDa5 | rfl)
local macro_rules | `(tactic| walk_at "put") => `(tactic| (simp (config := { decide := true }) only [putS, if_true, if_false]; try rfl))
local macro_rules | `(tactic| walk_at "pl") => `(tactic| first | rfl | assumption | exact pls_map (fun _ => rfl) | exact pl_lm (fun _ => rfl) | exact pl_tm (fun _ => rfl))
local macro_rules | `(tactic| walk_at "size") => `(tactic| first | exact (by decide : _ ≤ sizeLine) | (simp [sizeLine_eq]; done) | (simp [sizeLine_eq]; omega))
local macro_rules | `(tactic| walk_at "d1") => `(tactic| first
  | with_reducible refine s_seq ?_ | with_reducible refine s_asg ?_ | ((with_reducible refine' s_var ?hv ?_ ?kn); (case hv => exact rfl); (case kn => trivial)) | with_reducible refine s_c ?_ | with_reducible refine s_r ?_
  | ((with_reducible refine' s_name ?hv ?_); (case hv => first | (simp only [List.set]; rfl) | (simp only [wipeD, List.set]; rfl)))
  | with_reducible refine s_b ?_ | with_reducible refine s_u ?_ | with_reducible refine s_t ?_ | with_reducible refine s_isB ?_ | with_reducible refine s_cons ?_ | with_reducible refine s_nil ?_
  | with_reducible refine s_p2 ?_ | with_reducible refine s_p1 ?_ | with_reducible refine s_add_i ?_ | ((with_reducible refine' s_I ?hc ?_); (case hc => first | trivial | (show (0 : Int) < _; omega) | (unfold CMul; omega) | (unfold CPow; decide) | (unfold CDiv; omega))) | with_reducible refine s_1I ?_
  | with_reducible refine s_eq_i ?_ | with_reducible refine s_eq_s ?_ | with_reducible refine s_eq_b ?_ | with_reducible refine s_ne_i ?_ | with_reducible refine s_ne_s ?_ | with_reducible refine s_ne_b ?_ | with_reducible refine s_isN ?_ | with_reducible refine s_notN ?_
  | with_reducible refine s_call ?_ | with_reducible refine s_make ?_ | with_reducible refine s_fld ?_ | with_reducible refine s_prop ?_ | with_reducible refine s_meth ?_ | with_reducible refine s_ret ?_ | with_reducible refine s_retN ?_ | with_reducible refine s_drop ?_ | with_reducible refine s_ifS ?_ | with_reducible refine s_next ?_
  | with_reducible refine s_and ?_ | with_reducible refine s_or ?_ | with_reducible refine s_not ?_ | with_reducible refine s_andV ?_ | with_reducible refine s_orV ?_ | with_reducible refine s_notV ?_ | with_reducible refine s_if ?_ | with_reducible refine s_chain ?_
  | ((with_reducible refine' s_mkT ?he ?hz ?_); (case he => first | exact mkT2 | exact mkT1 | exact mkT3 | exact mkT4 | exact mkT0 | rfl); (case hz => walk_at "size")) | ((with_reducible refine' s_mkL ?he ?hz ?_); (case he => walk_at "alld"); (case hz => walk_at "size"))
  | with_reducible refine s_partI ?_ | with_reducible refine s_slT ?_ | ((with_reducible refine' s_sfldV ?kn ?_); (case kn => trivial)) | ((with_reducible refine' s_lenI ?hi ?_); (case hi => walk_at "itm")) | with_reducible refine s_lenS ?_
  | ((with_reducible refine' s_fldD ?he ?fn ?_); (case he => rfl); (case fn => assumption)) | ((with_reducible refine' s_fldR ?hx ?he ?fn ?kn ?_); (case hx => walk_at "ext"); (case he => rfl); (case fn => assumption); (case kn => trivial))
  | ((with_reducible refine' s_sfldR ?hr ?he ?fn ?hf ?_); (case hr => walk_at "rep"); (case he => walk_at "put"); (case fn => assumption); (case hf => simp)) | ((with_reducible refine' s_add_t ?hz ?_); (case hz => walk_at "size")) | ((with_reducible refine' s_add_l ?hz ?_); (case hz => walk_at "size"))
  | ((with_reducible refine' s_parK ?he ?hl ?_); (case he => first | (simp only [List.zip_cons_cons, List.zip_nil_right, List.zip_nil_left, List.foldl_cons, List.foldl_nil, List.set_cons_succ, List.set_cons_zero]; rfl) | rfl); (case hl => rfl)) | ((with_reducible refine' s_raiseK ?he ?hl ?_); (case he => walk_at "alld"); (case hl => rfl)) | ((with_reducible refine' s_gtup ?hi ?hn ?_); (case hi => first | exact its2_2 | exact its2_3 | exact its2_4 | exact its2_1 | exact .tup _ | exact .da _); (case hn => rfl)) | with_reducible refine s_gcons ?_ | with_reducible refine s_gnil ?_
  | with_reducible refine s_for ?_ | with_reducible refine s_it ?_ | with_reducible refine s_rng1 ?_ | with_reducible refine s_rng2 ?_ | with_reducible refine s_enT ?_ | with_reducible refine s_enL ?_ | with_reducible refine s_enLK ?_ | with_reducible refine s_zip ?_ | with_reducible refine s_zipL ?_ | with_reducible refine s_lc ?_ | with_reducible refine s_yes ?_
  | with_reducible refine s_faug ?_ | with_reducible refine s_int ?_ | with_reducible refine s_intB ?_ | with_reducible refine s_n1 ?_ | with_reducible refine s_n2 ?_ | with_reducible refine s_star1 ?_ | with_reducible refine s_dictZip ?_ | with_reducible refine s_items ?_ | ((with_reducible refine' s_star1K ?hi ?_); (case hi => walk_at "itm")) | ((with_reducible refine' s_augI ?he ?_); (case he => rfl)) | ((with_reducible refine' s_augV ?hc ?he ?_); (case hc => (unfold CMul; omega)); (case he => first | (simp only [List.set_cons_succ, List.set_cons_zero]; rfl) | rfl)) | ((with_reducible refine' s_aug0 ?he ?_); (case he => rfl)) | ((with_reducible refine' s_aug0V ?he ?_); (case he => first | (simp only [List.set_cons_succ, List.set_cons_zero]; rfl) | rfl)) | with_reducible refine s_tupOfT ?_
  | ((with_reducible refine' s_ix ?him ?hat ?kn ?_); (case him => walk_at "itm"); (case hat => first | exact atI_mm (by assumption) | exact atI_c0 | exact atI_c1 | exact atI_c2 | exact atI_c3 | exact atI_c4); (case kn => trivial)) | ((with_reducible refine' s_bmK ?hi ?_); (case hi => first | exact .da _ | exact .raw (by walk_at "ext"))) | ((with_reducible refine' s_bmK0 ?hi ?_); (case hi => first | exact .da _ | exact .raw (by walk_at "ext")))
  | ((with_reducible refine' s_app ?hr ?hz ?_); (case hr => walk_at "rep"); (case hz => walk_at "size")) | ((with_reducible refine' s_itK ?hw ?_); (case hw => walk_at "wk")) | with_reducible refine s_propD ?_ | ((with_reducible refine' s_propR ?hx ?_); (case hx => walk_at "ext"))
  | ((with_reducible refine' s_methD ?hn ?_); (case hn => (simp (config := { decide := true }) only [List.map, List.mem_cons, List.not_mem_nil, or_false, not_or, not_false_eq_true, and_self])))
  | ((with_reducible refine' s_methR ?hx ?hn ?_); (case hx => walk_at "ext"); (case hn => (simp (config := { decide := true }) only [List.map, List.mem_cons, List.not_mem_nil, or_false, not_or, not_false_eq_true, and_self])))
  | ((with_reducible refine' s_enTK ?hi ?_); (case hi => first | exact .da _ | exact .btup _ | exact .tup _)) | ((with_reducible refine' s_zipT ?hi ?hj ?_); (case hi => first | exact .da _ | exact .btup _ | exact .tup _); (case hj => first | exact .da _ | exact .btup _ | exact .tup _))
  | ((with_reducible refine' s_tupOfL ?hs ?_); (case hs => walk_at "see")) | ((with_reducible refine' s_tupNew ?hs ?_); (case hs => walk_at "see")) | ((with_reducible refine' s_slL ?hs ?_); (case hs => walk_at "see"))
  | ((with_reducible refine' s_notIn_bt ?h1 ?h2 ?_); (case h1 => walk_at "pl"); (case h2 => walk_at "pl")) | ((with_reducible refine' s_in_bt ?h1 ?h2 ?_); (case h1 => walk_at "pl"); (case h2 => walk_at "pl")) | ((with_reducible refine' s_notIn_t ?h1 ?h2 ?_); (case h1 => walk_at "pl"); (case h2 => walk_at "pl")) | ((with_reducible refine' s_in_t ?h1 ?h2 ?_); (case h1 => walk_at "pl"); (case h2 => walk_at "pl")) | ((with_reducible refine' s_notIn_l ?h1 ?h2 ?_); (case h1 => walk_at "pl"); (case h2 => walk_at "pl")) | ((with_reducible refine' s_in_l ?h1 ?h2 ?_); (case h1 => walk_at "pl"); (case h2 => walk_at "pl"))
  | ((with_reducible refine' s_nilEq ?hi ?_); (case hi => first | exact .lst _ | exact .raw (by walk_at "ext"))) | ((with_reducible refine' s_popE ?hr ?_); (case hr => walk_at "rep"))
  | with_reducible refine s_setL ?_ | with_reducible refine s_setL1 ?_ | with_reducible refine s_setL2 ?_ | ((with_reducible refine' s_addR ?h1 ?h2 ?hz ?_); (case h1 => walk_at "see"); (case h2 => walk_at "see"); (case hz => walk_at "size")) | with_reducible refine s_m1 ?_ | with_reducible refine s_m1K ?_ | with_reducible refine s_m1Q ?_ | with_reducible refine s_lcR ?_ | with_reducible refine s_tupIx ?_ | with_reducible refine s_lenOD ?_ | ((with_reducible refine' s_lenOR ?hx ?_); (case hx => walk_at "ext")) | with_reducible refine s_raise0 ?_ | with_reducible refine s_raise ?_ | with_reducible refine s_tup ?_ | with_reducible refine s_lst ?_ | with_reducible refine s_lstR ?_ | with_reducible refine s_cb ?_ | with_reducible refine s_sl ?_ | with_reducible refine s_noP ?_ | with_reducible refine s_part ?_ | with_reducible refine s_bm ?_ | with_reducible refine s_bm0 ?_ | with_reducible refine s_sfld ?_ | with_reducible refine s_par ?_)
local macro_rules | `(tactic| walk_at "side") => `(tactic| first | assumption | omega | trivial | (decide; done))
local macro_rules | `(tactic| walk_at "wit") => `(tactic| ((repeat apply Exists.intro); (refine' And.intro (rfl : @Eq (List Sl) _ _) ?_); (first | (refine' And.intro (rfl : @Eq (List (Rs _)) _ _) ?_) | (fail_if_success (refine' And.intro (?_ : @Eq (List (Rs _)) _ _) ?_))); (repeat refine' And.intro (by walk_at "side") ?_)))
local macro_rules | `(tactic| walk_at "ask") => `(tactic| first | ((with_reducible refine' s_ask0 ?kk); (case' kk => walk_at "wit")) | ((with_reducible refine' s_ask ?gg ?kk); (case' kk => walk_at "wit"); (case' gg => walk_at "gets")))
local macro_rules | `(tactic| walk_at "d") => `(tactic| repeat walk_at "d1")
local macro_rules | `(tactic| walk_at "in") => `(tactic| simp only [startD, List.length_cons, List.length_nil, Nat.zero_add, Nat.reduceAdd, Nat.reduceSub, List.replicate_succ, List.replicate_zero, List.cons_append, List.nil_append])
local macro_rules | `(tactic| walk_at "yes") => `(tactic| refine if_T (by first | rfl | exact decide_eq_true (by first | assumption | omega) | assumption) ?_)
local macro_rules | `(tactic| walk_at "no") => `(tactic| refine if_F (by first | rfl | exact decide_eq_false (by first | assumption | omega) | assumption) ?_)
local macro_rules | `(tactic| walk_at "nyes") => `(tactic| refine if_T (by first | rfl | (rw [decide_eq_false (by first | assumption | omega)]; rfl)) ?_)
local macro_rules | `(tactic| walk_at "nno") => `(tactic| refine if_F (by first | rfl | (rw [decide_eq_true (by first | assumption | omega)]; rfl)) ?_)
local macro_rules | `(tactic| walk_at "dec") => `(tactic| first | rfl | assumption | (simp (config := { failIfUnchanged := false }) only [*, decide_true, decide_false, decide_eq_true_eq, decide_eq_false_iff_not, Bool.not_true, Bool.not_false, Bool.and_true, Bool.and_false, Bool.true_and, Bool.false_and, Bool.or_true, Bool.or_false, Bool.true_or, Bool.false_or, not_false_eq_true, Bool.not_eq_true']; done))
local macro_rules | `(tactic| walk_at "di") => `(tactic| repeat first | walk_at "d1" | ((with_reducible refine' if_T ?hc ?_); (case hc => walk_at "dec")) | ((with_reducible refine' if_F ?hc ?_); (case hc => walk_at "dec")))
local macro_rules | `(tactic| walk_at "wipe") => `(tactic| simp only [List.map_cons, List.map_nil, wipeD, List.set_cons_zero, List.set_cons_succ])
local macro_rules | `(tactic| walk_at "d2") => `(tactic| first
  | ((with_reducible refine' s_gunl ?hi ?hn ?_); (case hi => first | exact nl5 | exact nl4 | exact nl3 | exact nl2 | exact .lst _ | exact .raw (by walk_at "ext")); (case hn => rfl)) | with_reducible refine s_gv ?_ | with_reducible refine s_meth0 ?_
  | ((with_reducible refine' s_meth0D ?hn ?_); (case hn => (simp (config := { decide := true }) only [List.map, List.mem_cons, List.not_mem_nil, or_false, not_or, not_false_eq_true, and_self])))
  | ((with_reducible refine' s_meth0R ?hx ?hn ?_); (case hx => walk_at "ext"); (case hn => (simp (config := { decide := true }) only [List.map, List.mem_cons, List.not_mem_nil, or_false, not_or, not_false_eq_true, and_self]))))
local macro_rules | `(tactic| walk_at "d") => `(tactic| repeat first | walk_at "d1" | walk_at "d2")
local macro_rules | `(tactic| walk_at "wit1") => `(tactic| ((repeat apply Exists.intro); (refine' And.intro (rfl : @Eq (List Sl) _ _) ?_); (first | (refine' And.intro (rfl : @Eq (List (Rs _)) _ _) ?_) | (fail_if_success (refine' And.intro (?_ : @Eq (List (Rs _)) _ _) ?_)))))
local macro_rules | `(tactic| walk_at "sides") => `(tactic| (repeat refine' And.intro (by walk_at "side") ?_))
local macro_rules | `(tactic| walk_at "ask") => `(tactic| first | ((with_reducible refine' s_ask0 ?kk); (case' kk => walk_at "wit")) | ((with_reducible refine' s_ask ?gg ?kk); (case' kk => walk_at "wit1"); (case' gg => walk_at "gets"); walk_at "sides"))
local macro_rules | `(tactic| walk_at "y1") => `(tactic| first
  | with_reducible refine y_seq ?_ | with_reducible refine y_pl ?_ | with_reducible refine y_next ?_ | with_reducible refine y_yld ?_ | with_reducible refine y_yldK ?_ | with_reducible refine y_if ?_ | with_reducible refine y_for ?_ | with_reducible refine y_forG ?_ | with_reducible refine s_gn ?_ | with_reducible refine s_diG ?_ | with_reducible refine s_diEnG ?_ | with_reducible refine s_listG ?_)
local macro_rules | `(tactic| walk_at "y") => `(tactic| repeat first | walk_at "d1" | walk_at "d2" | walk_at "y1")
local macro_rules | `(tactic| walk_at "seeT") => `(tactic| first | exact .raw (by walk_at "ext") | exact .da _)
local macro_rules | `(tactic| walk_at "d2") => `(tactic| first
  | with_reducible refine s_star ?_ | ((with_reducible refine' s_starK ?im ?_); (case im => walk_at "itm")) | with_reducible refine s_appK ?_ | with_reducible refine s_dget ?_ | with_reducible refine s_din ?_ | with_reducible refine s_dget1 ?_ | with_reducible refine s_dget2 ?_ | with_reducible refine s_dput ?_ | with_reducible refine s_valsT ?_ | with_reducible refine s_diDT ?_ | with_reducible refine s_makeK ?_ | with_reducible refine s_makeSK ?_ | with_reducible refine s_kwK ?_ | with_reducible refine s_lenSet ?_
  | ((with_reducible refine' s_dget1L ?se ?_); (case se => walk_at "seeT")) | ((with_reducible refine' s_dget2L ?se ?_); (case se => walk_at "seeT")))
local macro_rules | `(tactic| walk_at "d4") => `(tactic| first
  | with_reducible refine s_head ?_ | with_reducible refine s_gsub ?_ | with_reducible refine s_gsub1 ?_ | with_reducible refine s_isC ?_ | with_reducible refine s_isCK ?_ | with_reducible refine s_fmt ?_ | with_reducible refine s_fs ?_ | with_reducible refine s_jsC ?_ | with_reducible refine s_jsN ?_ | with_reducible refine s_ownEqK ?_ | with_reducible refine s_ownIx ?_ | with_reducible refine s_ownIx1 ?_ | with_reducible refine s_ownIx2 ?_)
local macro_rules | `(tactic| walk_at "y") => `(tactic| repeat first | walk_at "d1" | walk_at "d2" | walk_at "y1" | walk_at "d4")
local macro_rules | `(tactic| walk_at "d5") => `(tactic| first
  | with_reducible refine s_opX ?_ | with_reducible refine s_opX1 ?_ | with_reducible refine s_opXI ?_ | with_reducible refine s_opXT ?_ | with_reducible refine s_opXO ?_ | with_reducible refine s_callI ?_ | with_reducible refine s_callI1 ?_ | with_reducible refine s_callI2 ?_ | with_reducible refine s_lcG ?_)
local macro_rules | `(tactic| walk_at "y") => `(tactic| repeat first | walk_at "d1" | walk_at "d2" | walk_at "y1" | walk_at "d4" | walk_at "d5")
local macro_rules | `(tactic| walk_at "d7") => `(tactic| first | with_reducible refine s_pget ?_ | with_reducible refine s_pgetK ?_ | with_reducible refine s_pin ?_ | with_reducible refine s_pinK ?_ | with_reducible refine s_pput ?_ | with_reducible refine s_pputK ?_ | with_reducible refine s_pputL ?_)
local macro_rules | `(tactic| walk_at "y") => `(tactic| repeat first | walk_at "d1" | walk_at "d2" | walk_at "y1" | walk_at "d4" | walk_at "d5" | walk_at "d6" | walk_at "d7")
section
variable {P : Program} {w : World} {K : PySem.W.Frag}
variable {mg : Str → Option Value} {base : Heap}
/-! ### is_harmonic, Rule(..) -/
def D_is_harmonic (M : Md K mg) : SpD K := fun as rs xc q => ∃ fs, as = [.da (farmD M.a_Farm fs)] ∧ rs = [] ∧ FOk fs ∧ q (.da (.bl (harmB (fs.map (·.2))))) []
theorem ok_is_harmonic (M : Md K mg) (G : Gd K mg "is_harmonic" s_is_harmonic) (P_Farm_limits : PropR P w K mg base M.a_Farm "limits" 2 (spD (D_Farm_limits M))) : DefR P w K mg base "is_harmonic" 4 (spD (D_is_harmonic M)) := by
  refine def_mk G fun f fd F => fnr_mk (dfn_ok (k := 3) F sc_is_harmonic (by intro as rs xc q; walk_at "ar") (fun cdv A outer s H E hr => by
    have nd := sc_is_harmonic.nd
    exact (dss_cons (ds_set (i := 1) nd rfl (by first | exact Or.inl rfl | exact Or.inr rfl) (d_cb1 (pe_sortTI K M.b (d_prop (pe_propR P_Farm_limits (hr.mono (by first | decide | omega)) (d_var (i := 0) (pv 0))))) act_sortTI))
    (dss_one (ds_ret (d_cb1 (pe_all K M.b (d_lc (E' := E0) (E2 := E0) (pe_lc (own := [("one", 2), ("other", 3)]) (g := (gTup K 2 (gCons (gName 2) (gCons (gName 3) gNil)))) rfl nd (di_zip (pi_zipK K rfl M.b.zip (da_cons (d_var (i := 1) (pv 1)) (da_cons (d_sl (pe_slice (sl_X K) (d_var (i := 1) (pv 1)) (do_some (d_int pe_int)) do_none)) da_nil)))) (blkOk_by (N := N_is_harmonic) (sc := defScope s_is_harmonic) (by decide +kernel)) (fun _ _ _ _ _ => (pg_tupK K (n := 2) rfl (pgs_cons (pg_name (i := 2) nd rfl (by first | exact Or.inl rfl | exact Or.inr rfl)) (pgs_cons (pg_name (i := 3) nd rfl (by first | exact Or.inl rfl | exact Or.inr rfl)) pgs_nil)))) (fun _ _ _ _ _ => dts_nil) (fun _ _ _ _ _ => (d_cmp (op_eqK K hr) (pu2 pu_eq) (d_op op_mod (pu2 (pu_I fun _ _ _ _ => .int _)) (d_cb1 (pe_int1 M.b (d_var (i := 3) (pv 3))) act_int) (d_var (i := 2) (pv 2))) (d_int pe_int)))) (tg_tup (tgs_cons (tg_name 2) (tgs_cons (tg_name 3) tgs_nil))) (by decide))) act_all))))) ?_) (F.bindsN (fun _ _ _ _ _ _ us hl => match us, hl with | [_], _ => rfl))
  rintro as rs xc q ⟨fs, rfl, rfl, ok, k⟩
  have six := ok.six
  walk_at "in"
  walk_at "y"
  refine s_ask0 (D := D_Farm_limits M) ⟨fs, rfl, six, ?_⟩
  walk_at "y"
  refine s_sortTI (ns := fs.map (·.2)) (by rw [List.map_map]; rfl) ?_
  have few : (srtI (fs.map (·.2))).length ≤ 6 := by rw [(srtI_perm _).length_eq, List.length_map]; exact six
  have pos : ∀ x ∈ srtI (fs.map (·.2)), 1 ≤ x := fun x hx => by
    obtain ⟨f, hf, rfl⟩ := List.mem_map.mp ((srtI_perm _).mem_iff.mp hx)
    exact (ok.lo f hf).1
  have hb : harmB (fs.map (·.2)) = ((srtI (fs.map (·.2))).zip ((srtI (fs.map (·.2))).drop 1)).all fun p => decide (p.2 % p.1 = 0) := rfl
  generalize srtI (fs.map (·.2)) = L at *
  walk_at "y"
  rw [show (1 : Int) = ((1 : Nat) : Int) from rfl, cutG_from, ← List.map_drop]
  have ez : zipS ((L.map Da.int).map Sl.da) (((L.drop 1).map Da.int).map Sl.da) = (L.zip (L.drop 1)).map fun p => .da (.tup [.int p.1, .int p.2]) := by
    unfold zipS
    rw [List.zipWith_map_left, List.zipWith_map_right, List.zipWith_map_left, List.zipWith_map_right, List.zip, List.map_zipWith]
    rfl
  refine s_lcM (L.zip (L.drop 1)) (fun p => .da (.tup [.int p.1, .int p.2])) (fun p => .bl (decide (p.2 % p.1 = 0))) ez (by rw [List.length_zip]; omega) trivial (fun i p T hp ht => ?_) ?_
  · have p1 := pos p.1 (List.of_mem_zip (List.mem_of_getElem? hp)).1
    walk_at "wipe"
    walk_at "y"
    exact ht
  walk_at "y"
  refine ⟨_, (L.zip (L.drop 1)).map fun p => decide (p.2 % p.1 = 0), rfl, by rw [List.map_map]; exact .da _, ?_⟩
  have e : (fun bs : List Bool => bs.all id) ((L.zip (L.drop 1)).map fun p => decide (p.2 % p.1 = 0)) = (L.zip (L.drop 1)).all fun p => decide (p.2 % p.1 = 0) := List.all_map ..
  rw [e]
  rw [hb] at k
  exact gv_id k
/-- a rule as data -/
def clsD (E : List REl) : List (Key × Da) := E.map fun e => (.inr e.1, .tup [.int ((e.2.1 : Nat) : Int), .int ((e.2.2 : Nat) : Int)])
abbrev ruleD (C F : Addr) (fs : List (Str × Int)) (E : List REl) : Da := .obj C [("farm", farmD F fs), ("classes", .dK (clsD E))]
def clD (x : RCl) : Da := .tup [.int ((x.1 : Nat) : Int), .int ((x.2.1 : Nat) : Int), .int ((x.2.2 : Nat) : Int)]
theorem enum_ints (fs : List (Str × Int)) : ∀ n, enumS n ((fs.map fun f => Da.int f.2).map Sl.da) = ((fs.map (·.2)).zipIdx n).map fun p => Sl.da (.tup [.int ((p.2 : Nat) : Int), .int p.1]) := by
  induction fs with
  | nil => intro n; rfl
  | cons f fs ih => intro n; rw [List.map_cons, List.map_cons, List.map_cons, List.zipIdx_cons, List.map_cons, enumS, ih]; rfl
theorem put_cls {E : List REl} {z : Str} {x y : Nat} (h : z ∉ E.map (·.1)) : putP ((clsD E).map fun f => (f.1, Sl.da f.2)) (.inr z) (.da (.tup [.int ((x : Nat) : Int), .int ((y : Nat) : Int)])) = (clsD (E ++ [(z, x, y)])).map fun f => (f.1, .da f.2) := by
  have no : (((clsD E).map fun f => (f.1, Sl.da f.2)).any fun kv => decide (kv.1 = Sum.inr z)) = false := by
    rw [List.any_eq_false]
    intro kv hkv
    obtain ⟨f, hf, rfl⟩ := List.mem_map.mp hkv
    obtain ⟨e, he, rfl⟩ := List.mem_map.mp hf
    simp only [decide_eq_true_eq]
    intro q
    exact h (List.mem_map.mpr ⟨e, he, Sum.inr.inj q⟩)
  unfold putP
  rw [no, if_neg Bool.false_ne_true, clsD, clsD, List.map_append, List.map_append]
  rfl
theorem rng_natR (n : Nat) : rngS 0 n = (List.range n).map fun k => Sl.da (.int ((k : Nat) : Int)) := List.map_congr_left fun k _ => by rw [Int.zero_add]
def D_Rule___init__ (M : Md K mg) : SpD K := fun as rs xc q => ∃ a fs, ∃ c : Int, as = [.raw (.ref a), .da (farmD M.a_Farm fs), .da (.int c)] ∧ rs = [objR a M.a_Rule []] ∧ FOk fs ∧ (¬ (1 ≤ c ∧ c ≤ 6) → xc ⟨M.a_InvalidNumber, none⟩ []) ∧ (1 ≤ c → c ≤ 6 → harmB (fs.map (·.2)) = false → xc ⟨M.a_NotHarmonic, none⟩ []) ∧
  (1 ≤ c → c ≤ 6 → harmB (fs.map (·.2)) = true → c * (shrL fs).2 < (shrL fs).1 → xc ⟨M.a_TooFewCarts, none⟩ []) ∧ (1 ≤ c → c ≤ 6 → harmB (fs.map (·.2)) = true → (shrL fs).1 ≤ c * (shrL fs).2 → ∀ d E, RuleOk fs c.toNat E → q (.da .non) [objR a M.a_Rule [("farm", .da (farmD M.a_Farm fs)), ("classes", .raw (.ref d))], dctR d ((clsD E).map fun f => (f.1, .da f.2))])
theorem ok_Rule___init__ (M : Md K mg) (G : Gk K mg "Rule" M.a_Rule "Rule.__init__" s_Rule___init__) (R_validate_number : DefR P w K mg base "validate_number" 2 (spD (D_validate_number M))) (R_is_harmonic : DefR P w K mg base "is_harmonic" 4 (spD (D_is_harmonic M))) (R_NotHarmonic : ExcT K mg "NotHarmonic" M.a_NotHarmonic) (R_TooFewCarts : ExcT K mg "TooFewCarts" M.a_TooFewCarts) (P_Farm_share : PropR P w K mg base M.a_Farm "share" 4 (spD (D_Farm_share M))) (P_Farm_limits : PropR P w K mg base M.a_Farm "limits" 2 (spD (D_Farm_limits M))) (P_Farm_names : PropR P w K mg base M.a_Farm "names" 2 (spD (D_Farm_names M))) : MakeR P w K mg base "Rule" M.a_Rule 6 (spD (D_Rule___init__ M)) := by
  refine make_mk G fun f fd F => FnU.raw <| fnr_mk (dfn_ok (k := 5) F sc_Rule___init__ (by intro as rs xc q; walk_at "ar") (fun cdv A outer s H E hr => by
    have nd := sc_Rule___init__.nd
    exact (dss_cons (ds_expr (d_call (pe_callR R_validate_number (hr.mono (by first | decide | omega)) pz_def (da_cons (d_var (i := 2) (pv 2)) (da_cons (d_int pe_int) (da_cons (d_int pe_int) da_nil))))))
    (dss_cons (ds_if (dt_not (dt_val (d_call (pe_callR R_is_harmonic (hr.mono (by first | decide | omega)) pz_def (da_cons (d_var (i := 1) (pv 1)) da_nil))))) (dss_one (ds_raise0 (L2N.ps_raise rfl tk_def (pmk_px R_NotHarmonic)))) dss_nil)
    (dss_cons (ds_asg (d_prop (pe_propR P_Farm_share (hr.mono (by first | decide | omega)) (d_var (i := 1) (pv 1)))) (pg_tupK K (n := 2) rfl (pgs_cons (pg_name (i := 3) nd rfl (by first | exact Or.inl rfl | exact Or.inr rfl)) (pgs_cons (pg_name (i := 4) nd rfl (by first | exact Or.inl rfl | exact Or.inr rfl)) pgs_nil))) (tg_tup (tgs_cons (tg_name 3) (tgs_cons (tg_name 4) tgs_nil))))
    (dss_cons (ds_if (dt_cmp op_gt (pu2 (pu_I0 fun _ _ _ _ => .bl _)) (d_var (i := 3) (pv 3)) (d_op op_mul (pu2 (pu_I fun _ _ _ _ => .int _)) (d_var (i := 2) (pv 2)) (d_var (i := 4) (pv 4)))) (dss_one (ds_raise0 (L2N.ps_raise rfl tk_def (pmk_px R_TooFewCarts)))) dss_nil)
    (dss_cons (ds_fld (ps_fldK K (d_var (i := 0) (pv 0)) (d_var (i := 1) (pv 1))))
    (dss_cons (ds_fld (ps_fldK K (d_var (i := 0) (pv 0)) (d_newP pe_dnewK)))
    (dss_cons (ds_setLcR (E' := E0) (E2 := E0) (ps_setLc (i := 5) (own := [("cart", 6)]) (g := (gName 6)) rfl nd rfl rfl (sw_true rfl rfl rfl (by decide +kernel)) (di_rng1 (pi_range1 rfl M.b.range (da_cons (d_var (i := 2) (pv 2)) da_nil))) (blkOk_by (N := N_Rule___init__) (sc := defScope s_Rule___init__) (by decide +kernel)) (fun _ _ _ _ _ => (pg_name (i := 6) nd rfl (by first | exact Or.inl rfl | exact Or.inr rfl))) (fun _ _ _ _ _ => dts_nil) (fun _ _ _ _ _ => (d_tup (da_cons (d_var (i := 6) (pv 6)) (da_cons (d_int pe_int) (da_cons (d_int pe_int) da_nil)))))) (tg_name 6) (by decide))
    (dss_one (ds_for po_def rfl (di_seq (d_cb1 (pe_sortP K M.b (d_lc (E' := E0) (E2 := E0) (pe_lc (own := [("place", 8), ("limit", 7)]) (g := (gTup K 2 (gCons (gName 8) (gCons (gName 7) gNil)))) rfl nd (di_enT (pi_enumTK K rfl M.b.enumerate (da_cons (d_prop (pe_propR P_Farm_limits (hr.mono (by first | decide | omega)) (d_var (i := 1) (pv 1)))) da_nil))) (blkOk_by (N := N_Rule___init__) (sc := defScope s_Rule___init__) (by decide +kernel)) (fun _ _ _ _ _ => (pg_tupK K (n := 2) rfl (pgs_cons (pg_name (i := 8) nd rfl (by first | exact Or.inl rfl | exact Or.inr rfl)) (pgs_cons (pg_name (i := 7) nd rfl (by first | exact Or.inl rfl | exact Or.inr rfl)) pgs_nil)))) (fun _ _ _ _ _ => dts_nil) (fun _ _ _ _ _ => (d_tup (da_cons (d_var (i := 7) (pv 7)) (da_cons (d_var (i := 8) (pv 8)) da_nil))))) (tg_tup (tgs_cons (tg_name 8) (tgs_cons (tg_name 7) tgs_nil))) (by decide))) act_sortP)) (pg_tupK K (n := 2) rfl (pgs_cons (pg_name (i := 7) nd rfl (by first | exact Or.inl rfl | exact Or.inr rfl)) (pgs_cons (pg_name (i := 8) nd rfl (by first | exact Or.inl rfl | exact Or.inr rfl)) pgs_nil))) (tg_tup (tgs_cons (tg_name 7) (tgs_cons (tg_name 8) tgs_nil))) (dss_cons (ds_asg (d_bm (as_bm K (pe_bm PySem.F.plainAttrs_list PySem.F.slot_list_pop PySem.F.type_list_pop mt_popAt (d_var (i := 5) (pv 5)) (da_cons (d_int pe_int) da_nil))) act_popAt) (pg_tupK K (n := 3) rfl (pgs_cons (pg_name (i := 6) nd rfl (by first | exact Or.inl rfl | exact Or.inr rfl)) (pgs_cons (pg_name (i := 9) nd rfl (by first | exact Or.inl rfl | exact Or.inr rfl)) (pgs_cons (pg_name (i := 10) nd rfl (by first | exact Or.inl rfl | exact Or.inr rfl)) pgs_nil)))) (tg_tup (tgs_cons (tg_name 6) (tgs_cons (tg_name 9) (tgs_cons (tg_name 10) tgs_nil)))))
    (dss_cons (ds_while po_def (dt_cmp op_lt (pu2 (pu_I0 fun _ _ _ _ => .bl _)) (d_var (i := 10) (pv 10)) (d_var (i := 7) (pv 7))) (dss_cons (ds_set (i := 11) nd rfl (by first | exact Or.inl rfl | exact Or.inr rfl) (d_op op_fdiv (pu2 (pu_I fun _ _ _ _ => .int _)) (d_var (i := 7) (pv 7)) (d_var (i := 10) (pv 10))))
    (dss_cons (ds_set (i := 5) nd rfl (by first | exact Or.inl rfl | exact Or.inr rfl) (d_op (op_addK K) act_addR (d_lc (E' := E0) (E2 := E0) (pe_lc (own := [("turn", 12)]) (g := (gName 12)) rfl nd (di_rng2 (pi_range2 rfl M.b.range (da_cons (d_int pe_int) (da_cons (d_var (i := 11) (pv 11)) da_nil)))) (blkOk_by (N := N_Rule___init__) (sc := defScope s_Rule___init__) (by decide +kernel)) (fun _ _ _ _ _ => (pg_name (i := 12) nd rfl (by first | exact Or.inl rfl | exact Or.inr rfl))) (fun _ _ _ _ _ => dts_nil) (fun _ _ _ _ _ => (d_tup (da_cons (d_var (i := 6) (pv 6)) (da_cons (d_op (op_addK K) (pu2 pu_add) (d_var (i := 9) (pv 9)) (d_op op_mul (pu2 (pu_I fun _ _ _ _ => .int _)) (d_var (i := 10) (pv 10)) (d_var (i := 12) (pv 12)))) (da_cons (d_var (i := 7) (pv 7)) da_nil)))))) (tg_name 12) (by decide)) (d_var (i := 5) (pv 5))))
    (dss_one (ds_set (i := 10) nd rfl (by first | exact Or.inl rfl | exact Or.inr rfl) (d_var (i := 7) (pv 7)))))))
    (dss_one (ds_pput (ps_dput (units2 hr) (d_fld (pe_fldK K (d_var (i := 0) (pv 0)))) (d_ix (d_prop (pe_propR P_Farm_names (hr.mono (by first | decide | omega)) (d_var (i := 1) (pv 1)))) (d_var (i := 8) (pv 8))) (d_tup (da_cons (d_var (i := 6) (pv 6)) (da_cons (d_var (i := 9) (pv 9)) da_nil))) rfl))))))))))))))) ?_) (F.bindsN (fun _ _ _ _ _ _ us hl => match us, hl with | [_, _, _], _ => rfl))
  rintro as rs xc q ⟨a, fs, c, rfl, rfl, ok, kn, kh, kf, k⟩
  obtain ⟨_, _⟩ := M.f_Rule
  have six := ok.six
  walk_at "in"
  walk_at "y"
  by_cases cn : 1 ≤ c ∧ c ≤ 6
  case neg =>
    refine s_ask0 (D := D_validate_number M) ⟨c, 1, 6, rfl, fun h1 h2 => absurd ⟨h1, h2⟩ cn, fun _ => ?_⟩
    exact gx_nil (kn cn)
  obtain ⟨c1, c6⟩ := cn
  refine s_ask0 (D := D_validate_number M) ⟨c, 1, 6, rfl, fun _ _ => ?_, fun h => absurd ⟨c1, c6⟩ h⟩
  walk_at "y"
  refine s_ask0 (D := D_is_harmonic M) ⟨fs, rfl, rfl, ok, ?_⟩
  walk_at "y"
  by_cases hb : harmB (fs.map (·.2)) = true
  case neg =>
    have hb : harmB (fs.map (·.2)) = false := by simpa using hb
    rw [hb]
    refine if_T rfl ?_
    walk_at "y"
    exact gx_nil (kh c1 c6 hb)
  rw [hb]
  refine if_F rfl ?_
  walk_at "y"
  refine s_ask0 (D := D_Farm_share M) ⟨fs, rfl, ok, ?_⟩
  obtain ⟨g0, sb1, sb4, st0, d1, d2⟩ := share_pos ok
  have sh : (c * ((shrL fs).2 / shareG fs) < (shrL fs).1 / shareG fs) ↔ c * (shrL fs).2 < (shrL fs).1 := by
    obtain ⟨x, hx⟩ := d1
    obtain ⟨y, hy⟩ := d2
    rw [hx, hy, Int.mul_ediv_cancel_left _ (by omega), Int.mul_ediv_cancel_left _ (by omega), Int.mul_left_comm]
    exact (Int.mul_lt_mul_left g0).symm
  walk_at "y"
  by_cases tf : c * (shrL fs).2 < (shrL fs).1
  · refine if_T (decide_eq_true (sh.mpr tf)) ?_
    walk_at "y"
    exact gx_nil (kf c1 c6 hb tf)
  refine if_F (decide_eq_false fun h => tf (sh.mp h)) ?_
  have le : (shrL fs).1 ≤ c * (shrL fs).2 := by omega
  walk_at "y"
  refine s_newP fun dd => ?_
  walk_at "y"
  refine s_rng1K (by omega) ?_
  obtain ⟨n, hn⟩ : ∃ n : Nat, n = c.toNat := ⟨_, rfl⟩
  have ec : c = (n : Int) := by omega
  subst ec
  rw [Int.toNat_natCast] at *
  refine s_lcM (List.range n) (fun j => .da (.int ((j : Nat) : Int))) (fun j => clD (j, 0, 1)) (rng_natR n) (by rw [List.length_range]; omega) trivial (fun i j T hj ht => ?_) ?_
  · walk_at "wipe"
    walk_at "y"
    exact ht
  refine s_rawQ fun fr => ?_
  walk_at "y"
  refine s_ask0 (D := D_Farm_limits M) ⟨fs, rfl, six, ?_⟩
  walk_at "y"
  refine s_lcM (fs.map (·.2)).zipIdx (fun p => .da (.tup [.int ((p.2 : Nat) : Int), .int p.1])) (fun p => pairD (p.1, ((p.2 : Nat) : Int))) (enum_ints fs 0) (by rw [List.length_zipIdx, List.length_map]; omega) trivial (fun i p T hp ht => ?_) ?_
  · walk_at "wipe"
    walk_at "y"
    exact ht
  walk_at "y"
  refine s_sortP (ps := limP fs) (by
    have e : (limP fs).map pairD = (fs.map (·.2)).zipIdx.map fun p => pairD (p.1, ((p.2 : Nat) : Int)) := by rw [limP, List.map_map]; rfl
    rw [e]
    exact .da _) ?_
  walk_at "y"
  have sl6 : (srtP (limP fs)).length ≤ 6 := by rw [(srtP_perm _).length_eq, limP, List.length_map, List.length_zipIdx, List.length_map]; exact six
  have nd2 : ((srtP (limP fs)).map (nameA fs)).Nodup := (names_perm fs).nodup_iff.mpr ok.nd
  have pp := prodL_pos (l := fs.map (·.2)) fun x hx => by obtain ⟨g, hg, rfl⟩ := List.mem_map.mp hx; exact (ok.lo g hg).1
  have P0 : 0 < prodN fs := by unfold prodN; omega
  have few36 : ∀ F E i, RInv fs n i F E → F.length ≤ n * prodN fs := fun F E i h => rinv_few P0 h
  have pr4 : prodN fs ≤ 4000 := by have := ok.pr; unfold prodN; omega
  have np : n * prodN fs ≤ 24000 := Nat.le_trans (Nat.mul_le_mul (show n ≤ 6 by omega) pr4) (by decide)
  refine s_forK (fun i sl rs => ∃ (F : List RCl) (E : List REl) (fr : Addr) (u6 u7 u8 u9 u10 u11 u12 : Sl), sl = [.raw (.ref a), .da (farmD M.a_Farm fs), .da (.int (n : Nat)), .da (.int ((shrL fs).1 / shareG fs)), .da (.int ((shrL fs).2 / shareG fs)), .raw (.ref fr), u6, u7, u8, u9, u10, u11, u12] ∧ rs = [lstR fr ((F.map clD).map .da), dctR dd ((clsD E).map fun f => (f.1, .da f.2)), objR a M.a_Rule [("farm", .da (farmD M.a_Farm fs)), ("classes", .raw (.ref dd))]] ∧ RInv fs n i F E) ?_ ?_ ?_ ?_
  · exact gs_id ⟨(List.range n).map fun c => ((c, 0, 1) : RCl), [], fr, _, _, _, _, _, _, _, rfl, by rw [List.map_map (f := fun c : Nat => ((c, 0, 1) : RCl))]; rfl, rinv_start fs n⟩
  · exact fun _ _ _ _ => trivial
  · rintro i y sl rs hy ⟨F, E, fr, u6, u7, u8, u9, u10, u11, u12, rfl, rfl, inv⟩
    obtain ⟨p, hp, rfl⟩ := mm_get (cs := srtP (limP fs)) hy
    have f24 := few36 _ _ _ inv
    obtain ⟨x, R, rfl, x0, xl, p1, inv'⟩ := rinv_step ok inv hp hb le
    have f24' := few36 _ _ _ inv'
    obtain ⟨l, hl⟩ : ∃ l : Nat, p.1 = (l : Nat) := ⟨p.1.toNat, by omega⟩
    have pm := (srtP_perm _).mem_iff.mp (List.mem_of_getElem? hp)
    obtain ⟨k0, f0, hf0, ep⟩ := limP_mem pm
    obtain ⟨pl, pk⟩ := p
    dsimp only at hl p1 xl
    subst hl
    rw [Int.toNat_natCast] at xl inv'
    have epk : pk = ((k0 : Nat) : Int) := congrArg Prod.snd ep
    subst epk
    rw [List.length_cons] at f24
    walk_at "y"
    refine' s_popAt (z := .da (clD x)) (zs := (((x :: R).map clD).map .da)) ?hr (by decide) rfl ?hsz ?_
    case hr => walk_at "rep"
    case hsz => rw [List.length_map, List.length_map, List.length_cons, sizeLine_eq]; omega
    obtain ⟨xk, xr, xs⟩ := x
    dsimp only at x0 xl inv'
    have xsl := Nat.le_of_dvd (by omega) xl
    have l30 : l ≤ 30 := by
      have := (ok.lo f0 (List.mem_of_getElem? hf0)).2
      have : ((l : Nat) : Int) = f0.2 := congrArg Prod.fst ep
      omega
    walk_at "y"
    refine s_while (fun m sl rs => ∃ (fr : Addr) (F' : List RCl) (sz : Nat) (u11 u12 : Sl), sl = [.raw (.ref a), .da (farmD M.a_Farm fs), .da (.int (n : Nat)), .da (.int ((shrL fs).1 / shareG fs)), .da (.int ((shrL fs).2 / shareG fs)), .raw (.ref fr), .da (.int (xk : Nat)), .da (.int (l : Nat)), .da (.int (k0 : Nat)), .da (.int (xr : Nat)), .da (.int (sz : Nat)), u11, u12] ∧ rs = [lstR fr ((F'.map clD).map .da), dctR dd ((clsD E).map fun f => (f.1, .da f.2)), objR a M.a_Rule [("farm", .da (farmD M.a_Farm fs)), ("classes", .raw (.ref dd))]] ∧ (m = 1 ∧ sz = xs ∧ F' = R ∧ xs < l ∨ m = 0 ∧ sz = l ∧ F' = splitC (xk, xr, xs) l ++ R)) (if xs < l then 1 else 0) ?_ ?_
    · by_cases h : xs < l
      · rw [if_pos h]
        exact gs_id ⟨_, R, xs, _, _, rfl, rfl, .inl ⟨rfl, rfl, rfl, h⟩⟩
      · have e : xs = l := by omega
        rw [if_neg h]
        refine gs_id ⟨_, R, xs, _, _, rfl, rfl, .inr ⟨rfl, e, ?_⟩⟩
        rw [splitC, e, Nat.div_self (by omega)]
        rfl
    · rintro m sl rs ⟨fr, F', sz, u11, u12, rfl, rfl, ⟨rfl, rfl, rfl, lt⟩ | ⟨rfl, rfl, rfl⟩⟩
      · walk_at "y"
        refine s_whT (decide_eq_true (by omega)) ?_
        walk_at "y"
        have lz : l / sz ≤ 30 := Nat.le_trans (Nat.div_le_self _ _) l30
        have e1 : ((l : Nat) : Int) / ((sz : Nat) : Int) = ((l / sz : Nat) : Int) := (Int.natCast_ediv _ _).symm
        rw [e1]
        obtain ⟨st, hst⟩ : ∃ st, st = l / sz := ⟨_, rfl⟩
        rw [← hst] at lz ⊢
        refine s_rng2K (by omega) ?_
        rw [show (((st : Nat) : Int) - 1).toNat = st - 1 by omega]
        refine s_lcM (List.range (st - 1)) (fun t => .da (.int (1 + ((t : Nat) : Int)))) (fun t => clD (partC (xk, xr, sz) l (t + 1))) (by unfold rngS; rfl) (by rw [List.length_range]; omega) trivial (fun i t T ht hT => ?_) ?_
        · have tl := List.mem_range.mp (List.mem_of_getElem? ht)
          have r24 : sz * (t + 1) ≤ 30 * 30 := Nat.mul_le_mul (by omega) (by omega)
          have rs := (rinv_rest inv (List.mem_append_left _ List.mem_cons_self) : xr < sz)
          have em : ((sz : Nat) : Int) * (1 + ((t : Nat) : Int)) = ((sz * (t + 1) : Nat) : Int) := by rw [Int.natCast_mul]; congr 1; omega
          walk_at "wipe"
          walk_at "y"
          rw [em]
          walk_at "y"
          rw [← Int.natCast_add]
          exact hT
        walk_at "y"
        intro fr2
        walk_at "y"
        have sp : (List.range (st - 1)).map (fun t => clD (partC (xk, xr, sz) l (t + 1))) = (splitC (xk, xr, sz) l).map clD := by rw [splitC, List.map_map, hst]; rfl
        rw [sp, ← List.map_append]
        exact gs_gets (rc := [lstR fr2 (((splitC (xk, xr, sz) l ++ F').map clD).map .da), dctR dd ((clsD E).map fun f => (f.1, .da f.2)), objR a M.a_Rule [("farm", .da (farmD M.a_Farm fs)), ("classes", .raw (.ref dd))]]) (by walk_at "gets") ⟨0, by decide, fr2, _, l, _, _, rfl, rfl, .inr ⟨rfl, rfl, rfl⟩⟩
      · walk_at "y"
        refine s_whF (decide_eq_false (by omega)) ?_
        refine gs_id ?_
        dsimp only
        walk_at "y"
        refine s_ask0 (D := D_Farm_names M) ⟨fs, rfl, six, ?_⟩
        walk_at "y"
        have en : nameA fs (((sz : Nat) : Int), ((k0 : Nat) : Int)) = f0.1 := by
          unfold nameA
          simp only [List.getD_eq_getElem?_getD]
          show ((fs.map (·.1))[k0]?).getD _ = _
          rw [List.getElem?_map, hf0]
          rfl
        have nw := rinv_new nd2 inv hp
        rw [en] at nw inv'
        have El := rinv_len inv
        have il := (List.getElem?_eq_some_iff.mp hp).1
        refine s_pputV (by walk_at "rep") (by rw [List.length_map, clsD, List.length_map]; omega) ?_
        rw [put_cls nw]
        dsimp only
        exact gs_id ⟨splitC (xk, xr, xs) sz ++ R, E ++ [(f0.1, xk, xr)], fr, _, _, _, _, _, _, _, rfl, rfl, inv'⟩
  · rintro sl rs ⟨F, E, fr, u6, u7, u8, u9, u10, u11, u12, rfl, rfl, inv⟩
    rw [List.length_map, List.length_map] at inv
    refine gs_id ?_
    walk_at "y"
    exact gv_gets (rc := [objR a M.a_Rule [("farm", .da (farmD M.a_Farm fs)), ("classes", .raw (.ref dd))], dctR dd ((clsD E).map fun f => (f.1, .da f.2))]) (by walk_at "gets") (k c1 c6 hb le dd E (rinv_end inv))
/-- what stands in another thing is frozen -/
theorem gv_fzR {R : Rs K} {rs rs1 rs' : List (Rs K)} {v : V} {x : Da} {y : Sl} (f : Fr R v x) (e : Ext R rs rs1) (zr : Paired (FzR2 v x) rs1 rs') : GhV y rs y rs' := fun S0 H F u A r => by
  obtain ⟨F1, q, A1⟩ := A.perm e.perm
  obtain ⟨F2, h, A2, d⟩ := f S0 H rs1 F1 A1
  have h2 : ∀ b ∈ F2, b ∈ F := fun b hb => q.mem_iff.mpr (h b hb)
  exact ⟨F2, h2, ⟨sep_fz2 d A2.sep zr, A2.nd, A2.off, A2.liv⟩, r.ev (F := []) (Ev.less (mu_less h2))⟩
def D_Rule (M : Md K mg) : SpD K := fun ys rs xc q => ∃ fs, ∃ c : Int, ys = [.da (farmD M.a_Farm fs), .da (.int c)] ∧ rs = [] ∧ FOk fs ∧ (¬ (1 ≤ c ∧ c ≤ 6) → xc ⟨M.a_InvalidNumber, none⟩ []) ∧ (1 ≤ c → c ≤ 6 → harmB (fs.map (·.2)) = false → xc ⟨M.a_NotHarmonic, none⟩ []) ∧
  (1 ≤ c → c ≤ 6 → harmB (fs.map (·.2)) = true → c * (shrL fs).2 < (shrL fs).1 → xc ⟨M.a_TooFewCarts, none⟩ []) ∧ (1 ≤ c → c ≤ 6 → harmB (fs.map (·.2)) = true → (shrL fs).1 ≤ c * (shrL fs).2 → ∀ E, RuleOk fs c.toNat E → q (.da (ruleD M.a_Rule M.a_Farm fs E)) [])
theorem mk_Rule (M : Md K mg) : Mks M.a_Rule (D_Rule___init__ M) (D_Rule M) := by
  rintro ys rs xc q ⟨fs, c, rfl, rfl, ok, kn, kh, kf, k⟩ a
  refine ⟨a, fs, c, rfl, rfl, ok, kn, kh, kf, fun c1 c6 hb le d E re => ⟨rfl, ?_⟩⟩
  refine gv_via (gv_fzR (R := dctR d ((clsD E).map fun f => (f.1, .da f.2))) (rs' := [objR a M.a_Rule [("farm", .da (farmD M.a_Farm fs)), ("classes", .da (.dK (clsD E)))]]) fr_dct (.there .here) (.cons (.obj (.cons ⟨rfl, .same _⟩ (.cons ⟨rfl, .fz⟩ .nil))) .nil)) ?_
  exact gv_via (GhV.frz (fr_obj (fs := [("farm", farmD M.a_Farm fs), ("classes", .dK (clsD E))])) .here) (gv_id (k c1 c6 hb le E re))

end
section
variable {P : Program} {w : World} {K : PySem.W.Frag}
variable {mg : Str → Option Value} {base : Heap}
/-! ### a rule asked -/
def clsA (E : List REl) (z : Str) : Option (Nat × Nat) := (E.find? fun e => decide (e.1 = z)).map (·.2)
abbrev pairC (p : Nat × Nat) : Da := .tup [.int ((p.1 : Nat) : Int), .int ((p.2 : Nat) : Int)]
theorem get_cls {E : List REl} {z : Str} : getP ((clsD E).map fun f => (f.1, Sl.da f.2)) (.inr z) = (clsA E z).map fun p => Sl.da (pairC p) := by
  unfold getP clsA clsD
  induction E with
  | nil => rfl
  | cons e E ih =>
    simp only [List.map_cons]
    by_cases h : e.1 = z
    · rw [List.find?_cons_of_pos (by simpa using h), List.find?_cons_of_pos (by simpa using h)]
      rfl
    · rw [List.find?_cons_of_neg (by simpa using h), List.find?_cons_of_neg (by simpa using h)]
      exact ih
theorem cls_in {E : List REl} {z : Str} {p : Nat × Nat} (h : clsA E z = some p) : (z, p) ∈ E := by
  obtain ⟨e, he, rfl⟩ := Option.map_eq_some_iff.mp h
  have m := List.mem_of_find?_eq_some he
  have q : e.1 = z := by simpa using List.find?_some he
  rw [← q]
  exact m
theorem cls_some {E : List REl} {z : Str} (h : z ∈ E.map (·.1)) : ∃ p, clsA E z = some p := by
  cases q : clsA E z with
  | some p => exact ⟨p, rfl⟩
  | none =>
    obtain ⟨e, he, rfl⟩ := List.mem_map.mp h
    have := List.find?_eq_none.mp (Option.map_eq_none_iff.mp q) e he
    simp at this
theorem RuleOk.at_ {fs : List (Str × Int)} {n : Nat} {E : List REl} (r : RuleOk fs n E) (nd : (fs.map (·.1)).Nodup) {f : Str × Int} (hf : f ∈ fs) (l1 : 1 ≤ f.2) : ∃ p, clsA E f.1 = some p ∧ (f.1, p) ∈ E ∧ p.1 < n ∧ ((p.2 : Nat) : Int) < f.2 := by
  obtain ⟨p, hp⟩ := cls_some (r.nm.mem_iff.mpr (List.mem_map.mpr ⟨f, hf, rfl⟩))
  have m := cls_in hp
  have h2 := r.rs _ m
  dsimp only at h2
  rw [limN_eq nd hf] at h2
  exact ⟨p, hp, m, r.ca _ m, by omega⟩
theorem key_eq : ∀ {fs : List (Str × Int)}, (fs.map (·.1)).Nodup → ∀ {f g : Str × Int}, f ∈ fs → g ∈ fs → g.1 = f.1 → g = f
  | [], _, _, _, h, _, _ => nomatch h
  | a :: fs, nd, f, g, hf, hg, e => by
    replace nd := List.nodup_cons.mp nd
    obtain hf | hf := List.mem_cons.mp hf <;> obtain hg | hg := List.mem_cons.mp hg
    · rw [hf, hg]
    · exact absurd (List.mem_map.mpr ⟨g, hg, by rw [e, hf]⟩) nd.1
    · exact absurd (List.mem_map.mpr ⟨f, hf, by rw [← e, hg]⟩) nd.1
    · exact key_eq nd.2 hf hg e
def optC : Option (Nat × Nat) → Da
  | none => .non
  | some p => pairC p
def D_Rule___getitem__ (M : Md K mg) : SpD K := fun as rs xc q => ∃ fs E z, as = [.da (ruleD M.a_Rule M.a_Farm fs E), .da (.str z)] ∧ q (.da (optC (clsA E z))) rs
theorem ok_Rule___getitem__ (M : Md K mg) (G : Gm K M.a_Rule "__getitem__" "Rule.__getitem__" s_Rule___getitem__)  : MethR P w K mg base M.a_Rule "__getitem__" 4 (spD (D_Rule___getitem__ M)) := by
  refine meth_mk G fun f fd F => FnU.raw <| fnr_mk (dfn_ok (k := 3) F sc_Rule___getitem__ (by intro as rs xc q; walk_at "ar") (fun cdv A outer s H E hr => by
    have nd := sc_Rule___getitem__.nd
    exact (dss_cons (ds_if (dt_pnin (pc_dnotin (units2 hr) (d_var (i := 1) (pv 1)) (d_fld (pe_fldK K (d_var (i := 0) (pv 0)))))) (dss_one (ds_ret (d_non pe_non))) dss_nil)
    (dss_one (ds_ret (d_pget (pe_dget (units2 hr) (d_fld (pe_fldK K (d_var (i := 0) (pv 0)))) (d_var (i := 1) (pv 1)) (fun _ _ => rfl))))))) ?_) (F.bindsN (fun _ _ _ _ _ _ us hl => match us, hl with | [_, _], _ => rfl))
  rintro as rs xc q ⟨fs, E, z, rfl, k⟩
  obtain ⟨_, _⟩ := M.f_Rule
  walk_at "in"
  walk_at "y"
  refine s_pinV (.da _) ?_
  rw [get_cls]
  walk_at "y"
  cases h : clsA E z with
  | none =>
    rw [h] at k
    refine if_T rfl ?_
    walk_at "y"
    exact gv_id k
  | some p =>
    rw [h] at k
    refine if_F rfl ?_
    walk_at "y"
    refine s_pgetV (.da _) (by rw [get_cls, h]; rfl) ?_
    exact gv_id k
def foundL (fs : List (Str × Int)) (E : List REl) (day : Int) : List (Int × Str) := fs.filterMap fun f => match clsA E f.1 with
  | some p => if (day - ((p.2 : Nat) : Int)) % f.2 = 0 then some (((p.1 : Nat) : Int), f.1) else none
  | none => none
def D_Rule___call__ (M : Md K mg) : SpD K := fun as rs xc q => ∃ fs n E, ∃ day : Int, as = [.da (ruleD M.a_Rule M.a_Farm fs E), .da (.int day)] ∧ rs = [] ∧ FOk fs ∧ RuleOk fs n E ∧ n ≤ 6 ∧ (0 ≤ day → day ≤ 1000000000000000000 → q (.da (.tup ((srtCS (foundL fs E day)).map fun p => .str p.2))) []) ∧ (¬ (0 ≤ day ∧ day ≤ 1000000000000000000) → xc ⟨M.a_InvalidNumber, none⟩ [])
theorem ok_Rule___call__ (M : Md K mg) (G : Gm K M.a_Rule "__call__" "Rule.__call__" s_Rule___call__) (R_validate_number : DefR P w K mg base "validate_number" 2 (spD (D_validate_number M))) (P_Farm_names : PropR P w K mg base M.a_Farm "names" 2 (spD (D_Farm_names M))) (M_Farm___getitem__ : MethR P w K mg base M.a_Farm "__getitem__" 4 (spD (D_Farm___getitem__ M))) (FI_Farm___getitem__ : ∀ f, Meth K M.a_Farm "__getitem__" f → PySem.W.fnIn K f = true) : MethR P w K mg base M.a_Rule "__call__" 6 (spD (D_Rule___call__ M)) := by
  refine meth_mk G fun f fd F => FnU.raw <| fnr_mk (dfn_ok (k := 5) F sc_Rule___call__ (by intro as rs xc q; walk_at "ar") (fun cdv A outer s H E hr => by
    have nd := sc_Rule___call__.nd
    exact (dss_cons (ds_expr (d_call (pe_callR R_validate_number (hr.mono (by first | decide | omega)) pz_def (da_cons (d_var (i := 1) (pv 1)) (da_cons (d_int pe_int) (da_cons (d_int (pe_gi M.g_MAX_DAY)) da_nil))))))
    (dss_cons (ds_set (i := 2) nd rfl (by first | exact Or.inl rfl | exact Or.inr rfl) (d_lstR da_nil))
    (dss_cons (ds_for po_def rfl (di_seq (d_prop (pe_propR P_Farm_names (hr.mono (by first | decide | omega)) (d_fld (pe_fldK K (d_var (i := 0) (pv 0))))))) (pg_name (i := 3) nd rfl (by first | exact Or.inl rfl | exact Or.inr rfl)) (tg_name 3) (dss_cons (ds_asg (d_pget (pe_dget (units2 hr) (d_fld (pe_fldK K (d_var (i := 0) (pv 0)))) (d_var (i := 3) (pv 3)) (fun _ _ => rfl))) (pg_tupK K (n := 2) rfl (pgs_cons (pg_name (i := 4) nd rfl (by first | exact Or.inl rfl | exact Or.inr rfl)) (pgs_cons (pg_name (i := 5) nd rfl (by first | exact Or.inl rfl | exact Or.inr rfl)) pgs_nil))) (tg_tup (tgs_cons (tg_name 4) (tgs_cons (tg_name 5) tgs_nil))))
    (dss_one (ds_if (dt_cmp (op_eqK K hr) (pu2 pu_eq) (d_op op_mod (pu2 (pu_I fun _ _ _ _ => .int _)) (d_cb1 (pe_int1 M.b (d_op op_sub (pu2 (pu_I0 fun _ _ _ _ => .int _)) (d_var (i := 1) (pv 1)) (d_var (i := 5) (pv 5)))) act_int) (d_ownIx M_Farm___getitem__ FI_Farm___getitem__ (hr.mono (by first | decide | omega)) (d_fld (pe_fldK K (d_var (i := 0) (pv 0)))) (d_var (i := 3) (pv 3)))) (d_int pe_int)) (dss_one (ds_expr (d_bm (as_bm K (pe_bm PySem.F.plainAttrs_list PySem.F.slot_list_append PySem.F.type_list_append mt_append (d_var (i := 2) (pv 2)) (da_cons (d_tup (da_cons (d_var (i := 4) (pv 4)) (da_cons (d_var (i := 3) (pv 3)) da_nil))) da_nil))) act_app))) dss_nil))))
    (dss_one (ds_ret (d_cb1 (pe_tupOf K M.b (d_lc (E' := E0) (E2 := E0) (pe_lc (own := [("cart", 4), ("name", 3)]) (g := (gTup K 2 (gCons (gName 4) (gCons (gName 3) gNil)))) rfl nd (di_seq (d_cb1 (pe_sortCS K M.b (d_var (i := 2) (pv 2))) act_sortCS)) (blkOk_by (N := N_Rule___call__) (sc := defScope s_Rule___call__) (by decide +kernel)) (fun _ _ _ _ _ => (pg_tupK K (n := 2) rfl (pgs_cons (pg_name (i := 4) nd rfl (by first | exact Or.inl rfl | exact Or.inr rfl)) (pgs_cons (pg_name (i := 3) nd rfl (by first | exact Or.inl rfl | exact Or.inr rfl)) pgs_nil)))) (fun _ _ _ _ _ => dts_nil) (fun _ _ _ _ _ => (d_var (i := 3) (pv 3)))) (tg_tup (tgs_cons (tg_name 4) (tgs_cons (tg_name 3) tgs_nil))) (by decide))) act_tupOf))))))) ?_) (F.bindsN (fun _ _ _ _ _ _ us hl => match us, hl with | [_, _], _ => rfl))
  rintro as rs xc q ⟨fs, n, E, day, rfl, rfl, ok, re, n6, k1, k2⟩
  obtain ⟨_, _⟩ := M.f_Rule
  have six := ok.six
  walk_at "in"
  walk_at "y"
  refine s_ask0 ⟨_, _, _, rfl, fun d0 d1 => ?_, fun h => gx_nil (k2 h)⟩
  walk_at "y"
  refine s_mkR (by walk_at "size") fun fo => ?_
  walk_at "y"
  refine s_ask0 (D := D_Farm_names M) ⟨fs, rfl, six, ?_⟩
  walk_at "y"
  refine s_forK (fun i sl rs => ∃ (u3 u4 u5 : Sl), sl = [.da (ruleD M.a_Rule M.a_Farm fs E), .da (.int day), .raw (.ref fo), u3, u4, u5] ∧ rs = [lstR fo (((foundL (fs.take i) E day).map csD).map .da)]) ?_ ?_ ?_ ?_
  · exact gs_id ⟨_, _, _, rfl, rfl⟩
  · exact fun _ _ _ _ => trivial
  · rintro i y sl rs hy ⟨u3, u4, u5, rfl, rfl⟩
    obtain ⟨f, hf, rfl⟩ := mm_get (cs := fs) hy
    have fm := List.mem_of_getElem? hf
    have lf := ok.lo f fm
    obtain ⟨p, hp, _, pn, pl⟩ := re.at_ ok.nd fm lf.1
    have tk : foundL (fs.take (i + 1)) E day = foundL (fs.take i) E day ++ (if (day - ((p.2 : Nat) : Int)) % f.2 = 0 then [(((p.1 : Nat) : Int), f.1)] else []) := by
      unfold foundL
      rw [List.take_add_one, hf, List.filterMap_append]
      congr 1
      rw [Option.toList_some, List.filterMap_cons, hp]
      dsimp only
      by_cases q : (day - ((p.2 : Nat) : Int)) % f.2 = 0
      · rw [if_pos q, if_pos q]; rfl
      · rw [if_neg q, if_neg q]; rfl
    have fl : (foundL (fs.take i) E day).length ≤ 6 := Nat.le_trans (List.length_filterMap_le _ _) (by rw [List.length_take]; omega)
    walk_at "y"
    refine s_pgetV (.da _) (by rw [get_cls, hp]; rfl) ?_
    walk_at "y"
    refine s_ask0 (D := D_Farm___getitem__ M) ⟨fs, f.1, rfl, six, List.mem_map.mpr ⟨f, fm, rfl⟩, fun g hg e => ?_⟩
    obtain rfl := key_eq ok.nd fm hg e
    walk_at "y"
    by_cases q : (day - ((p.2 : Nat) : Int)) % g.2 = 0
    · refine if_T (decide_eq_true q) ?_
      walk_at "y"
      rw [if_pos q] at tk
      exact gs_gets (rc := [lstR fo (((foundL (fs.take (i + 1)) E day).map csD).map .da)]) (by rw [tk, List.map_append, List.map_append]; walk_at "gets") ⟨_, _, _, rfl, rfl⟩
    · refine if_F (decide_eq_false q) ?_
      walk_at "y"
      rw [if_neg q, List.append_nil] at tk
      exact gs_id ⟨_, _, _, rfl, by rw [tk]; rfl⟩
  · rintro sl rs ⟨u3, u4, u5, rfl, rfl⟩
    rw [List.length_map, List.length_map, List.take_length]
    have fl : (foundL fs E day).length ≤ 6 := Nat.le_trans (List.length_filterMap_le _ _) six
    have sl : (srtCS (foundL fs E day)).length ≤ 6 := by rw [(show (srtCS (foundL fs E day)).Perm _ from List.mergeSort_perm _ _).length_eq]; exact fl
    refine gs_id ?_
    walk_at "y"
    refine s_sortCS (.lst (by walk_at "ext")) ?_
    walk_at "y"
    refine s_lcM (srtCS (foundL fs E day)) (fun p => .da (csD p)) (fun p => .str p.2) (by rw [List.map_map]; rfl) (by omega) trivial (fun i p T hp ht => ?_) ?_
    · walk_at "wipe"
      walk_at "y"
      exact ht
    walk_at "y"
    exact gv_nil (k1 d0 d1)
def D_Rule_count (M : Md K mg) : SpD K := fun as rs xc q => ∃ fs n E f p, ∃ days : Int, as = [.da (ruleD M.a_Rule M.a_Farm fs E), .da (.str f.1), .da (.int days)] ∧ rs = [] ∧ FOk fs ∧ RuleOk fs n E ∧ f ∈ fs ∧ clsA E f.1 = some p ∧ (0 ≤ days → days ≤ 1000000000000000000 → q (.da (.int (cntR ((p.2 : Nat) : Int) f.2 days))) []) ∧ (¬ (0 ≤ days ∧ days ≤ 1000000000000000000) → xc ⟨M.a_InvalidNumber, none⟩ [])
theorem ok_Rule_count (M : Md K mg) (G : Gm K M.a_Rule "count" "Rule.count" s_Rule_count) (R_validate_number : DefR P w K mg base "validate_number" 2 (spD (D_validate_number M))) (M_Farm___getitem__ : MethR P w K mg base M.a_Farm "__getitem__" 4 (spD (D_Farm___getitem__ M))) (FI_Farm___getitem__ : ∀ f, Meth K M.a_Farm "__getitem__" f → PySem.W.fnIn K f = true) : MethR P w K mg base M.a_Rule "count" 6 (spD (D_Rule_count M)) := by
  refine meth_mk G fun f fd F => FnU.raw <| fnr_mk (dfn_ok (k := 5) F sc_Rule_count (by intro as rs xc q; walk_at "ar") (fun cdv A outer s H E hr => by
    have nd := sc_Rule_count.nd
    exact (dss_cons (ds_expr (d_call (pe_callR R_validate_number (hr.mono (by first | decide | omega)) pz_def (da_cons (d_var (i := 2) (pv 2)) (da_cons (d_int pe_int) (da_cons (d_int (pe_gi M.g_MAX_DAY)) da_nil))))))
    (dss_cons (ds_par (ps_par (i := 3) (j := 4) rfl nd rfl rfl (by decide) rfl rfl (da_cons (d_ix (d_pget (pe_dget (units2 hr) (d_fld (pe_fldK K (d_var (i := 0) (pv 0)))) (d_var (i := 1) (pv 1)) (fun _ _ => rfl))) (d_int pe_int)) (da_cons (d_ownIx M_Farm___getitem__ FI_Farm___getitem__ (hr.mono (by first | decide | omega)) (d_fld (pe_fldK K (d_var (i := 0) (pv 0)))) (d_var (i := 1) (pv 1))) da_nil)) (by rfl)))
    (dss_one (ds_ret (d_if (dt_cmp op_gt (pu2 (pu_I0 fun _ _ _ _ => .bl _)) (d_var (i := 2) (pv 2)) (d_var (i := 3) (pv 3))) (d_op op_fdiv (pu2 (pu_I fun _ _ _ _ => .int _)) (d_op op_sub (pu2 (pu_I0 fun _ _ _ _ => .int _)) (d_op (op_addK K) (pu2 pu_add) (d_op op_sub (pu2 (pu_I0 fun _ _ _ _ => .int _)) (d_var (i := 2) (pv 2)) (d_var (i := 3) (pv 3))) (d_var (i := 4) (pv 4))) (d_int pe_int)) (d_var (i := 4) (pv 4))) (d_int pe_int))))))) ?_) (F.bindsN (fun _ _ _ _ _ _ us hl => match us, hl with | [_, _, _], _ => rfl))
  rintro as rs xc q ⟨fs, n, E, f, p, days, rfl, rfl, ok, re, fm, hp, k1, k2⟩
  obtain ⟨_, _⟩ := M.f_Rule
  have six := ok.six
  walk_at "in"
  walk_at "y"
  refine s_ask0 ⟨_, _, _, rfl, fun d0 d1 => ?_, fun h => gx_nil (k2 h)⟩
  walk_at "y"
  have lf := ok.lo f fm
  obtain ⟨p', hp', _, pn, pl⟩ := re.at_ ok.nd fm lf.1
  obtain rfl : p' = p := by rw [hp] at hp'; cases hp'; rfl
  refine s_pgetV (.da _) (by rw [get_cls, hp]; rfl) ?_
  walk_at "y"
  refine s_ask0 (D := D_Farm___getitem__ M) ⟨fs, f.1, rfl, six, List.mem_map.mpr ⟨f, fm, rfl⟩, fun g hg e => ?_⟩
  obtain rfl := key_eq ok.nd fm hg e
  have k := k1 d0 d1
  walk_at "y"
  unfold cntR at k
  by_cases q : ((p'.2 : Nat) : Int) < days
  · refine if_T (decide_eq_true q) ?_
    rw [if_pos q] at k
    walk_at "y"
    exact gv_id k
  · refine if_F (decide_eq_false q) ?_
    rw [if_neg q] at k
    walk_at "y"
    exact gv_id k

end
end HC
namespace HC
open PyProof.Rows PySem L2 PySem.Spec
local macro_rules | `(tactic| walk_at "ext") => `(tactic| first | exact .here | exact .there .here | exact .there (.there .here) | exact .there (.there (.there .here)) | exact .there (.there (.there (.there .here))) | exact .there (.there (.there (.there (.there .here)))))
local macro_rules | `(tactic| walk_at "gets") => `(tactic| first | exact Gets.nil | ((refine' Gets.cons ?he ?hr); (case he => walk_at "ext"); (case hr => walk_at "gets")))
local macro_rules | `(tactic| walk_at "ar") => `(tactic| first | exact ar_eq rfl | (refine ar_ex fun _ => ?_; walk_at "ar"))
local macro_rules | `(tactic| walk_at "rep") => `(tactic| first | exact .here | exact .there .here | exact .there (.there .here) | exact .there (.there (.there .here)) | exact .there (.there (.there (.there .here))))
local macro_rules | `(tactic| walk_at "see") => `(tactic| first | exact .da _ | exact .lst (by walk_at "ext"))
local macro_rules | `(tactic| walk_at "itm") => `(tactic| first | exact .tup _ | exact .tupS _ | exact .lst _ | exact .scr _ | exact .btup _ | exact .raw (by walk_at "ext"))
local macro_rules | `(tactic| walk_at "wk") => `(tactic| first | exact .tup _ | exact .tupS _ | exact .lst _ | exact .scr _ | exact .btup _ | exact .str _ | exact .raw (by walk_at "ext"))
local macro_rules | `(tactic| walk_at "alld") => `(tactic| first | exact allDa0 | exact allDa1 | exact allDa2 | exact allDa3 | exact allDa4 | exact allDa5 | rfl)
local macro_rules | `(tactic| walk_at "put") => `(tactic| (simp (config := { decide := true }) only [putS, if_true, if_false]; try rfl))
local macro_rules | `(tactic| walk_at "pl") => `(tactic| first | rfl | assumption | exact pls_map (fun _ => rfl) | exact pl_lm (fun _ => rfl) | exact pl_tm (fun _ => rfl))
local macro_rules | `(tactic| walk_at "size") => `(tactic| first | exact (by decide : _ ≤ sizeLine) | (simp [sizeLine_eq]; done) | (simp [sizeLine_eq]; omega))
local macro_rules | `(tactic| walk_at "d1") => `(tactic| first
  | with_reducible refine s_seq ?_ | with_reducible refine s_asg ?_ | ((with_reducible refine' s_var ?hv ?_ ?kn); (case hv => exact rfl); (case kn => trivial)) | with_reducible refine s_c ?_ | with_reducible refine s_r ?_
  | ((with_reducible refine' s_name ?hv ?_); (case hv => first | (simp only [List.set]; rfl) | (simp only [wipeD, List.set]; rfl)))
  | with_reducible refine s_b ?_ | with_reducible refine s_u ?_ | with_reducible refine s_t ?_ | with_reducible refine s_isB ?_ | with_reducible refine s_cons ?_ | with_reducible refine s_nil ?_
  | with_reducible refine s_p2 ?_ | with_reducible refine s_p1 ?_ | with_reducible refine s_add_i ?_ | ((with_reducible refine' s_I ?hc ?_); (case hc => first | trivial | (show (0 : Int) < _; omega) | (unfold CMul; omega) | (unfold CPow; decide) | (unfold CDiv; omega))) | with_reducible refine s_1I ?_
  | with_reducible refine s_eq_i ?_ | with_reducible refine s_eq_s ?_ | with_reducible refine s_eq_b ?_ | with_reducible refine s_ne_i ?_ | with_reducible refine s_ne_s ?_ | with_reducible refine s_ne_b ?_ | with_reducible refine s_isN ?_ | with_reducible refine s_notN ?_
  | with_reducible refine s_call ?_ | with_reducible refine s_make ?_ | with_reducible refine s_fld ?_ | with_reducible refine s_prop ?_ | with_reducible refine s_meth ?_ | with_reducible refine s_ret ?_ | with_reducible refine s_retN ?_ | with_reducible refine s_drop ?_ | with_reducible refine s_ifS ?_ | with_reducible refine s_next ?_
  | with_reducible refine s_and ?_ | with_reducible refine s_or ?_ | with_reducible refine s_not ?_ | with_reducible refine s_andV ?_ | with_reducible refine s_orV ?_ | with_reducible refine s_notV ?_ | with_reducible refine s_if ?_ | with_reducible refine s_chain ?_
  | ((with_reducible refine' s_mkT ?he ?hz ?_); (case he => first | exact mkT2 | exact mkT1 | exact mkT3 | exact mkT4 | exact mkT0 | rfl); (case hz => walk_at "size")) | ((with_reducible refine' s_mkL ?he ?hz ?_); (case he => walk_at "alld"); (case hz => walk_at "size"))
  | with_reducible refine s_partI ?_ | with_reducible refine s_slT ?_ | ((with_reducible refine' s_sfldV ?kn ?_); (case kn => trivial)) | ((with_reducible refine' s_lenI ?hi ?_); (case hi => walk_at "itm")) | with_reducible refine s_lenS ?_
  | ((with_reducible refine' s_fldD ?he ?fn ?_); (case he => rfl); (case fn => assumption)) | ((with_reducible refine' s_fldR ?hx ?he ?fn ?kn ?_); (case hx => walk_at "ext"); (case he => rfl); (case fn => assumption); (case kn => trivial))
  | ((with_reducible refine' s_sfldR ?hr ?he ?fn ?hf ?_); (case hr => walk_at "rep"); (case he => walk_at "put"); (case fn => assumption); (case hf => simp)) | ((with_reducible refine' s_add_t ?hz ?_); (case hz => walk_at "size")) | ((with_reducible refine' s_add_l ?hz ?_); (case hz => walk_at "size"))
  | ((with_reducible refine' s_parK ?he ?hl ?_); (case he => first | (simp only [List.zip_cons_cons, List.zip_nil_right, List.zip_nil_left, List.foldl_cons, List.foldl_nil, List.set_cons_succ, List.set_cons_zero]; rfl) | rfl); (case hl => rfl)) | ((with_reducible refine' s_raiseK ?he ?hl ?_); (case he => walk_at "alld"); (case hl => rfl)) | ((with_reducible refine' s_gtup ?hi ?hn ?_); (case hi => first | exact its2_2 | exact its2_3 | exact its2_4 | exact its2_1 | exact .tup _ | exact .da _); (case hn => rfl)) | with_reducible refine s_gcons ?_ | with_reducible refine s_gnil ?_
  | with_reducible refine s_for ?_ | with_reducible refine s_it ?_ | with_reducible refine s_rng1 ?_ | with_reducible refine s_rng2 ?_ | with_reducible refine s_enT ?_ | with_reducible refine s_enL ?_ | with_reducible refine s_enLK ?_ | with_reducible refine s_zip ?_ | with_reducible refine s_zipL ?_ | with_reducible refine s_lc ?_ | with_reducible refine s_yes ?_
  | with_reducible refine s_faug ?_ | with_reducible refine s_int ?_ | with_reducible refine s_intB ?_ | with_reducible refine s_n1 ?_ | with_reducible refine s_n2 ?_ | with_reducible refine s_star1 ?_ | with_reducible refine s_dictZip ?_ | with_reducible refine s_items ?_ | ((with_reducible refine' s_star1K ?hi ?_); (case hi => walk_at "itm")) | ((with_reducible refine' s_augI ?he ?_); (case he => rfl)) | ((with_reducible refine' s_augV ?hc ?he ?_); (case hc => (unfold CMul; omega)); (case he => first | (simp only [List.set_cons_succ, List.set_cons_zero]; rfl) | rfl)) | ((with_reducible refine' s_aug0 ?he ?_); (case he => rfl)) | ((with_reducible refine' s_aug0V ?he ?_); (case he => first | (simp only [List.set_cons_succ, List.set_cons_zero]; rfl) | rfl)) | with_reducible refine s_tupOfT ?_
  | ((with_reducible refine' s_ix ?him ?hat ?kn ?_); (case him => walk_at "itm"); (case hat => first | exact atI_mm (by assumption) | exact atI_c0 | exact atI_c1 | exact atI_c2 | exact atI_c3 | exact atI_c4); (case kn => trivial)) | ((with_reducible refine' s_bmK ?hi ?_); (case hi => first | exact .da _ | exact .raw (by walk_at "ext"))) | ((with_reducible refine' s_bmK0 ?hi ?_); (case hi => first | exact .da _ | exact .raw (by walk_at "ext")))
  | ((with_reducible refine' s_app ?hr ?hz ?_); (case hr => walk_at "rep"); (case hz => walk_at "size")) | ((with_reducible refine' s_itK ?hw ?_); (case hw => walk_at "wk")) | with_reducible refine s_propD ?_ | ((with_reducible refine' s_propR ?hx ?_); (case hx => walk_at "ext"))
  | ((with_reducible refine' s_methD ?hn ?_); (case hn => (simp (config := { decide := true }) only [List.map, List.mem_cons, List.not_mem_nil, or_false, not_or, not_false_eq_true, and_self])))
  | ((with_reducible refine' s_methR ?hx ?hn ?_); (case hx => walk_at "ext"); (case hn => (simp (config := { decide := true }) only [List.map, List.mem_cons, List.not_mem_nil, or_false, not_or, not_false_eq_true, and_self])))
  | ((with_reducible refine' s_enTK ?hi ?_); (case hi => first | exact .da _ | exact .btup _ | exact .tup _)) | ((with_reducible refine' s_zipT ?hi ?hj ?_); (case hi => first | exact .da _ | exact .btup _ | exact .tup _); (case hj => first | exact .da _ | exact .btup _ | exact .tup _))
  | ((with_reducible refine' s_tupOfL ?hs ?_); (case hs => walk_at "see")) | ((with_reducible refine' s_tupNew ?hs ?_); (case hs => walk_at "see")) | ((with_reducible refine' s_slL ?hs ?_); (case hs => walk_at "see"))
  | ((with_reducible refine' s_notIn_bt ?h1 ?h2 ?_); (case h1 => walk_at "pl"); (case h2 => walk_at "pl")) | ((with_reducible refine' s_in_bt ?h1 ?h2 ?_); (case h1 => walk_at "pl"); (case h2 => walk_at "pl")) | ((with_reducible refine' s_notIn_t ?h1 ?h2 ?_); (case h1 => walk_at "pl"); (case h2 => walk_at "pl")) | ((with_reducible refine' s_in_t ?h1 ?h2 ?_); (case h1 => walk_at "pl"); (case h2 => walk_at "pl")) | ((with_reducible refine' s_notIn_l ?h1 ?h2 ?_); (case h1 => walk_at "pl"); (case h2 => walk_at "pl")) | ((with_reducible refine' s_in_l ?h1 ?h2 ?_); (case h1 => walk_at "pl"); (case h2 => walk_at "pl"))
  | ((with_reducible refine' s_nilEq ?hi ?_); (case hi => first | exact .lst _ | exact .raw (by walk_at "ext"))) | ((with_reducible refine' s_popE ?hr ?_); (case hr => walk_at "rep"))
  | with_reducible refine s_setL ?_ | with_reducible refine s_setL1 ?_ | with_reducible refine s_setL2 ?_ | ((with_reducible refine' s_addR ?h1 ?h2 ?hz ?_); (case h1 => walk_at "see"); (case h2 => walk_at "see"); (case hz => walk_at "size")) | with_reducible refine s_m1 ?_ | with_reducible refine s_m1K ?_ | with_reducible refine s_m1Q ?_ | with_reducible refine s_lcR ?_ | with_reducible refine s_tupIx ?_ | with_reducible refine s_lenOD ?_ | ((with_reducible refine' s_lenOR ?hx ?_); (case hx => walk_at "ext")) | with_reducible refine s_raise0 ?_ | with_reducible refine s_raise ?_ | with_reducible refine s_tup ?_ | with_reducible refine s_lst ?_ | with_reducible refine s_lstR ?_ | with_reducible refine s_cb ?_ | with_reducible refine s_sl ?_ | with_reducible refine s_noP ?_ | with_reducible refine s_part ?_ | with_reducible refine s_bm ?_ | with_reducible refine s_bm0 ?_ | with_reducible refine s_sfld ?_ | with_reducible refine s_par ?_)
local macro_rules | `(tactic| walk_at "side") => `(tactic| first | assumption | omega | trivial | (decide; done))
local macro_rules | `(tactic| walk_at "wit") => `(tactic| ((repeat apply Exists.intro); (refine' And.intro (rfl : @Eq (List Sl) _ _) ?_); (first | (refine' And.intro (rfl : @Eq (List (Rs _)) _ _) ?_) | (fail_if_success (refine' And.intro (?_ : @Eq (List (Rs _)) _ _) ?_))); (repeat refine' And.intro (by walk_at "side") ?_)))
local macro_rules | `(tactic| walk_at "ask") => `(tactic| first | ((with_reducible refine' s_ask0 ?kk); (case' kk => walk_at "wit")) | ((with_reducible refine' s_ask ?gg ?kk); (case' kk => walk_at "wit"); (case' gg => walk_at "gets")))
local macro_rules | `(tactic| walk_at "d") => `(tactic| repeat walk_at "d1")
local macro_rules | `(tactic| walk_at "in") => `(tactic| simp only [startD, List.length_cons, List.length_nil, Nat.zero_add, Nat.reduceAdd, Nat.reduceSub, List.replicate_succ, List.replicate_zero, List.cons_append, List.nil_append])
local macro_rules | `(tactic| walk_at "yes") => `(tactic| refine if_T (by first | rfl | exact decide_eq_true (by first | assumption | omega) | assumption) ?_)
local macro_rules | `(tactic| walk_at "no") => `(tactic| refine if_F (by first | rfl | exact decide_eq_false (by first | assumption | omega) | assumption) ?_)
local macro_rules | `(tactic| walk_at "nyes") => `(tactic| refine if_T (by first | rfl | (rw [decide_eq_false (by first | assumption | omega)]; rfl)) ?_)
local macro_rules | `(tactic| walk_at "nno") => `(tactic| refine if_F (by first | rfl | (rw [decide_eq_true (by first | assumption | omega)]; rfl)) ?_)
local macro_rules | `(tactic| walk_at "dec") => `(tactic| first | rfl | assumption | (simp (config := { failIfUnchanged := false }) only [*, decide_true, decide_false, decide_eq_true_eq, decide_eq_false_iff_not, Bool.not_true, Bool.not_false, Bool.and_true, Bool.and_false, Bool.true_and, Bool.false_and, Bool.or_true, Bool.or_false, Bool.true_or, Bool.false_or, not_false_eq_true, Bool.not_eq_true']; done))
local macro_rules | `(tactic| walk_at "di") => `(tactic| repeat first | walk_at "d1" | ((with_reducible refine' if_T ?hc ?_); (case hc => walk_at "dec")) | ((with_reducible refine' if_F ?hc ?_); (case hc => walk_at "dec")))
local macro_rules | `(tactic| walk_at "wipe") => `(tactic| simp only [List.map_cons, List.map_nil, wipeD, List.set_cons_zero, List.set_cons_succ])
local macro_rules | `(tactic| walk_at "d2") => `(tactic| first
  | ((with_reducible refine' s_gunl ?hi ?hn ?_); (case hi => first | exact nl5 | exact nl4 | exact nl3 | exact nl2 | exact .lst _ | exact .raw (by walk_at "ext")); (case hn => rfl)) | with_reducible refine s_gv ?_ | with_reducible refine s_meth0 ?_
  | ((with_reducible refine' s_meth0D ?hn ?_); (case hn => (simp (config := { decide := true }) only [List.map, List.mem_cons, List.not_mem_nil, or_false, not_or, not_false_eq_true, and_self])))
  | ((with_reducible refine' s_meth0R ?hx ?hn ?_); (case hx => walk_at "ext"); (case hn => (simp (config := { decide := true }) only [List.map, List.mem_cons, List.not_mem_nil, or_false, not_or, not_false_eq_true, and_self]))))
local macro_rules | `(tactic| walk_at "d") => `(tactic| repeat first | walk_at "d1" | walk_at "d2")
local macro_rules | `(tactic| walk_at "wit1") => `(tactic| ((repeat apply Exists.intro); (refine' And.intro (rfl : @Eq (List Sl) _ _) ?_); (first | (refine' And.intro (rfl : @Eq (List (Rs _)) _ _) ?_) | (fail_if_success (refine' And.intro (?_ : @Eq (List (Rs _)) _ _) ?_)))))
local macro_rules | `(tactic| walk_at "sides") => `(tactic| (repeat refine' And.intro (by walk_at "side") ?_))
local macro_rules | `(tactic| walk_at "ask") => `(tactic| first | ((with_reducible refine' s_ask0 ?kk); (case' kk => walk_at "wit")) | ((with_reducible refine' s_ask ?gg ?kk); (case' kk => walk_at "wit1"); (case' gg => walk_at "gets"); walk_at "sides"))
local macro_rules | `(tactic| walk_at "d2") => `(tactic| first | with_reducible refine s_isTT ?_ | with_reducible refine s_vals ?_ | ((with_reducible refine' s_isTTK ?ht ?h1 ?h2 ?_); (case ht => rfl); (case h1 => rfl); (case h2 => rfl)) | ((with_reducible refine' s_isi ?ht ?hb ?_); (case ht => rfl); (case hb => rfl)))
local macro_rules | `(tactic| walk_at "dd") => `(tactic| repeat first | walk_at "d1" | walk_at "d2" | refine if_T rfl ?_ | refine if_F rfl ?_ | refine if_T (decide_eq_true rfl) ?_ | refine if_F (by rw [decide_eq_true rfl]; rfl) ?_)
section
variable {P : Program} {w : World} {K : PySem.W.Frag}
variable {mg : Str → Option Value} {base : Heap}
/-! ### _law_same, of equal data -/
def eqS : Nat → Da → Prop
  | _, .non => True
  | _, .bl _ => True
  | _, .int _ => True
  | _, .str _ => True
  | n + 1, .tup xs => xs.length ≤ 1000000 ∧ ∀ x ∈ xs, eqS n x
  | n + 1, .lst xs => xs.length ≤ 1000000 ∧ ∀ x ∈ xs, eqS n x
  | _, _ => False
def D_law_same (_ : Md K mg) : Nat → SpD K
  | 0 => fun _ _ _ _ => False
  | n + 1 => fun as rs xc q => ∃ x, as = [.da x, .da x] ∧ rs = [] ∧ eqS n x ∧ q (.da (.bl true)) []
abbrev noDS : SpD K := fun _ _ _ _ => False
theorem never_def {x : Str} {st : Stmt} {N ps : List Str} {k : Nat} (G : Gd K mg x st) (S : FnScope N ps (defScope st)) (bd : ∀ f fd, FnD K x x st f fd → Binds K fd ps []) : DefR P w K mg base x (k + 1) (spD (noDS (K := K))) := by
  refine def_mk G fun f fd F => fnr_mk (dfn_ok (t := fun _ _ _ => False) F S (fun as rs xc q h => h.elim) (fun cdv A outer s H E hr => ⟨fun pn s σ H D inv ⟨_, _, _, _, _, _, h, _⟩ => h.elim⟩) fun as rs xc q h => h.elim) (bd f fd F)
theorem rng_nat (n : Nat) : rngS 0 (((n : Nat) : Int).toNat) = (List.range n).map fun k => Sl.da (.int ((k : Nat) : Int)) := by
  unfold rngS
  rw [Int.toNat_natCast]
  exact List.map_congr_left fun k _ => by rw [Int.zero_add]
theorem ok_law_same (M : Md K mg) (G : Gd K mg "_law_same" s_law_same) : ∀ n, DefR P w K mg base "_law_same" (2 * n + 2) (spD (D_law_same M n))
  | 0 => never_def (k := 1) G sc_law_same fun f fd F => F.bindsN (fun _ _ _ _ _ _ us hl => match us, hl with | [_, _], _ => rfl)
  | n + 1 => by
    have R_law_same := ok_law_same M G n
    refine def_mk G fun f fd F => fnr_mk (dfn_ok (k := 2 * n + 3) F sc_law_same (by intro as rs xc q; walk_at "ar") (fun cdv A outer s H E hr => by
      have nd := sc_law_same.nd
      exact (dss_cons (ds_if (dt_val (d_isiTT (pe_isiTT K M.b (d_var (i := 1) (pv 1))))) (dss_cons (ds_if (PW.pt (dw_or (dt_not (dt_val (d_isiTT (pe_isiTT K M.b (d_var (i := 0) (pv 0)))))) (dw_or1 (dt_cmp (op_neK K hr) (pu2 pu_ne) (d_isi (pe_isiB K M.b M.b.list bt_list (d_var (i := 0) (pv 0)))) (d_isi (pe_isiB K M.b M.b.list bt_list (d_var (i := 1) (pv 1)))))))) (dss_one (ds_ret (d_bl pe_bl))) dss_nil)
    (dss_cons (ds_if (dt_cmp (op_neK K hr) (pu2 pu_ne) (d_cb1 (pe_len K M.b (d_var (i := 0) (pv 0))) act_len) (d_cb1 (pe_len K M.b (d_var (i := 1) (pv 1))) act_len)) (dss_one (ds_ret (d_bl pe_bl))) dss_nil)
    (dss_one (ds_ret (d_cmp (op_eqNilK K hr) act_nil (d_lc (E' := E0) (E2 := E0) (pe_lc (own := [("_law_k", 2)]) (g := (gName 2)) rfl nd (di_rng1 (pi_range1 rfl M.b.range (da_cons (d_cb1 (pe_len K M.b (d_var (i := 1) (pv 1))) act_len) da_nil))) (blkOk_by (N := N_law_same) (sc := defScope s_law_same) (by decide +kernel)) (fun _ _ _ _ _ => (pg_name (i := 2) nd rfl (by first | exact Or.inl rfl | exact Or.inr rfl))) (fun _ _ _ _ _ => (dts_one (dt_not (dt_val (d_call (pe_callR R_law_same (hr.mono (by first | decide | omega)) passN (da_cons (d_ix (d_var (i := 0) (pv 0)) (d_var (i := 2) (pv 2))) (da_cons (d_ix (d_var (i := 1) (pv 1)) (d_var (i := 2) (pv 2))) da_nil)))))))) (fun _ _ _ _ _ => (d_var (i := 2) (pv 2)))) (tg_name 2) (by decide)) (d_lst da_nil)))))) dss_nil)
    (dss_cons (ds_if (dt_cmp (op_neK K hr) (pu2 pu_ne) (d_isi (pe_isiB K M.b M.b.bool bt_bool (d_var (i := 0) (pv 0)))) (d_isi (pe_isiB K M.b M.b.bool bt_bool (d_var (i := 1) (pv 1))))) (dss_one (ds_ret (d_bl pe_bl))) dss_nil)
    (dss_one (ds_ret (d_and (d_cmp (op_eqK K hr) (pu2 pu_eq) (d_isi (pe_isiB K M.b M.b.int bt_int (d_var (i := 0) (pv 0)))) (d_isi (pe_isiB K M.b M.b.int bt_int (d_var (i := 1) (pv 1))))) (pe_one (d_cmp (op_eqK K hr) (pu2 pu_eq) (d_var (i := 0) (pv 0)) (d_var (i := 1) (pv 1)))))))))) ?_) (F.bindsN (fun _ _ _ _ _ _ us hl => match us, hl with | [_, _], _ => rfl))
    rintro as rs xc q ⟨x, rfl, rfl, hx, k⟩
    walk_at "in"
    cases x with
    | non =>
      walk_at "dd"
      refine s_eq_d rfl rfl rfl ?_
      walk_at "dd"
      exact gv_id k
    | bl b =>
      walk_at "dd"
      rw [decide_eq_true rfl]
      exact gv_id k
    | int b =>
      walk_at "dd"
      rw [decide_eq_true rfl]
      exact gv_id k
    | str b =>
      walk_at "dd"
      rw [decide_eq_true rfl]
      exact gv_id k
    | tup xs =>
      cases n with
      | zero => exact hx.elim
      | succ n =>
      obtain ⟨few, all⟩ := (show xs.length ≤ 1000000 ∧ ∀ y ∈ xs, eqS n y from hx)
      walk_at "dd"
      refine s_rng1K (by simp; omega) ?_
      rw [List.length_map, rng_nat]
      refine s_lcP (List.range xs.length) _ (fun _ => false) (fun k => .int ((k : Nat) : Int)) rfl (by rw [List.length_range]; omega) trivial (fun i j T N hc ht hn => ?_) ?_
      · have hj := List.mem_range.mp (List.mem_of_getElem? hc)
        have hy : xs[j]? = some xs[j] := List.getElem?_eq_getElem hj
        have py := all _ (List.getElem_mem hj)
        generalize xs[j] = y at *
        walk_at "wipe"
        walk_at "d"
        refine s_ix (.tup _) (atI_m hy) trivial ?_
        walk_at "d"
        refine s_ix (.tup _) (atI_m hy) trivial ?_
        walk_at "d"
        refine s_ask0 ⟨y, rfl, rfl, py, ?_⟩
        walk_at "d"
        refine if_F rfl ?_
        exact hn rfl
      · walk_at "d"
        have e : ((List.range xs.length).filter fun _ => false) = [] := by simp
        rw [e]
        exact gv_id k
    | lst xs =>
      cases n with
      | zero => exact hx.elim
      | succ n =>
      obtain ⟨few, all⟩ := (show xs.length ≤ 1000000 ∧ ∀ y ∈ xs, eqS n y from hx)
      walk_at "dd"
      refine s_rng1K (by simp; omega) ?_
      rw [List.length_map, rng_nat]
      refine s_lcP (List.range xs.length) _ (fun _ => false) (fun k => .int ((k : Nat) : Int)) rfl (by rw [List.length_range]; omega) trivial (fun i j T N hc ht hn => ?_) ?_
      · have hj := List.mem_range.mp (List.mem_of_getElem? hc)
        have hy : xs[j]? = some xs[j] := List.getElem?_eq_getElem hj
        have py := all _ (List.getElem_mem hj)
        generalize xs[j] = y at *
        walk_at "wipe"
        walk_at "d"
        refine s_ix (.lst _) (atI_m hy) trivial ?_
        walk_at "d"
        refine s_ix (.lst _) (atI_m hy) trivial ?_
        walk_at "d"
        refine s_ask0 ⟨y, rfl, rfl, py, ?_⟩
        walk_at "d"
        refine if_F rfl ?_
        exact hn rfl
      · walk_at "d"
        have e : ((List.range xs.length).filter fun _ => false) = [] := by simp
        rw [e]
        exact gv_id k
    | _ => cases n <;> exact hx.elim

end
end HC
namespace HC
open PyProof.Rows PySem L2 PySem.Spec
local macro_rules | `(tactic| walk_at "ext") => `(tactic| first | exact .here | exact .there .here | exact .there (.there .here) | exact .there (.there (.there .here)) | exact .there (.there (.there (.there .here))) | exact .there (.there (.there (.there (.there .here)))))
local macro_rules | `(tactic| walk_at "gets") => `(tactic| first | exact Gets.nil | ((refine' Gets.cons ?he ?hr); (case he => walk_at "ext"); (case hr => walk_at "gets")))
local macro_rules | `(tactic| walk_at "ar") => `(tactic| first | exact ar_eq rfl | (refine ar_ex fun _ => ?_; walk_at "ar"))
local macro_rules | `(tactic| walk_at "rep") => `(tactic| first | exact .here | exact .there .here | exact .there (.there .here) | exact .there (.there (.there .here)) | exact .there (.there (.there (.there .here))))
local macro_rules | `(tactic| walk_at "see") => `(tactic| first | exact .da _ | exact .lst (by walk_at "ext"))
local macro_rules | `(tactic| walk_at "itm") => `(tactic| first | exact .tup _ | exact .tupS _ | exact .lst _ | exact .scr _ | exact .btup _ | exact .raw (by walk_at "ext"))
local macro_rules | `(tactic| walk_at "wk") => `(tactic| first | exact .tup _ | exact .tupS _ | exact .lst _ | exact .scr _ | exact .btup _ | exact .str _ | exact .raw (by walk_at "ext"))
local macro_rules | `(tactic| walk_at "alld") => `(tactic| first | exact allDa0 | exact allDa1 | exact allDa2 | exact allDa3 | exact allDa4 | exact allDa5 | rfl)
local macro_rules | `(tactic| walk_at "put") => `(tactic| (simp (config := { decide := true }) only [putS, if_true, if_false]; try rfl))
local macro_rules | `(tactic| walk_at "pl") => `(tactic| first | rfl | assumption | exact pls_map (fun _ => rfl) | exact pl_lm (fun _ => rfl) | exact pl_tm (fun _ => rfl))
local macro_rules | `(tactic| walk_at "size") => `(tactic| first | exact (by decide : _ ≤ sizeLine) | (simp [sizeLine_eq]; done) | (simp [sizeLine_eq]; omega))
local macro_rules | `(tactic| walk_at "d1") => `(tactic| first
  | with_reducible refine s_seq ?_ | with_reducible refine s_asg ?_ | ((with_reducible refine' s_var ?hv ?_ ?kn); (case hv => exact rfl); (case kn => trivial)) | with_reducible refine s_c ?_ | with_reducible refine s_r ?_
  | ((with_reducible refine' s_name ?hv ?_); (case hv => first | (simp only [List.set]; rfl) | (simp only [wipeD, List.set]; rfl)))
  | with_reducible refine s_b ?_ | with_reducible refine s_u ?_ | with_reducible refine s_t ?_ | with_reducible refine s_isB ?_ | with_reducible refine s_cons ?_ | with_reducible refine s_nil ?_
  | with_reducible refine s_p2 ?_ | with_reducible refine s_p1 ?_ | with_reducible refine s_add_i ?_ | ((with_reducible refine' s_I ?hc ?_); (case hc => first | trivial | (show (0 : Int) < _; omega) | (unfold CMul; omega) | (unfold CPow; decide) | (unfold CDiv; omega))) | with_reducible refine s_1I ?_
  | with_reducible refine s_eq_i ?_ | with_reducible refine s_eq_s ?_ | with_reducible refine s_eq_b ?_ | with_reducible refine s_ne_i ?_ | with_reducible refine s_ne_s ?_ | with_reducible refine s_ne_b ?_ | with_reducible refine s_isN ?_ | with_reducible refine s_notN ?_
  | with_reducible refine s_call ?_ | with_reducible refine s_make ?_ | with_reducible refine s_fld ?_ | with_reducible refine s_prop ?_ | with_reducible refine s_meth ?_ | with_reducible refine s_ret ?_ | with_reducible refine s_retN ?_ | with_reducible refine s_drop ?_ | with_reducible refine s_ifS ?_ | with_reducible refine s_next ?_
  | with_reducible refine s_and ?_ | with_reducible refine s_or ?_ | with_reducible refine s_not ?_ | with_reducible refine s_andV ?_ | with_reducible refine s_orV ?_ | with_reducible refine s_notV ?_ | with_reducible refine s_if ?_ | with_reducible refine s_chain ?_
  | ((with_reducible refine' s_mkT ?he ?hz ?_); (case he => first | exact mkT2 | exact mkT1 | exact mkT3 | exact mkT4 | exact mkT0 | rfl); (case hz => walk_at "size")) | ((with_reducible refine' s_mkL ?he ?hz ?_); (case he => walk_at "alld"); (case hz => walk_at "size"))
  | with_reducible refine s_partI ?_ | with_reducible refine s_slT ?_ | ((with_reducible refine' s_sfldV ?kn ?_); (case kn => trivial)) | ((with_reducible refine' s_lenI ?hi ?_); (case hi => walk_at "itm")) | with_reducible refine s_lenS ?_
  | ((with_reducible refine' s_fldD ?he ?fn ?_); (case he => rfl); (case fn => assumption)) | ((with_reducible refine' s_fldR ?hx ?he ?fn ?kn ?_); (case hx => walk_at "ext"); (case he => rfl); (case fn => assumption); (case kn => trivial))
  | ((with_reducible refine' s_sfldR ?hr ?he ?fn ?hf ?_); (case hr => walk_at "rep"); (case he => walk_at "put"); (case fn => assumption); (case hf => simp)) | ((with_reducible refine' s_add_t ?hz ?_); (case hz => walk_at "size")) | ((with_reducible refine' s_add_l ?hz ?_); (case hz => walk_at "size"))
  | ((with_reducible refine' s_parK ?he ?hl ?_); (case he => first | (simp only [List.zip_cons_cons, List.zip_nil_right, List.zip_nil_left, List.foldl_cons, List.foldl_nil, List.set_cons_succ, List.set_cons_zero]; rfl) | rfl); (case hl => rfl)) | ((with_reducible refine' s_raiseK ?he ?hl ?_); (case he => walk_at "alld"); (case hl => rfl)) | ((with_reducible refine' s_gtup ?hi ?hn ?_); (case hi => first | exact its2_2 | exact its2_3 | exact its2_4 | exact its2_1 | exact .tup _ | exact .da _); (case hn => rfl)) | with_reducible refine s_gcons ?_ | with_reducible refine s_gnil ?_
  | with_reducible refine s_for ?_ | with_reducible refine s_it ?_ | with_reducible refine s_rng1 ?_ | with_reducible refine s_rng2 ?_ | with_reducible refine s_enT ?_ | with_reducible refine s_enL ?_ | with_reducible refine s_enLK ?_ | with_reducible refine s_zip ?_ | with_reducible refine s_zipL ?_ | with_reducible refine s_lc ?_ | with_reducible refine s_yes ?_
  | with_reducible refine s_faug ?_ | with_reducible refine s_int ?_ | with_reducible refine s_intB ?_ | with_reducible refine s_n1 ?_ | with_reducible refine s_n2 ?_ | with_reducible refine s_star1 ?_ | with_reducible refine s_dictZip ?_ | with_reducible refine s_items ?_ | ((with_reducible refine' s_star1K ?hi ?_); (case hi => walk_at "itm")) | ((with_reducible refine' s_augI ?he ?_); (case he => rfl)) | ((with_reducible refine' s_augV ?hc ?he ?_); (case hc => (unfold CMul; omega)); (case he => first | (simp only [List.set_cons_succ, List.set_cons_zero]; rfl) | rfl)) | ((with_reducible refine' s_aug0 ?he ?_); (case he => rfl)) | ((with_reducible refine' s_aug0V ?he ?_); (case he => first | (simp only [List.set_cons_succ, List.set_cons_zero]; rfl) | rfl)) | with_reducible refine s_tupOfT ?_
  | ((with_reducible refine' s_ix ?him ?hat ?kn ?_); (case him => walk_at "itm"); (case hat => first | exact atI_mm (by assumption) | exact atI_c0 | exact atI_c1 | exact atI_c2 | exact atI_c3 | exact atI_c4); (case kn => trivial)) | ((with_reducible refine' s_bmK ?hi ?_); (case hi => first | exact .da _ | exact .raw (by walk_at "ext"))) | ((with_reducible refine' s_bmK0 ?hi ?_); (case hi => first | exact .da _ | exact .raw (by walk_at "ext")))
  | ((with_reducible refine' s_app ?hr ?hz ?_); (case hr => walk_at "rep"); (case hz => walk_at "size")) | ((with_reducible refine' s_itK ?hw ?_); (case hw => walk_at "wk")) | with_reducible refine s_propD ?_ | ((with_reducible refine' s_propR ?hx ?_); (case hx => walk_at "ext"))
  | ((with_reducible refine' s_methD ?hn ?_); (case hn => (simp (config := { decide := true }) only [List.map, List.mem_cons, List.not_mem_nil, or_false, not_or, not_false_eq_true, and_self])))
  | ((with_reducible refine' s_methR ?hx ?hn ?_); (case hx => walk_at "ext"); (case hn => (simp (config := { decide := true }) only [List.map, List.mem_cons, List.not_mem_nil, or_false, not_or, not_false_eq_true, and_self])))
  | ((with_reducible refine' s_enTK ?hi ?_); (case hi => first | exact .da _ | exact .btup _ | exact .tup _)) | ((with_reducible refine' s_zipT ?hi ?hj ?_); (case hi => first | exact .da _ | exact .btup _ | exact .tup _); (case hj => first | exact .da _ | exact .btup _ | exact .tup _))
  | ((with_reducible refine' s_tupOfL ?hs ?_); (case hs => walk_at "see")) | ((with_reducible refine' s_tupNew ?hs ?_); (case hs => walk_at "see")) | ((with_reducible refine' s_slL ?hs ?_); (case hs => walk_at "see"))
  | ((with_reducible refine' s_notIn_bt ?h1 ?h2 ?_); (case h1 => walk_at "pl"); (case h2 => walk_at "pl")) | ((with_reducible refine' s_in_bt ?h1 ?h2 ?_); (case h1 => walk_at "pl"); (case h2 => walk_at "pl")) | ((with_reducible refine' s_notIn_t ?h1 ?h2 ?_); (case h1 => walk_at "pl"); (case h2 => walk_at "pl")) | ((with_reducible refine' s_in_t ?h1 ?h2 ?_); (case h1 => walk_at "pl"); (case h2 => walk_at "pl")) | ((with_reducible refine' s_notIn_l ?h1 ?h2 ?_); (case h1 => walk_at "pl"); (case h2 => walk_at "pl")) | ((with_reducible refine' s_in_l ?h1 ?h2 ?_); (case h1 => walk_at "pl"); (case h2 => walk_at "pl"))
  | ((with_reducible refine' s_nilEq ?hi ?_); (case hi => first | exact .lst _ | exact .raw (by walk_at "ext"))) | ((with_reducible refine' s_popE ?hr ?_); (case hr => walk_at "rep"))
  | with_reducible refine s_setL ?_ | with_reducible refine s_setL1 ?_ | with_reducible refine s_setL2 ?_ | ((with_reducible refine' s_addR ?h1 ?h2 ?hz ?_); (case h1 => walk_at "see"); (case h2 => walk_at "see"); (case hz => walk_at "size")) | with_reducible refine s_m1 ?_ | with_reducible refine s_m1K ?_ | with_reducible refine s_m1Q ?_ | with_reducible refine s_lcR ?_ | with_reducible refine s_tupIx ?_ | with_reducible refine s_lenOD ?_ | ((with_reducible refine' s_lenOR ?hx ?_); (case hx => walk_at "ext")) | with_reducible refine s_raise0 ?_ | with_reducible refine s_raise ?_ | with_reducible refine s_tup ?_ | with_reducible refine s_lst ?_ | with_reducible refine s_lstR ?_ | with_reducible refine s_cb ?_ | with_reducible refine s_sl ?_ | with_reducible refine s_noP ?_ | with_reducible refine s_part ?_ | with_reducible refine s_bm ?_ | with_reducible refine s_bm0 ?_ | with_reducible refine s_sfld ?_ | with_reducible refine s_par ?_)
local macro_rules | `(tactic| walk_at "side") => `(tactic| first | assumption | omega | trivial | (decide; done))
local macro_rules | `(tactic| walk_at "wit") => `(tactic| ((repeat apply Exists.intro); (refine' And.intro (rfl : @Eq (List Sl) _ _) ?_); (first | (refine' And.intro (rfl : @Eq (List (Rs _)) _ _) ?_) | (fail_if_success (refine' And.intro (?_ : @Eq (List (Rs _)) _ _) ?_))); (repeat refine' And.intro (by walk_at "side") ?_)))
local macro_rules | `(tactic| walk_at "ask") => `(tactic| first | ((with_reducible refine' s_ask0 ?kk); (case' kk => walk_at "wit")) | ((with_reducible refine' s_ask ?gg ?kk); (case' kk => walk_at "wit"); (case' gg => walk_at "gets")))
local macro_rules | `(tactic| walk_at "d") => `(tactic| repeat walk_at "d1")
local macro_rules | `(tactic| walk_at "in") => `(tactic| simp only [startD, List.length_cons, List.length_nil, Nat.zero_add, Nat.reduceAdd, Nat.reduceSub, List.replicate_succ, List.replicate_zero, List.cons_append, List.nil_append])
local macro_rules | `(tactic| walk_at "yes") => `(tactic| refine if_T (by first | rfl | exact decide_eq_true (by first | assumption | omega) | assumption) ?_)
local macro_rules | `(tactic| walk_at "no") => `(tactic| refine if_F (by first | rfl | exact decide_eq_false (by first | assumption | omega) | assumption) ?_)
local macro_rules | `(tactic| walk_at "nyes") => `(tactic| refine if_T (by first | rfl | (rw [decide_eq_false (by first | assumption | omega)]; rfl)) ?_)
local macro_rules | `(tactic| walk_at "nno") => `(tactic| refine if_F (by first | rfl | (rw [decide_eq_true (by first | assumption | omega)]; rfl)) ?_)
local macro_rules | `(tactic| walk_at "dec") => `(tactic| first | rfl | assumption | (simp (config := { failIfUnchanged := false }) only [*, decide_true, decide_false, decide_eq_true_eq, decide_eq_false_iff_not, Bool.not_true, Bool.not_false, Bool.and_true, Bool.and_false, Bool.true_and, Bool.false_and, Bool.or_true, Bool.or_false, Bool.true_or, Bool.false_or, not_false_eq_true, Bool.not_eq_true']; done))
local macro_rules | `(tactic| walk_at "di") => `(tactic| repeat first | walk_at "d1" | ((with_reducible refine' if_T ?hc ?_); (case hc => walk_at "dec")) | ((with_reducible refine' if_F ?hc ?_); (case hc => walk_at "dec")))
local macro_rules | `(tactic| walk_at "wipe") => `(tactic| simp only [List.map_cons, List.map_nil, wipeD, List.set_cons_zero, List.set_cons_succ])
local macro_rules | `(tactic| walk_at "sm") => `(tactic| first | assumption | exact Same.refl _ | (refine Same.trans ?_ (by assumption); walk_at "sm"))
local macro_rules | `(tactic| walk_at "hp") => `(tactic| first
  | assumption | exact upd_same
  | ((with_reducible refine same_at (by assumption) ?_); walk_at "hp") | ((with_reducible refine same_t (by assumption) ?_); walk_at "hp") | ((with_reducible refine same_l (by assumption) ?_); walk_at "hp")
  | ((with_reducible refine Same.dp (by assumption) ?_); walk_at "hp") | ((with_reducible refine Same.dpa (by assumption) ?_); walk_at "hp")
  | ((with_reducible refine SqT.of ?_); walk_at "hp") | ((with_reducible refine SqL.of ?_); walk_at "hp"))
local macro_rules | `(tactic| walk_at "go1") => `(tactic| first
  | with_reducible refine g_seq ?_ | with_reducible refine g_asg ?_ | with_reducible refine g_op ?_ | ((with_reducible refine' g_var ?hv ?_); (case hv => exact rfl))
  | with_reducible refine g_c ?_ | with_reducible refine g_cons ?_ | with_reducible refine g_nil ?_ | with_reducible refine g_cb ?_ | with_reducible refine g_callR ?_
  | ((with_reducible refine' g_name ?hv ?_); (case hv => first | (simp only [List.set]; rfl) | (simp only [wipe, List.map, List.set]; rfl)))
  | with_reducible refine g_ret ?_ | with_reducible refine g_drop ?_ | with_reducible refine g_ifS ?_ | with_reducible refine g_test ?_ | with_reducible refine g_tB ?_ | with_reducible refine g_bl ?_
  | with_reducible refine g_add_i ?_ | with_reducible refine g_sub ?_ | with_reducible refine g_lt ?_ | with_reducible refine g_le ?_ | with_reducible refine g_gt ?_ | with_reducible refine g_ge ?_
  | with_reducible refine g_eq_i ?_ | with_reducible refine g_ne_i ?_ | with_reducible refine g_eq_s ?_ | with_reducible refine g_ne_s ?_ | with_reducible refine g_eq_b ?_ | with_reducible refine g_ne_b ?_ | with_reducible refine g_isN ?_ | with_reducible refine g_notN ?_
  | with_reducible refine g_and ?_ | with_reducible refine g_or ?_ | with_reducible refine g_not ?_ | with_reducible refine g_andV ?_ | with_reducible refine g_orV ?_ | with_reducible refine g_notV ?_ | with_reducible refine g_if ?_ | with_reducible refine g_chain ?_
  | with_reducible refine g_tup ?_ | with_reducible refine g_lst ?_ | with_reducible refine g_un ?_ | with_reducible refine g_next ?_
  | with_reducible refine g_bm ?_ | with_reducible refine g_bm0 ?_ | with_reducible refine g_m1 ?_ | with_reducible refine g_m0 ?_ | with_reducible refine g_tyS ?_ | with_reducible refine g_gsub ?_
  | with_reducible refine g_fld ?_ | with_reducible refine g_prop ?_ | with_reducible refine g_meth ?_ | with_reducible refine g_make ?_ | with_reducible refine g_star1 ?_ | with_reducible refine g_star ?_ | with_reducible refine g_sfld ?_
  | with_reducible refine g_forL ?_ | with_reducible refine g_forT ?_ | with_reducible refine g_forS ?_ | with_reducible refine g_forR1 ?_ | with_reducible refine g_forR2 ?_ | with_reducible refine g_forET ?_
  | with_reducible refine g_lcL ?_ | with_reducible refine g_lcT ?_ | with_reducible refine g_lcS ?_ | with_reducible refine g_lcR1 ?_ | with_reducible refine g_yes ?_ | with_reducible refine g_lcIfT ?_ | with_reducible refine g_lcIfF ?_
  | with_reducible refine g_isTT ?_ | with_reducible refine g_mkw ?_ | with_reducible refine g_lenSet ?_ | with_reducible refine g_mskw ?_
  | with_reducible refine g_gcons ?_ | with_reducible refine g_gnil ?_ | with_reducible refine g_sl ?_ | with_reducible refine g_noPart ?_ | with_reducible refine g_part ?_ | with_reducible refine g_partI ?_
  | with_reducible refine g_par ?_ | with_reducible refine g_par3 ?_ | ((with_reducible refine' n_par ?hv ?_); (case hv => (simp only [List.set]; rfl))) | ((with_reducible refine' n_par3 ?hv ?_); (case hv => (simp only [List.set]; rfl)))
  | ((with_reducible refine' g_aug ?hv ?_); (case hv => exact rfl)) | ((with_reducible refine' n_aug ?hv ?_); (case hv => (simp only [List.set]; rfl))) | with_reducible refine g_ipI ?_ | with_reducible refine g_rAdd ?_ | with_reducible refine g_rSub ?_ | with_reducible refine g_fldaug ?_
  | with_reducible refine g_ownIx ?_ | with_reducible refine g_callI ?_ | with_reducible refine g_listM ?_ | with_reducible refine g_fs ?_ | with_reducible refine g_fmt ?_ | with_reducible refine g_gthen ?_ | with_reducible refine g_gplain ?_ | with_reducible refine g_gif ?_ | with_reducible refine g_g0 ?_ | with_reducible refine g_gforR2 ?_
  | with_reducible refine g_dget ?_ | with_reducible refine g_dput ?_ | with_reducible refine g_neg ?_ | with_reducible refine g_abs ?_ | with_reducible refine g_min2 ?_ | with_reducible refine g_max2 ?_ | with_reducible refine g_int_i ?_ | with_reducible refine g_int_b ?_ | with_reducible refine g_in_sign ?_
  | ((with_reducible refine' g_mod ?hv ?_); (case hv => first | assumption | omega | decide)) | ((with_reducible refine' g_fdiv ?hv ?hw ?_); (case hv => first | assumption | omega | decide); (case hw => first | assumption | omega | decide))
  | ((with_reducible refine' g_mul ?hv ?_); (case hv => first | assumption | (unfold CMul; omega)))
  | ((with_reducible refine' g_ix_l ?hv ?hw ?_); (case hv => exact SqL.of (by walk_at "hp")); (case hw => first | exact atI_c0 | exact atI_c1 | exact atI_c2 | exact atI_c3))
  | ((with_reducible refine' g_tyL ?hv ?_); (case hv => exact SqL.of (by walk_at "hp")))
  | ((with_reducible refine' g_len_l ?hv ?_); (case hv => exact SqL.of (by walk_at "hp"))))
local macro_rules | `(tactic| walk_at "go") => `(tactic| repeat walk_at "go1")
section
variable {P : Program} {w : World} {K : PySem.W.Frag}
variable {mg : Str → Option Value} {base : Heap}
/-! ### what _law_outcome tells of what it is given -/
abbrev ocs (c_InvalidNumber c_NotHarmonic c_TooFewCarts : Addr) : List Oc := [⟨c_InvalidNumber, "InvalidNumber", none⟩, ⟨c_NotHarmonic, "NotHarmonic", none⟩, ⟨c_TooFewCarts, "TooFewCarts", none⟩]
structure OutF (K : PySem.W.Frag) (mg : Str → Option Value) (c_InvalidNumber c_NotHarmonic c_TooFewCarts : Addr) : Prop where
  a_InvalidNumber : mg "InvalidNumber" = some (.ref c_InvalidNumber)
  a_NotHarmonic : mg "NotHarmonic" = some (.ref c_NotHarmonic)
  a_TooFewCarts : mg "TooFewCarts" = some (.ref c_TooFewCarts)
  ox : OcsX K (ocs c_InvalidNumber c_NotHarmonic c_TooFewCarts)
theorem gives_out {X : Cx} {g c_InvalidNumber c_NotHarmonic c_TooFewCarts : Addr} (O : OutF X.K X.mg c_InvalidNumber c_NotHarmonic c_TooFewCarts) (cdg : Value) : Gives X N_law_outcome "_law_outcome" (defScope s_law_outcome) g cdg (defBody s_law_outcome) "_law_work" (TTof (eeO (ocs c_InvalidNumber c_NotHarmonic c_TooFewCarts)) id) := by
  intro f s H Q IsL tl act isl h
  refine ⟨_, pss_one (ps_try_mix (X := (cxOf C8.CX0 X.prog X.w X.K X.mg X.base N_law_outcome "_law_outcome" (defScope s_law_outcome) g cdg X.A X.stack s H C8.E0).nox) (tb := fun W D σ H => ∃ Ech : XK, (∀ cls d H', Ech cls d H' → W cls d σ H') ∧ σ[0]? = some (some (.ref f)) ∧ IsL H ∧ tl Ech H D.rt) rfl rfl LamX.takes0
    (fun W pn xe tk _ => ⟨fun pins s' σ H' D I ⟨Ech, hW, h1, h2, h3⟩ => (pss_one (ps_ret (act W pn xe Ech _ _ tk))).run pins s' σ H' D I ⟨hW, h1, h2, h3⟩⟩)
    (.plain ⟨rfl, by decide, .inl O.a_InvalidNumber⟩ (fun a oe cls d pn hz hf => pss_one (ps_ret (pe_tup (pa_cons pe_str pa_nil)))) (.plain ⟨rfl, by decide, .inl O.a_NotHarmonic⟩ (fun a oe cls d pn hz hf => pss_one (ps_ret (pe_tup (pa_cons pe_str pa_nil)))) (.plain ⟨rfl, by decide, .inl O.a_TooFewCarts⟩ (fun a oe cls d pn hz hf => pss_one (ps_ret (pe_tup (pa_cons pe_str pa_nil)))) .nil)))), ?_⟩
  refine ⟨eeO (ocs c_InvalidNumber c_NotHarmonic c_TooFewCarts) Q, ?_, rfl, isl, h⟩
  rintro cls d H' ⟨o, ho, rfl, ov⟩
  refine oc_mix (n := 1) (T := ocs c_InvalidNumber c_NotHarmonic c_TooFewCarts) ov rfl (.cons ⟨rfl, ?_⟩ (.cons ⟨rfl, ?_⟩ (.cons ⟨rfl, ?_⟩ .nil))) ho (O.ox.ex o ho) (O.ox.un o ho)
  · intro a d σ H D na hl k
    exact ⟨by show 1 ≤ sizeLine; decide, fun p hp => k _ p (same_new hp) upd_same⟩
  · intro a d σ H D na hl k
    exact ⟨by show 1 ≤ sizeLine; decide, fun p hp => k _ p (same_new hp) upd_same⟩
  · intro a d σ H D na hl k
    exact ⟨by show 1 ≤ sizeLine; decide, fun p hp => k _ p (same_new hp) upd_same⟩
theorem tells_out {c_InvalidNumber c_NotHarmonic c_TooFewCarts : Addr} : Tells K (eeO (ocs c_InvalidNumber c_NotHarmonic c_TooFewCarts)) id (xO (ocs c_InvalidNumber c_NotHarmonic c_TooFewCarts)) id := tells_oc _ fun o ho => by
  simp only [ocs, List.mem_cons, List.not_mem_nil, or_false] at ho
  rcases ho with rfl | rfl | rfl
  · show PyData.strOk ("InvalidNumber" : Str) = true
    decide +kernel
  · show PyData.strOk ("NotHarmonic" : Str) = true
    decide +kernel
  · show PyData.strOk ("TooFewCarts" : Str) = true
    decide +kernel

end
end HC
namespace HC
open PyProof.Rows PySem L2 PySem.Spec
local macro_rules | `(tactic| walk_at "ext") => `(tactic| first | exact .here | exact .there .here | exact .there (.there .here) | exact .there (.there (.there .here)) | exact .there (.there (.there (.there .here))) | exact .there (.there (.there (.there (.there .here)))))
local macro_rules | `(tactic| walk_at "gets") => `(tactic| first | exact Gets.nil | ((refine' Gets.cons ?he ?hr); (case he => walk_at "ext"); (case hr => walk_at "gets")))
local macro_rules | `(tactic| walk_at "ar") => `(tactic| first | exact ar_eq rfl | (refine ar_ex fun _ => ?_; walk_at "ar"))
local macro_rules | `(tactic| walk_at "rep") => `(tactic| first | exact .here | exact .there .here | exact .there (.there .here) | exact .there (.there (.there .here)) | exact .there (.there (.there (.there .here))))
local macro_rules | `(tactic| walk_at "see") => `(tactic| first | exact .da _ | exact .lst (by walk_at "ext"))
local macro_rules | `(tactic| walk_at "itm") => `(tactic| first | exact .tup _ | exact .tupS _ | exact .lst _ | exact .scr _ | exact .btup _ | exact .raw (by walk_at "ext"))
local macro_rules | `(tactic| walk_at "wk") => `(tactic| first | exact .tup _ | exact .tupS _ | exact .lst _ | exact .scr _ | exact .btup _ | exact .str _ | exact .raw (by walk_at "ext"))
local macro_rules | `(tactic| walk_at "alld") => `(tactic| first | exact allDa0 | exact allDa1 | exact allDa2 | exact allDa3 | exact allDa4 | exact allDa5 | rfl)
local macro_rules | `(tactic| walk_at "put") => `(tactic| (simp (config := { decide := true }) only [putS, if_true, if_false]; try rfl))
local macro_rules | `(tactic| walk_at "pl") => `(tactic| first | rfl | assumption | exact pls_map (fun _ => rfl) | exact pl_lm (fun _ => rfl) | exact pl_tm (fun _ => rfl))
local macro_rules | `(tactic| walk_at "size") => `(tactic| first | exact (by decide : _ ≤ sizeLine) | (simp [sizeLine_eq]; done) | (simp [sizeLine_eq]; omega))
local macro_rules | `(tactic| walk_at "d1") => `(tactic| first
  | with_reducible refine s_seq ?_ | with_reducible refine s_asg ?_ | ((with_reducible refine' s_var ?hv ?_ ?kn); (case hv => exact rfl); (case kn => trivial)) | with_reducible refine s_c ?_ | with_reducible refine s_r ?_
  | ((with_reducible refine' s_name ?hv ?_); (case hv => first | (simp only [List.set]; rfl) | (simp only [wipeD, List.set]; rfl)))
  | with_reducible refine s_b ?_ | with_reducible refine s_u ?_ | with_reducible refine s_t ?_ | with_reducible refine s_isB ?_ | with_reducible refine s_cons ?_ | with_reducible refine s_nil ?_
  | with_reducible refine s_p2 ?_ | with_reducible refine s_p1 ?_ | with_reducible refine s_add_i ?_ | ((with_reducible refine' s_I ?hc ?_); (case hc => first | trivial | (show (0 : Int) < _; omega) | (unfold CMul; omega) | (unfold CPow; decide) | (unfold CDiv; omega))) | with_reducible refine s_1I ?_
  | with_reducible refine s_eq_i ?_ | with_reducible refine s_eq_s ?_ | with_reducible refine s_eq_b ?_ | with_reducible refine s_ne_i ?_ | with_reducible refine s_ne_s ?_ | with_reducible refine s_ne_b ?_ | with_reducible refine s_isN ?_ | with_reducible refine s_notN ?_
  | with_reducible refine s_call ?_ | with_reducible refine s_make ?_ | with_reducible refine s_fld ?_ | with_reducible refine s_prop ?_ | with_reducible refine s_meth ?_ | with_reducible refine s_ret ?_ | with_reducible refine s_retN ?_ | with_reducible refine s_drop ?_ | with_reducible refine s_ifS ?_ | with_reducible refine s_next ?_
  | with_reducible refine s_and ?_ | with_reducible refine s_or ?_ | with_reducible refine s_not ?_ | with_reducible refine s_andV ?_ | with_reducible refine s_orV ?_ | with_reducible refine s_notV ?_ | with_reducible refine s_if ?_ | with_reducible refine s_chain ?_
  | ((with_reducible refine' s_mkT ?he ?hz ?_); (case he => first | exact mkT2 | exact mkT1 | exact mkT3 | exact mkT4 | exact mkT0 | rfl); (case hz => walk_at "size")) | ((with_reducible refine' s_mkL ?he ?hz ?_); (case he => walk_at "alld"); (case hz => walk_at "size"))
  | with_reducible refine s_partI ?_ | with_reducible refine s_slT ?_ | ((with_reducible refine' s_sfldV ?kn ?_); (case kn => trivial)) | ((with_reducible refine' s_lenI ?hi ?_); (case hi => walk_at "itm")) | with_reducible refine s_lenS ?_
  | ((with_reducible refine' s_fldD ?he ?fn ?_); (case he => rfl); (case fn => assumption)) | ((with_reducible refine' s_fldR ?hx ?he ?fn ?kn ?_); (case hx => walk_at "ext"); (case he => rfl); (case fn => assumption); (case kn => trivial))
  | ((with_reducible refine' s_sfldR ?hr ?he ?fn ?hf ?_); (case hr => walk_at "rep"); (case he => walk_at "put"); (case fn => assumption); (case hf => simp)) | ((with_reducible refine' s_add_t ?hz ?_); (case hz => walk_at "size")) | ((with_reducible refine' s_add_l ?hz ?_); (case hz => walk_at "size"))
  | ((with_reducible refine' s_parK ?he ?hl ?_); (case he => first | (simp only [List.zip_cons_cons, List.zip_nil_right, List.zip_nil_left, List.foldl_cons, List.foldl_nil, List.set_cons_succ, List.set_cons_zero]; rfl) | rfl); (case hl => rfl)) | ((with_reducible refine' s_raiseK ?he ?hl ?_); (case he => walk_at "alld"); (case hl => rfl)) | ((with_reducible refine' s_gtup ?hi ?hn ?_); (case hi => first | exact its2_2 | exact its2_3 | exact its2_4 | exact its2_1 | exact .tup _ | exact .da _); (case hn => rfl)) | with_reducible refine s_gcons ?_ | with_reducible refine s_gnil ?_
  | with_reducible refine s_for ?_ | with_reducible refine s_it ?_ | with_reducible refine s_rng1 ?_ | with_reducible refine s_rng2 ?_ | with_reducible refine s_enT ?_ | with_reducible refine s_enL ?_ | with_reducible refine s_enLK ?_ | with_reducible refine s_zip ?_ | with_reducible refine s_zipL ?_ | with_reducible refine s_lc ?_ | with_reducible refine s_yes ?_
  | with_reducible refine s_faug ?_ | with_reducible refine s_int ?_ | with_reducible refine s_intB ?_ | with_reducible refine s_n1 ?_ | with_reducible refine s_n2 ?_ | with_reducible refine s_star1 ?_ | with_reducible refine s_dictZip ?_ | with_reducible refine s_items ?_ | ((with_reducible refine' s_star1K ?hi ?_); (case hi => walk_at "itm")) | ((with_reducible refine' s_augI ?he ?_); (case he => rfl)) | ((with_reducible refine' s_augV ?hc ?he ?_); (case hc => (unfold CMul; omega)); (case he => first | (simp only [List.set_cons_succ, List.set_cons_zero]; rfl) | rfl)) | ((with_reducible refine' s_aug0 ?he ?_); (case he => rfl)) | ((with_reducible refine' s_aug0V ?he ?_); (case he => first | (simp only [List.set_cons_succ, List.set_cons_zero]; rfl) | rfl)) | with_reducible refine s_tupOfT ?_
  | ((with_reducible refine' s_ix ?him ?hat ?kn ?_); (case him => walk_at "itm"); (case hat => first | exact atI_mm (by assumption) | exact atI_c0 | exact atI_c1 | exact atI_c2 | exact atI_c3 | exact atI_c4); (case kn => trivial)) | ((with_reducible refine' s_bmK ?hi ?_); (case hi => first | exact .da _ | exact .raw (by walk_at "ext"))) | ((with_reducible refine' s_bmK0 ?hi ?_); (case hi => first | exact .da _ | exact .raw (by walk_at "ext")))
  | ((with_reducible refine' s_app ?hr ?hz ?_); (case hr => walk_at "rep"); (case hz => walk_at "size")) | ((with_reducible refine' s_itK ?hw ?_); (case hw => walk_at "wk")) | with_reducible refine s_propD ?_ | ((with_reducible refine' s_propR ?hx ?_); (case hx => walk_at "ext"))
  | ((with_reducible refine' s_methD ?hn ?_); (case hn => (simp (config := { decide := true }) only [List.map, List.mem_cons, List.not_mem_nil, or_false, not_or, not_false_eq_true, and_self])))
  | ((with_reducible refine' s_methR ?hx ?hn ?_); (case hx => walk_at "ext"); (case hn => (simp (config := { decide := true }) only [List.map, List.mem_cons, List.not_mem_nil, or_false, not_or, not_false_eq_true, and_self])))
  | ((with_reducible refine' s_enTK ?hi ?_); (case hi => first | exact .da _ | exact .btup _ | exact .tup _)) | ((with_reducible refine' s_zipT ?hi ?hj ?_); (case hi => first | exact .da _ | exact .btup _ | exact .tup _); (case hj => first | exact .da _ | exact .btup _ | exact .tup _))
  | ((with_reducible refine' s_tupOfL ?hs ?_); (case hs => walk_at "see")) | ((with_reducible refine' s_tupNew ?hs ?_); (case hs => walk_at "see")) | ((with_reducible refine' s_slL ?hs ?_); (case hs => walk_at "see"))
  | ((with_reducible refine' s_notIn_bt ?h1 ?h2 ?_); (case h1 => walk_at "pl"); (case h2 => walk_at "pl")) | ((with_reducible refine' s_in_bt ?h1 ?h2 ?_); (case h1 => walk_at "pl"); (case h2 => walk_at "pl")) | ((with_reducible refine' s_notIn_t ?h1 ?h2 ?_); (case h1 => walk_at "pl"); (case h2 => walk_at "pl")) | ((with_reducible refine' s_in_t ?h1 ?h2 ?_); (case h1 => walk_at "pl"); (case h2 => walk_at "pl")) | ((with_reducible refine' s_notIn_l ?h1 ?h2 ?_); (case h1 => walk_at "pl"); (case h2 => walk_at "pl")) | ((with_reducible refine' s_in_l ?h1 ?h2 ?_); (case h1 => walk_at "pl"); (case h2 => walk_at "pl"))
  | ((with_reducible refine' s_nilEq ?hi ?_); (case hi => first | exact .lst _ | exact .raw (by walk_at "ext"))) | ((with_reducible refine' s_popE ?hr ?_); (case hr => walk_at "rep"))
  | with_reducible refine s_setL ?_ | with_reducible refine s_setL1 ?_ | with_reducible refine s_setL2 ?_ | ((with_reducible refine' s_addR ?h1 ?h2 ?hz ?_); (case h1 => walk_at "see"); (case h2 => walk_at "see"); (case hz => walk_at "size")) | with_reducible refine s_m1 ?_ | with_reducible refine s_m1K ?_ | with_reducible refine s_m1Q ?_ | with_reducible refine s_lcR ?_ | with_reducible refine s_tupIx ?_ | with_reducible refine s_lenOD ?_ | ((with_reducible refine' s_lenOR ?hx ?_); (case hx => walk_at "ext")) | with_reducible refine s_raise0 ?_ | with_reducible refine s_raise ?_ | with_reducible refine s_tup ?_ | with_reducible refine s_lst ?_ | with_reducible refine s_lstR ?_ | with_reducible refine s_cb ?_ | with_reducible refine s_sl ?_ | with_reducible refine s_noP ?_ | with_reducible refine s_part ?_ | with_reducible refine s_bm ?_ | with_reducible refine s_bm0 ?_ | with_reducible refine s_sfld ?_ | with_reducible refine s_par ?_)
local macro_rules | `(tactic| walk_at "side") => `(tactic| first | assumption | omega | trivial | (decide; done))
local macro_rules | `(tactic| walk_at "wit") => `(tactic| ((repeat apply Exists.intro); (refine' And.intro (rfl : @Eq (List Sl) _ _) ?_); (first | (refine' And.intro (rfl : @Eq (List (Rs _)) _ _) ?_) | (fail_if_success (refine' And.intro (?_ : @Eq (List (Rs _)) _ _) ?_))); (repeat refine' And.intro (by walk_at "side") ?_)))
local macro_rules | `(tactic| walk_at "ask") => `(tactic| first | ((with_reducible refine' s_ask0 ?kk); (case' kk => walk_at "wit")) | ((with_reducible refine' s_ask ?gg ?kk); (case' kk => walk_at "wit"); (case' gg => walk_at "gets")))
local macro_rules | `(tactic| walk_at "d") => `(tactic| repeat walk_at "d1")
local macro_rules | `(tactic| walk_at "in") => `(tactic| simp only [startD, List.length_cons, List.length_nil, Nat.zero_add, Nat.reduceAdd, Nat.reduceSub, List.replicate_succ, List.replicate_zero, List.cons_append, List.nil_append])
local macro_rules | `(tactic| walk_at "yes") => `(tactic| refine if_T (by first | rfl | exact decide_eq_true (by first | assumption | omega) | assumption) ?_)
local macro_rules | `(tactic| walk_at "no") => `(tactic| refine if_F (by first | rfl | exact decide_eq_false (by first | assumption | omega) | assumption) ?_)
local macro_rules | `(tactic| walk_at "nyes") => `(tactic| refine if_T (by first | rfl | (rw [decide_eq_false (by first | assumption | omega)]; rfl)) ?_)
local macro_rules | `(tactic| walk_at "nno") => `(tactic| refine if_F (by first | rfl | (rw [decide_eq_true (by first | assumption | omega)]; rfl)) ?_)
local macro_rules | `(tactic| walk_at "dec") => `(tactic| first | rfl | assumption | (simp (config := { failIfUnchanged := false }) only [*, decide_true, decide_false, decide_eq_true_eq, decide_eq_false_iff_not, Bool.not_true, Bool.not_false, Bool.and_true, Bool.and_false, Bool.true_and, Bool.false_and, Bool.or_true, Bool.or_false, Bool.true_or, Bool.false_or, not_false_eq_true, Bool.not_eq_true']; done))
local macro_rules | `(tactic| walk_at "di") => `(tactic| repeat first | walk_at "d1" | ((with_reducible refine' if_T ?hc ?_); (case hc => walk_at "dec")) | ((with_reducible refine' if_F ?hc ?_); (case hc => walk_at "dec")))
local macro_rules | `(tactic| walk_at "wipe") => `(tactic| simp only [List.map_cons, List.map_nil, wipeD, List.set_cons_zero, List.set_cons_succ])
local macro_rules | `(tactic| walk_at "d2") => `(tactic| first
  | ((with_reducible refine' s_gunl ?hi ?hn ?_); (case hi => first | exact nl5 | exact nl4 | exact nl3 | exact nl2 | exact .lst _ | exact .raw (by walk_at "ext")); (case hn => rfl)) | with_reducible refine s_gv ?_ | with_reducible refine s_meth0 ?_
  | ((with_reducible refine' s_meth0D ?hn ?_); (case hn => (simp (config := { decide := true }) only [List.map, List.mem_cons, List.not_mem_nil, or_false, not_or, not_false_eq_true, and_self])))
  | ((with_reducible refine' s_meth0R ?hx ?hn ?_); (case hx => walk_at "ext"); (case hn => (simp (config := { decide := true }) only [List.map, List.mem_cons, List.not_mem_nil, or_false, not_or, not_false_eq_true, and_self]))))
local macro_rules | `(tactic| walk_at "d") => `(tactic| repeat first | walk_at "d1" | walk_at "d2")
local macro_rules | `(tactic| walk_at "wit1") => `(tactic| ((repeat apply Exists.intro); (refine' And.intro (rfl : @Eq (List Sl) _ _) ?_); (first | (refine' And.intro (rfl : @Eq (List (Rs _)) _ _) ?_) | (fail_if_success (refine' And.intro (?_ : @Eq (List (Rs _)) _ _) ?_)))))
local macro_rules | `(tactic| walk_at "sides") => `(tactic| (repeat refine' And.intro (by walk_at "side") ?_))
local macro_rules | `(tactic| walk_at "ask") => `(tactic| first | ((with_reducible refine' s_ask0 ?kk); (case' kk => walk_at "wit")) | ((with_reducible refine' s_ask ?gg ?kk); (case' kk => walk_at "wit1"); (case' gg => walk_at "gets"); walk_at "sides"))
local macro_rules | `(tactic| walk_at "y1") => `(tactic| first
  | with_reducible refine y_seq ?_ | with_reducible refine y_pl ?_ | with_reducible refine y_next ?_ | with_reducible refine y_yld ?_ | with_reducible refine y_yldK ?_ | with_reducible refine y_if ?_ | with_reducible refine y_for ?_ | with_reducible refine y_forG ?_ | with_reducible refine s_gn ?_ | with_reducible refine s_diG ?_ | with_reducible refine s_diEnG ?_ | with_reducible refine s_listG ?_)
local macro_rules | `(tactic| walk_at "y") => `(tactic| repeat first | walk_at "d1" | walk_at "d2" | walk_at "y1")
local macro_rules | `(tactic| walk_at "seeT") => `(tactic| first | exact .raw (by walk_at "ext") | exact .da _)
local macro_rules | `(tactic| walk_at "d2") => `(tactic| first
  | with_reducible refine s_star ?_ | ((with_reducible refine' s_starK ?im ?_); (case im => walk_at "itm")) | with_reducible refine s_appK ?_ | with_reducible refine s_dget ?_ | with_reducible refine s_din ?_ | with_reducible refine s_dget1 ?_ | with_reducible refine s_dget2 ?_ | with_reducible refine s_dput ?_ | with_reducible refine s_valsT ?_ | with_reducible refine s_diDT ?_ | with_reducible refine s_makeK ?_ | with_reducible refine s_makeSK ?_ | with_reducible refine s_kwK ?_ | with_reducible refine s_lenSet ?_
  | ((with_reducible refine' s_dget1L ?se ?_); (case se => walk_at "seeT")) | ((with_reducible refine' s_dget2L ?se ?_); (case se => walk_at "seeT")))
local macro_rules | `(tactic| walk_at "d4") => `(tactic| first
  | with_reducible refine s_head ?_ | with_reducible refine s_gsub ?_ | with_reducible refine s_gsub1 ?_ | with_reducible refine s_isC ?_ | with_reducible refine s_isCK ?_ | with_reducible refine s_fmt ?_ | with_reducible refine s_fs ?_ | with_reducible refine s_jsC ?_ | with_reducible refine s_jsN ?_ | with_reducible refine s_ownEqK ?_ | with_reducible refine s_ownIx ?_ | with_reducible refine s_ownIx1 ?_ | with_reducible refine s_ownIx2 ?_)
local macro_rules | `(tactic| walk_at "y") => `(tactic| repeat first | walk_at "d1" | walk_at "d2" | walk_at "y1" | walk_at "d4")
local macro_rules | `(tactic| walk_at "d5") => `(tactic| first
  | with_reducible refine s_opX ?_ | with_reducible refine s_opX1 ?_ | with_reducible refine s_opXI ?_ | with_reducible refine s_opXT ?_ | with_reducible refine s_opXO ?_ | with_reducible refine s_callI ?_ | with_reducible refine s_callI1 ?_ | with_reducible refine s_callI2 ?_ | with_reducible refine s_lcG ?_)
local macro_rules | `(tactic| walk_at "y") => `(tactic| repeat first | walk_at "d1" | walk_at "d2" | walk_at "y1" | walk_at "d4" | walk_at "d5")
local macro_rules | `(tactic| walk_at "d7") => `(tactic| first | with_reducible refine s_pget ?_ | with_reducible refine s_pgetK ?_ | with_reducible refine s_pin ?_ | with_reducible refine s_pinK ?_ | with_reducible refine s_pput ?_ | with_reducible refine s_pputK ?_ | with_reducible refine s_pputL ?_)
local macro_rules | `(tactic| walk_at "y") => `(tactic| repeat first | walk_at "d1" | walk_at "d2" | walk_at "y1" | walk_at "d4" | walk_at "d5" | walk_at "d6" | walk_at "d7")
section
variable {P : Program} {w : World} {K : PySem.W.Frag}
variable {mg : Str → Option Value} {base : Heap}
/-! ### the law's helpers -/
def chains7 : List (List Int) := [[1, 2, 4, 8], [2, 6, 12, 24], [3, 6, 30, 30], [2, 2, 4, 20], [2, 3, 4, 6]]
theorem chains7_ok : ∀ c ∈ chains7, ∀ x ∈ c, 1 ≤ x ∧ x ≤ 30 := by decide +kernel
theorem chains7_four : ∀ c ∈ chains7, c.length = 4 := by decide +kernel
structure LimOk (ls : List Int) : Prop where
  one : 1 ≤ ls.length
  six : ls.length ≤ 6
  lo : ∀ l ∈ ls, 1 ≤ l ∧ l ≤ 30
  pr : prodL ls ≤ 4000
def D_law_limits (M : Md K mg) : SpD K := fun as rs xc q => ∃ d, as = [.raw (.ref d)] ∧ rs = [srcR d] ∧ ∀ ls, LimOk ls → q (.da (.lst (ls.map .int))) [srcR d]
theorem ok_law_limits (M : Md K mg) (G : Gd K mg "_law_limits" s_law_limits) (R_law_drawn : DefR P w K mg base "_law_drawn" 2 (spD (D_law_drawn M))) : DefR P w K mg base "_law_limits" 4 (spD (D_law_limits M)) := by
  refine def_mk G fun f fd F => fnr_mk (dfn_ok (k := 3) F sc_law_limits (by intro as rs xc q; walk_at "ar") (fun cdv A outer s H E hr => by
    have nd := sc_law_limits.nd
    exact (dss_cons (ds_set (i := 1) nd rfl (by first | exact Or.inl rfl | exact Or.inr rfl) (d_ix (d_lst (da_cons (d_lst (da_cons (d_int pe_int) (da_cons (d_int pe_int) (da_cons (d_int pe_int) (da_cons (d_int pe_int) da_nil))))) (da_cons (d_lst (da_cons (d_int pe_int) (da_cons (d_int pe_int) (da_cons (d_int pe_int) (da_cons (d_int pe_int) da_nil))))) (da_cons (d_lst (da_cons (d_int pe_int) (da_cons (d_int pe_int) (da_cons (d_int pe_int) (da_cons (d_int pe_int) da_nil))))) (da_cons (d_lst (da_cons (d_int pe_int) (da_cons (d_int pe_int) (da_cons (d_int pe_int) (da_cons (d_int pe_int) da_nil))))) (da_cons (d_lst (da_cons (d_int pe_int) (da_cons (d_int pe_int) (da_cons (d_int pe_int) (da_cons (d_int pe_int) da_nil))))) da_nil)))))) (d_call (pe_callR R_law_drawn (hr.mono (by first | decide | omega)) pz_def (da_cons (d_var (i := 0) (pv 0)) (da_cons (d_int pe_int) da_nil))))))
    (dss_cons (ds_par (ps_par (i := 2) (j := 3) rfl nd rfl rfl (by decide) rfl rfl (da_cons (d_lstR da_nil) (da_cons (d_int pe_int) da_nil)) (by rfl)))
    (dss_cons (ds_for po_def rfl (di_rng1 (pi_range1 rfl M.b.range (da_cons (d_op (op_addK K) (pu2 pu_add) (d_int pe_int) (d_call (pe_callR R_law_drawn (hr.mono (by first | decide | omega)) pz_def (da_cons (d_var (i := 0) (pv 0)) (da_cons (d_int pe_int) da_nil))))) da_nil))) (pg_name (i := 4) nd rfl (by first | exact Or.inl rfl | exact Or.inr rfl)) (tg_name 4) (dss_cons (ds_set (i := 5) nd rfl (by first | exact Or.inl rfl | exact Or.inr rfl) (d_ix (d_var (i := 1) (pv 1)) (d_call (pe_callR R_law_drawn (hr.mono (by first | decide | omega)) pz_def (da_cons (d_var (i := 0) (pv 0)) (da_cons (d_int pe_int) da_nil))))))
    (dss_one (ds_if (dt_cmp op_le (pu2 (pu_I0 fun _ _ _ _ => .bl _)) (d_op op_mul (pu2 (pu_I fun _ _ _ _ => .int _)) (d_var (i := 3) (pv 3)) (d_var (i := 5) (pv 5))) (d_int pe_int)) (dss_cons (ds_expr (d_bm (as_bm K (pe_bm PySem.F.plainAttrs_list PySem.F.slot_list_append PySem.F.type_list_append mt_append (d_var (i := 2) (pv 2)) (da_cons (d_var (i := 5) (pv 5)) da_nil))) act_app))
    (dss_one (ds_set (i := 3) nd rfl (by first | exact Or.inl rfl | exact Or.inr rfl) (d_op op_mul (pu2 (pu_I fun _ _ _ _ => .int _)) (d_var (i := 3) (pv 3)) (d_var (i := 5) (pv 5)))))) dss_nil))))
    (dss_one (ds_ret (d_if (dt_cmp (op_neNilK K hr) act_nil (d_var (i := 2) (pv 2)) (d_lst da_nil)) (d_var (i := 2) (pv 2)) (d_lst (da_cons (d_int pe_int) da_nil))))))))) ?_) (F.bindsN (fun _ _ _ _ _ _ us hl => match us, hl with | [_], _ => rfl))
  rintro as rs xc q ⟨d, rfl, rfl, k⟩
  walk_at "in"
  walk_at "y"
  refine' s_ask ?g1 (D := D_law_drawn M) ⟨d, 5, rfl, rfl, by decide, by decide, fun r r0 r1 => ?_⟩
  case g1 => walk_at "gets"
  obtain ⟨ch, hch⟩ : ∃ c, chains7[r.toNat]? = some c := ⟨_, List.getElem?_eq_getElem (show r.toNat < 5 by omega)⟩
  have cm := List.mem_of_getElem? hch
  have c4 : ch.length = 4 := chains7_four ch cm
  have clo := chains7_ok ch cm
  walk_at "y"
  refine s_ix (w := .da (.lst (ch.map .int))) (.lst _) (by
    have h : (chains7.map fun c => Sl.da (.lst (c.map .int)))[r.toNat]? = some (.da (.lst (ch.map .int))) := by rw [List.getElem?_map, hch]; rfl
    exact atI_i r0 h) trivial ?_
  walk_at "y"
  refine s_mkR (by walk_at "size") fun L => ?_
  walk_at "y"
  refine' s_ask ?g2 (D := D_law_drawn M) ⟨d, 6, rfl, rfl, by decide, by decide, fun m m0 m1 => ?_⟩
  case g2 => walk_at "gets"
  walk_at "y"
  refine s_rng1K (by omega) ?_
  refine s_forK (fun i sl rs => ∃ (ls : List Int) (u4 u5 : Sl), sl = [.raw (.ref d), .da (.lst (ch.map .int)), .raw (.ref L), .da (.int (prodL ls)), u4, u5] ∧ rs = [lstR L ((ls.map .int).map .da), srcR d] ∧ ls.length ≤ i ∧ (∀ l ∈ ls, 1 ≤ l ∧ l ≤ 30) ∧ 1 ≤ prodL ls ∧ prodL ls ≤ 4000) ?_ ?_ ?_ ?_
  · exact gs_gets (rc := [lstR L [], srcR d]) (by walk_at "gets") ⟨[], _, _, rfl, rfl, Nat.le_refl _, fun _ h => (nomatch h), by decide, by decide⟩
  · exact fun _ _ _ _ => trivial
  · rintro i y sl rs hy ⟨ls, u4, u5, rfl, rfl, len, lo, p1, p4⟩
    obtain ⟨lt, rfl⟩ := rngS_get hy
    have i6 : i < 6 := by omega
    walk_at "y"
    refine' s_ask ?g3 (D := D_law_drawn M) ⟨d, 4, rfl, rfl, by decide, by decide, fun j j0 j1 => ?_⟩
    case g3 => walk_at "gets"
    obtain ⟨l, hl⟩ : ∃ l, ch[j.toNat]? = some l := ⟨_, List.getElem?_eq_getElem (by omega)⟩
    have ll := clo l (List.mem_of_getElem? hl)
    walk_at "y"
    refine s_ix (w := .da (.int l)) (.lst _) (atI_i j0 (by rw [List.getElem?_map, List.getElem?_map, hl]; rfl)) trivial ?_
    have pl : 1 ≤ prodL ls * l := by
      have := Int.mul_le_mul p1 ll.1 (by decide) (by omega)
      omega
    walk_at "y"
    refine if_D (fun hp => ?_) (fun hp => ?_)
    · walk_at "y"
      have ep : prodL (ls ++ [l]) = prodL ls * l := prodL_snoc ..
      exact gs_gets (rc := [lstR L (((ls ++ [l]).map .int).map .da), srcR d]) (by simp only [List.map_append, List.map_cons, List.map_nil]; walk_at "gets") ⟨ls ++ [l], _, _, by rw [ep], rfl, by rw [List.length_append]; exact Nat.add_le_add len (Nat.le_refl _), fun x hx => (List.mem_append.mp hx).elim (lo x) fun h => by rw [List.mem_singleton.mp h]; exact ll, by rw [ep]; exact pl, by rw [ep]; exact hp⟩
    · walk_at "y"
      exact gs_gets (rc := [lstR L ((ls.map .int).map .da), srcR d]) (by walk_at "gets") ⟨ls, _, _, rfl, rfl, by omega, lo, p1, p4⟩
  · rintro sl rs ⟨ls, u4, u5, rfl, rfl, len, lo, p1, p4⟩
    rw [rngS_len] at len
    refine gs_id ?_
    walk_at "y"
    cases ls with
    | nil =>
      refine if_F rfl ?_
      walk_at "y"
      exact gv_gets (by walk_at "gets") (k [2] ⟨by decide, by decide, by decide, by decide⟩)
    | cons l ls =>
      refine if_T rfl ?_
      walk_at "y"
      refine gv_via (GhV.frz (fr_lst (xs := (l :: ls).map .int)) .here) ?_
      exact gv_gets (by walk_at "gets") (k (l :: ls) ⟨by simp, by omega, lo, p4⟩)

end
section
variable {P : Program} {w : World} {K : PySem.W.Frag}
variable {mg : Str → Option Value} {base : Heap}
/-! ### the law's helpers -/
def D_law_sorted_divides (M : Md K mg) : SpD K := fun as rs xc q => ∃ ls : List Int, as = [.da (.lst (ls.map .int))] ∧ rs = [] ∧ ls.length ≤ 6 ∧ (∀ l ∈ ls, 1 ≤ l) ∧ q (.da (.bl (harmB ls))) []
theorem ok_law_sorted_divides (M : Md K mg) (G : Gd K mg "_law_sorted_divides" s_law_sorted_divides)  : DefR P w K mg base "_law_sorted_divides" 2 (spD (D_law_sorted_divides M)) := by
  refine def_mk G fun f fd F => fnr_mk (dfn_ok (k := 1) F sc_law_sorted_divides (by intro as rs xc q; walk_at "ar") (fun cdv A outer s H E hr => by
    have nd := sc_law_sorted_divides.nd
    exact (dss_cons (ds_set (i := 1) nd rfl (by first | exact Or.inl rfl | exact Or.inr rfl) (d_cb1 (pe_sortI K M.b (d_var (i := 0) (pv 0))) act_sortI))
    (dss_one (ds_ret (d_cmp (op_eqNilK K hr) act_nil (d_lc (E' := E0) (E2 := E0) (pe_lc (own := [("_law_k", 2)]) (g := (gName 2)) rfl nd (di_rng2 (pi_range2 rfl M.b.range (da_cons (d_int pe_int) (da_cons (d_cb1 (pe_len K M.b (d_var (i := 1) (pv 1))) act_len) da_nil)))) (blkOk_by (N := N_law_sorted_divides) (sc := defScope s_law_sorted_divides) (by decide +kernel)) (fun _ _ _ _ _ => (pg_name (i := 2) nd rfl (by first | exact Or.inl rfl | exact Or.inr rfl))) (fun _ _ _ _ _ => (dts_one (dt_cmp (op_neK K hr) (pu2 pu_ne) (d_op op_mod (pu2 (pu_I fun _ _ _ _ => .int _)) (d_ix (d_var (i := 1) (pv 1)) (d_var (i := 2) (pv 2))) (d_ix (d_var (i := 1) (pv 1)) (d_op op_sub (pu2 (pu_I0 fun _ _ _ _ => .int _)) (d_var (i := 2) (pv 2)) (d_int pe_int)))) (d_int pe_int)))) (fun _ _ _ _ _ => (d_var (i := 2) (pv 2)))) (tg_name 2) (by decide)) (d_lst da_nil)))))) ?_) (F.bindsN (fun _ _ _ _ _ _ us hl => match us, hl with | [_], _ => rfl))
  rintro as rs xc q ⟨ls, rfl, rfl, six, lo, k⟩
  walk_at "in"
  walk_at "y"
  refine s_sortI (.da _) ?_
  have few : (srtI ls).length ≤ 6 := by rw [(srtI_perm _).length_eq]; exact six
  have pos : ∀ x ∈ srtI ls, 1 ≤ x := fun x hx => lo x ((srtI_perm _).mem_iff.mp hx)
  have hb : harmB ls = ((srtI ls).zip ((srtI ls).drop 1)).all fun p => decide (p.2 % p.1 = 0) := rfl
  generalize srtI ls = L at *
  walk_at "y"
  rw [show ((L.map Da.int).map Sl.da).length = L.length by simp]
  refine s_rng2K (by omega) ?_
  rw [show ((L.length : Int) - 1).toNat = L.length - 1 by omega]
  refine s_lcP (List.range (L.length - 1)) (fun j => .da (.int (1 + ((j : Nat) : Int)))) (fun j => decide (L.getD (j + 1) 0 % L.getD j 0 ≠ 0)) (fun j => .int (1 + ((j : Nat) : Int))) (by unfold rngS; rfl) (by rw [List.length_range]; omega) trivial (fun i j T N hj hT hN => ?_) ?_
  · have jl := List.mem_range.mp (List.mem_of_getElem? hj)
    obtain ⟨x, hx⟩ : ∃ x, L[j]? = some x := ⟨_, List.getElem?_eq_getElem (by omega)⟩
    obtain ⟨z, hz⟩ : ∃ z, L[j + 1]? = some z := ⟨_, List.getElem?_eq_getElem (by omega)⟩
    have xp := pos x (List.mem_of_getElem? hx)
    rw [List.getD_eq_getElem?_getD, List.getD_eq_getElem?_getD, hx, hz] at hT hN
    dsimp only [Option.getD_some] at hT hN
    rw [show (1 : Int) + ((j : Nat) : Int) = ((j + 1 : Nat) : Int) by omega] at hT ⊢
    walk_at "wipe"
    walk_at "y"
    rw [show ((j + 1 : Nat) : Int) - 1 = ((j : Nat) : Int) by omega]
    refine s_ix (w := .da (.int x)) (.lst _) (atI_mm hx) trivial ?_
    walk_at "y"
    by_cases q : z % x = 0
    · refine if_F (by simp [q]) ?_
      exact hN (by simp [q])
    · refine if_T (by simp [q]) ?_
      walk_at "y"
      exact hT (by simp [q])
  walk_at "y"
  have e : ((((List.range (L.length - 1)).filter fun j => decide (L.getD (j + 1) 0 % L.getD j 0 ≠ 0)).map fun j => Da.int (1 + ((j : Nat) : Int))).map Sl.da).isEmpty = ((L.zip (L.drop 1)).all fun p => decide (p.2 % p.1 = 0)) := by
    rw [List.isEmpty_map, List.isEmpty_map, Bool.eq_iff_iff, List.isEmpty_iff, List.filter_eq_nil_iff, List.all_eq_true]
    constructor
    · intro h p hp
      obtain ⟨i, hi⟩ := List.getElem?_of_mem hp
      obtain ⟨h1, h2⟩ := List.getElem?_zip_eq_some.mp hi
      rw [List.getElem?_drop, Nat.add_comm] at h2
      have lt := (List.getElem?_eq_some_iff.mp h2).1
      have := h i (List.mem_range.mpr (by omega))
      rw [List.getD_eq_getElem?_getD, List.getD_eq_getElem?_getD, h1, h2] at this
      simpa using this
    · intro h j hj
      have jl := List.mem_range.mp hj
      obtain ⟨x, hx⟩ : ∃ x, L[j]? = some x := ⟨_, List.getElem?_eq_getElem (by omega)⟩
      obtain ⟨z, hz⟩ : ∃ z, L[j + 1]? = some z := ⟨_, List.getElem?_eq_getElem (by omega)⟩
      have m : (x, z) ∈ L.zip (L.drop 1) := List.mem_of_getElem? (i := j) (List.getElem?_zip_eq_some.mpr ⟨hx, by rw [List.getElem?_drop, Nat.add_comm]; exact hz⟩)
      have := h _ m
      rw [List.getD_eq_getElem?_getD, List.getD_eq_getElem?_getD, hx, hz]
      simpa using this
  rw [hb, ← e] at k
  exact gv_id k

end
section
variable {P : Program} {w : World} {K : PySem.W.Frag}
variable {mg : Str → Option Value} {base : Heap}
/-! ### the law's helpers -/
theorem pw_any {α : Type} {R : α → α → Prop} (sy : ∀ {a b}, R a b → R b a) : ∀ {l : List α}, l.Pairwise R → ∀ {a b : α}, a ∈ l → b ∈ l → a ≠ b → R a b
  | [], _, _, _, h, _, _ => nomatch h
  | x :: l, pw, a, b, ha, hb, ne => by
    obtain ⟨h1, h2⟩ := List.pairwise_cons.mp pw
    obtain ea | la := List.mem_cons.mp ha <;> obtain eb | lb := List.mem_cons.mp hb
    · exact absurd (ea.trans eb.symm) ne
    · rw [ea]; exact h1 b lb
    · rw [eb]; exact sy (h1 a la)
    · exact pw_any sy h2 la lb ne
def D_law_rule_is_good (M : Md K mg) : SpD K := fun as rs xc q => ∃ fs n E, as = [.da (ruleD M.a_Rule M.a_Farm fs E), .da (.lst ((fs.map (·.1)).map .str)), .da (.lst ((fs.map (·.2)).map .int)), .da (.int ((n : Nat) : Int))] ∧ rs = [] ∧ FOk fs ∧ RuleOk fs n E ∧ ("none" : Str) ∉ fs.map (·.1) ∧ q (.da (.bl true)) []
theorem ok_law_rule_is_good (M : Md K mg) (G : Gd K mg "_law_rule_is_good" s_law_rule_is_good) (M_Rule___getitem__ : MethR P w K mg base M.a_Rule "__getitem__" 4 (spD (D_Rule___getitem__ M))) (FI_Rule___getitem__ : ∀ f, Meth K M.a_Rule "__getitem__" f → PySem.W.fnIn K f = true) : DefR P w K mg base "_law_rule_is_good" 6 (spD (D_law_rule_is_good M)) := by
  refine def_mk G fun f fd F => fnr_mk (dfn_ok (k := 5) F sc_law_rule_is_good (by intro as rs xc q; walk_at "ar") (fun cdv A outer s H E hr => by
    have nd := sc_law_rule_is_good.nd
    exact (dss_cons (ds_setLc (E' := E0) (E2 := E0) (ps_setLc (i := 4) (own := [("_law_name", 5)]) (g := (gName 5)) rfl nd rfl rfl (sw_true rfl rfl rfl (by decide +kernel)) (di_seq (d_var (i := 1) (pv 1))) (blkOk_by (N := N_law_rule_is_good) (sc := defScope s_law_rule_is_good) (by decide +kernel)) (fun _ _ _ _ _ => (pg_name (i := 5) nd rfl (by first | exact Or.inl rfl | exact Or.inr rfl))) (fun _ _ _ _ _ => dts_nil) (fun _ _ _ _ _ => (d_ownIx M_Rule___getitem__ FI_Rule___getitem__ (hr.mono (by first | decide | omega)) (d_var (i := 0) (pv 0)) (d_var (i := 5) (pv 5))))) (tg_name 5) (by decide))
    (dss_cons (ds_for po_def rfl (di_rng1 (pi_range1 rfl M.b.range (da_cons (d_cb1 (pe_len K M.b (d_var (i := 1) (pv 1))) act_len) da_nil))) (pg_name (i := 6) nd rfl (by first | exact Or.inl rfl | exact Or.inr rfl)) (tg_name 6) (dss_cons (ds_asg (d_ix (d_var (i := 4) (pv 4)) (d_var (i := 6) (pv 6))) (pg_tupK K (n := 2) rfl (pgs_cons (pg_name (i := 7) nd rfl (by first | exact Or.inl rfl | exact Or.inr rfl)) (pgs_cons (pg_name (i := 8) nd rfl (by first | exact Or.inl rfl | exact Or.inr rfl)) pgs_nil))) (tg_tup (tgs_cons (tg_name 7) (tgs_cons (tg_name 8) tgs_nil))))
    (dss_cons (ds_if (PW.pt (dw_or (dt_not (dt_chain op_le (pu2 (pu_I0 fun _ _ _ _ => .bl _)) op_lt (pu2 (pu_I0 fun _ _ _ _ => .bl _)) (d_int pe_int) (d_var (i := 7) (pv 7)) (d_var (i := 3) (pv 3)))) (dw_or1 (dt_not (dt_chain op_le (pu2 (pu_I0 fun _ _ _ _ => .bl _)) op_lt (pu2 (pu_I0 fun _ _ _ _ => .bl _)) (d_int pe_int) (d_var (i := 8) (pv 8)) (d_ix (d_var (i := 2) (pv 2)) (d_var (i := 6) (pv 6)))))))) (dss_one (ds_ret (d_bl pe_bl))) dss_nil)
    (dss_one (ds_for po_def rfl (di_rng1 (pi_range1 rfl M.b.range (da_cons (d_var (i := 6) (pv 6)) da_nil))) (pg_name (i := 9) nd rfl (by first | exact Or.inl rfl | exact Or.inr rfl)) (tg_name 9) (dss_cons (ds_set (i := 10) nd rfl (by first | exact Or.inl rfl | exact Or.inr rfl) (d_cb (pe_min2 M.b (da_cons (d_ix (d_var (i := 2) (pv 2)) (d_var (i := 6) (pv 6))) (da_cons (d_ix (d_var (i := 2) (pv 2)) (d_var (i := 9) (pv 9))) da_nil))) act_min2))
    (dss_one (ds_if (PW.pt (dw_and (dt_cmp (op_eqK K hr) (pu2 pu_eq) (d_ix (d_ix (d_var (i := 4) (pv 4)) (d_var (i := 9) (pv 9))) (d_int pe_int)) (d_var (i := 7) (pv 7))) (dw_and1 (dt_cmp (op_eqK K hr) (pu2 pu_eq) (d_op op_mod (pu2 (pu_I fun _ _ _ _ => .int _)) (d_op op_sub (pu2 (pu_I0 fun _ _ _ _ => .int _)) (d_ix (d_ix (d_var (i := 4) (pv 4)) (d_var (i := 9) (pv 9))) (d_int pe_int)) (d_var (i := 8) (pv 8))) (d_var (i := 10) (pv 10))) (d_int pe_int))))) (dss_one (ds_ret (d_bl pe_bl))) dss_nil))))))))
    (dss_one (ds_ret (d_cmp op_isN1 act_isN (d_ownIx M_Rule___getitem__ FI_Rule___getitem__ (hr.mono (by first | decide | omega)) (d_var (i := 0) (pv 0)) (d_str pe_str)) (d_non pe_non))))))) ?_) (F.bindsN (fun _ _ _ _ _ _ us hl => match us, hl with | [_, _, _, _], _ => rfl))
  rintro as rs xc q ⟨fs, n, E, rfl, rfl, ok, re, no, k⟩
  have six := ok.six
  walk_at "in"
  have lo : ∀ f ∈ fs, 1 ≤ f.2 := fun f hf => (ok.lo f hf).1
  have at_ : ∀ f ∈ fs, ∃ p, clsA E f.1 = some p ∧ (f.1, p) ∈ E ∧ p.1 < n ∧ ((p.2 : Nat) : Int) < f.2 := fun f hf => re.at_ ok.nd hf (lo f hf)
  walk_at "y"
  refine s_lcM fs (fun f => .da (.str f.1)) (fun f => optC (clsA E f.1)) (by rw [List.map_map, List.map_map]; rfl) (by omega) trivial (fun i f T hf ht => ?_) ?_
  · walk_at "wipe"
    walk_at "y"
    exact s_ask0 (D := D_Rule___getitem__ M) ⟨fs, E, f.1, rfl, ht⟩
  walk_at "y"
  rw [show ((((fs.map fun f => f.1).map Da.str).map Sl.da).length : Int) = (fs.length : Nat) by simp]
  refine s_rng1K (by omega) ?_
  refine s_forK (fun i sl rs => ∃ (u5 u6 u7 u8 u9 u10 : Sl), sl = [.da (ruleD M.a_Rule M.a_Farm fs E), .da (.lst ((fs.map (·.1)).map .str)), .da (.lst ((fs.map (·.2)).map .int)), .da (.int ((n : Nat) : Int)), .da (.lst (fs.map fun f => optC (clsA E f.1))), u5, u6, u7, u8, u9, u10] ∧ rs = []) ?_ ?_ ?_ ?_
  · exact gs_id ⟨_, _, _, _, _, _, rfl, rfl⟩
  · exact fun _ _ _ _ => trivial
  · rintro i y sl rs hy ⟨u5, u6, u7, u8, u9, u10, rfl, rfl⟩
    obtain ⟨lt, rfl⟩ := rngS_get hy
    rw [Int.toNat_natCast] at lt
    rw [Int.zero_add]
    obtain ⟨f, hf⟩ : ∃ f, fs[i]? = some f := ⟨_, List.getElem?_eq_getElem lt⟩
    have fm := List.mem_of_getElem? hf
    obtain ⟨p, hp, pE, pn, pl⟩ := at_ f fm
    walk_at "y"
    have hl : (fs.map (·.2))[i]? = some f.2 := by rw [List.getElem?_map, hf]; rfl
    rw [show optC (clsA E f.1) = pairC p by rw [hp]; rfl]
    walk_at "y"
    refine if_T (decide_eq_true (by omega)) ?_
    walk_at "y"
    refine if_F (by rw [decide_eq_true (by omega)]; rfl) ?_
    walk_at "y"
    refine if_T (decide_eq_true (by omega)) ?_
    walk_at "y"
    refine if_F (by rw [decide_eq_true pl]; rfl) ?_
    walk_at "y"
    refine s_rng1K (by omega) ?_
    refine s_forK (fun j sl rs => ∃ (u5 u9 u10 : Sl), sl = [.da (ruleD M.a_Rule M.a_Farm fs E), .da (.lst ((fs.map (·.1)).map .str)), .da (.lst ((fs.map (·.2)).map .int)), .da (.int ((n : Nat) : Int)), .da (.lst (fs.map fun f => optC (clsA E f.1))), u5, .da (.int ((i : Nat) : Int)), .da (.int ((p.1 : Nat) : Int)), .da (.int ((p.2 : Nat) : Int)), u9, u10] ∧ rs = []) ?_ ?_ ?_ ?_
    · exact gs_id ⟨_, _, _, rfl, rfl⟩
    · exact fun _ _ _ _ => trivial
    · rintro j y sl rs hy ⟨u5, u9, u10, rfl, rfl⟩
      obtain ⟨jlt, rfl⟩ := rngS_get hy
      rw [Int.toNat_natCast] at jlt
      rw [Int.zero_add]
      obtain ⟨g, hg⟩ : ∃ g, fs[j]? = some g := ⟨_, List.getElem?_eq_getElem (by omega)⟩
      have gm := List.mem_of_getElem? hg
      obtain ⟨r, hr, rE, rn, rl⟩ := at_ g gm
      have hlj : (fs.map (·.2))[j]? = some g.2 := by rw [List.getElem?_map, hg]; rfl
      have lf := lo f fm
      have lg := lo g gm
      have ne : g.1 ≠ f.1 := fun e => by
        have h1 : (fs.map (·.1))[j]? = some g.1 := by rw [List.getElem?_map, hg]; rfl
        have h2 : (fs.map (·.1))[i]? = some g.1 := by rw [List.getElem?_map, hf, e]; rfl
        have := nd_ix ok.nd h1 h2
        omega
      have ds : RDis (clO fs (g.1, r)) (clO fs (f.1, p)) := pw_any (R := fun a b => RDis (clO fs a) (clO fs b)) (fun h => h.symm) (List.pairwise_map.mp re.ds) rE pE (fun e => ne (Prod.mk.inj e).1)
      unfold clO RDis at ds
      rw [limN_eq ok.nd gm, limN_eq ok.nd fm] at ds
      dsimp only at ds
      have em : ((min g.2.toNat f.2.toNat : Nat) : Int) = if g.2 < f.2 then g.2 else f.2 := by split <;> omega
      rw [em] at ds
      walk_at "y"
      rw [show optC (clsA E g.1) = pairC r by rw [hr]; rfl]
      refine s_ix (w := .da (.int ((r.1 : Nat) : Int))) (.tup _) atI_c0 trivial ?_
      walk_at "y"
      by_cases ec : r.1 = p.1
      · refine if_T (by rw [decide_eq_true_eq]; omega) ?_
        walk_at "y"
        rw [show optC (clsA E g.1) = pairC r by rw [hr]; rfl]
        refine s_ix (w := .da (.int ((r.2 : Nat) : Int))) (.tup _) atI_c1 trivial ?_
        walk_at "y"
        refine if_F (decide_eq_false fun h => ds ec (Int.dvd_of_emod_eq_zero h)) ?_
        walk_at "y"
        exact gs_id ⟨_, _, _, rfl, rfl⟩
      · refine if_F (decide_eq_false (by omega)) ?_
        walk_at "y"
        exact gs_id ⟨_, _, _, rfl, rfl⟩
    · rintro sl rs ⟨u5, u9, u10, rfl, rfl⟩
      exact gs_id (gs_id ⟨_, _, _, _, _, _, rfl, rfl⟩)
  · rintro sl rs ⟨u5, u6, u7, u8, u9, u10, rfl, rfl⟩
    refine gs_id ?_
    walk_at "y"
    refine s_ask0 (D := D_Rule___getitem__ M) ⟨fs, E, "none", rfl, ?_⟩
    have hn : clsA E "none" = none := by
      cases q : clsA E "none" with
      | none => rfl
      | some p => exact absurd (re.nm.mem_iff.mp (List.mem_map.mpr ⟨_, cls_in q, rfl⟩)) no
    rw [hn]
    walk_at "y"
    exact gv_id k

end
section
variable {P : Program} {w : World} {K : PySem.W.Frag}
variable {mg : Str → Option Value} {base : Heap}
/-! ### the law's helpers -/
def fndF (E : List REl) (day : Int) (f : Str × Int) : Option (Int × Str) := match clsA E f.1 with
  | some p => if (day - ((p.2 : Nat) : Int)) % f.2 = 0 then some (((p.1 : Nat) : Int), f.1) else none
  | none => none
def fndA (fs : List (Str × Int)) (E : List REl) (day : Int) (k : Nat) : Option (Int × Str) := (fs[k]?).bind (fndF E day)
theorem fm_get {α β : Type} (g : α → Option β) (d : β) : ∀ l : List α, l.filterMap g = ((l.filter fun a => (g a).isSome).map fun a => (g a).getD d)
  | [] => rfl
  | a :: l => by
    rw [List.filterMap_cons, List.filter_cons, fm_get g d l]
    cases h : g a with
    | none => rfl
    | some b => simp [h]
theorem fnd_eq (fs : List (Str × Int)) (E : List REl) (day : Int) : (((List.range fs.length).filter fun k => (fndA fs E day k).isSome).map fun k => (fndA fs E day k).getD (0, "")) = foundL fs E day := by
  rw [← fm_get]
  have h : foundL fs E day = fs.filterMap (fndF E day) := rfl
  rw [h]
  have e : fs = (List.range fs.length).filterMap fun k => fs[k]? := by
    clear h
    induction fs with
    | nil => rfl
    | cons f fs ih =>
      rw [List.length_cons, List.range_succ_eq_map, List.filterMap_cons]
      show _ = f :: _
      rw [List.filterMap_map]
      conv => lhs; rw [ih]
      rfl
  conv => rhs; rw [e]
  rw [List.filterMap_filterMap]
  rfl
def D_law_days_are_good (M : Md K mg) : SpD K := fun as rs xc q => ∃ fs n E, ∃ s : Int, as = [.da (ruleD M.a_Rule M.a_Farm fs E), .da (.lst ((fs.map (·.1)).map .str)), .da (.lst ((fs.map (·.2)).map .int)), .da (.int s)] ∧ rs = [] ∧ FOk fs ∧ RuleOk fs n E ∧ n ≤ 6 ∧ 0 ≤ s ∧ s ≤ 1000000000000000000 - 50 ∧ q (.da (.bl true)) []
theorem ok_law_days_are_good (M : Md K mg) (G : Gd K mg "_law_days_are_good" s_law_days_are_good) (R_law_same : DefR P w K mg base "_law_same" 10 (spD (D_law_same M 4))) (M_Rule___getitem__ : MethR P w K mg base M.a_Rule "__getitem__" 4 (spD (D_Rule___getitem__ M))) (FI_Rule___getitem__ : ∀ f, Meth K M.a_Rule "__getitem__" f → PySem.W.fnIn K f = true) (M_Rule___call__ : MethR P w K mg base M.a_Rule "__call__" 6 (spD (D_Rule___call__ M))) (FI_Rule___call__ : ∀ f, Meth K M.a_Rule "__call__" f → PySem.W.fnIn K f = true) (M_Rule_count : MethR P w K mg base M.a_Rule "count" 6 (spD (D_Rule_count M))) : DefR P w K mg base "_law_days_are_good" 12 (spD (D_law_days_are_good M)) := by
  refine def_mk G fun f fd F => fnr_mk (dfn_ok (k := 11) F sc_law_days_are_good (by intro as rs xc q; walk_at "ar") (fun cdv A outer s H E hr => by
    have nd := sc_law_days_are_good.nd
    exact (dss_cons (ds_for po_def rfl (di_rng2 (pi_range2 rfl M.b.range (da_cons (d_var (i := 3) (pv 3)) (da_cons (d_op (op_addK K) (pu2 pu_add) (d_var (i := 3) (pv 3)) (d_int pe_int)) da_nil)))) (pg_name (i := 4) nd rfl (by first | exact Or.inl rfl | exact Or.inr rfl)) (tg_name 4) (dss_cons (ds_setLc (E' := E0) (E2 := E0) (ps_setLc (i := 5) (own := [("_law_k", 6)]) (g := (gName 6)) rfl nd rfl rfl (sw_true rfl rfl rfl (by decide +kernel)) (di_rng1 (pi_range1 rfl M.b.range (da_cons (d_cb1 (pe_len K M.b (d_var (i := 1) (pv 1))) act_len) da_nil))) (blkOk_by (N := N_law_days_are_good) (sc := defScope s_law_days_are_good) (by decide +kernel)) (fun _ _ _ _ _ => (pg_name (i := 6) nd rfl (by first | exact Or.inl rfl | exact Or.inr rfl))) (fun _ _ _ _ _ => (dts_one (dt_cmp (op_eqK K hr) (pu2 pu_eq) (d_op op_mod (pu2 (pu_I fun _ _ _ _ => .int _)) (d_op op_sub (pu2 (pu_I0 fun _ _ _ _ => .int _)) (d_var (i := 4) (pv 4)) (d_ix (d_ownIx M_Rule___getitem__ FI_Rule___getitem__ (hr.mono (by first | decide | omega)) (d_var (i := 0) (pv 0)) (d_ix (d_var (i := 1) (pv 1)) (d_var (i := 6) (pv 6)))) (d_int pe_int))) (d_ix (d_var (i := 2) (pv 2)) (d_var (i := 6) (pv 6)))) (d_int pe_int)))) (fun _ _ _ _ _ => (d_tup (da_cons (d_ix (d_ownIx M_Rule___getitem__ FI_Rule___getitem__ (hr.mono (by first | decide | omega)) (d_var (i := 0) (pv 0)) (d_ix (d_var (i := 1) (pv 1)) (d_var (i := 6) (pv 6)))) (d_int pe_int)) (da_cons (d_ix (d_var (i := 1) (pv 1)) (d_var (i := 6) (pv 6))) da_nil))))) (tg_name 6) (by decide))
    (dss_one (ds_if (dt_not (dt_val (d_call (pe_callR R_law_same (hr.mono (by first | decide | omega)) pz_def (da_cons (d_callI M_Rule___call__ FI_Rule___call__ (hr.mono (by first | decide | omega)) pz_def (d_var (i := 0) (pv 0)) (da_cons (d_var (i := 4) (pv 4)) da_nil)) (da_cons (d_cb1 (pe_tupOf K M.b (d_lc (E' := E0) (E2 := E0) (pe_lc (own := [("_law_cart", 7), ("_law_name", 8)]) (g := (gTup K 2 (gCons (gName 7) (gCons (gName 8) gNil)))) rfl nd (di_seq (d_cb1 (pe_sortCS K M.b (d_var (i := 5) (pv 5))) act_sortCS)) (blkOk_by (N := N_law_days_are_good) (sc := defScope s_law_days_are_good) (by decide +kernel)) (fun _ _ _ _ _ => (pg_tupK K (n := 2) rfl (pgs_cons (pg_name (i := 7) nd rfl (by first | exact Or.inl rfl | exact Or.inr rfl)) (pgs_cons (pg_name (i := 8) nd rfl (by first | exact Or.inl rfl | exact Or.inr rfl)) pgs_nil)))) (fun _ _ _ _ _ => dts_nil) (fun _ _ _ _ _ => (d_var (i := 8) (pv 8)))) (tg_tup (tgs_cons (tg_name 7) (tgs_cons (tg_name 8) tgs_nil))) (by decide))) act_tupOf) da_nil)))))) (dss_one (ds_ret (d_bl pe_bl))) dss_nil))))
    (dss_cons (ds_for po_def rfl (di_rng1 (pi_range1 rfl M.b.range (da_cons (d_cb1 (pe_len K M.b (d_var (i := 1) (pv 1))) act_len) da_nil))) (pg_name (i := 6) nd rfl (by first | exact Or.inl rfl | exact Or.inr rfl)) (tg_name 6) (dss_cons (ds_par (ps_par (i := 9) (j := 10) rfl nd rfl rfl (by decide) rfl rfl (da_cons (d_ix (d_ownIx M_Rule___getitem__ FI_Rule___getitem__ (hr.mono (by first | decide | omega)) (d_var (i := 0) (pv 0)) (d_ix (d_var (i := 1) (pv 1)) (d_var (i := 6) (pv 6)))) (d_int pe_int)) (da_cons (d_int pe_int) da_nil)) (by rfl)))
    (dss_cons (ds_for po_def rfl (di_rng1 (pi_range1 rfl M.b.range (da_cons (d_int pe_int) da_nil))) (pg_name (i := 4) nd rfl (by first | exact Or.inl rfl | exact Or.inr rfl)) (tg_name 4) (dss_cons (ds_if (dt_not (dt_val (d_call (pe_callR R_law_same (hr.mono (by first | decide | omega)) pz_def (da_cons (d_meth (pe_methR (d_var (i := 0) (pv 0)) M_Rule_count.cl M_Rule_count.at_ M_Rule_count.fn (hr.mono (by first | decide | omega)) pz_def (da_cons (d_ix (d_var (i := 1) (pv 1)) (d_var (i := 6) (pv 6))) (da_cons (d_var (i := 4) (pv 4)) da_nil)))) (da_cons (d_var (i := 10) (pv 10)) da_nil)))))) (dss_one (ds_ret (d_bl pe_bl))) dss_nil)
    (dss_one (ds_set (i := 10) nd rfl (by first | exact Or.inl rfl | exact Or.inr rfl) (d_op (op_addK K) (pu2 pu_add) (d_var (i := 10) (pv 10)) (d_cb1 (pe_int1 M.b (d_cmp (op_eqK K hr) (pu2 pu_eq) (d_op op_mod (pu2 (pu_I fun _ _ _ _ => .int _)) (d_var (i := 4) (pv 4)) (d_ix (d_var (i := 2) (pv 2)) (d_var (i := 6) (pv 6)))) (d_var (i := 9) (pv 9)))) act_int))))))
    (dss_one (ds_if (dt_cmp (op_neK K hr) (pu2 pu_ne) (d_meth (pe_methR (d_var (i := 0) (pv 0)) M_Rule_count.cl M_Rule_count.at_ M_Rule_count.fn (hr.mono (by first | decide | omega)) pz_def (da_cons (d_ix (d_var (i := 1) (pv 1)) (d_var (i := 6) (pv 6))) (da_cons (d_op (op_addK K) (pu2 pu_add) (d_var (i := 3) (pv 3)) (d_ix (d_var (i := 2) (pv 2)) (d_var (i := 6) (pv 6)))) da_nil)))) (d_op (op_addK K) (pu2 pu_add) (d_meth (pe_methR (d_var (i := 0) (pv 0)) M_Rule_count.cl M_Rule_count.at_ M_Rule_count.fn (hr.mono (by first | decide | omega)) pz_def (da_cons (d_ix (d_var (i := 1) (pv 1)) (d_var (i := 6) (pv 6))) (da_cons (d_var (i := 3) (pv 3)) da_nil)))) (d_int pe_int))) (dss_one (ds_ret (d_bl pe_bl))) dss_nil))))) (dss_one (ds_ret (d_bl pe_bl)))))) ?_) (F.bindsN (fun _ _ _ _ _ _ us hl => match us, hl with | [_, _, _, _], _ => rfl))
  rintro as rs xc q ⟨fs, n, E, s, rfl, rfl, ok, re, n6, s0, s1, k⟩
  have six := ok.six
  walk_at "in"
  have lo : ∀ f ∈ fs, 1 ≤ f.2 := fun f hf => (ok.lo f hf).1
  have at_ : ∀ f ∈ fs, ∃ p, clsA E f.1 = some p ∧ (f.1, p) ∈ E ∧ p.1 < n ∧ ((p.2 : Nat) : Int) < f.2 := fun f hf => re.at_ ok.nd hf (lo f hf)
  walk_at "y"
  refine s_rng2K (by omega) ?_
  rw [show (s + 25 - s).toNat = 25 by omega]
  refine s_forK (fun i sl rs => ∃ (u4 u5 u6 u7 u8 u9 u10 : Sl), sl = [.da (ruleD M.a_Rule M.a_Farm fs E), .da (.lst ((fs.map (·.1)).map .str)), .da (.lst ((fs.map (·.2)).map .int)), .da (.int s), u4, u5, u6, u7, u8, u9, u10] ∧ rs = []) ?_ ?_ ?_ ?_
  · exact gs_id ⟨_, _, _, _, _, _, _, rfl, rfl⟩
  · exact fun _ _ _ _ => trivial
  · rintro i y sl rs hy ⟨u4, u5, u6, u7, u8, u9, u10, rfl, rfl⟩
    obtain ⟨lt, rfl⟩ := rngS_get hy
    obtain ⟨day, hday⟩ : ∃ day, day = s + ((i : Nat) : Int) := ⟨_, rfl⟩
    rw [← hday]
    have d0 : 0 ≤ day := by omega
    have d1 : day ≤ 1000000000000000000 := by omega
    walk_at "y"
    rw [show ((((fs.map fun f => f.1).map Da.str).map Sl.da).length : Int) = (fs.length : Nat) by simp]
    refine s_rng1K (by omega) ?_
    rw [Int.toNat_natCast, rng_natR]
    refine s_lcP (List.range fs.length) (fun k => .da (.int ((k : Nat) : Int))) (fun k => (fndA fs E day k).isSome) (fun k => csD ((fndA fs E day k).getD (0, ""))) rfl (by rw [List.length_range]; omega) trivial (fun j k T N hk hT hN => ?_) ?_
    · have kl := List.mem_range.mp (List.mem_of_getElem? hk)
      obtain ⟨f, hf⟩ : ∃ f, fs[k]? = some f := ⟨_, List.getElem?_eq_getElem kl⟩
      have fm := List.mem_of_getElem? hf
      obtain ⟨p, hp, _, pn, pl⟩ := at_ f fm
      have lf := lo f fm
      have hn : (fs.map (·.1))[k]? = some f.1 := by rw [List.getElem?_map, hf]; rfl
      have hl : (fs.map (·.2))[k]? = some f.2 := by rw [List.getElem?_map, hf]; rfl
      have fa : fndA fs E day k = if (day - ((p.2 : Nat) : Int)) % f.2 = 0 then some (((p.1 : Nat) : Int), f.1) else none := by unfold fndA fndF; rw [hf]; dsimp only [Option.bind_some]; rw [hp]
      rw [fa] at hT hN
      walk_at "wipe"
      walk_at "y"
      refine s_ask0 (D := D_Rule___getitem__ M) ⟨fs, E, f.1, rfl, ?_⟩
      rw [show optC (clsA E f.1) = pairC p by rw [hp]; rfl]
      walk_at "y"
      by_cases q : (day - ((p.2 : Nat) : Int)) % f.2 = 0
      · refine if_T (decide_eq_true q) ?_
        rw [if_pos q] at hT
        walk_at "y"
        refine s_ask0 (D := D_Rule___getitem__ M) ⟨fs, E, f.1, rfl, ?_⟩
        rw [show optC (clsA E f.1) = pairC p by rw [hp]; rfl]
        walk_at "y"
        exact hT rfl
      · refine if_F (decide_eq_false q) ?_
        rw [if_neg q] at hN
        exact hN rfl
    have fl : ((List.range fs.length).filter fun k => (fndA fs E day k).isSome).map (fun k => csD ((fndA fs E day k).getD (0, ""))) = (foundL fs E day).map csD := by rw [← fnd_eq, List.map_map]; rfl
    rw [fl]
    have f6 : (foundL fs E day).length ≤ 6 := Nat.le_trans (List.length_filterMap_le _ _) six
    have sl : (srtCS (foundL fs E day)).length ≤ 6 := by rw [(show (srtCS (foundL fs E day)).Perm _ from List.mergeSort_perm _ _).length_eq]; exact f6
    walk_at "y"
    refine s_ask0 (D := D_Rule___call__ M) ⟨fs, n, E, day, rfl, rfl, ok, re, n6, fun _ _ => ?_, fun h => absurd ⟨d0, d1⟩ h⟩
    walk_at "y"
    refine s_sortCS (.da _) ?_
    walk_at "y"
    refine s_lcM (srtCS (foundL fs E day)) (fun p => .da (csD p)) (fun p => .str p.2) (by rw [List.map_map]; rfl) (by omega) trivial (fun i p T hp ht => ?_) ?_
    · walk_at "wipe"
      walk_at "y"
      exact ht
    walk_at "y"
    refine s_ask0 (D := D_law_same M 4) ⟨_, rfl, rfl, ⟨by rw [List.length_map]; omega, fun x hx => by
      obtain ⟨z, _, rfl⟩ := List.mem_map.mp hx
      trivial⟩, ?_⟩
    walk_at "y"
    refine if_F rfl ?_
    walk_at "y"
    exact gs_id ⟨_, _, _, _, _, _, _, rfl, rfl⟩
  · rintro sl rs ⟨u4, u5, u6, u7, u8, u9, u10, rfl, rfl⟩
    refine gs_id ?_
    walk_at "y"
    rw [show ((((fs.map fun f => f.1).map Da.str).map Sl.da).length : Int) = (fs.length : Nat) by simp]
    refine s_rng1K (by omega) ?_
    refine s_forK (fun i sl rs => ∃ (u4 u5 u6 u7 u8 u9 u10 : Sl), sl = [.da (ruleD M.a_Rule M.a_Farm fs E), .da (.lst ((fs.map (·.1)).map .str)), .da (.lst ((fs.map (·.2)).map .int)), .da (.int s), u4, u5, u6, u7, u8, u9, u10] ∧ rs = []) ?_ ?_ ?_ ?_
    · exact gs_id ⟨_, _, _, _, _, _, _, rfl, rfl⟩
    · exact fun _ _ _ _ => trivial
    · rintro i y sl rs hy ⟨u4, u5, u6, u7, u8, u9, u10, rfl, rfl⟩
      obtain ⟨lt, rfl⟩ := rngS_get hy
      rw [Int.toNat_natCast] at lt
      rw [Int.zero_add]
      obtain ⟨f, hf⟩ : ∃ f, fs[i]? = some f := ⟨_, List.getElem?_eq_getElem lt⟩
      have fm := List.mem_of_getElem? hf
      obtain ⟨p, hp, _, pn, pl⟩ := at_ f fm
      have lf := lo f fm
      have l30 := (ok.lo f fm).2
      have hn : (fs.map (·.1))[i]? = some f.1 := by rw [List.getElem?_map, hf]; rfl
      have hl : (fs.map (·.2))[i]? = some f.2 := by rw [List.getElem?_map, hf]; rfl
      obtain ⟨r, hr⟩ : ∃ r : Int, r = ((p.2 : Nat) : Int) := ⟨_, rfl⟩
      have r0 : 0 ≤ r := by omega
      have rl : r < f.2 := by omega
      walk_at "y"
      refine s_ask0 (D := D_Rule___getitem__ M) ⟨fs, E, f.1, rfl, ?_⟩
      rw [show optC (clsA E f.1) = pairC p by rw [hp]; rfl]
      walk_at "y"
      refine s_rng1K (by omega) ?_
      refine s_forK (fun j sl rs => ∃ (u4 u5 u7 u8 : Sl), sl = [.da (ruleD M.a_Rule M.a_Farm fs E), .da (.lst ((fs.map (·.1)).map .str)), .da (.lst ((fs.map (·.2)).map .int)), .da (.int s), u4, u5, .da (.int ((i : Nat) : Int)), u7, u8, .da (.int ((p.2 : Nat) : Int)), .da (.int (cntR r f.2 ((j : Nat) : Int)))] ∧ rs = []) ?_ ?_ ?_ ?_
      · exact gs_id ⟨_, _, _, _, by rw [show cntR r f.2 ((0 : Nat) : Int) = 0 by unfold cntR; rw [if_neg (by omega)]], rfl⟩
      · exact fun _ _ _ _ => trivial
      · rintro j y sl rs hy ⟨u4, u5, u7, u8, rfl, rfl⟩
        obtain ⟨jlt, rfl⟩ := rngS_get hy
        rw [Int.zero_add]
        have j60 : j < 60 := jlt
        have cs := cntR_succ (d := ((j : Nat) : Int)) r0 rl (by omega)
        subst hr
        walk_at "y"
        refine s_ask0 (D := D_Rule_count M) ⟨fs, n, E, f, p, ((j : Nat) : Int), rfl, rfl, ok, re, fm, hp, fun _ _ => ?_, fun h => absurd (by omega) h⟩
        walk_at "y"
        refine s_ask0 (D := D_law_same M 4) ⟨_, rfl, rfl, trivial, ?_⟩
        walk_at "y"
        refine if_F rfl ?_
        walk_at "y"
        have ev : cntR ((p.2 : Nat) : Int) f.2 ((j : Nat) : Int) + (if decide (((j : Nat) : Int) % f.2 = ((p.2 : Nat) : Int)) = true then 1 else 0) = cntR ((p.2 : Nat) : Int) f.2 ((j + 1 : Nat) : Int) := by
          rw [show ((j + 1 : Nat) : Int) = ((j : Nat) : Int) + 1 by omega, cs]
          by_cases q : ((j : Nat) : Int) % f.2 = ((p.2 : Nat) : Int)
          · rw [if_pos (decide_eq_true q), if_pos q]
          · rw [if_neg (by simpa using q), if_neg q]
        rw [ev]
        exact gs_id ⟨_, _, _, _, rfl, rfl⟩
      · rintro sl rs ⟨u4, u5, u7, u8, rfl, rfl⟩
        refine gs_id ?_
        subst hr
        have ct := cntR_turn (d := s) r0 rl s0
        walk_at "y"
        refine s_ask0 (D := D_Rule_count M) ⟨fs, n, E, f, p, s + f.2, rfl, rfl, ok, re, fm, hp, fun _ _ => ?_, fun h => absurd (by omega) h⟩
        walk_at "y"
        refine s_ask0 (D := D_Rule_count M) ⟨fs, n, E, f, p, s, rfl, rfl, ok, re, fm, hp, fun _ _ => ?_, fun h => absurd (by omega) h⟩
        rw [ct]
        walk_at "y"
        refine if_F (by simp) ?_
        exact gs_id ⟨_, _, _, _, _, _, _, rfl, rfl⟩
    · rintro sl rs ⟨u4, u5, u6, u7, u8, u9, u10, rfl, rfl⟩
      refine gs_id ?_
      walk_at "y"
      exact gv_id k

end
section
variable {P : Program} {w : World} {K : PySem.W.Frag}
variable {mg : Str → Option Value} {base : Heap}
/-! ### the law -/
def nm6 : List Str := ["f", "b", "c", "a", "d", "e"]
theorem nm6_ok : ∀ z ∈ nm6, NmOk z := by decide +kernel
theorem nm6_nd : nm6.Nodup := by decide +kernel
def fsL (ls : List Int) : List (Str × Int) := nm6.zip ls
theorem fsL_snd {ls : List Int} (h : ls.length ≤ 6) : (fsL ls).map (·.2) = ls := List.map_snd_zip (by show ls.length ≤ 6; exact h)
theorem zip_take {α β : Type} : ∀ (as : List α) (bs : List β), (as.zip bs).map (·.1) = as.take bs.length
  | [], _ => by simp
  | _ :: _, [] => by simp
  | a :: as, b :: bs => by rw [List.zip_cons_cons, List.map_cons, zip_take as bs]; rfl
theorem fsL_fst {ls : List Int} : (fsL ls).map (·.1) = nm6.take ls.length := zip_take _ _
theorem fsL_len {ls : List Int} (h : ls.length ≤ 6) : (fsL ls).length = ls.length := by rw [fsL, List.length_zip]; show min 6 _ = _; omega
theorem fsL_ok {ls : List Int} (ok : LimOk ls) : FOk (fsL ls) := by
  have l6 := fsL_len ok.six
  refine ⟨by rw [l6]; exact ok.one, by rw [l6]; exact ok.six, by rw [fsL_fst]; exact nm6_nd.sublist (List.take_sublist _ _), fun f hf => nm6_ok _ (List.of_mem_zip hf).1, fun f hf => ok.lo _ (List.of_mem_zip hf).2, by rw [fsL_snd ok.six]; exact ok.pr⟩
theorem fsL_cut : ∀ n : Fin 7, signs (cutS "fbcade" none (some ((n.val : Nat) : Int))) = nm6.take n.val := by decide +kernel
theorem cutF_len : ∀ n : Fin 7, (cutS "fbcade" none (some ((n.val : Nat) : Int))).cps.size ≤ sizeLine := by rw [sizeLine_eq]; decide +kernel
theorem ok_law {f fo P0 c0 : Addr} {fd fdo : FuncData} (M : Md K mg) (F : FnD K "law" "law" s_law f fd) (T_tab : LamX.TabB base mg c0 P0) (T_code : fd.code = .ref c0) (O : OutF K mg M.a_InvalidNumber M.a_NotHarmonic M.a_TooFewCarts)
    (at_out : mg "_law_outcome" = some (.ref fo)) (F_out : FnD K "_law_outcome" "_law_outcome" s_law_outcome fo fdo) (B_out : L2.Binds K fdo ["_law_work"] [])
    (R_law_start : DefR P w K mg base "_law_start" 2 (spD (D_law_start M))) (R_law_drawn : DefR P w K mg base "_law_drawn" 2 (spD (D_law_drawn M))) (R_law_limits : DefR P w K mg base "_law_limits" 4 (spD (D_law_limits M))) (R_law_sorted_divides : DefR P w K mg base "_law_sorted_divides" 2 (spD (D_law_sorted_divides M)))
    (R_law_rule_is_good : DefR P w K mg base "_law_rule_is_good" 6 (spD (D_law_rule_is_good M))) (R_law_days_are_good : DefR P w K mg base "_law_days_are_good" 12 (spD (D_law_days_are_good M))) (R_is_harmonic : DefR P w K mg base "is_harmonic" 4 (spD (D_is_harmonic M)))
    (K_Farm : MakeD P w K mg base "Farm" M.a_Farm 4 (starD (D_Farm___init__ M)) (D_Farm M)) (M_Farm___add__ : MethR P w K mg base M.a_Farm "__add__" 6 (spD (D_Farm___add__ M))) (K_Rule : MakeD P w K mg base "Rule" M.a_Rule 6 (D_Rule___init__ M) (D_Rule M))
    (M_Rule___call__ : MethR P w K mg base M.a_Rule "__call__" 6 (spD (D_Rule___call__ M))) (FI_Rule___call__ : ∀ f, Meth K M.a_Rule "__call__" f → PySem.W.fnIn K f = true) (M_Rule_count : MethR P w K mg base M.a_Rule "count" 6 (spD (D_Rule_count M))) : FnOk P w K mg base CX0 26 f fd ["_law_script"] (sp_law K P0) := by
  refine FunD_okC F sc_law ?_ fun A outer s H vs Q E hr h => ?_
  · rintro vs H Q E ⟨a, ns, rfl, _⟩; rfl
  have nd := sc_law.nd
  have key : ∃ t', PSs (cxOf CX0 P w K mg base N_law "law" (defScope s_law) f fd.code A outer s H E).nox (defBody s_law) t' ∧ t' { nx := fun _ H' => Q .non H', rt := Q } (L2.start N_law vs) H := by
    refine' body_ok ?run ?walk (law_start (M := M) (E := E0) h)
    case run =>
      exact (dss_cons (ds_set (i := 1) nd rfl (by first | exact Or.inl rfl | exact Or.inr rfl) (d_call (pe_callR R_law_start (hr.mono (by first | decide | omega)) passN (da_cons (d_var (i := 0) (pv 0)) da_nil))))
    (dss_cons (ds_for PassesOwn.never rfl (di_rng1 (pi_range1 rfl M.b.range (da_cons (d_int pe_int) da_nil))) (pg_name (i := 2) nd rfl (by first | exact Or.inl rfl | exact Or.inr rfl)) (tg_name 2) (dss_cons (ds_asg (d_tup (da_cons (d_call (pe_callR R_law_limits (hr.mono (by first | decide | omega)) passN (da_cons (d_var (i := 1) (pv 1)) da_nil))) (da_cons (d_op (op_addK K) (pu2 pu_add) (d_int pe_int) (d_call (pe_callR R_law_drawn (hr.mono (by first | decide | omega)) passN (da_cons (d_var (i := 1) (pv 1)) (da_cons (d_int pe_int) da_nil))))) da_nil))) (pg_tupK K (n := 2) rfl (pgs_cons (pg_name (i := 3) nd rfl (by first | exact Or.inl rfl | exact Or.inr rfl)) (pgs_cons (pg_name (i := 4) nd rfl (by first | exact Or.inl rfl | exact Or.inr rfl)) pgs_nil))) (tg_tup (tgs_cons (tg_name 3) (tgs_cons (tg_name 4) tgs_nil))))
    (dss_cons (ds_asg (d_tup (da_cons (d_gv (d_cb1 (pe_listTxt M.b (d_slS (pe_slice sl_str (d_str pe_str) do_none (do_some (d_cb1 (pe_len K M.b (d_var (i := 3) (pv 3))) act_len))))) act_listS)) (da_cons (d_make (pe_makeP K_Farm.mkr (hr.mono (by first | decide | omega)) passN (da_cons (d_tup (da_cons (d_str pe_str) (da_cons (d_ix (d_var (i := 3) (pv 3)) (d_int pe_int)) da_nil))) da_nil)) K_Farm.it) da_nil))) (pg_tupK K (n := 2) rfl (pgs_cons (pg_name (i := 5) nd rfl (by first | exact Or.inl rfl | exact Or.inr rfl)) (pgs_cons (pg_name (i := 6) nd rfl (by first | exact Or.inl rfl | exact Or.inr rfl)) pgs_nil))) (tg_tup (tgs_cons (tg_name 5) (tgs_cons (tg_name 6) tgs_nil))))
    (dss_cons (ds_for PassesOwn.never rfl (di_rng2 (pi_range2 rfl M.b.range (da_cons (d_int pe_int) (da_cons (d_cb1 (pe_len K M.b (d_var (i := 3) (pv 3))) act_len) da_nil)))) (pg_name (i := 7) nd rfl (by first | exact Or.inl rfl | exact Or.inr rfl)) (tg_name 7) (dss_one (ds_set (i := 6) nd rfl (by first | exact Or.inl rfl | exact Or.inr rfl) (d_op (op_own2 M_Farm___add__ M.self_Farm (hr.mono (by first | decide | omega))) act_own (d_var (i := 6) (pv 6)) (d_make (pe_makeP K_Farm.mkr (hr.mono (by first | decide | omega)) passN (da_cons (d_tup (da_cons (d_ix (d_var (i := 5) (pv 5)) (d_var (i := 7) (pv 7))) (da_cons (d_ix (d_var (i := 3) (pv 3)) (d_var (i := 7) (pv 7))) da_nil))) da_nil)) K_Farm.it)))))
    (dss_cons (ds_set (i := 8) nd rfl (by first | exact Or.inl rfl | exact Or.inr rfl) (d_call (pe_callR R_law_sorted_divides (hr.mono (by first | decide | omega)) passN (da_cons (d_var (i := 3) (pv 3)) da_nil))))
    (dss_cons (ds_if (PW.pt (dw_or (dt_cmp (op_neK K hr) (pu2 pu_ne) (d_call (pe_callR R_is_harmonic (hr.mono (by first | decide | omega)) passN (da_cons (d_var (i := 6) (pv 6)) da_nil))) (d_var (i := 8) (pv 8))) (dw_or1 (dt_cmp (op_neK K hr) (pu2 pu_ne) (by exact d_outD (P := P0) (nm := ("law" : Str) ++ ".<locals>." ++ "<lambda>") tells_out (pe_outD (k := 20) at_out F_out B_out sc_law_outcome rfl (Or.inl rfl) (gives_out O) (hr.mono (by first | decide | omega)) (pe_lam0K T_tab T_code (lamN_by (N := N_law) (sc := defScope s_law) (by decide +kernel)))) ⟨(lamN_by (N := N_law) (sc := defScope s_law) (by decide +kernel)), (fun _ _ _ _ _ _ => rfl), fun A outer s H E f c' hr => (d_make (pe_makeP K_Rule.mkr (hr.mono (by first | decide | omega)) pz_lamL (da_cons (d_var (i := 6) (pv 6)) (da_cons (d_int pe_int) da_nil))) K_Rule.it)⟩) (d_tup (da_cons (d_str pe_str) da_nil)))))) (dss_one (ds_ret (d_bl pe_bl))) dss_nil)
    (dss_cons (ds_cut (ds_asg (d_tup (da_cons (by exact d_outD (P := P0) (nm := ("law" : Str) ++ ".<locals>." ++ "<lambda>") tells_out (pe_outD (k := 20) at_out F_out B_out sc_law_outcome rfl (Or.inl rfl) (gives_out O) (hr.mono (by first | decide | omega)) (pe_lam0K T_tab T_code (lamN_by (N := N_law) (sc := defScope s_law) (by decide +kernel)))) ⟨(lamN_by (N := N_law) (sc := defScope s_law) (by decide +kernel)), (fun _ _ _ _ _ _ => rfl), fun A outer s H E f c' hr => (d_make (pe_makeP K_Rule.mkr (hr.mono (by first | decide | omega)) pz_lamL (da_cons (d_var (i := 6) (pv 6)) (da_cons (d_var (i := 4) (pv 4)) da_nil))) K_Rule.it)⟩) (da_cons (d_int pe_int) da_nil))) (pg_tupK K (n := 2) rfl (pgs_cons (pg_name (i := 9) nd rfl (by first | exact Or.inl rfl | exact Or.inr rfl)) (pgs_cons (pg_name (i := 10) nd rfl (by first | exact Or.inl rfl | exact Or.inr rfl)) pgs_nil))) (tg_tup (tgs_cons (tg_name 9) (tgs_cons (tg_name 10) tgs_nil)))))
    (dss_cons (ds_for PassesOwn.never rfl (di_seq (d_var (i := 3) (pv 3))) (pg_name (i := 11) nd rfl (by first | exact Or.inl rfl | exact Or.inr rfl)) (tg_name 11) (dss_one (ds_set (i := 10) nd rfl (by first | exact Or.inl rfl | exact Or.inr rfl) (d_op op_mul (pu2 (pu_I fun _ _ _ _ => .int _)) (d_var (i := 10) (pv 10)) (d_var (i := 11) (pv 11))))))
    (dss_one (ds_if (PW.pt (dw_or (dt_not (dt_val (d_var (i := 8) (pv 8)))) (dw_or1 (dt_cmp op_gt (pu2 (pu_I0 fun _ _ _ _ => .bl _)) (d_cb1 (pe_sum1 K M.b (d_lc (E' := E0) (E2 := E0) (pe_lc (own := [("_law_limit", 11)]) (g := (gName 11)) rfl nd (di_seq (d_var (i := 3) (pv 3))) (blkOk_by (N := N_law) (sc := defScope s_law) (by decide +kernel)) (fun _ _ _ _ _ => (pg_name (i := 11) nd rfl (by first | exact Or.inl rfl | exact Or.inr rfl))) (fun _ _ _ _ _ => dts_nil) (fun _ _ _ _ _ => (d_op op_fdiv (pu2 (pu_I fun _ _ _ _ => .int _)) (d_var (i := 10) (pv 10)) (d_var (i := 11) (pv 11))))) (tg_name 11) (by decide))) act_sum) (d_op op_mul (pu2 (pu_I fun _ _ _ _ => .int _)) (d_var (i := 4) (pv 4)) (d_var (i := 10) (pv 10))))))) (dss_one (ds_if (dt_cmp (op_neK K hr) (pu2 pu_ne) (d_var (i := 9) (pv 9)) (d_if (dt_val (d_var (i := 8) (pv 8))) (d_tup (da_cons (d_str pe_str) da_nil)) (d_tup (da_cons (d_str pe_str) da_nil)))) (dss_one (ds_ret (d_bl pe_bl))) dss_nil)) (dss_cons (ds_set (i := 12) nd rfl (by first | exact Or.inl rfl | exact Or.inr rfl) (d_call (pe_callR R_law_drawn (hr.mono (by first | decide | omega)) passN (da_cons (d_var (i := 1) (pv 1)) (da_cons (d_ix (d_lst (da_cons (d_int pe_int) (da_cons (d_op op_sub (pu2 (pu_I0 fun _ _ _ _ => .int _)) (d_op op_pow (pu2 (pu_I fun _ _ _ _ => .int _)) (d_int pe_int) (d_int pe_int)) (d_int pe_int)) da_nil))) (d_call (pe_callR R_law_drawn (hr.mono (by first | decide | omega)) passN (da_cons (d_var (i := 1) (pv 1)) (da_cons (d_int pe_int) da_nil))))) da_nil)))))
    (dss_cons (ds_if (dt_not (dt_val (d_call (pe_callR R_law_rule_is_good (hr.mono (by first | decide | omega)) passN (da_cons (d_var (i := 9) (pv 9)) (da_cons (d_var (i := 5) (pv 5)) (da_cons (d_var (i := 3) (pv 3)) (da_cons (d_var (i := 4) (pv 4)) da_nil)))))))) (dss_one (ds_ret (d_bl pe_bl))) dss_nil)
    (dss_cons (ds_if (dt_not (dt_val (d_call (pe_callR R_law_days_are_good (hr.mono (by first | decide | omega)) passN (da_cons (d_var (i := 9) (pv 9)) (da_cons (d_var (i := 5) (pv 5)) (da_cons (d_var (i := 3) (pv 3)) (da_cons (d_var (i := 12) (pv 12)) da_nil)))))))) (dss_one (ds_ret (d_bl pe_bl))) dss_nil)
    (dss_cons (ds_set (i := 13) nd rfl (by first | exact Or.inl rfl | exact Or.inr rfl) (d_lstR (da_cons (by refine' d_lamQ (P := P0) (nm := ("law" : Str) ++ ".<locals>." ++ "<lambda>") (k := 20) ?he ?bd; (case he => exact (pe_lam0K T_tab T_code (lamN_by (N := N_law) (sc := defScope s_law) (by decide +kernel)))); (case bd => exact ⟨(lamN_by (N := N_law) (sc := defScope s_law) (by decide +kernel)), (fun _ _ _ _ _ _ => rfl), fun A outer s H E f c' hr => (d_callI M_Rule___call__ FI_Rule___call__ (hr.mono (by first | decide | omega)) pz_lamL (d_var (i := 9) (pv 9)) (da_cons (d_op op_sub (pu2 (pu_I0 fun _ _ _ _ => .int _)) (d_int pe_int) (d_int pe_int)) da_nil))⟩)) (da_cons (by refine' d_lamQ (P := P0) (nm := ("law" : Str) ++ ".<locals>." ++ "<lambda>") (k := 20) ?he ?bd; (case he => exact (pe_lam1K T_tab T_code (lamN_by (N := N_law) (sc := defScope s_law) (by decide +kernel)))); (case bd => exact ⟨(lamN_by (N := N_law) (sc := defScope s_law) (by decide +kernel)), ⟨"_law_a", rfl, fun _ _ _ _ _ _ _ _ => ⟨_, rfl, rfl⟩⟩, fun A outer s H E f c' hr => (d_callI M_Rule___call__ FI_Rule___call__ (hr.mono (by first | decide | omega)) pz_lamL (d_var (i := 9) (pv 9)) (da_cons (d_op (op_addK K) (pu2 pu_add) (d_op op_pow (pu2 (pu_I fun _ _ _ _ => .int _)) (d_int pe_int) (d_int pe_int)) (d_int pe_int)) da_nil))⟩)) (da_cons (by refine' d_lamQ (P := P0) (nm := ("law" : Str) ++ ".<locals>." ++ "<lambda>") (k := 20) ?he ?bd; (case he => exact (pe_lam1K T_tab T_code (lamN_by (N := N_law) (sc := defScope s_law) (by decide +kernel)))); (case bd => exact ⟨(lamN_by (N := N_law) (sc := defScope s_law) (by decide +kernel)), ⟨"_law_b", rfl, fun _ _ _ _ _ _ _ _ => ⟨_, rfl, rfl⟩⟩, fun A outer s H E f c' hr => (d_meth (pe_methR (d_var (i := 9) (pv 9)) M_Rule_count.cl M_Rule_count.at_ M_Rule_count.fn (hr.mono (by first | decide | omega)) pz_lamL (da_cons (d_str pe_str) (da_cons (d_op op_sub (pu2 (pu_I0 fun _ _ _ _ => .int _)) (d_int pe_int) (d_int pe_int)) da_nil))))⟩)) da_nil)))))
    (dss_one (ds_if (dt_cmp (op_neK K hr) (pu2 pu_ne) (by exact d_lcOut (k := 20) (i := 14) tells_out (pe_lcX (own := [("_law_work", 14)]) (g := gName 14) rfl nd (di_seq (d_var (i := 13) (pv 13))) (blkOk_by (N := N_law) (sc := defScope s_law) (by decide +kernel)) (fun _ _ _ _ _ => (pg_name (i := 14) nd rfl (by first | exact Or.inl rfl | exact Or.inr rfl))) (fun _ _ _ _ _ _ _ inv off => pe_out (k := 20) at_out F_out B_out sc_law_outcome rfl (Or.inl rfl) (gives_out O) (hr.mono (by first | decide | omega)) inv off (pv 14)))) (d_op op_rep (pu2 pu_repL) (d_lst (da_cons (d_tup (da_cons (d_str pe_str) da_nil)) da_nil)) (d_int pe_int))) (dss_one (ds_ret (d_bl pe_bl))) dss_nil)))))))))))))))) (dss_one (ds_ret (d_bl pe_bl)))))
    rintro as rs xc q ⟨ns, rfl, rfl, hl, k⟩
    walk_at "in"
    walk_at "y"
    refine s_ask0 ⟨ns, rfl, rfl, hl, fun d => ?_⟩
    walk_at "y"
    refine s_rng1K (by omega) ?_
    refine s_forK (fun i sl rs => ∃ (u2 u3 u4 u5 u6 u7 u8 u9 u10 u11 u12 u13 u14 : Sl), sl = [.da (.scr ns), .raw (.ref d), u2, u3, u4, u5, u6, u7, u8, u9, u10, u11, u12, u13, u14] ∧ rs = [srcR d, tabR P0 lamNm]) ?_ ?_ ?_ ?_
    · exact gs_gets (rc := [srcR d, tabR P0 lamNm]) (by walk_at "gets") ⟨_, _, _, _, _, _, _, _, _, _, _, _, _, rfl, rfl⟩
    · exact fun _ _ _ _ => trivial
    · rintro i y sl rs hy ⟨u2, u3, u4, u5, u6, u7, u8, u9, u10, u11, u12, u13, u14, rfl, rfl⟩
      walk_at "y"
      refine' s_ask ?g1 (D := D_law_limits M) ⟨d, rfl, rfl, fun ls lok => ?_⟩
      case g1 => walk_at "gets"
      walk_at "y"
      refine' s_ask ?g2 (D := D_law_drawn M) ⟨d, 3, rfl, rfl, by decide, by decide, fun c c0 c3 => ?_⟩
      case g2 => walk_at "gets"
      have six := lok.six
      have one := lok.one
      obtain ⟨fs, hfs⟩ : ∃ fs, fs = fsL ls := ⟨_, rfl⟩
      have ok : FOk fs := hfs ▸ fsL_ok lok
      have e2 : fs.map (·.2) = ls := hfs ▸ fsL_snd six
      have e1 : fs.map (·.1) = nm6.take ls.length := hfs ▸ fsL_fst
      have fl : fs.length = ls.length := hfs ▸ fsL_len six
      walk_at "y"
      refine s_slS ?_
      walk_at "y"
      rw [show (((ls.map Da.int).map Sl.da).length : Int) = (ls.length : Nat) by simp]
      refine s_slSK (by decide +kernel) ?_
      walk_at "y"
      refine s_listS (fs.map (·.1)) (by rw [e1]; exact fsL_cut ⟨ls.length, by omega⟩) (cutF_len ⟨ls.length, by omega⟩) (fun z hz => by
        rw [e1] at hz
        exact (by decide +kernel : ∀ z ∈ nm6, PyData.strOk z = true) z (List.mem_of_mem_take hz)) fun L => ?_
      refine gv_via (GhV.frz (fr_lst (xs := (fs.map (·.1)).map .str)) .here) ?_
      refine gv_id ?_
      walk_at "y"
      obtain ⟨l0, hl0⟩ : ∃ l, ls[0]? = some l := ⟨_, List.getElem?_eq_getElem (by omega)⟩
      have tk : ∀ i l, ls[i]? = some l → i < 6 → ∃ z, nm6[i]? = some z ∧ fs[i]? = some (z, l) := fun i l h i6 => by
        obtain ⟨z, hz⟩ : ∃ z, nm6[i]? = some z := ⟨_, List.getElem?_eq_getElem (show i < 6 from i6)⟩
        exact ⟨z, hz, by rw [hfs]; exact List.getElem?_zip_eq_some.mpr ⟨hz, h⟩⟩
      have pre : ∀ i, 1 ≤ i → FOk (fs.take i) := fun i h => by
        have : FOk (fs.take i ++ fs.drop i) := by rw [List.take_append_drop]; exact ok
        exact this.pre (by rw [List.length_take]; omega)
      obtain ⟨z0, hz0, hf0⟩ := tk 0 l0 hl0 (by decide)
      obtain rfl : z0 = ("f" : Str) := by have : nm6[0]? = some ("f" : Str) := rfl; rw [this] at hz0; cases hz0; rfl
      have t1 : fs.take 1 = [(("f" : Str), l0)] := by rw [show 1 = 0 + 1 from rfl, List.take_add_one, hf0]; rfl
      refine s_ix (w := .da (.int l0)) (.lst _) (atI_mm (i := 0) hl0) trivial ?_
      walk_at "y"
      refine s_ask0 (D := D_Farm M) ⟨[("f", l0)], rfl, rfl, t1 ▸ pre 1 (Nat.le_refl _), ?_⟩
      rw [← t1]
      walk_at "y"
      rw [show (((ls.map Da.int).map Sl.da).length : Int) = (ls.length : Nat) by simp]
      refine s_rng2K (by omega) ?_
      rw [show (((ls.length : Nat) : Int) - 1).toNat = ls.length - 1 by omega]
      refine s_forK (fun i sl rs => ∃ (u7 : Sl), sl = [.da (.scr ns), .raw (.ref d), y, .da (.lst (ls.map .int)), .da (.int (1 + c)), .da (.lst ((fs.map (·.1)).map .str)), .da (farmD M.a_Farm (fs.take (i + 1))), u7, u8, u9, u10, u11, u12, u13, u14] ∧ rs = [srcR d, tabR P0 lamNm]) ?_ ?_ ?_ ?_
      · exact gs_gets (rc := [srcR d, tabR P0 lamNm]) (by walk_at "gets") ⟨_, rfl, rfl⟩
      · exact fun _ _ _ _ => trivial
      · rintro j z sl rs hz ⟨u7, rfl, rfl⟩
        obtain ⟨jl, rfl⟩ := rngS_get hz
        obtain ⟨l, hl⟩ : ∃ l, ls[j + 1]? = some l := ⟨_, List.getElem?_eq_getElem (by omega)⟩
        obtain ⟨x, hx, hf⟩ := tk (j + 1) l hl (by omega)
        have hn : (fs.map (·.1))[j + 1]? = some x := by rw [List.getElem?_map, hf]; rfl
        have fm := List.mem_of_getElem? hf
        have e : fs.take (j + 1) ++ [(x, l)] = fs.take (j + 1 + 1) := by
          have h := List.take_add_one (l := fs) (i := j + 1)
          rw [hf] at h
          exact h.symm
        rw [show (1 : Int) + ((j : Nat) : Int) = ((j + 1 : Nat) : Int) by omega]
        walk_at "y"
        refine s_ask0 (D := D_Farm M) ⟨[(x, l)], rfl, rfl, ok.one_ fm, ?_⟩
        walk_at "y"
        refine s_own (s_ask0 (D := D_Farm___add__ M) ⟨fs.take (j + 1), [(x, l)], rfl, rfl, e ▸ pre _ (by omega), ?_⟩)
        rw [e]
        walk_at "y"
        exact gs_gets (rc := [srcR d, tabR P0 lamNm]) (by walk_at "gets") ⟨_, rfl, rfl⟩
      · rintro sl rs ⟨u7, rfl, rfl⟩
        rw [rngS_len, show ls.length - 1 + 1 = fs.length by omega, List.take_length]
        refine gs_id ?_
        walk_at "y"
        refine s_ask0 (D := D_law_sorted_divides M) ⟨ls, rfl, rfl, six, fun l hl => (lok.lo l hl).1, ?_⟩
        walk_at "y"
        refine s_ask0 (D := D_is_harmonic M) ⟨fs, rfl, rfl, ok, ?_⟩
        rw [e2]
        generalize hb : harmB ls = hrm
        walk_at "y"
        refine if_F (by simp) ?_
        refine s_outD (xc := xF) (by walk_at "ext") ?_
        walk_at "y"
        have xn : ∀ (T : QD K) (rs : List (Rs K)), T (.da (.tup [.str "InvalidNumber"])) rs → xO (ocs M.a_InvalidNumber M.a_NotHarmonic M.a_TooFewCarts) T ⟨M.a_InvalidNumber, none⟩ rs := fun T rs t => ⟨_, List.mem_cons_self, .inl ⟨rfl, rfl, t⟩⟩
        have xh : ∀ (T : QD K) (rs : List (Rs K)), T (.da (.tup [.str "NotHarmonic"])) rs → xO (ocs M.a_InvalidNumber M.a_NotHarmonic M.a_TooFewCarts) T ⟨M.a_NotHarmonic, none⟩ rs := fun T rs t => ⟨_, List.mem_cons_of_mem _ List.mem_cons_self, .inl ⟨rfl, rfl, t⟩⟩
        have xt : ∀ (T : QD K) (rs : List (Rs K)), T (.da (.tup [.str "TooFewCarts"])) rs → xO (ocs M.a_InvalidNumber M.a_NotHarmonic M.a_TooFewCarts) T ⟨M.a_TooFewCarts, none⟩ rs := fun T rs t => ⟨_, List.mem_cons_of_mem _ (List.mem_cons_of_mem _ List.mem_cons_self), .inl ⟨rfl, rfl, t⟩⟩
        refine s_ask0 (D := D_Rule M) ⟨fs, 0, rfl, rfl, ok, fun _ => xn _ _ ?_, fun h => absurd h (by decide), fun h => absurd h (by decide), fun h => absurd h (by decide)⟩
        walk_at "y"
        refine s_ne_d rfl rfl rfl ?_
        walk_at "y"
        refine if_F (by decide +kernel) ?_
        walk_at "y"
        refine s_cut (fun sl rs => ∃ (x : Da) (u7 : Sl), sl = [.da (.scr ns), .raw (.ref d), y, .da (.lst (ls.map .int)), .da (.int (1 + c)), .da (.lst ((fs.map (·.1)).map .str)), .da (farmD M.a_Farm fs), u7, .da (.bl hrm), .da x, .da (.int 1), u11, u12, u13, u14] ∧ rs = [srcR d, tabR P0 lamNm] ∧ (hrm = false ∧ x = .tup [.str "NotHarmonic"] ∨ hrm = true ∧ (1 + c) * (shrL fs).2 < (shrL fs).1 ∧ x = .tup [.str "TooFewCarts"] ∨ hrm = true ∧ (shrL fs).1 ≤ (1 + c) * (shrL fs).2 ∧ ∃ E, RuleOk fs (1 + c).toNat E ∧ x = ruleD M.a_Rule M.a_Farm fs E)) ?_ ?_
        · walk_at "y"
          refine s_outD (xc := xF) (by walk_at "ext") ?_
          walk_at "y"
          refine s_ask0 (D := D_Rule M) ⟨fs, 1 + c, rfl, rfl, ok, fun h => absurd (by omega) h, fun _ _ h => xh _ _ ?_, fun _ _ h h2 => xt _ _ ?_, fun _ _ h h2 E re => ?_⟩
          · rw [e2, hb] at h
            walk_at "y"
            exact gs_gets (rc := [srcR d, tabR P0 lamNm]) (by walk_at "gets") ⟨_, _, rfl, rfl, .inl ⟨h, rfl⟩⟩
          · rw [e2, hb] at h
            walk_at "y"
            exact gs_gets (rc := [srcR d, tabR P0 lamNm]) (by walk_at "gets") ⟨_, _, rfl, rfl, .inr (.inl ⟨h, h2, rfl⟩)⟩
          · rw [e2, hb] at h
            dsimp only [id]
            walk_at "y"
            exact gs_gets (rc := [srcR d, tabR P0 lamNm]) (by walk_at "gets") ⟨_, _, rfl, rfl, .inr (.inr ⟨h, h2, E, re, rfl⟩)⟩
        rintro sl rs ⟨x, u7, rfl, rfl, fnd⟩
        walk_at "y"
        have lo : ∀ f ∈ fs, 1 ≤ f.2 := fun f hf => (ok.lo f hf).1
        have pp : ∀ i, 1 ≤ prodL (ls.take i) ∧ prodL (ls.take i) ≤ 4000 := fun i => by
          have h1 := prodL_pos (l := ls.take i) fun x hx => (lok.lo x (List.mem_of_mem_take hx)).1
          have h2 := prod_pre (fs := fs) ok.lo i
          rw [List.map_take, e2] at h2
          have := lok.pr
          exact ⟨h1, by omega⟩
        refine s_forK (fun i sl rs => ∃ (u11 : Sl), sl = [.da (.scr ns), .raw (.ref d), y, .da (.lst (ls.map .int)), .da (.int (1 + c)), .da (.lst ((fs.map (·.1)).map .str)), .da (farmD M.a_Farm fs), u7, .da (.bl hrm), .da x, .da (.int (prodL (ls.take i))), u11, u12, u13, u14] ∧ rs = [srcR d, tabR P0 lamNm]) ?_ ?_ ?_ ?_
        · exact gs_id ⟨_, rfl, rfl⟩
        · exact fun _ _ _ _ => trivial
        · rintro j z sl rs hz ⟨u11, rfl, rfl⟩
          obtain ⟨l, hl, rfl⟩ := mm_get (cs := ls) hz
          have lb := lok.lo l (List.mem_of_getElem? hl)
          have pj := pp j
          have ep : prodL (ls.take j) * l = prodL (ls.take (j + 1)) := by rw [List.take_add_one, hl, Option.toList_some, prodL_snoc]
          walk_at "y"
          rw [ep]
          exact gs_id ⟨_, rfl, rfl⟩
        · rintro sl rs ⟨u11, rfl, rfl⟩
          rw [List.length_map, List.length_map, List.take_length]
          refine gs_id ?_
          have pe : prodL ls = (shrL fs).2 := by rw [shr_bot, e2]
          have pl := pp ls.length
          rw [List.take_length] at pl
          obtain ⟨_, _, ws, hw, hs⟩ := shr_ok lo
          have ew : ls.map (fun l => prodL ls / l) = ws := by
            rw [← wok_sum hw lo, ← pe]
            conv => lhs; rw [← e2]
            rw [List.map_map]
            rw [e2]
            rfl
          have sw : ∀ ws : List Int, ws.sum = sumL ws := by
            intro ws
            induction ws with
            | nil => rfl
            | cons w ws ih => rw [List.sum_cons, ih]; rfl
          walk_at "y"
          rcases fnd with ⟨rfl, rfl⟩ | ⟨rfl, ov, rfl⟩ | ⟨rfl, le, E, re, rfl⟩
          · refine if_T rfl ?_
            walk_at "y"
            refine if_T rfl ?_
            walk_at "y"
            refine if_F rfl ?_
            walk_at "y"
            refine s_ne_d rfl rfl rfl ?_
            walk_at "y"
            refine if_F (by decide +kernel) ?_
            exact gs_id ⟨_, _, _, _, _, _, _, _, _, _, _, _, _, rfl, rfl⟩
          · refine if_F rfl ?_
            walk_at "y"
            refine s_lcM ls (fun l => .da (.int l)) (fun l => .int (prodL ls / l)) (by rw [List.map_map]; rfl) (by omega) trivial (fun i l T hl ht => ?_) ?_
            · have lb := lok.lo l (List.mem_of_getElem? hl)
              walk_at "wipe"
              walk_at "y"
              exact ht
            walk_at "y"
            refine ⟨_, ls.map fun l => prodL ls / l, rfl, by rw [List.map_map]; exact .da _, ?_⟩
            rw [ew, sw, hs]
            walk_at "y"
            refine if_T (decide_eq_true (by rw [pe]; exact ov)) ?_
            walk_at "y"
            refine if_T rfl ?_
            walk_at "y"
            refine s_ne_d rfl rfl rfl ?_
            walk_at "y"
            refine if_F (by decide +kernel) ?_
            exact gs_id ⟨_, _, _, _, _, _, _, _, _, _, _, _, _, rfl, rfl⟩
          · refine if_F rfl ?_
            walk_at "y"
            refine s_lcM ls (fun l => .da (.int l)) (fun l => .int (prodL ls / l)) (by rw [List.map_map]; rfl) (by omega) trivial (fun i l T hl ht => ?_) ?_
            · have lb := lok.lo l (List.mem_of_getElem? hl)
              walk_at "wipe"
              walk_at "y"
              exact ht
            walk_at "y"
            refine ⟨_, ls.map fun l => prodL ls / l, rfl, by rw [List.map_map]; exact .da _, ?_⟩
            rw [ew, sw, hs]
            walk_at "y"
            refine if_F (decide_eq_false (by rw [pe]; omega)) ?_
            walk_at "y"
            refine' s_ask ?g5 (D := D_law_drawn M) ⟨d, 2, rfl, rfl, by decide, by decide, fun r r0 r2 => ?_⟩
            case g5 => walk_at "gets"
            walk_at "y"
            rw [show (10 : Int) ^ Int.toNat 18 - 100 = 999999999999999900 by decide +kernel]
            show aIx _ (.da (.int r)) _ _
            refine s_ix (w := .da (.int (if r = 0 then 40 else 999999999999999900))) (.lst _) (by rcases (by omega : r = 0 ∨ r = 1) with rfl | rfl <;> first | exact atI_c0 | exact atI_c1) trivial ?_
            obtain ⟨st, hst⟩ : ∃ h, h = if r = 0 then (40 : Int) else 999999999999999900 := ⟨_, rfl⟩
            have hi : 40 ≤ st ∧ st ≤ 999999999999999900 := by split at hst <;> omega
            rw [← hst]
            clear hst
            walk_at "y"
            refine' s_ask ?g6 (D := D_law_drawn M) ⟨d, st, rfl, rfl, by omega, by omega, fun s s0 s1 => ?_⟩
            case g6 => walk_at "gets"
            obtain ⟨n, hn⟩ : ∃ n : Nat, 1 + c = (n : Nat) := ⟨(1 + c).toNat, by omega⟩
            rw [hn, Int.toNat_natCast] at re
            rw [hn]
            have no : ("none" : Str) ∉ fs.map (·.1) := fun h => by
              rw [e1] at h
              exact absurd (List.mem_of_mem_take h) (by decide +kernel)
            walk_at "y"
            refine s_ask0 (D := D_law_rule_is_good M) ⟨fs, n, E, by rw [e2], rfl, ok, re, no, ?_⟩
            walk_at "y"
            refine if_F rfl ?_
            walk_at "y"
            refine s_ask0 (D := D_law_days_are_good M) ⟨fs, n, E, s, by rw [e2], rfl, ok, re, by omega, s0, by omega, ?_⟩
            walk_at "y"
            refine if_F rfl ?_
            walk_at "y"
            refine s_lamQ (by walk_at "ext") fun f1 => ?_
            walk_at "y"
            refine s_lamQ (by walk_at "ext") fun f2 => ?_
            walk_at "y"
            refine s_lamQ (by walk_at "ext") fun f3 => ?_
            walk_at "y"
            refine s_mkR (by walk_at "size") fun L1 => ?_
            walk_at "y"
            have f0m := List.mem_of_getElem? hf0
            obtain ⟨p0, hp0, _⟩ := re.at_ ok.nd f0m (lo _ f0m)
            refine' s_outs ([f1, f2, f3].map fun f => (f, .tup [.str "InvalidNumber"])) rfl (by simp) ?ok (by simp) (by simp only [List.set]; rfl) ?hs ?hd
            case ok => exact ⟨_, by walk_at "ext"⟩
            case hs =>
              simp only [List.map_cons, List.map_nil]
              refine .cons (by walk_at "ext") (fun T t => ?_) ?_
              · walk_at "y"
                exact s_ask0 (D := D_Rule___call__ M) ⟨fs, n, E, _, rfl, rfl, ok, re, by omega, fun h => absurd h (by decide), fun _ => xn T _ t⟩
              refine .cons (by walk_at "ext") (fun T t => ?_) ?_
              · walk_at "y"
                exact s_ask0 (D := D_Rule___call__ M) ⟨fs, n, E, _, rfl, rfl, ok, re, by omega, fun _ h => absurd h (by decide +kernel), fun _ => xn T _ t⟩
              refine .cons (by walk_at "ext") (fun T t => ?_) ?_
              · walk_at "y"
                exact s_ask0 (D := D_Rule_count M) ⟨fs, n, E, ("f", l0), p0, _, rfl, rfl, ok, re, f0m, hp0, fun h => absurd h (by decide), fun _ => xn T _ t⟩
              exact .nil
            simp only [List.map_cons, List.map_nil]
            walk_at "y"
            refine s_repL (by decide) (by decide) ?_
            refine s_p2 (s_ne_d rfl rfl rfl ?_)
            rw [show PyData.eqv (pyD (.lst [.tup [.str "InvalidNumber"], .tup [.str "InvalidNumber"], .tup [.str "InvalidNumber"]])) (pyD (.lst (List.replicate (Int.toNat 3) (.tup [.str "InvalidNumber"])))) = true by
              show PyData.eqv _ (pyD (.lst (List.replicate 3 _))) = true
              simp [pyD, pyDs, PyData.eqv, PyData.eqvAll, List.replicate]]
            walk_at "y"
            refine if_F rfl ?_
            exact gs_gets (rc := [srcR d, tabR P0 lamNm]) (by walk_at "gets") ⟨_, _, _, _, _, _, _, _, _, _, _, _, _, rfl, rfl⟩
    · rintro sl rs ⟨u2, u3, u4, u5, u6, u7, u8, u9, u10, u11, u12, u13, u14, rfl, rfl⟩
      refine gs_id ?_
      walk_at "y"
      exact gv_nil k
  obtain ⟨t', h1, h2⟩ := key
  exact ⟨t', PSs.nox h1, h2⟩

end
end HC
namespace HC
open PyProof.Rows PySem L2 PySem.Spec
theorem endFacts {P : Program} {w : World} {K : PySem.W.Frag} {h : Heap} {mg : Str → Option Value} {f : Addr} (X : K.In h) (G : h.Ns mainGlobals mg) (hfa : mg ("law" : Str) = some (.ref f)) (cc : SaysL endFx endFa endFn endTf h K) :
    ∃ fd : FuncData, (∀ (s : Shared) (v : Value), BindsTo s fd ⟨[v], []⟩ [("_law_script", v)]) ∧ ∀ base : Heap, K.In base → base.Ns mainGlobals mg → (∀ p ∈ endTf.map (He.cT K), LamX.TabB base mg p.1 p.2) → FnOk P w K mg base CX0 26 f fd ["_law_script"] (sp_law K (He.cT K ("law", none)).2) := by
  have c := cc.j
  have hB : Bts mg := ⟨He.free_ok X G (c.base.fact 0 rfl), He.free_ok X G (c.base.fact 1 rfl), He.free_ok X G (c.base.fact 2 rfl), He.free_ok X G (c.base.fact 3 rfl), He.free_ok X G (c.base.fact 4 rfl), He.free_ok X G (c.base.fact 5 rfl), He.free_ok X G (c.base.fact 6 rfl), He.free_ok X G (c.base.fact 7 rfl), He.free_ok X G (c.base.fact 8 rfl), He.free_ok X G (c.base.fact 9 rfl), He.free_ok X G (c.base.fact 10 rfl), He.free_ok X G (c.base.fact 11 rfl), He.free_ok X G (c.base.fact 12 rfl), He.free_ok X G (c.base.fact 13 rfl), He.free_ok X G (c.base.fact 14 rfl), He.free_ok X G (c.base.fact 15 rfl), He.free_ok X G (c.base.fact 16 rfl), He.free_ok X G (c.base.fact 17 rfl), He.free_ok X G (c.base.fact 18 rfl)⟩
  have g_Farm : mg "Farm" = some (.ref (He.ga K "Farm")) := He.glo_ok X G (c.base.fact 23 rfl)
  have g_Rule : mg "Rule" = some (.ref (He.ga K "Rule")) := He.glo_ok X G (c.base.fact 25 rfl)
  have g_InvalidNumber : mg "InvalidNumber" = some (.ref (He.ga K "InvalidNumber")) := He.glo_ok X G (c.base.fact 40 rfl)
  have g_NotHarmonic : mg "NotHarmonic" = some (.ref (He.ga K "NotHarmonic")) := He.glo_ok X G (c.base.fact 41 rfl)
  have g_TooFewCarts : mg "TooFewCarts" = some (.ref (He.ga K "TooFewCarts")) := He.glo_ok X G (c.base.fact 42 rfl)
  have g__law_outcome : mg "_law_outcome" = some (.ref (He.ga K "_law_outcome")) := He.glo_ok X G (c.base.fact 43 rfl)
  have cl_Farm : Cls K (He.ga K "Farm") := He.cls_ok (c.base.fact 24 rfl)
  have cl_Rule : Cls K (He.ga K "Rule") := He.cls_ok (c.base.fact 26 rfl)
  have na_Farm_rows : NoAttr K (He.ga K "Farm") "rows" := He.noat_ok (c.base.fact 44 rfl)
  have na_Rule_farm : NoAttr K (He.ga K "Rule") "farm" := He.noat_ok (c.base.fact 45 rfl)
  have na_Rule_classes : NoAttr K (He.ga K "Rule") "classes" := He.noat_ok (c.base.fact 46 rfl)
  obtain ⟨M, e_Farm, e_Rule, e_InvalidNumber, e_NotHarmonic, e_TooFewCarts⟩ : ∃ M : Md K mg, M.a_Farm = He.ga K "Farm" ∧ M.a_Rule = He.ga K "Rule" ∧ M.a_InvalidNumber = He.ga K "InvalidNumber" ∧ M.a_NotHarmonic = He.ga K "NotHarmonic" ∧ M.a_TooFewCarts = He.ga K "TooFewCarts" := ⟨{ b := hB, g_LETTERS := He.str_ok X G (c.base.fact 19 rfl), g_MAX_LETTERS := He.int_ok X G (c.base.fact 20 rfl), g_MAX_LIMIT := He.int_ok X G (c.base.fact 21 rfl), g_MAX_DAY := He.int_ok X G (c.base.fact 22 rfl), k_Farm_MAX_FIELDS := gconB_ok g_Farm (c.more 4 rfl), k_Farm_MAX_STATES := gconB_ok g_Farm (c.more 5 rfl), a_Farm := He.ga K "Farm", a_Rule := He.ga K "Rule", a_InvalidNumber := He.ga K "InvalidNumber", a_NotHarmonic := He.ga K "NotHarmonic", a_TooFewCarts := He.ga K "TooFewCarts", self_Farm := ((c.more 9 rfl)), f_Farm := ⟨cl_Farm, na_Farm_rows⟩, f_Rule := ⟨ ⟨cl_Rule, na_Rule_farm⟩, ⟨cl_Rule, na_Rule_classes⟩ ⟩ }, rfl, rfl, rfl, rfl, rfl⟩
  have G_is_name : Gd K mg "is_name" s_is_name := by
    obtain ⟨fd, F⟩ := c.base.def_ 0 rfl
    exact ⟨_, fd, He.glo_ok X G (c.base.fact 27 rfl), F⟩
  have G_validate_number : Gd K mg "validate_number" s_validate_number := by
    obtain ⟨fd, F⟩ := c.base.def_ 1 rfl
    exact ⟨_, fd, He.glo_ok X G (c.base.fact 28 rfl), F⟩
  have G_greatest_divisor : Gd K mg "greatest_divisor" s_greatest_divisor := by
    obtain ⟨fd, F⟩ := c.base.def_ 2 rfl
    exact ⟨_, fd, He.glo_ok X G (c.base.fact 29 rfl), F⟩
  have G_is_harmonic : Gd K mg "is_harmonic" s_is_harmonic := by
    obtain ⟨fd, F⟩ := c.base.def_ 3 rfl
    exact ⟨_, fd, He.glo_ok X G (c.base.fact 30 rfl), F⟩
  have G_law_start : Gd K mg "_law_start" s_law_start := by
    obtain ⟨fd, F⟩ := c.base.def_ 4 rfl
    exact ⟨_, fd, He.glo_ok X G (c.base.fact 31 rfl), F⟩
  have G_law_drawn : Gd K mg "_law_drawn" s_law_drawn := by
    obtain ⟨fd, F⟩ := c.base.def_ 5 rfl
    exact ⟨_, fd, He.glo_ok X G (c.base.fact 32 rfl), F⟩
  have G_law_same : Gd K mg "_law_same" s_law_same := by
    obtain ⟨fd, F⟩ := c.base.def_ 6 rfl
    exact ⟨_, fd, He.glo_ok X G (c.base.fact 33 rfl), F⟩
  have G_law_outcome : Gd K mg "_law_outcome" s_law_outcome := by
    obtain ⟨fd, F⟩ := c.base.def_ 7 rfl
    exact ⟨_, fd, He.glo_ok X G (c.base.fact 43 rfl), F⟩
  have G_law_limits : Gd K mg "_law_limits" s_law_limits := by
    obtain ⟨fd, F⟩ := c.base.def_ 8 rfl
    exact ⟨_, fd, He.glo_ok X G (c.base.fact 35 rfl), F⟩
  have G_law_sorted_divides : Gd K mg "_law_sorted_divides" s_law_sorted_divides := by
    obtain ⟨fd, F⟩ := c.base.def_ 9 rfl
    exact ⟨_, fd, He.glo_ok X G (c.base.fact 36 rfl), F⟩
  have G_law_rule_is_good : Gd K mg "_law_rule_is_good" s_law_rule_is_good := by
    obtain ⟨fd, F⟩ := c.base.def_ 10 rfl
    exact ⟨_, fd, He.glo_ok X G (c.base.fact 37 rfl), F⟩
  have G_law_days_are_good : Gd K mg "_law_days_are_good" s_law_days_are_good := by
    obtain ⟨fd, F⟩ := c.base.def_ 11 rfl
    exact ⟨_, fd, He.glo_ok X G (c.base.fact 38 rfl), F⟩
  have G_Farm___add__ : Gm K M.a_Farm "__add__" "Farm.__add__" s_Farm___add__ := by
    rw [e_Farm]
    obtain ⟨fd, F⟩ := c.base.def_ 13 rfl
    exact ⟨cl_Farm, _, fd, He.meth_ok (c.base.fact 47 rfl), F⟩
  have G_Farm___getitem__ : Gm K M.a_Farm "__getitem__" "Farm.__getitem__" s_Farm___getitem__ := by
    rw [e_Farm]
    obtain ⟨fd, F⟩ := c.base.def_ 14 rfl
    exact ⟨cl_Farm, _, fd, He.meth_ok (c.base.fact 48 rfl), F⟩
  have G_Rule___call__ : Gm K M.a_Rule "__call__" "Rule.__call__" s_Rule___call__ := by
    rw [e_Rule]
    obtain ⟨fd, F⟩ := c.base.def_ 15 rfl
    exact ⟨cl_Rule, _, fd, He.meth_ok (c.base.fact 49 rfl), F⟩
  have G_Rule___getitem__ : Gm K M.a_Rule "__getitem__" "Rule.__getitem__" s_Rule___getitem__ := by
    rw [e_Rule]
    obtain ⟨fd, F⟩ := c.base.def_ 16 rfl
    exact ⟨cl_Rule, _, fd, He.meth_ok (c.base.fact 50 rfl), F⟩
  have G_Rule_count : Gm K M.a_Rule "count" "Rule.count" s_Rule_count := by
    rw [e_Rule]
    obtain ⟨fd, F⟩ := c.base.def_ 17 rfl
    exact ⟨cl_Rule, _, fd, He.meth_ok (c.base.fact 51 rfl), F⟩
  have G_Farm___init__ : Gk K mg "Farm" M.a_Farm "Farm.__init__" s_Farm___init__ := by
    rw [e_Farm]
    obtain ⟨fd, F⟩ := c.base.def_ 18 rfl
    exact ⟨g_Farm, _, fd, He.mkr_ok (c.base.fact 52 rfl), F⟩
  have G_Rule___init__ : Gk K mg "Rule" M.a_Rule "Rule.__init__" s_Rule___init__ := by
    rw [e_Rule]
    obtain ⟨fd, F⟩ := c.base.def_ 19 rfl
    exact ⟨g_Rule, _, fd, He.mkr_ok (c.base.fact 53 rfl), F⟩
  have G_Farm_names : Gp K M.a_Farm "names" "Farm.names" s_Farm_names := by
    rw [e_Farm]
    obtain ⟨fd, F⟩ := c.base.def_ 20 rfl
    exact ⟨cl_Farm, _, _, fd, propB_ok (c.more 0 rfl), F⟩
  have G_Farm_limits : Gp K M.a_Farm "limits" "Farm.limits" s_Farm_limits := by
    rw [e_Farm]
    obtain ⟨fd, F⟩ := c.base.def_ 21 rfl
    exact ⟨cl_Farm, _, _, fd, propB_ok (c.more 1 rfl), F⟩
  have G_Farm_fields : Gp K M.a_Farm "fields" "Farm.fields" s_Farm_fields := by
    rw [e_Farm]
    obtain ⟨fd, F⟩ := c.base.def_ 22 rfl
    exact ⟨cl_Farm, _, _, fd, propB_ok (c.more 2 rfl), F⟩
  have G_Farm_share : Gp K M.a_Farm "share" "Farm.share" s_Farm_share := by
    rw [e_Farm]
    obtain ⟨fd, F⟩ := c.base.def_ 23 rfl
    exact ⟨cl_Farm, _, _, fd, propB_ok (c.more 3 rfl), F⟩
  obtain ⟨fd, F⟩ := c.base.def_ 12 rfl
  have e := hfa.symm.trans (He.glo_ok X G (c.base.fact 39 rfl))
  cases e
  have b := FunD.bindsA (ps := ["_law_script"]) F fun _ _ _ _ _ _ us hl => match us, hl with | [_], _ => rfl
  refine ⟨fd, fun s v => b s [v] rfl, fun base _ _ tabs => ?_⟩
  have R_InvalidNumber : ExcT K mg "InvalidNumber" M.a_InvalidNumber := by
    rw [e_InvalidNumber]
    exact excTB_ok g_InvalidNumber (c.more 6 rfl)
  have R_NotHarmonic : ExcT K mg "NotHarmonic" M.a_NotHarmonic := by
    rw [e_NotHarmonic]
    exact excTB_ok g_NotHarmonic (c.more 7 rfl)
  have R_TooFewCarts : ExcT K mg "TooFewCarts" M.a_TooFewCarts := by
    rw [e_TooFewCarts]
    exact excTB_ok g_TooFewCarts (c.more 8 rfl)
  have R_validate_number := ok_validate_number (P := P) (w := w) (base := base) M G_validate_number R_InvalidNumber
  have P_Farm_names := ok_Farm_names (P := P) (w := w) (base := base) M G_Farm_names 
  have P_Farm_limits := ok_Farm_limits (P := P) (w := w) (base := base) M G_Farm_limits 
  have P_Farm_fields := ok_Farm_fields (P := P) (w := w) (base := base) M G_Farm_fields 
  have R_is_name := ok_is_name (P := P) (w := w) (base := base) M G_is_name 
  have KR_Farm := ok_Farm___init__ (P := P) (w := w) (base := base) M G_Farm___init__ R_is_name
  have K_Farm : MakeD P w K mg base "Farm" M.a_Farm _ _ _ := ⟨KR_Farm, mk_Farm M⟩
  have M_Farm___add__ := ok_Farm___add__ (P := P) (w := w) (base := base) M G_Farm___add__ K_Farm
  have FI_Farm___getitem__ := fi_of G_Farm___getitem__
  have M_Farm___getitem__ := ok_Farm___getitem__ (P := P) (w := w) (base := base) M G_Farm___getitem__ 
  have R_law_drawn := ok_law_drawn (P := P) (w := w) (base := base) M G_law_drawn
  have R_law_start := ok_law_start (P := P) (w := w) (base := base) M G_law_start 
  have R_greatest_divisor := ok_greatest_divisor (P := P) (w := w) (base := base) M G_greatest_divisor 
  have P_Farm_share := ok_Farm_share (P := P) (w := w) (base := base) M G_Farm_share R_greatest_divisor
  have R_is_harmonic := ok_is_harmonic (P := P) (w := w) (base := base) M G_is_harmonic P_Farm_limits
  have KR_Rule := ok_Rule___init__ (P := P) (w := w) (base := base) M G_Rule___init__ R_validate_number R_is_harmonic R_NotHarmonic R_TooFewCarts P_Farm_share P_Farm_limits P_Farm_names
  have K_Rule : MakeD P w K mg base "Rule" M.a_Rule _ _ _ := ⟨KR_Rule, mk_Rule M⟩
  have FI_Rule___getitem__ := fi_of G_Rule___getitem__
  have FI_Rule___call__ := fi_of G_Rule___call__
  have M_Rule___getitem__ := ok_Rule___getitem__ (P := P) (w := w) (base := base) M G_Rule___getitem__ 
  have M_Rule___call__ := ok_Rule___call__ (P := P) (w := w) (base := base) M G_Rule___call__ R_validate_number P_Farm_names M_Farm___getitem__ FI_Farm___getitem__
  have M_Rule_count := ok_Rule_count (P := P) (w := w) (base := base) M G_Rule_count R_validate_number M_Farm___getitem__ FI_Farm___getitem__
  have R_law_same := ok_law_same (P := P) (w := w) (base := base) M G_law_same 4
  have R_law_limits := ok_law_limits (P := P) (w := w) (base := base) M G_law_limits R_law_drawn
  have R_law_sorted_divides := ok_law_sorted_divides (P := P) (w := w) (base := base) M G_law_sorted_divides 
  have R_law_rule_is_good := ok_law_rule_is_good (P := P) (w := w) (base := base) M G_law_rule_is_good M_Rule___getitem__ FI_Rule___getitem__
  have R_law_days_are_good := ok_law_days_are_good (P := P) (w := w) (base := base) M G_law_days_are_good R_law_same M_Rule___getitem__ FI_Rule___getitem__ M_Rule___call__ FI_Rule___call__ M_Rule_count
  have nNH : (He.ga K "InvalidNumber") ≠ (He.ga K "NotHarmonic") := of_decide_eq_true (c.more 19 rfl)
  have nNC : (He.ga K "InvalidNumber") ≠ (He.ga K "TooFewCarts") := of_decide_eq_true (c.more 20 rfl)
  have nHC : (He.ga K "NotHarmonic") ≠ (He.ga K "TooFewCarts") := of_decide_eq_true (c.more 21 rfl)
  have nHN := Ne.symm nNH
  have nCN := Ne.symm nNC
  have nCH := Ne.symm nHC
  have O : OutF K mg M.a_InvalidNumber M.a_NotHarmonic M.a_TooFewCarts := by
    rw [e_InvalidNumber, e_NotHarmonic, e_TooFewCarts]
    refine ⟨g_InvalidNumber, g_NotHarmonic, g_TooFewCarts, ⟨fun o ho p hp => ?_, fun o ho p hp e => ?_⟩⟩
    · simp only [ocs, List.mem_cons, List.not_mem_nil, or_false] at ho hp
      rcases ho with rfl | rfl | rfl <;> rcases hp with rfl | rfl | rfl
      · exact (of_decide_eq_true (p := _ = some true) (c.more 10 rfl)).trans (by simp)
      · exact (of_decide_eq_true (p := _ = some false) (c.more 11 rfl)).trans (by simp [nNH])
      · exact (of_decide_eq_true (p := _ = some false) (c.more 12 rfl)).trans (by simp [nNC])
      · exact (of_decide_eq_true (p := _ = some false) (c.more 13 rfl)).trans (by simp [nHN])
      · exact (of_decide_eq_true (p := _ = some true) (c.more 14 rfl)).trans (by simp)
      · exact (of_decide_eq_true (p := _ = some false) (c.more 15 rfl)).trans (by simp [nHC])
      · exact (of_decide_eq_true (p := _ = some false) (c.more 16 rfl)).trans (by simp [nCN])
      · exact (of_decide_eq_true (p := _ = some false) (c.more 17 rfl)).trans (by simp [nCH])
      · exact (of_decide_eq_true (p := _ = some true) (c.more 18 rfl)).trans (by simp)
    · simp only [ocs, List.mem_cons, List.not_mem_nil, or_false] at ho hp
      rcases ho with rfl | rfl | rfl <;> rcases hp with rfl | rfl | rfl
      · rfl
      · exact absurd e nNH
      · exact absurd e nNC
      · exact absurd e nHN
      · rfl
      · exact absurd e nHC
      · exact absurd e nCN
      · exact absurd e nCH
      · rfl
  obtain ⟨fdo, F_out⟩ := c.base.def_ 7 rfl
  have B_out := FunD.bindsN (ps := ["_law_work"]) F_out (fun _ _ _ _ _ _ us hl => match us, hl with | [_], _ => rfl)
  exact ok_law M F (tabs _ (List.mem_map.mpr ⟨("law", none), by simp [endTf], rfl⟩)) (code_at (p := ("law", none)) F) O g__law_outcome F_out B_out R_law_start R_law_drawn R_law_limits R_law_sorted_divides R_law_rule_is_good R_law_days_are_good R_is_harmonic K_Farm M_Farm___add__ K_Rule M_Rule___call__ FI_Rule___call__ M_Rule_count
end HC
theorem PySem.Challenge.cw_harvestcarts_k07_harmonic_rules_holds : PySem.Challenge.rw_harvestcarts_k07_harmonic_rules.Holds := by
  exact HC.endHead @HC.endFacts
