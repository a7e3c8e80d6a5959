import PyProof.Rows.All
import Wide.All
import OpenK.AllK
import Wide.FinOn
import KE.KStateDown
import KE.GoesNew
import KE.GoesMore
import HandS.ForMost
import HandS.ForExc
import HandS.Defaults
import HandS.Star
import HandS.Property
import HandS.ClsMeth
import HandS.IsInst
import HandS.Style
import HandS.TupAny
import HandS.Deep
import HandS.Replace
import HandS.Conv
import HandS.Walk
import HandS.Codes
import HandS.Zip
import HandS.Steps
import HandS.Evl
import Lean
import HandS.Head0
import HandS.Head1
import HandS.Head2
import HandS.HeadEnd
import HandS.HeadHook1
import HandS.HeadHook2
import HandS.HeadHook3
import HandS.HeadNt
import OpenK.KMeth
import KE.KOpsOwn
import KE.KStar
import PyProof.SetRoads
import PyProof.Rows.SetFrom
import PyProof.Rows.SetObj
import PyProof.WalksMore
import PyProof.ListStr
import HandS.GenYield
import HandS.GenCall
import HandS.GenList
import HandS.NamedTupSort
import PyProof.InstEq
import KE.KUnpackStar
import HandS.FStr
import HandS.Text
import PyProof.CallStr
import KE.KIntText
import HandS.ExcInit
import HandS.ExcField
import HandS.ExcOwn
import HandS.ExcIs
import HandS.TryMany
import HandS.SuiteRaise
import HandS.Lambda
import HandS.Nested
import KE.KDflt
import HandS.TryOnly
import HandS.EndTab
import HandS.HeadHook4
import HandS.HeadWalk
import HandS.NestedK
import KE.KExcIs
import KE.KxField
import HandS.TupMul
import HandS.Strs
import PySem.Challenge.RW_harvestcarts_k59_whole_charts_of_worked
set_option Elab.async false
set_option linter.all false
set_option maxRecDepth 100000
set_option maxHeartbeats 4100000
/-! promises of defs, methods, makers and properties, and how a call uses them: each by the layer's own rule -/
namespace HC
open PyProof.Rows PySem L2 PySem.Spec
abbrev CXW (P : Program) (w : World) : CXT := L2.CX P w
section
variable {P : Program} {w : World} {K : PySem.W.Frag}
variable {mg : Str → Option Value} {base : Heap} {k : Nat} {f : Addr} {sp : Sp}
/-- a def that takes its parameters by place and keeps sp -/
def FnU (P : Program) (w : World) (K : PySem.W.Frag) (mg : Str → Option Value) (base : Heap) (k : Nat) (f : Addr) (sp : Sp) : Prop := ∃ fd ps, FnOk P w K mg base (CXW P w) k f fd ps sp ∧ Binds K fd ps []
theorem fnr_mk {fd : FuncData} {ps : List Str} (F : FnOk P w K mg base (CXW P w) k f fd ps sp) (B : Binds K fd ps []) : FnU P w K mg base k f sp := ⟨fd, ps, F, B⟩
theorem FnU.raw (F : FnU P w K mg base k f sp) : FnR P w K mg base (CXW P w) k f sp := by
  obtain ⟨fd, ps, F, B⟩ := F
  refine FnR.imp (F.raw B .nil) fun vs H Q E h => ?_
  simpa using h
/-- the module's def x keeps sp -/
structure DefR (P : Program) (w : World) (K : PySem.W.Frag) (mg : Str → Option Value) (base : Heap) (x : Str) (k : Nat) (sp : Sp) : Prop where
  ex : ∃ f, mg x = some (.ref f) ∧ PySem.W.keepIn K (.ref f) = true ∧ FnU P w K mg base k f sp
/-- the method m of the class at C keeps sp -/
structure MethR (P : Program) (w : World) (K : PySem.W.Frag) (mg : Str → Option Value) (base : Heap) (C : Addr) (m : Str) (k : Nat) (sp : Sp) : Prop where
  cl : Cls K C
  ex : ∃ f, Meth K C m f ∧ FnR P w K mg base (CXW P w) k f sp
theorem MethR.at_ {C : Addr} {m : Str} (M : MethR P w K mg base C m k sp) : Meth K C m M.ex.choose := M.ex.choose_spec.1
theorem MethR.fn {C : Addr} {m : Str} (M : MethR P w K mg base C m k sp) : FnR P w K mg base (CXW P w) k M.ex.choose sp := M.ex.choose_spec.2
/-- the class x at C is made by an __init__ that keeps sp -/
structure MakeR (P : Program) (w : World) (K : PySem.W.Frag) (mg : Str → Option Value) (base : Heap) (x : Str) (C : Addr) (k : Nat) (sp : Sp) : Prop where
  at_ : mg x = some (.ref C)
  ex : ∃ f, Mk K C f ∧ FnR P w K mg base (CXW P w) k f sp
/-- the property f of the class at C -/
structure PropR (P : Program) (w : World) (K : PySem.W.Frag) (mg : Str → Option Value) (base : Heap) (C : Addr) (f : Str) (k : Nat) (sp : Sp) : Prop where
  cl : Cls K C
  ex : ∃ p g, PropOf K C f p g ∧ FnU P w K mg base k g sp
/-- what a body owes, the frame's slots laid as start says -/
abbrev Owes (P : Program) (w : World) (K : PySem.W.Frag) (mg : Str → Option Value) (base : Heap) (N : List Str) (qual : Str) (scope : Scope) (body : List Stmt) (k : Nat) (f : Addr) (sp : Sp) (cdv : Value) : Prop :=
  ∀ (A : Around) (outer : List Env) (s : Shared) (H : Hp) (vs : List V) (Q : VK) (E : XK),
    Room k (A.deeper (envOfC qual scope s.heap.objs.size f cdv)) → sp vs H Q E →
    ∃ t, PSs (cxOf (CXW P w) P w K mg base N qual scope f cdv A outer s H E) body t ∧ t { nx := fun _ H' => Q .non H', rt := Q } (start N vs) H
/-- def f(self, *v): by the layer's fn_star -/
theorem fnr_star1 {x qual : Str} {params : Arguments} {body : List Stmt} {scope : Scope} {fd : FuncData} {N : List Str} {p1 pv : Str} (F : FunD K x qual params body scope [] [] f fd) (S : FnScope N ([p1] ++ [pv]) scope)
    (h0 : ∀ (kV doc pm : Value) (an : Option Addr) (cdv ct : Value) (a : Value), bindArgs (PySem.W.fnOf x qual params body scope .none kV doc pm an cdv ct) ⟨[a], []⟩ = (newTuple [] >>= fun t => pure [(p1, a), (pv, t)]))
    (h1 : ∀ (kV doc pm : Value) (an : Option Addr) (cdv ct : Value) (a r : Value) (rs : List Value), bindArgs (PySem.W.fnOf x qual params body scope .none kV doc pm an cdv ct) ⟨a :: r :: rs, []⟩ = (newTuple (r :: rs) >>= fun t => pure [(p1, a), (pv, t)]))
    (owes : ∀ cdv, Owes P w K mg base N qual scope body k f sp cdv) :
    FnR P w K mg base (CXW P w) (k + 1) f (fun vs H Q E => ∃ w0 rest, vs = w0 :: rest ∧ rest.length ≤ sizeLine ∧ ∀ p, H p = none → sp [w0, V.ref p] (upd H p (.tup rest)) Q E) := by
  rcases F.ex with ⟨c1, c2, dv, kv, dc, pm, an, cdv, ct, sl, e, at_, code, dfl, _⟩
  subst e
  have dn : dv = .none := dfl.elim (fun z => z.2) (fun z => absurd rfl z.1)
  subst dn
  have both := StX.bind_star1 (B := fun us => bindArgs (PySem.W.fnOf x qual params body scope .none kv dc pm an cdv ct) ⟨us, []⟩) (h0 kv dc pm an cdv ct) (h1 kv dc pm an cdv ct)
  exact FnR.imp (StX.fn_star (P := P) (w := w) (mg := mg) (base := base) (k := k) (sp := sp) at_ code S StX.cxUp both (owes cdv)) fun vs H Q E ⟨w0, rest, z, hl, h⟩ => ⟨[w0], rest, z, rfl, hl, h⟩
end
section
variable {X : Cx} {k : Nat} {C : Addr} {sp : Sp} {E : XK} {x m f : Str} {e o : Expr} {es : List Expr} {ta te : TE} {t : TA} {p pos apos : Pos}
theorem passN : Passes (CXW X.prog X.w) X E0 := passL
/-- f(e, ..) -/
def tCallR (sp : Sp) (E : XK) (t : TA) : TE := fun σ H Q => t σ H fun vs H1 => sp vs H1 Q E
theorem tCallR_eq (sp : Sp) (E : XK) (t : TA) : tCall sp [] E t = tCallR sp E t := by
  funext σ H Q
  simp only [tCall, tCallR, List.append_nil]
theorem pe_callR (D : DefR X.prog X.w X.K X.mg X.base x k sp) (room : Room k X.A) (leave : Passes (CXW X.prog X.w) X E) (args : PA X (e :: es) t) (glob : Gl X x := by rfl) (nodeb : (x == ("__debug__" : Str)) = false := by decide) (one : starEach (e :: es) X.env = (false, eval e X.env) :: starEach es X.env := by rfl) (plain : (backTo pos (starEach es X.env)).any (·.1) = false := by rfl) : PE X (.Call (.Name x p) (e :: es) [] pos) (tCallR sp E t) := by
  obtain ⟨g, at_, kp, fd, ps, F, B⟩ := D.ex
  rw [← tCallR_eq]
  exact pe_call F room glob at_ kp B .nil leave args nodeb one plain
/-- f( *e) -/
def tStar1 (K : PySem.W.Frag) (te : TE) : TA := fun σ H Q => te σ H fun y H1 => ∃ a xs, y = V.ref a ∧ (SqT K H1 a xs ∨ SqL K H1 a xs) ∧ Q xs H1
/-- C( *e): the class stands in K, so it is called as a def of K is -/
theorem pe_makeS (M : MakeR X.prog X.w X.K X.mg X.base x C k sp) (room : Room (k + 1) X.A) (leave : Passes (CXW X.prog X.w) X E) (arg : PE X e te) (glob : Gl X x := by rfl) (nodeb : (x == ("__debug__" : Str)) = false := by decide) (one : starEach [.Starred e apos] X.env = [(true, eval e X.env)] := by rfl) : PE X (.Call (.Name x p) [.Starred e apos] [] pos) (StX.tMakeR C sp E (tStar1 X.K te)) := by
  constructor
  intro pn sh σ H Q inv h
  obtain ⟨g, made, F⟩ := M.ex
  have argRun := arg.run pn sh σ H _ inv h
  refine wpAny_Call_Name_kw (ld_glob inv glob M.at_ (PySem.W.callWith_S (h₀ := X.base) inv.ok.mod.kin made.kp (thn argRun ?_) one) nodeb)
  rintro v s1 ⟨y, H1, inv1, rel, a, xs, rfl, sq, q⟩
  cases rel
  exact StX.star_any inv1 sq fun us s2 inv2 vals => ⟨inv2.kIn, StX.run_makeR made F room leave inv2 vals q⟩
/-- C(e, ..) -/
theorem pe_makeP (M : MakeR X.prog X.w X.K X.mg X.base x C k sp) (room : Room (k + 1) X.A) (leave : Passes (CXW X.prog X.w) X E) (args : PA X (e :: es) t) (glob : Gl X x := by rfl) (nodeb : (x == ("__debug__" : Str)) = false := by decide) (one : starEach (e :: es) X.env = (false, eval e X.env) :: starEach es X.env := by rfl) (plain : (backTo pos (starEach es X.env)).any (·.1) = false := by rfl) : PE X (.Call (.Name x p) (e :: es) [] pos) (StX.tMakeR C sp E t) := by
  obtain ⟨g, made, F⟩ := M.ex
  exact StX.pe_makeR made F room glob M.at_ leave args nodeb one plain
/-- o.f, a property -/
def tPropR (C : Addr) (sp : Sp) (ta : TE) : TE := tProp C sp [] E0 ta
theorem pe_propR (M : PropR X.prog X.w X.K X.mg X.base C f k sp) (room : Room (k + 1) X.A) (obj : PE X e ta) (plain : attributeBase e f X.env (eval e X.env) = eval e X.env := by rfl) : PE X (.Attribute e f pos) (tPropR C sp ta) := by
  obtain ⟨pr, g, is, fd, ps, F, B⟩ := M.ex
  exact pe_prop (CX := CXW X.prog X.w) obj M.cl is F room B .nil (passL (X := X.nox)) plain
/-- len(o), o an instance with an own __len__ -/
def rLenO (C : Addr) (sp : Sp) : List V → Hp → VK → Prop := fun xs H Q => ∃ a dx fs, xs = [.ref a] ∧ H a = some (.ins C dx fs) ∧ sp [.ref a] H (fun v H' => ∃ n : Int, v = .int n ∧ 0 ≤ n ∧ n < 2 ^ 63 ∧ Q (.int n) H') E0
theorem call_lenO (M : MethR X.prog X.w X.K X.mg X.base C "__len__" k sp) (room : Room (k + 1) X.A) : CallR X (.builtin "len") (rLenO C sp) := by
  rintro pn sh σ H _ us Q inv rel ⟨a, dx, fs, rfl, obj, owed⟩
  obtain ⟨_, rfl, rfl⟩ := vals1 rel
  have look := (ins_get inv.hok obj).choose_spec.1.look
  have call := M.fn X.A.in1 X.stack sh H [.ref a] [.ref a] _ E0 room.in1 inv.env0.in1 (.cons rfl .nil) owed
  refine PySem.W.len_K inv.fr.choose_spec inv.mod.kin look.choose_spec.1 M.at_.at_ M.at_.fn (wpAny_call (codeAny_mono call ?_))
  rintro (er | fl) sh' got
  · rcases got with ⟨_, _, _, _, _, _, _, _, _, _, _, _, none_leaves⟩
    exact none_leaves.elim
  · cases fl with
    | ret val =>
      obtain ⟨v, H', inv', rel', n, rfl, low, high, q⟩ := inv.after got
      obtain ⟨tk, rfl⟩ := rel'
      exact ⟨⟨low, high⟩, V.int n, H', inv'.tok _, ⟨_, rfl⟩, q⟩
    | _ => exact got.elim
end
/-! ### enumerate over a tuple: the turns by GoesN.enumFrom over Draws.tuple; only the call with one argument is walked here -/
namespace EnT
/-- the record that enumerate() makes over the iterator at it -/
abbrev fresh (it : Addr) : Obj := { cls := .type "enumerate", data := .fields #[.none, .bool false, .ref it, rawInt 0, .none, .none] }
theorem new_of {v : Value} {o : Obj} {Z : Heap → Prop} (B : Begins v o Z) :
    Meets (Builtin.«enumerate.__new__» ⟨[.type "enumerate", v], []⟩) (fun _ R s => Z s.heap ∧ R (.ok (.ret (.ref (s.heap.push o).objs.size))) { s with heap := (s.heap.push o).push (fresh s.heap.objs.size) }) := by
  refine .of_wp fun prog w A R s owed => ?_
  have sub := sub_enumerate
  obtain ⟨start, goal⟩ := owed
  wp_walk using B.iter prog w _ _ _ _ start
  refine wpAny_stack_any fun frames => ?_
  refine wpAny_pure ?_
  split
  · rename_i c _ _ _ _ _
    generalize (c == Value.type "enumerate") = short
    cases short <;> (wp_walk using B.iter prog w _ _ _ _ start) <;> exact ⟨_, rfl, goal⟩
  · wp_walk using B.iter prog w _ _ _ _ start
    exact ⟨_, rfl, goal⟩
/-- enumerate(v): an iterator of v's, then the record over it -/
theorem call_of {prog : Program} {w : World} {A : Around} {E : Value → Shared → Prop} {s : Shared} {v : Value} {o : Obj} {Z : Heap → Prop} {Q : Value → Shared → Prop} (B : Begins v o Z) (start : Z s.heap)
    (go : ∀ h, (s.heap.push o).push (fresh s.heap.objs.size) = h → h.get? s.heap.objs.size = some o → IsEnum h (s.heap.objs.size + 1) s.heap.objs.size 0 .none → (∀ b ob, s.heap.get? b = some ob → h.get? b = some ob) →
      Q (.ref (s.heap.objs.size + 1)) { s with heap := h }) : wpAny (model prog w) A (call (.type "enumerate") [v]) Q E s := by
  have size1 : (s.heap.push o).objs.size = s.heap.objs.size + 1 := Heap.size_push ..
  have mine : ((s.heap.push o).push (fresh s.heap.objs.size)).get? (s.heap.objs.size + 1) = some (fresh s.heap.objs.size) := by
    rw [← size1]; exact Heap.get?_push_size _ rfl
  refine callType_new F.called_enumerate (by decide) (F.typeCall_enumerate_1 v) (F.newCall_enumerate_1 v) (fun obj => F.args_object_init_2 obj v) F.entry_enumerate_new (new_of B) ⟨start, ?_⟩
  refine ⟨⟨fresh s.heap.objs.size, ?_, rfl⟩, ?_⟩
  · show Heap.get? _ (s.heap.push o).objs.size = _
    rw [size1]
    exact mine
  · rw [size1]
    exact go _ rfl (Heap.get?_push_of_some _ (Heap.get?_push_size _ B.free)) mine fun b ob z => Heap.get?_push_of_some _ (Heap.get?_push_of_some _ z)
end EnT
/-- enumerate over the tuple at a, of n items: pairs, each new -/
def IteT (K : PySem.W.Frag) (a : Addr) (n : Nat) : It where
  go i H := i < n ∧ ∃ xs, SqT K H a xs ∧ xs.length = n
  yld i H v H' := ∃ T x, v = .ref T ∧ H T = none ∧ H' = upd H T (.tup [.int (i : Nat), x]) ∧ ∀ xs, SqT K H a xs → xs[i]? = some x
  stop i H := n ≤ i ∧ ∃ xs, SqT K H a xs ∧ xs.length = n
/-- what the heap says between two turns -/
structure TnE (a e it : Addr) (n i : Nat) (h : Heap) : Prop where
  le : i ≤ n
  rec_ : ∃ old, IsEnum h e it (0 + (i : Int)) old
  iter : h.IsTupleIter it a i
theorem two {b x y : Addr} (h : b ∈ [x, y]) : b = x ∨ b = y := by simpa using h
section
variable {P : Program} {w : World} {K : PySem.W.Frag} {elts : List Expr} {kk n : Nat} {tpos : Pos} {a e it : Addr}
theorem walkE {A : Around} (calm : A.in1.handled = none) (ai : a ≠ it) (ae : a ≠ e) (ei : e ≠ it) (cells : Array Value) :
    GoesN P w A (.Tuple elts kk tpos) e [e, it, a] [e, it] cells.size (fun i h₀ v h => ∃ T t x, v = .ref T ∧ h₀.objs.size ≤ T ∧ cells[i]? = some x ∧ h.IsTuple T #[.int (0 + (i : Int)) t, x]) (fun i h => (∃ old, IsEnum h e it (0 + (i : Int)) old) ∧ h.IsTupleIter it a i ∧ h.IsTuple a cells) :=
  GoesN.enumFrom 0 (Draws.tuple calm it a ai cells) e ei (by simp [ei, Ne.symm ae]) (by simp)
theorem turn_enumT (ai : a ≠ it) (ae : a ≠ e) (ei : e ≠ it) : Turn P w K (.Tuple elts kk tpos) (IteT K a n) [e, it] e (TnE a e it n) := by
  constructor
  · simp
  · intro i h now b hb
    rcases two hb with rfl | rfl
    · obtain ⟨old, z⟩ := now.rec_
      exact ⟨_, z, nofun⟩
    · obtain ⟨o, z, _, dat⟩ := now.iter
      refine ⟨o, z, fun v c => ?_⟩
      rw [dat] at c
      exact nomatch c
  · intro i h h' now same
    refine ⟨now.le, ?_, now.iter.at (same it (by simp))⟩
    obtain ⟨old, z⟩ := now.rec_
    exact ⟨old, same e (by simp) _ z⟩
  · rintro X rfl rfl rfl calm i pn s σ H E inv fp now ⟨lt, xs, sq, len⟩
    obtain ⟨cells, vals, tup, _⟩ := inv.tuple sq
    have sz : cells.toArray.size = n := by
      have := vals.length
      simp only [List.size_toArray]
      omega
    refine (walkE (P := X.prog) (w := X.w) (A := X.A) (show X.A.in1.handled = none from inv.ok.hd calm) ai ae ei cells.toArray).goes i s _ E (by omega) ⟨now.rec_, now.iter, tup⟩ ?_
    rintro _ h' tk ⟨T, t, u, rfl, new, at_, pair⟩ ⟨rec', iter', _⟩ same _
    have atX : i < xs.length := by omega
    obtain ⟨u', hu, ru⟩ := vals.get (List.getElem?_eq_getElem atX)
    have uu : u' = u := by
      rw [List.getElem?_toArray] at at_
      exact Option.some.inj (hu.symm.trans at_)
    subst uu
    rw [Int.zero_add] at pair
    have ob : ObjOk X.prog X.w (upd H T (.tup [.int (i : Nat), xs[i]])) h' T (.tup [.int (i : Nat), xs[i]]) := by
      refine ⟨?_, _, .cons ⟨t, rfl⟩ (.cons ru .nil), pair⟩
      show 2 ≤ sizeLine
      decide
    refine ⟨.ref T, _, inv.turnedNew same fp new ob, rfl, ⟨T, xs[i], rfl, inv.hok.fresh new, rfl, fun ys hy => ?_⟩, ⟨lt, rec', iter'⟩, fun b hb => ?_⟩
    · rw [inv.tuple_inj hy sq]
      exact List.getElem?_eq_getElem atX
    · refine (upd_ne fun z => ?_).trans (fp b hb).1
      obtain ⟨o, live⟩ : ∃ o, s.heap.get? b = some o := by
        rcases two hb with rfl | rfl
        · obtain ⟨old, q⟩ := now.rec_
          exact ⟨_, q⟩
        · obtain ⟨o, q, _⟩ := now.iter
          exact ⟨o, q⟩
      have := Heap.lt_size live
      rw [z] at this
      exact Nat.lt_irrefl _ (Nat.lt_of_lt_of_le this new)
  · rintro X rfl rfl rfl calm i pn s σ H E inv fp now ⟨ge, xs, sq, len⟩
    obtain ⟨cells, vals, tup, _⟩ := inv.tuple sq
    have sz : cells.toArray.size = i := by
      have := vals.length
      have := now.le
      simp only [List.size_toArray]
      omega
    have W := walkE (P := X.prog) (w := X.w) (A := X.A) (elts := elts) (kk := kk) (tpos := tpos) (show X.A.in1.handled = none from inv.ok.hd calm) ai ae ei cells.toArray
    rw [sz] at W
    exact W.stops s _ E ⟨now.rec_, now.iter, tup⟩ fun h' tk same _ => inv.turnedL same fp
  · intro A i s Q E now q
    obtain ⟨old, z⟩ := now.rec_
    exact wpAny_pyIter_enum z q
end
def iEnumT (K : PySem.W.Frag) (ta : TA) : TI := fun σ H R => ta σ H fun vs H1 => ∃ a xs, vs = [.ref a] ∧ SqT K H1 a xs ∧ R (IteT K a xs.length) H1
theorem pi_enumT {X : Cx} {e : Expr} {ta : TA} {p pos tpos : Pos} {elts : List Expr} {kk : Nat} (glob : Gl X "enumerate") (free : X.mg "enumerate" = none) (args : PA X [e] ta) (one : starEach [e] X.env = [(false, eval e X.env)] := by rfl) : PI X (.Tuple elts kk tpos) (.Call (.Name "enumerate" p) [e] [] pos) (iEnumT X.K ta) := by
  constructor
  intro pn s σ H R inv h
  refine Call_ (ld_blt inv glob free boot_enumerate ?_)
  refine PyProof.Rows.callWith_type1 (thn (args.run pos pn s σ H _ inv h) ?_) one rfl
  rintro us s1 ⟨vs, H1, inv1, rel, a, xs, rfl, sq, q⟩
  obtain ⟨_, rfl, rfl⟩ := vals1 rel
  obtain ⟨cells, vals, tup, _⟩ := inv1.tuple sq
  have below : a < s1.heap.objs.size := by
    obtain ⟨o, z, _⟩ := tup
    exact Heap.lt_size z
  refine EnT.call_of (begins_tuple a cells.toArray) tup fun h' _ isIter isRec same => wpAny_pyIter_enum isRec ?_
  refine ⟨s1.heap.objs.size + 1, [s1.heap.objs.size + 1, s1.heap.objs.size], TnE a _ _ xs.length, IteT X.K a xs.length, H1, rfl, inv1.kept (t' := s1.toks) same, turn_enumT ?_ ?_ ?_, ⟨Nat.zero_le _, ⟨.none, isRec⟩, _, isIter, rfl, rfl⟩, fun b hb => ?_, q⟩
  · exact Nat.ne_of_lt below
  · exact Nat.ne_of_lt (Nat.lt_succ_of_lt below)
  · exact Nat.succ_ne_self _
  · have up : s1.heap.objs.size ≤ b := by
      rcases two hb with z | z <;> rw [z]
      · exact Nat.le_succ _
      · exact Nat.le_refl _
    exact inv1.fpOk up (inv1.hok.fresh up)
theorem walk_enumT {K : PySem.W.Frag} {a : Addr} {xs : List V} : Walk (IteT K a xs.length) xs.length (fun H => SqT K H a xs) (YPair (fun i => some (.int (i : Nat))) (fun i => xs[i]?)) := by
  constructor
  · exact fun i H lt sq => ⟨lt, xs, sq, rfl⟩
  · exact fun H sq => ⟨Nat.le_refl _, xs, sq, rfl⟩
  · rintro i H v H' _ sq ⟨T, x, e1, e2, e3, e4⟩
    exact ⟨T, _, x, e1, e2, e3, rfl, e4 xs sq⟩
end HC
/-! operators whatever the types, and the steps of a reading -/
namespace HC
open PyProof.Rows PySem L2 PySem.Spec

/-! ### heaps -/
theorem same_new {H : Hp} {p : Addr} {o : HO} (h : H p = none) : Same H (upd H p o) := fun b u e => by rw [upd_ne (ne_of_none e h)]; exact e
/-- all but d is as it was -/
def Keep (d : Addr) (H H' : Hp) : Prop := ∀ b o, b ≠ d → H b = some o → H' b = some o
theorem Keep.refl (d : Addr) (H : Hp) : Keep d H H := fun _ _ _ h => h
theorem Keep.trans {d : Addr} {H H1 H2 : Hp} (a : Keep d H H1) (b : Keep d H1 H2) : Keep d H H2 := fun c o n h => b c o n (a c o n h)
theorem keep_upd {H : Hp} {d : Addr} {o : HO} : Keep d H (upd H d o) := fun b u n e => by rw [upd_ne n]; exact e
end HC
namespace L2
open PySem PySem.Spec PyProof.Rows HC
theorem Same.keep {d : Addr} {H H' : Hp} (a : Same H H') : Keep d H H' := fun b o _ h => a b o h
end L2
namespace HC
open PyProof.Rows PySem L2 PySem.Spec
theorem keep_same {d : Addr} {H H' : Hp} (a : Keep d H H') (h : H d = none) : Same H H' := fun b o e => a b o (ne_of_none e h) e
theorem same_l {K : PySem.W.Frag} {H H' : Hp} {a : Addr} {xs : List V} (e : Same H H') (h : SqL K H a xs) : SqL K H' a xs := e.seq h
theorem same_t {K : PySem.W.Frag} {H H' : Hp} {a : Addr} {xs : List V} (e : Same H H') (h : SqT K H a xs) : SqT K H' a xs := h.imp (fun z => z.imp (e a _) fun ⟨o, q⟩ => ⟨o, e a _ q⟩) id
mutual
theorem dp_same {K : PySem.W.Frag} {H H' : Hp} (e : Same H H') : ∀ (d : PyData) (v : V), Dp K H v d → Dp K H' v d
  | .none, _, .non => .non
  | .bool _, _, .bl b => .bl b
  | .int _, _, .int i => .int i
  | .str _, _, .str x => .str x
  | .list ds, _, .lst h a => .lst (same_l e h) (dp_sameAll e ds _ a)
  | .tuple ds, _, .tup h a => .tup (same_t e h) (dp_sameAll e ds _ a)
theorem dp_sameAll {K : PySem.W.Frag} {H H' : Hp} (e : Same H H') : ∀ (ds : List PyData) (vs : List V), DpAll K H vs ds → DpAll K H' vs ds
  | [], _, .nil => .nil
  | d :: ds, _, .cons a b => .cons (dp_same e d _ a) (dp_sameAll e ds _ b)
end
end HC
namespace L2
open PySem PySem.Spec PyProof.Rows HC
theorem Same.dp {K : PySem.W.Frag} {H H' : Hp} {v : V} {d : PyData} (e : Same H H') (h : Dp K H v d) : Dp K H' v d := dp_same e d v h
theorem Same.dpa {K : PySem.W.Frag} {H H' : Hp} {vs : List V} {ds : List PyData} (e : Same H H') (h : DpAll K H vs ds) : DpAll K H' vs ds := dp_sameAll e ds vs h
theorem DpAll.length {K : PySem.W.Frag} {H : Hp} : ∀ {vs : List V} {ds : List PyData}, DpAll K H vs ds → vs.length = ds.length
  | _, _, .nil => rfl
  | _, _, .cons _ b => congrArg Nat.succ (DpAll.length b)
theorem DpAll.get {K : PySem.W.Frag} {H : Hp} {vs : List V} {ds : List PyData} {i : Nat} {v : V} (h : DpAll K H vs ds) (e : vs[i]? = some v) : ∃ d, ds[i]? = some d ∧ Dp K H v d :=
  match i, h, e with
  | 0, .cons a _, e => ⟨_, rfl, Option.some.inj e ▸ a⟩
  | j + 1, .cons _ b, e => DpAll.get (i := j) b e
theorem DpAll.getD {K : PySem.W.Frag} {H : Hp} {vs : List V} {ds : List PyData} {i : Nat} {d : PyData} (h : DpAll K H vs ds) (e : ds[i]? = some d) : ∃ v, vs[i]? = some v ∧ Dp K H v d :=
  match i, h, e with
  | 0, .cons a _, e => ⟨_, rfl, Option.some.inj e ▸ a⟩
  | j + 1, .cons _ b, e => DpAll.getD (i := j) b e
theorem DpAll.append {K : PySem.W.Frag} {H : Hp} : ∀ {vs ws : List V} {ds es : List PyData}, DpAll K H vs ds → DpAll K H ws es → DpAll K H (vs ++ ws) (ds ++ es)
  | _, _, _, _, .nil, s => s
  | _, _, _, _, .cons r t, s => .cons r (DpAll.append t s)
end L2
namespace HC
open PyProof.Rows PySem L2 PySem.Spec
theorem dpa_take {K : PySem.W.Frag} {H : Hp} : ∀ {vs : List V} {ds : List PyData} (n : Nat), DpAll K H vs ds → DpAll K H (vs.take n) (ds.take n)
  | _, _, 0, _ => .nil
  | _, _, _ + 1, .nil => .nil
  | _, _, n + 1, .cons r t => .cons r (dpa_take n t)
theorem getm {α β : Type} {f : α → β} {l : List α} {i : Nat} {d : β} (h : (l.map f)[i]? = some d) : ∃ x, l[i]? = some x ∧ f x = d := by
  rw [List.getElem?_map] at h
  exact Option.map_eq_some_iff.mp h
theorem dpa_ints {K : PySem.W.Frag} {H : Hp} : ∀ ns : List Int, DpAll K H (ns.map V.int) (ns.map PyData.int)
  | [] => .nil
  | n :: r => .cons (.int n) (dpa_ints r)
theorem dpa_strs {K : PySem.W.Frag} {H : Hp} : ∀ ns : List Str, DpAll K H (ns.map V.str) (ns.map PyData.str)
  | [] => .nil
  | n :: r => .cons (.str n) (dpa_strs r)


/-! ### data -/
abbrev pInts (ns : List Int) : PyData := .list (ns.map .int)
theorem dp_lst {K : PySem.W.Frag} {H : Hp} {a : Addr} {xs : List V} {ds : List PyData} (h : H a = some (.lst xs)) (h2 : DpAll K H xs ds) : Dp K H (.ref a) (.list ds) := .lst (SqL.of h) h2
theorem dp_tup {K : PySem.W.Frag} {H : Hp} {a : Addr} {xs : List V} {ds : List PyData} (h : H a = some (.tup xs)) (h2 : DpAll K H xs ds) : Dp K H (.ref a) (.tuple ds) := .tup (SqT.of h) h2
end HC
namespace L2
open PySem PySem.Spec PyProof.Rows HC
theorem Dp.inv_l {K : PySem.W.Frag} {H : Hp} {v : V} {ds : List PyData} (h : Dp K H v (.list ds)) : ∃ a xs, v = .ref a ∧ SqL K H a xs ∧ DpAll K H xs ds := by
  cases h with
  | lst h1 h2 => exact ⟨_, _, rfl, h1, h2⟩
theorem Dp.inv_t {K : PySem.W.Frag} {H : Hp} {v : V} {ds : List PyData} (h : Dp K H v (.tuple ds)) : ∃ a xs, v = .ref a ∧ SqT K H a xs ∧ DpAll K H xs ds := by
  cases h with
  | tup h1 h2 => exact ⟨_, _, rfl, h1, h2⟩
theorem Dp.inv_i {K : PySem.W.Frag} {H : Hp} {v : V} {i : Int} (h : Dp K H v (.int i)) : v = .int i := by cases h; rfl
theorem Dp.inv_s {K : PySem.W.Frag} {H : Hp} {v : V} {i : Str} (h : Dp K H v (.str i)) : v = .str i := by cases h; rfl
theorem Dp.inv_b {K : PySem.W.Frag} {H : Hp} {v : V} {i : Bool} (h : Dp K H v (.bool i)) : v = .bl i := by cases h; rfl
theorem Dp.inv_n {K : PySem.W.Frag} {H : Hp} {v : V} (h : Dp K H v .none) : v = .non := by cases h; rfl
theorem DpAll.inv1 {K : PySem.W.Frag} {H : Hp} {vs : List V} {d : PyData} {ds : List PyData} (h : DpAll K H vs (d :: ds)) : ∃ v r, vs = v :: r ∧ Dp K H v d ∧ DpAll K H r ds :=
  match h with | .cons first more => ⟨_, _, rfl, first, more⟩
theorem DpAll.inv0 {K : PySem.W.Frag} {H : Hp} {vs : List V} (h : DpAll K H vs []) : vs = [] := by cases h; rfl
theorem DpAll.inv2 {K : PySem.W.Frag} {H : Hp} {vs : List V} {d e : PyData} (h : DpAll K H vs [d, e]) : ∃ v u, vs = [v, u] ∧ Dp K H v d ∧ Dp K H u e := by
  obtain ⟨v, r, rfl, h1, h2⟩ := h.inv1
  obtain ⟨u, r, rfl, h3, h4⟩ := h2.inv1
  obtain rfl := h4.inv0
  exact ⟨v, u, rfl, h1, h3⟩
end L2
namespace HC
open PyProof.Rows PySem L2 PySem.Spec

/-! data without lists stand whatever list or instance changes -/
mutual
def noL : PyData → Bool
  | .list _ => false
  | .tuple ds => noLs ds
  | .none | .bool _ | .int _ | .str _ | .dict _ => true
def noLs : List PyData → Bool
  | [] => true
  | d :: ds => noL d && noLs ds
end
def NotT : Option HO → Prop
  | some (.tup _) => False
  | some (.frz _ (.tup _)) => False
  | _ => True
theorem keep_t {K : PySem.W.Frag} {H H' : Hp} {d a : Addr} {xs : List V} (e : Keep d H H') (hd : NotT (H d)) (h : SqT K H a xs) : SqT K H' a xs := by
  refine h.imp (fun z => z.imp (fun q => e a _ (fun ad => ?_) q) (fun ⟨o, q⟩ => ⟨o, e a _ (fun ad => ?_) q⟩)) id
  all_goals (subst ad; rw [q] at hd; exact hd)
mutual
theorem dp_keep {K : PySem.W.Frag} {H H' : Hp} {d : Addr} (e : Keep d H H') (hd : NotT (H d)) : ∀ (x : PyData) (v : V), noL x = true → Dp K H v x → Dp K H' v x
  | .none, _, _, .non => .non
  | .bool _, _, _, .bl b => .bl b
  | .int _, _, _, .int i => .int i
  | .str _, _, _, .str x => .str x
  | .list ds, _, n, .lst h a => by simp [noL] at n
  | .tuple ds, _, n, .tup h a => .tup (keep_t e hd h) (dp_keepAll e hd ds _ (by simpa [noL] using n) a)
theorem dp_keepAll {K : PySem.W.Frag} {H H' : Hp} {d : Addr} (e : Keep d H H') (hd : NotT (H d)) : ∀ (xs : List PyData) (vs : List V), noLs xs = true → DpAll K H vs xs → DpAll K H' vs xs
  | [], _, _, .nil => .nil
  | x :: xs, _, n, .cons a b => by
    have n' : noL x = true ∧ noLs xs = true := by simpa [noLs] using n
    exact .cons (dp_keep e hd x _ n'.1 a) (dp_keepAll e hd xs _ n'.2 b)
end
theorem noLs_of {ds : List PyData} (h : ∀ d ∈ ds, noL d = true) : noLs ds = true := by
  induction ds with
  | nil => rfl
  | cons d r ih => simp [noLs, h d (by simp), ih fun e he => h e (by simp [he])]
theorem notT_l {H : Hp} {d : Addr} {xs : List V} (h : H d = some (.lst xs)) : NotT (H d) := by rw [h]; trivial
theorem notT_n {H : Hp} {d : Addr} (h : H d = none) : NotT (H d) := by rw [h]; trivial
theorem notT_i {H : Hp} {d C dx : Addr} {fs : List (Str × V)} (h : H d = some (.ins C dx fs)) : NotT (H d) := by rw [h]; trivial
/-- data that the layer's == speaks of, to a depth -/
def Sh (n : Nat) (d : PyData) : Prop := d.canLay0 = true ∧ d.depth ≤ n
theorem Sh.ok {n : Nat} {d : PyData} (h : Sh n d) (hn : n ≤ 64) : SeqAt.shaped d = true := by
  unfold SeqAt.shaped
  rw [h.1, Bool.true_and]
  exact decide_eq_true (Nat.le_trans h.2 hn)
theorem Sh.mono {n m : Nat} {d : PyData} (h : Sh n d) (hn : n ≤ m) : Sh m d := ⟨h.1, Nat.le_trans h.2 hn⟩
theorem sh_i (i : Int) : Sh 0 (.int i) := ⟨by simp [PyData.canLay0], by simp [PyData.depth]⟩
theorem sh_s {i : Str} (h : PyData.strOk i = true) : Sh 0 (.str i) := ⟨by simp [PyData.canLay0, h], by simp [PyData.depth]⟩
theorem sh_b (i : Bool) : Sh 0 (.bool i) := ⟨by simp [PyData.canLay0], by simp [PyData.depth]⟩
theorem sh_n : Sh 0 .none := ⟨by simp [PyData.canLay0], by simp [PyData.depth]⟩
theorem lay_all {ds : List PyData} (h : ∀ d ∈ ds, d.canLay0 = true) : PyData.canLayAll0 ds = true := by
  induction ds with
  | nil => simp [PyData.canLayAll0]
  | cons d r ih => simp [PyData.canLayAll0, h d (by simp), ih fun e he => h e (by simp [he])]
theorem depth_all {ds : List PyData} {n : Nat} (h : ∀ d ∈ ds, d.depth ≤ n) : PyData.depthAll ds ≤ n := by
  induction ds with
  | nil => simp [PyData.depthAll]
  | cons d r ih =>
    have h1 := h d (by simp)
    have h2 := ih fun e he => h e (by simp [he])
    simp only [PyData.depthAll]
    omega
theorem sh_l {n : Nat} {ds : List PyData} (h : ∀ d ∈ ds, Sh n d) : Sh (n + 1) (.list ds) := by
  refine ⟨by simp only [PyData.canLay0]; exact lay_all fun d hd => (h d hd).1, ?_⟩
  have := depth_all fun d hd => (h d hd).2
  simp only [PyData.depth]
  omega
theorem sh_t {n : Nat} {ds : List PyData} (h : ∀ d ∈ ds, Sh n d) : Sh (n + 1) (.tuple ds) := by
  refine ⟨by simp only [PyData.canLay0]; exact lay_all fun d hd => (h d hd).1, ?_⟩
  have := depth_all fun d hd => (h d hd).2
  simp only [PyData.depth]
  omega
theorem sh_ints (ns : List Int) : Sh 1 (pInts ns) := sh_l fun d hd => by
  obtain ⟨i, _, rfl⟩ := List.mem_map.mp hd
  exact sh_i i
theorem eqv_refl {n : Nat} {d : PyData} (h : Sh n d) : PyData.eqv d d = true := SeqAt.eqv_refl d h.1
theorem eqv_nil (ds : List PyData) : PyData.eqv (.list ds) (.list []) = ds.isEmpty := by
  cases ds <;> simp [PyData.eqv, PyData.eqvAll]
theorem eqv_nilT (ds : List PyData) : PyData.eqv (.tuple ds) (.tuple []) = ds.isEmpty := by
  cases ds <;> simp [PyData.eqv, PyData.eqvAll]
/-! ### operators -/
section
variable {X : Cx} {K : PySem.W.Frag} {H H' : Hp} {Q : VK} {σ : L2.St} {D : Ends}
def uAdd (K : PySem.W.Frag) : R2 := fun x y H Q => rI0 (fun i j => .int (i + j)) x y H Q ∨ (∃ i j, x = .str i ∧ y = .str j ∧ i.length + j.length ≤ sizeLine ∧ Q (.str (i ++ j)) H) ∨ rCat x y H Q ∨ rCatA K x y H Q
theorem op_addU : OpR X (binaryOp .Add) (uAdd X.K) := op_add.or (op_add_str.or (op_cat.or op_catA))
theorem g_add_i {i j : Int} (h : Q (.int (i + j)) H) : uAdd K (.int i) (.int j) H Q := .inl ⟨i, j, rfl, rfl, h⟩
theorem g_add_s {i j : Str} (hz : i.length + j.length ≤ sizeLine) (h : Q (.str (i ++ j)) H) : uAdd K (.str i) (.str j) H Q := .inr (.inl ⟨i, j, rfl, rfl, hz, h⟩)
theorem g_add_l {a b : Addr} {xs ys : List V} (h1 : H a = some (.lst xs)) (h2 : H b = some (.lst ys)) (hz : xs.length + ys.length ≤ sizeLine)
    (h : ∀ p H', H p = none → Same H H' → H' p = some (.lst (xs ++ ys)) → Q (.ref p) H') : uAdd K (.ref a) (.ref b) H Q :=
  .inr (.inr (.inl ⟨a, b, xs, ys, rfl, rfl, h1, h2, hz, fun p hp => h p _ hp (same_new hp) upd_same⟩))
theorem g_sub {i j : Int} (h : Q (.int (i - j)) H) : rI0 (fun i j => .int (i - j)) (.int i) (.int j) H Q := ⟨i, j, rfl, rfl, h⟩
theorem g_neg {i : Int} (h : Q (.int (-i)) H) : rU (fun i => .int (-i)) (.int i) H Q := ⟨i, rfl, h⟩
theorem g_mul {i j : Int} (hc : CMul i j) (h : Q (.int (i * j)) H) : rI CMul (fun i j => .int (i * j)) (.int i) (.int j) H Q := ⟨i, j, rfl, rfl, hc, h⟩
theorem g_fdiv {i j : Int} (h1 : 0 < j) (h2 : j < 1073741824) (h : Q (.int (i / j)) H) : rI CDiv (fun i j => .int (i / j)) (.int i) (.int j) H Q := ⟨i, j, rfl, rfl, ⟨h1, h2⟩, h⟩
theorem g_mod {i j : Int} (h1 : 0 < j) (h : Q (.int (i % j)) H) : rI (fun _ j => 0 < j) (fun i j => .int (i % j)) (.int i) (.int j) H Q := ⟨i, j, rfl, rfl, h1, h⟩
theorem g_pow {i j : Int} (hc : CPow i j) (h : Q (.int (i ^ j.toNat)) H) : rI CPow (fun i j => .int (i ^ j.toNat)) (.int i) (.int j) H Q := ⟨i, j, rfl, rfl, hc, h⟩
theorem g_lt {i j : Int} (h : Q (.bl (decide (i < j))) H) : rI0 (fun i j => .bl (decide (i < j))) (.int i) (.int j) H Q := ⟨i, j, rfl, rfl, h⟩
theorem g_le {i j : Int} (h : Q (.bl (decide (i ≤ j))) H) : rI0 (fun i j => .bl (decide (i ≤ j))) (.int i) (.int j) H Q := ⟨i, j, rfl, rfl, h⟩
theorem g_gt {i j : Int} (h : Q (.bl (decide (j < i))) H) : rI0 (fun i j => .bl (decide (j < i))) (.int i) (.int j) H Q := ⟨i, j, rfl, rfl, h⟩
theorem g_ge {i j : Int} (h : Q (.bl (decide (j ≤ i))) H) : rI0 (fun i j => .bl (decide (j ≤ i))) (.int i) (.int j) H Q := ⟨i, j, rfl, rfl, h⟩
def uEq (K : PySem.W.Frag) : R2 := fun x y H Q => rEq x y H Q ∨ rEqD K x y H Q
def uNe (K : PySem.W.Frag) : R2 := fun x y H Q => rNe x y H Q ∨ rNeD K x y H Q
theorem op_eqU {k : Nat} (hr : Room k X.A) : OpR X (compareOp .Eq) (uEq X.K) := op_eq.or (op_eqD hr.units)
theorem op_neU {k : Nat} (hr : Room k X.A) : OpR X (compareOp .NotEq) (uNe X.K) := op_ne.or (op_neD hr.units)
theorem dec_i {i j : Int} : decide (V.int i = V.int j) = decide (i = j) := by
  by_cases e : i = j
  · subst e; simp
  · rw [decide_eq_false e, decide_eq_false fun q => e (V.int.inj q)]
theorem dec_s {i j : Str} : decide (V.str i = V.str j) = decide (i = j) := by
  by_cases e : i = j
  · subst e; simp
  · rw [decide_eq_false e, decide_eq_false fun q => e (V.str.inj q)]
theorem dec_b {i j : Bool} : decide (V.bl i = V.bl j) = decide (i = j) := by
  by_cases e : i = j
  · subst e; simp
  · rw [decide_eq_false e, decide_eq_false fun q => e (V.bl.inj q)]
theorem g_eq_i {i j : Int} (h : Q (.bl (decide (i = j))) H) : uEq K (.int i) (.int j) H Q := .inl ⟨rfl, by rw [dec_i]; exact h⟩
theorem g_eq_s {i j : Str} (h : Q (.bl (decide (i = j))) H) : uEq K (.str i) (.str j) H Q := .inl ⟨rfl, by rw [dec_s]; exact h⟩
theorem g_eq_b {i j : Bool} (h : Q (.bl (decide (i = j))) H) : uEq K (.bl i) (.bl j) H Q := .inl ⟨rfl, by rw [dec_b]; exact h⟩
theorem g_ne_i {i j : Int} (h : Q (.bl (!decide (i = j))) H) : uNe K (.int i) (.int j) H Q := .inl ⟨rfl, by rw [dec_i]; exact h⟩
theorem g_ne_s {i j : Str} (h : Q (.bl (!decide (i = j))) H) : uNe K (.str i) (.str j) H Q := .inl ⟨rfl, by rw [dec_s]; exact h⟩
theorem g_ne_b {i j : Bool} (h : Q (.bl (!decide (i = j))) H) : uNe K (.bl i) (.bl j) H Q := .inl ⟨rfl, by rw [dec_b]; exact h⟩
theorem g_eq_d {x y : V} (d e : PyData) (h1 : Dp K H x d) (h2 : Dp K H y e) (s1 : SeqAt.shaped d = true) (s2 : SeqAt.shaped e = true) (h : Q (.bl (PyData.eqv d e)) H) : uEq K x y H Q := .inr ⟨d, e, h1, h2, s1, s2, h⟩
theorem g_ne_d {x y : V} (d e : PyData) (h1 : Dp K H x d) (h2 : Dp K H y e) (s1 : SeqAt.shaped d = true) (s2 : SeqAt.shaped e = true) (h : Q (.bl (!PyData.eqv d e)) H) : uNe K x y H Q := .inr ⟨d, e, h1, h2, s1, s2, h⟩
theorem g_isN {x : V} (h : Q (.bl (decide (x = .non))) H) : rIsN x .non H Q := ⟨rfl, h⟩
theorem g_notN {x : V} (h : Q (.bl (!decide (x = .non))) H) : rNotN x .non H Q := ⟨rfl, h⟩
/-- in -/
def uIn (K : PySem.W.Frag) : R2 := fun x y H Q => rIn K false x y H Q ∨ (∃ (c : Nat) (z : Str), x = .str ⟨#[c]⟩ ∧ y = .str z ∧ Q (.bl (decide (c ∈ z.cps.toList))) H) ∨ rInD K x y H Q
def uNotIn (K : PySem.W.Frag) : R2 := fun x y H Q => rIn K true x y H Q ∨ (∃ (c : Nat) (z : Str), x = .str ⟨#[c]⟩ ∧ y = .str z ∧ Q (.bl (!decide (c ∈ z.cps.toList))) H) ∨ rNotInD K x y H Q
theorem units65 {k : Nat} {A : Around} (hr : Room k A) : A.units + 65 < cLine := by have := hr.un; omega
theorem op_inU {k : Nat} (hr : Room k X.A) : OpR X (compareOp .In) (uIn X.K) := op_in_seq.or (op_in_sign.or (op_inD (units65 hr)))
theorem op_notInU {k : Nat} (hr : Room k X.A) : OpR X (compareOp .NotIn) (uNotIn X.K) := op_notIn_seq.or (op_notIn_sign.or (op_notInD (units65 hr)))
theorem g_in_sign {c : Nat} {z : Str} (h : Q (.bl (decide (c ∈ z.cps.toList))) H) : uIn K (.str ⟨#[c]⟩) (.str z) H Q := .inr (.inl ⟨c, z, rfl, rfl, h⟩)
theorem g_in_seq {x : V} {p : Addr} {xs : List V} (h1 : SqL K H p xs ∨ SqT K H p xs) (h2 : flatV x = true) (h3 : xs.all flatV = true) (h : Q (.bl (inV x xs)) H) : uIn K x (.ref p) H Q := .inl ⟨p, xs, rfl, h1, h2, h3, h⟩
theorem g_notIn_seq {x : V} {p : Addr} {xs : List V} (h1 : SqL K H p xs ∨ SqT K H p xs) (h2 : flatV x = true) (h3 : xs.all flatV = true) (h : Q (.bl (!inV x xs)) H) : uNotIn K x (.ref p) H Q := .inl ⟨p, xs, rfl, h1, h2, h3, h⟩
/-- x[i] -/
theorem g_ix_l {p : Addr} {xs : List V} {i : Int} {v : V} (h1 : SqL K H p xs) (h2 : atI xs i = some v) (h : Q v H) : rIx K (.ref p) (.int i) H Q := .inl ⟨p, xs, i, v, rfl, rfl, h1, h2, h⟩
theorem g_ix_t {p : Addr} {xs : List V} {i : Int} {v : V} (h1 : SqT K H p xs) (h2 : atI xs i = some v) (h : Q v H) : rIx K (.ref p) (.int i) H Q := .inr (.inl ⟨p, xs, i, v, rfl, rfl, h1, h2, h⟩)
theorem g_ix_s {z : Str} {i : Int} {c : Nat} (h1 : z.length ≤ sizeLine) (h2 : atI z.cps.toList i = some c) (h : Q (.str ⟨#[c]⟩) H) : rIx K (.str z) (.int i) H Q := .inr (.inr ⟨z, i, c, rfl, rfl, h1, h2, h⟩)
/-- len -/
def uLen (K : PySem.W.Frag) : List V → Hp → VK → Prop := fun xs H Q => (∃ z, xs = [.str z] ∧ z.length ≤ sizeLine ∧ Q (.int z.length) H) ∨ ∃ p ys, xs = [.ref p] ∧ (SqL K H p ys ∨ SqT K H p ys) ∧ Q (.int ys.length) H
theorem call_lenU : CallR X (.builtin "len") (uLen X.K) := call_len_str.or call_len_seq
theorem g_len_s {z : Str} (hz : z.length ≤ sizeLine) (h : Q (.int z.length) H) : uLen K [.str z] H Q := .inl ⟨z, rfl, hz, h⟩
theorem g_len_l {p : Addr} {ys : List V} (h1 : SqL K H p ys) (h : Q (.int ys.length) H) : uLen K [.ref p] H Q := .inr ⟨p, ys, rfl, .inl h1, h⟩
theorem g_len_t {p : Addr} {ys : List V} (h1 : SqT K H p ys) (h : Q (.int ys.length) H) : uLen K [.ref p] H Q := .inr ⟨p, ys, rfl, .inr h1, h⟩

/-! ### steps -/
variable {ta tb te : TE} {tA tB' : TT} {i : Nat} {v : V} {t u : TS} {ts : TA}
theorem g_var (e : σ[i]? = some (some v)) (h : Q v H) : tVar i σ H Q := ⟨v, e, h⟩
theorem g_c (h : Q v H) : tC v σ H Q := h
theorem g_op {r : R2} (h : ta σ H fun x H1 => tb σ H1 fun y H2 => r x y H2 Q) : tOp r ta tb σ H Q := h
theorem g_un {r : V → Hp → VK → Prop} (h : ta σ H fun x H1 => r x H1 Q) : tUn r ta σ H Q := h
def Bl (Q : Bool → Hp → Prop) : VK := fun x H => ∃ k, x = .bl k ∧ Q k H
theorem g_bl {b : Bool} {Q : Bool → Hp → Prop} (h : Q b H) : Bl Q (.bl b) H := ⟨b, rfl, h⟩
theorem g_test {Q : Bool → Hp → Prop} (h : te σ H (Bl Q)) : tTest te σ H Q := h
theorem g_tB {Q : Bool → Hp → Prop} (h : te σ H (Bl Q)) : tB te σ H Q := h
def Ch (r' : R2) (tc : TE) (y : V) (σ : L2.St) (Q : VK) : VK := fun z H3 => ∃ k, z = .bl k ∧ (if k = true then tc σ H3 fun w' H4 => r' y w' H4 Q else Q (.bl false) H3)
theorem g_chain {r r' : R2} {tc : TE} (h : ta σ H fun x H1 => tb σ H1 fun y H2 => r x y H2 (Ch r' tc y σ Q)) : tChain r r' ta tb tc σ H Q := h
theorem g_ch {r' : R2} {tc : TE} {y : V} {b : Bool} (h1 : b = true → tc σ H fun w' H4 => r' y w' H4 Q) (h2 : b = false → Q (.bl false) H) : Ch r' tc y σ Q (.bl b) H := ⟨b, rfl, by
  cases b with
  | true => exact iteT (h1 rfl)
  | false => exact iteF (h2 rfl)⟩
theorem g_and {Q : Bool → Hp → Prop} (h : tA σ H fun c H1 => if c = true then tB' σ H1 Q else Q false H1) : tAnd tA tB' σ H Q := h
theorem g_or {Q : Bool → Hp → Prop} (h : tA σ H fun c H1 => if c = true then Q true H1 else tB' σ H1 Q) : tOr tA tB' σ H Q := h
theorem g_not {Q : Bool → Hp → Prop} (h : tA σ H fun c H1 => Q (!c) H1) : tNot tA σ H Q := h
theorem g_andV (h : ta σ H (Bl fun c H1 => if c = true then tb σ H1 Q else Q (.bl false) H1)) : tAndV ta tb σ H Q := h
theorem g_orV (h : ta σ H (Bl fun c H1 => if c = true then Q (.bl true) H1 else tb σ H1 Q)) : tOrV ta tb σ H Q := h
theorem g_notV (h : ta σ H (Bl fun c H1 => Q (.bl (!c)) H1)) : tNotV ta σ H Q := h
theorem g_if (h : tA σ H fun c H1 => if c = true then ta σ H1 Q else tb σ H1 Q) : tIf tA ta tb σ H Q := h
theorem g_nil {Q : List V → Hp → Prop} (h : Q [] H) : tNil σ H Q := h
theorem g_cons {Q : List V → Hp → Prop} (h : te σ H fun x H1 => ts σ H1 fun xs H2 => Q (x :: xs) H2) : tCons te ts σ H Q := h
theorem g_cb {r : List V → Hp → VK → Prop} (h : ts σ H fun vs H1 => r vs H1 Q) : tCB r ts σ H Q := h
theorem g_callR {sp : Sp} {E : XK} (h : ts σ H fun vs H1 => sp vs H1 Q E) : tCallR sp E ts σ H Q := h
def NewT (xs : List V) (H : Hp) (Q : VK) : Prop := xs.length ≤ sizeLine ∧ ∀ p, H p = none → Q (.ref p) (upd H p (.tup xs))
def NewL (xs : List V) (H : Hp) (Q : VK) : Prop := xs.length ≤ sizeLine ∧ ∀ p, H p = none → Q (.ref p) (upd H p (.lst xs))
theorem g_tup (h : ts σ H fun xs H1 => NewT xs H1 Q) : tTup ts σ H Q := h
theorem g_lst (h : ts σ H fun xs H1 => NewL xs H1 Q) : tLst ts σ H Q := h
theorem n_tup {xs : List V} (hz : xs.length ≤ sizeLine) (h : ∀ p H', H p = none → Same H H' → H' p = some (.tup xs) → Q (.ref p) H') : NewT xs H Q := ⟨hz, fun p hp => h p _ hp (same_new hp) upd_same⟩
theorem n_lst {xs : List V} (hz : xs.length ≤ sizeLine) (h : ∀ p H', H p = none → Same H H' → H' p = some (.lst xs) → Q (.ref p) H') : NewL xs H Q := ⟨hz, fun p hp => h p _ hp (same_new hp) upd_same⟩
theorem g_seq (h : t { D with nx := u D } σ H) : tSeq t u D σ H := h
theorem g_next (h : D.nx σ H) : tNext D σ H := h
theorem g_asg {g : TG} (h : te σ H fun x H1 => g x σ H1 D.nx) : tAsg te g D σ H := h
theorem g_name {Q : L2.St → Hp → Prop} {σ' : L2.St} (e : σ.set i (some v) = σ') (h : Q σ' H) : gName i v σ H Q := by subst e; exact h
theorem g_ret (h : te σ H D.rt) : tRet te D σ H := h
theorem g_drop (h : te σ H fun _ H1 => D.nx σ H1) : tDrop te D σ H := h
theorem g_ifS (h : tA σ H fun b H1 => if b = true then t D σ H1 else u D σ H1) : tIfS tA t u D σ H := h
theorem if_T {c : Bool} {A B : Prop} (e : c = true) (h : A) : if c = true then A else B := by rw [if_pos e]; exact h
theorem if_F {c : Bool} {A B : Prop} (e : c = false) (h : B) : if c = true then A else B := by rw [if_neg (by rw [e]; decide)]; exact h
theorem if_C {c : Bool} {A B : Prop} (h1 : c = true → A) (h2 : c = false → B) : if c = true then A else B := by
  cases c with
  | true => exact iteT (h1 rfl)
  | false => exact iteF (h2 rfl)
theorem if_D {p : Prop} [Decidable p] {A B : Prop} (h1 : p → A) (h2 : ¬ p → B) : if decide p = true then A else B := by
  by_cases c : p
  · rw [if_pos (decide_eq_true c)]; exact h1 c
  · rw [if_neg (by rw [decide_eq_false c]; decide)]; exact h2 c
theorem if_ND {p : Prop} [Decidable p] {A B : Prop} (h1 : ¬ p → A) (h2 : p → B) : if (!decide p) = true then A else B := by
  by_cases c : p
  · rw [if_neg (by rw [decide_eq_true c]; decide)]; exact h2 c
  · rw [if_pos (by rw [decide_eq_false c]; decide)]; exact h1 c

/-! lists changed, asked -/
theorem atI_c0 {α : Type} {a : α} {l : List α} : atI (a :: l) 0 = some a := atI_nat (j := 0) rfl
theorem atI_c1 {α : Type} {a b : α} {l : List α} : atI (a :: b :: l) 1 = some b := atI_nat (j := 1) rfl
theorem atI_c2 {α : Type} {a b c : α} {l : List α} : atI (a :: b :: c :: l) 2 = some c := atI_nat (j := 2) rfl
theorem atI_c3 {α : Type} {a b c d : α} {l : List α} : atI (a :: b :: c :: d :: l) 3 = some d := atI_nat (j := 3) rfl
theorem atI_c4 {α : Type} {a b c d e : α} {l : List α} : atI (a :: b :: c :: d :: e :: l) 4 = some e := atI_nat (j := 4) rfl
theorem atI_c5 {α : Type} {a b c d e f : α} {l : List α} : atI (a :: b :: c :: d :: e :: f :: l) 5 = some f := atI_nat (j := 5) rfl
theorem atI_i {α : Type} {l : List α} {i : Int} {x : α} (h0 : 0 ≤ i) (h : l[i.toNat]? = some x) : atI l i = some x := by
  have := atI_nat h
  rwa [Int.toNat_of_nonneg h0] at this
theorem ixN_i {n : Nat} {i : Int} (h0 : 0 ≤ i) (h : i < n) : ixN n i = some i.toNat := by unfold ixN; rw [if_pos h0, if_pos h]
theorem seqIx_i {n : Nat} {i : Int} (h0 : 0 ≤ i) (h : i < n) : seqIndex? i n = some i.toNat := (ixN_seq (ixN_i h0 h)).1
def Ty (K : PySem.W.Frag) (T : String) (x : V) (H : Hp) (P : Prop) : Prop := tyV K T x H ∧ P
theorem g_bm {T : String} {r : V → List V → Hp → VK → Prop} {to : TE} (h : to σ H fun x H1 => Ty K T x H1 (ts σ H1 fun xs H2 => r x xs H2 Q)) : tBM K T r to ts σ H Q := h
theorem g_bm0 {T : String} {r : V → List V → Hp → VK → Prop} {to : TE} (h : to σ H fun x H1 => Ty K T x H1 (r x [] H1 Q)) : tBM0 K T r to σ H Q := h
theorem g_tyL {p : Addr} {xs : List V} {P : Prop} (h1 : SqL K H p xs) (h : P) : Ty K "list" (.ref p) H P := ⟨.inl ⟨rfl, _, h1⟩, h⟩
def TyS (x : V) (P : Prop) : Prop := (∃ a, x = .str a) ∧ P
theorem g_m1 {r : V → List V → Hp → VK → Prop} {to : TE} (h : to σ H fun x H1 => TyS x (te σ H1 fun y H2 => r x [y] H2 Q)) : tM1 r to te σ H Q := h
theorem g_m0 {r : V → List V → Hp → VK → Prop} {to : TE} (h : to σ H fun x H1 => TyS x (r x [] H1 Q)) : tM0 r to σ H Q := h
theorem g_tyS {z : Str} {P : Prop} (h : P) : TyS (.str z) P := ⟨⟨z, rfl⟩, h⟩
theorem g_append {l : Addr} {xs : List V} {y : V} (h1 : H l = some (.lst xs)) (hz : xs.length < sizeLine) (h : ∀ H', Keep l H H' → H' l = some (.lst (xs ++ [y])) → Q .non H') : rAppend (.ref l) [y] H Q := ⟨l, xs, y, rfl, rfl, h1, hz, h _ keep_upd upd_same⟩
theorem g_extend {l b : Addr} {xs zs : List V} (h1 : H l = some (.lst xs)) (h2 : H b = some (.lst zs)) (hz : xs.length + zs.length ≤ sizeLine) (h : ∀ H', Keep l H H' → H' l = some (.lst (xs ++ zs)) → Q .non H') : rExtend (.ref l) [.ref b] H Q := ⟨l, b, xs, zs, rfl, rfl, h1, h2, hz, h _ keep_upd upd_same⟩
theorem g_popAt {l : Addr} {xs : List V} {i : Int} {y : V} (h1 : H l = some (.lst xs)) (h0 : 0 ≤ i) (hi : xs[i.toNat]? = some y) (hz : xs.length ≤ sizeLine) (h : ∀ H', Keep l H H' → H' l = some (.lst (xs.eraseIdx i.toNat)) → Q y H') : rPopAt (.ref l) [.int i] H Q := by
  have hl : i.toNat < xs.length := (List.getElem?_eq_some_iff.mp hi).1
  have hs : (sizeLine : Nat) < 2 ^ 63 := line63
  exact ⟨l, xs, i, i.toNat, y, rfl, rfl, h1, by omega, by omega, seqIx_i h0 (by omega), hi, h _ keep_upd upd_same⟩
theorem g_pop {l : Addr} {xs : List V} {y : V} (h1 : H l = some (.lst xs)) (hi : xs[xs.length - 1]? = some y) (h : ∀ H', Keep l H H' → H' l = some (.lst xs.dropLast) → Q y H') : rPop (.ref l) [] H Q := ⟨l, xs, y, rfl, rfl, h1, hi, h _ keep_upd upd_same⟩
theorem g_gsub {Q : L2.St → Hp → Prop} {to ti : TE} {rs : TSet} (h : to σ H fun o H1 => ti σ H1 fun i H2 => rs o i v H2 fun H3 => Q σ H3) : gSub to ti rs v σ H Q := h
theorem g_setL {p : Addr} {xs : List V} {k : Int} {j : Nat} {Q : Hp → Prop} (h1 : H p = some (.lst xs)) (hj : ixN xs.length k = some j) (h : ∀ H', Keep p H H' → H' p = some (.lst (xs.set j v)) → Q H') : rSetL (.ref p) (.int k) v H Q := ⟨p, xs, k, j, rfl, rfl, h1, hj, h _ keep_upd upd_same⟩
/-! slices -/
theorem g_sl {r : V → Option Int → Option Int → Hp → VK → Prop} {tl th : TO} (h : te σ H fun x H1 => tl σ H1 fun l H2 => th σ H2 fun u H3 => r x l u H3 Q) : tSl r te tl th σ H Q := h
theorem g_noPart {Q : Option Int → Hp → Prop} (h : Q none H) : tNoPart σ H Q := h
def PartI (Q : Option Int → Hp → Prop) : VK := fun x H => ∃ i, x = .int i ∧ Q (some i) H
theorem g_part {Q : Option Int → Hp → Prop} (h : te σ H (PartI Q)) : tPart te σ H Q := h
theorem g_partI {i : Int} {Q : Option Int → Hp → Prop} (h : Q (some i) H) : PartI Q (.int i) H := ⟨i, rfl, h⟩
theorem g_slL {a : Addr} {xs : List V} {lo hi : Option Int} (h1 : SqL K H a xs) (h : ∀ p H', H p = none → Same H H' → H' p = some (.lst (cutV xs lo hi)) → Q (.ref p) H') : rSlL K (.ref a) lo hi H Q := ⟨a, xs, rfl, h1, fun p hp => h p _ hp (same_new hp) upd_same⟩
theorem cutV_all (xs : List V) : cutV xs none none = xs := by unfold cutV; rw [HT.sIx_none, HT.sIx_none]; simp
theorem cutV_to (xs : List V) (k : Nat) : cutV xs none (some (k : Int)) = xs.take k := by
  unfold cutV
  rw [HT.sIx_none, HT.sIx_nat, Nat.sub_zero, List.drop_zero]
  rcases Nat.le_total k xs.length with le | ge
  · congr 1
    exact Nat.min_eq_left le
  · rw [Nat.min_eq_right ge, List.take_length, List.take_of_length_le ge]
theorem cutV_from (xs : List V) (k : Nat) : cutV xs (some (k : Int)) none = xs.drop k := by
  unfold cutV
  rw [HT.sIx_none, HT.sIx_nat]
  rcases Nat.le_total k xs.length with le | ge
  · have z := Nat.min_eq_left le
    rw [z, ← List.length_drop, List.take_length]
  · rw [Nat.min_eq_right ge, List.drop_length, List.drop_of_length_le ge, List.take_nil]
theorem g_slT {a : Addr} {xs : List V} {lo hi : Option Int} (h1 : SqT K H a xs) (h : ∀ p H', Same H H' → SqT K H' p (cutV xs lo hi) → Q (.ref p) H') : rSlA K (.ref a) lo hi H Q := by
  refine ⟨a, xs, rfl, h1, fun hw => ?_, fun hw p hp => h p _ (same_new hp) (SqT.of upd_same)⟩
  refine h a H (Same.refl H) ?_
  have e : cutV xs lo hi = xs := by
    unfold cutV; rw [hw.1, hw.2]; simp
  rw [e]; exact h1
/-! loops -/
/-- the turns of a for over J -/
def LoopJ (J : It) (g : TG) (tb : TS) (D : Ends) (σ : L2.St) (H : Hp) : Prop := tFor (fun _ H1 R => R J H1) g tb D σ H
variable {g : TG} {tbs : TS}
def ItL (K : PySem.W.Frag) (g : TG) (tb : TS) (D : Ends) (σ : L2.St) : VK := fun x H1 => ∃ a, x = .ref a ∧ (∃ xs, SqL K H1 a xs) ∧ LoopJ (Itl K a) g tb D σ H1
theorem g_forL (h : te σ H (ItL K g tbs D σ)) : tFor (iList K te) g tbs D σ H := h
theorem n_forL {a : Addr} {xs : List V} (h1 : SqL K H a xs) (Pv : Nat → L2.St → Hp → Prop) (h0 : Pv 0 σ H) (hl : ∀ i σ H, Pv i σ H → SqL K H a xs)
    (hs : ∀ i x σ H, xs[i]? = some x → Pv i σ H → g x σ H fun σ2 H2 => tbs { D with nx := Pv (i + 1), ct := Pv (i + 1), bk := D.nx } σ2 H2) (hd : ∀ σ H, Pv xs.length σ H → D.nx σ H) : ItL K g tbs D σ (.ref a) H :=
  ⟨a, rfl, ⟨xs, h1⟩, for_list Pv h0 (fun i σ H _ p => hl i σ H p) hs hd⟩
def ItT (K : PySem.W.Frag) (g : TG) (tb : TS) (D : Ends) (σ : L2.St) : VK := fun x H1 => ∃ a, x = .ref a ∧ (∃ xs, SqT K H1 a xs) ∧ LoopJ (Itt K a) g tb D σ H1
theorem g_forT (h : te σ H (ItT K g tbs D σ)) : tFor (iTup K te) g tbs D σ H := h
theorem n_forT {a : Addr} {xs : List V} (h1 : SqT K H a xs) (Pv : Nat → L2.St → Hp → Prop) (h0 : Pv 0 σ H) (hl : ∀ i σ H, Pv i σ H → SqT K H a xs)
    (hs : ∀ i x σ H, xs[i]? = some x → Pv i σ H → g x σ H fun σ2 H2 => tbs { D with nx := Pv (i + 1), ct := Pv (i + 1), bk := D.nx } σ2 H2) (hd : ∀ σ H, Pv xs.length σ H → D.nx σ H) : ItT K g tbs D σ (.ref a) H :=
  ⟨a, rfl, ⟨xs, h1⟩, for_tup Pv h0 (fun i σ H _ p => hl i σ H p) hs hd⟩
def ItS (g : TG) (tb : TS) (D : Ends) (σ : L2.St) : VK := fun x H1 => ∃ z, x = .str z ∧ LoopJ (Its z) g tb D σ H1
theorem g_forS (h : te σ H (ItS g tbs D σ)) : tFor (iStr te) g tbs D σ H := h
theorem n_forS {z : Str} (Pv : Nat → L2.St → Hp → Prop) (h0 : Pv 0 σ H)
    (hs : ∀ i c σ H, z.cps[i]? = some c → Pv i σ H → g (.str ⟨#[c]⟩) σ H fun σ2 H2 => tbs { D with nx := Pv (i + 1), ct := Pv (i + 1), bk := D.nx } σ2 H2) (hd : ∀ σ H, Pv z.cps.size σ H → D.nx σ H) : ItS g tbs D σ (.str z) H :=
  ⟨z, rfl, for_it (walk_str (z := z)) Pv h0 (fun _ _ _ _ _ => trivial) (fun i x σ H H' hi p ⟨e, c, hc, ex⟩ => by subst e ex; exact hs i c σ _ hc p) hd⟩
def ItR1 (g : TG) (tb : TS) (D : Ends) (σ : L2.St) (vs : List V) (H1 : Hp) : Prop := ∃ j, vs = [.int j] ∧ -(2 ^ 62) ≤ j ∧ j < 2 ^ 62 ∧ LoopJ (Itr 0 j.toNat) g tb D σ H1
theorem g_forR1 (h : ts σ H (ItR1 g tbs D σ)) : tFor (iRng1 ts) g tbs D σ H := h
theorem n_forR1 {j : Int} (hj : -(2 ^ 62) ≤ j) (hk : j < 2 ^ 62) (Pv : Nat → L2.St → Hp → Prop) (h0 : Pv 0 σ H)
    (hs : ∀ (i : Nat) σ H, i < j.toNat → Pv i σ H → g (.int i) σ H fun σ2 H2 => tbs { D with nx := Pv (i + 1), ct := Pv (i + 1), bk := D.nx } σ2 H2) (hd : ∀ σ H, Pv j.toNat σ H → D.nx σ H) : ItR1 g tbs D σ [.int j] H :=
  ⟨j, rfl, hj, hk, for_range Pv h0 (fun i σ H hi p => by rw [Int.zero_add]; exact hs i σ H hi p) hd⟩
def ItR2 (g : TG) (tb : TS) (D : Ends) (σ : L2.St) (vs : List V) (H1 : Hp) : Prop := ∃ lo hi, vs = [.int lo, .int hi] ∧ (-(2 ^ 62) ≤ lo ∧ lo < 2 ^ 62 ∧ -(2 ^ 62) ≤ hi ∧ hi < 2 ^ 62) ∧ LoopJ (Itr lo (hi - lo).toNat) g tb D σ H1
theorem g_forR2 (h : ts σ H (ItR2 g tbs D σ)) : tFor (iRng2 ts) g tbs D σ H := h
theorem n_forR2 {lo hi : Int} (h1 : -(2 ^ 62) ≤ lo) (h2 : lo < 2 ^ 62) (h3 : -(2 ^ 62) ≤ hi) (h4 : hi < 2 ^ 62) (Pv : Nat → L2.St → Hp → Prop) (h0 : Pv 0 σ H)
    (hs : ∀ (i : Nat) σ H, i < (hi - lo).toNat → Pv i σ H → g (.int (lo + i)) σ H fun σ2 H2 => tbs { D with nx := Pv (i + 1), ct := Pv (i + 1), bk := D.nx } σ2 H2) (hd : ∀ σ H, Pv (hi - lo).toNat σ H → D.nx σ H) : ItR2 g tbs D σ [.int lo, .int hi] H :=
  ⟨lo, hi, rfl, ⟨h1, h2, h3, h4⟩, for_range Pv h0 hs hd⟩
def ItET (K : PySem.W.Frag) (g : TG) (tb : TS) (D : Ends) (σ : L2.St) (vs : List V) (H1 : Hp) : Prop := ∃ a xs, vs = [.ref a] ∧ SqT K H1 a xs ∧ LoopJ (IteT K a xs.length) g tb D σ H1
theorem g_forET (h : ts σ H (ItET K g tbs D σ)) : tFor (iEnumT K ts) g tbs D σ H := h
theorem n_forET {a : Addr} {xs : List V} (h1 : SqT K H a xs) (Pv : Nat → L2.St → Hp → Prop) (h0 : Pv 0 σ H) (hl : ∀ i σ H, Pv i σ H → SqT K H a xs)
    (hs : ∀ (i : Nat) x T σ H H', xs[i]? = some x → Pv i σ H → H T = none → Same H H' → H' T = some (.tup [.int i, x]) → g (.ref T) σ H' fun σ2 H2 => tbs { D with nx := Pv (i + 1), ct := Pv (i + 1), bk := D.nx } σ2 H2) (hd : ∀ σ H, Pv xs.length σ H → D.nx σ H) : ItET K g tbs D σ [.ref a] H :=
  ⟨a, xs, rfl, h1, for_it (walk_enumT (K := K) (a := a) (xs := xs)) Pv h0 (fun i σ H _ p => hl i σ H p) (fun i x σ H H' hi p ⟨T, u, y, ex, hn, eH, e1, e2⟩ => by
    have eu := Option.some.inj e1
    subst ex eH eu
    exact hs i y T σ H _ e2 p hn (same_new hn) upd_same) hd⟩
/-- unpack a pair -/
theorem g_gtup {n : Nat} {t : TGs} {a : Addr} {xs : List V} {Q : L2.St → Hp → Prop} (h1 : SqT K H a xs) (h2 : xs.length = n) (h : t xs σ H Q) : gTup K n t (.ref a) σ H Q := ⟨a, xs, rfl, h1, h2, h⟩
theorem g_gcons {t : TG} {u : TGs} {x : V} {r : List V} {Q : L2.St → Hp → Prop} (h : t x σ H fun σ' H' => u r σ' H' Q) : gCons t u (x :: r) σ H Q := ⟨x, r, rfl, h⟩
theorem g_gnil {Q : L2.St → Hp → Prop} (h : Q σ H) : gNil [] σ H Q := ⟨rfl, h⟩
/-! comprehensions -/
/-- the turns of a list comprehension over J -/
def LcJ (J : It) (g : TG) (tt : TT) (te : TE) (vs : List Nat) (σ : L2.St) (Q : VK) (H : Hp) : Prop := tLc (fun _ H1 R => R J H1) g tt te vs σ H Q
/-- what a turn of a comprehension owes: the list so far stands at D -/
def LcEnd (D : Addr) (P : Hp → V → Prop) : VK := fun y H4 => ∃ acc, H4 D = some (.lst acc) ∧ acc.length < sizeLine ∧ P (upd H4 D (.lst (acc ++ [y]))) y
variable {tt : TT} {vs : List Nat} {ti : TE}
def LcL (K : PySem.W.Frag) (g : TG) (tt : TT) (te : TE) (vs : List Nat) (σ : L2.St) (Q : VK) : VK := fun x H1 => ∃ a, x = .ref a ∧ (∃ xs, SqL K H1 a xs) ∧ LcJ (Itl K a) g tt te vs σ Q H1
theorem g_lcL (h : ti σ H (LcL K g tt te vs σ Q)) : tLc (iList K ti) g tt te vs σ H Q := h
def LcT (K : PySem.W.Frag) (g : TG) (tt : TT) (te : TE) (vs : List Nat) (σ : L2.St) (Q : VK) : VK := fun x H1 => ∃ a, x = .ref a ∧ (∃ xs, SqT K H1 a xs) ∧ LcJ (Itt K a) g tt te vs σ Q H1
theorem g_lcT (h : ti σ H (LcT K g tt te vs σ Q)) : tLc (iTup K ti) g tt te vs σ H Q := h
def LcS (g : TG) (tt : TT) (te : TE) (vs : List Nat) (σ : L2.St) (Q : VK) : VK := fun x H1 => ∃ z, x = .str z ∧ LcJ (Its z) g tt te vs σ Q H1
theorem g_lcS (h : ti σ H (LcS g tt te vs σ Q)) : tLc (iStr ti) g tt te vs σ H Q := h
def LcR1 (g : TG) (tt : TT) (te : TE) (us : List Nat) (σ : L2.St) (Q : VK) (vs : List V) (H1 : Hp) : Prop := ∃ j, vs = [.int j] ∧ -(2 ^ 62) ≤ j ∧ j < 2 ^ 62 ∧ LcJ (Itr 0 j.toNat) g tt te us σ Q H1
theorem g_lcR1 (h : ts σ H (LcR1 g tt te vs σ Q)) : tLc (iRng1 ts) g tt te vs σ H Q := h

def NxP (P : Nat → List V → Hp → Prop) (C : Addr) (i : Nat) : Hp → Prop := fun H => ∃ acc, acc.length ≤ i ∧ H C = some (.lst acc) ∧ P i acc H
def LcK (C : Addr) (Nx : Hp → Prop) : VK := fun y H4 => ∃ acc, H4 C = some (.lst acc) ∧ acc.length < sizeLine ∧ Nx (upd H4 C (.lst (acc ++ [y])))
def LcIf (C : Addr) (te : TE) (σ2 : L2.St) (Nx : Hp → Prop) : Bool → Hp → Prop := fun b H3 => if b = true then te σ2 H3 (LcK C Nx) else Nx H3
theorem g_lcIfT {C : Addr} {Nx : Hp → Prop} (h : te σ H (LcK C Nx)) : LcIf C te σ Nx true H := iteT h
theorem g_lcIfF {C : Addr} {Nx : Hp → Prop} (h : Nx H) : LcIf C te σ Nx false H := iteF h
theorem g_yes {Q : Bool → Hp → Prop} (h : Q true H) : tYes σ H Q := h
theorem n_lcK {C : Addr} {P : Nat → List V → Hp → Prop} {i : Nat} {acc : List V} {y : V} (h1 : H C = some (.lst acc)) (hi : acc.length < i) (hn : i ≤ 1000000) (h : ∀ H', Keep C H H' → H' C = some (.lst (acc ++ [y])) → P i (acc ++ [y]) H') : LcK C (NxP P C i) y H :=
  ⟨acc, h1, Nat.lt_of_lt_of_le (Nat.lt_of_lt_of_le hi hn) (by decide), acc ++ [y], by rw [List.length_append]; exact hi, upd_same, h _ keep_upd upd_same⟩
theorem n_lcN {C : Addr} {P : Nat → List V → Hp → Prop} {i : Nat} {acc : List V} (h1 : H C = some (.lst acc)) (hi : acc.length ≤ i) (h : P i acc H) : NxP P C i H := ⟨acc, hi, h1, h⟩
/-- the comprehension's turns, one after another: at turn i the list at C is acc; P i acc H what else holds -/
theorem lc_run {J : It} {n : Nat} {G : Hp → Prop} {Y : Nat → Hp → V → Hp → Prop} (w : Walk J n G Y) (P : Nat → List V → Hp → Prop) {H1 : Hp}
    (h0 : ∀ C H', H1 C = none → Same H1 H' → H' C = some (.lst []) → P 0 [] H')
    (hG : ∀ i acc H C, H1 C = none → H C = some (.lst acc) → P i acc H → G H)
    (hs : ∀ C i acc x H H', H1 C = none → i < n → acc.length ≤ i → H C = some (.lst acc) → P i acc H → Y i H x H' → g x (wipe σ vs) H' fun σ2 H2 => wipe σ2 vs = wipe σ vs ∧ tt σ2 H2 (LcIf C te σ2 (NxP P C (i + 1))))
    (hd : ∀ C acc H, H1 C = none → H C = some (.lst acc) → P n acc H → Q (.ref C) H) : LcJ J g tt te vs σ Q H1 := by
  intro C hC
  refine ⟨fun i m H => m = n - i ∧ i ≤ n ∧ NxP P C i H, ⟨n, by simp, Nat.zero_le _, [], Nat.le_refl _, upd_same, h0 C _ hC (same_new hC) upd_same⟩, ?_⟩
  rintro i m H ⟨rfl, hi, acc, hl, hC', p⟩
  have q := hG i acc H C hC hC' p
  by_cases hlt : i < n
  · exact .inr ⟨w.goes i H hlt q, NxP P C (i + 1), fun H' q' => ⟨n - (i + 1), by omega, rfl, hlt, q'⟩, fun x H' y => hs C i acc x H H' hC hlt hl hC' p (w.yields i H x H' hlt q y)⟩
  · have e : i = n := by omega
    subst e
    exact .inl ⟨w.stops H q, hd C acc H hC hC' p⟩
theorem n_lcL {a : Addr} {xs : List V} (h1 : SqL K H a xs) (h : LcJ (Itl K a) g tt te vs σ Q H) : LcL K g tt te vs σ Q (.ref a) H := ⟨a, rfl, ⟨xs, h1⟩, h⟩
theorem n_lcT {a : Addr} {xs : List V} (h1 : SqT K H a xs) (h : LcJ (Itt K a) g tt te vs σ Q H) : LcT K g tt te vs σ Q (.ref a) H := ⟨a, rfl, ⟨xs, h1⟩, h⟩
theorem n_lcS {z : Str} (h : LcJ (Its z) g tt te vs σ Q H) : LcS g tt te vs σ Q (.str z) H := ⟨z, rfl, h⟩
theorem n_lcR1 {j : Int} (h1 : -(2 ^ 62) ≤ j) (h2 : j < 2 ^ 62) (h : LcJ (Itr 0 j.toNat) g tt te vs σ Q H) : LcR1 g tt te vs σ Q [.int j] H := ⟨j, rfl, h1, h2, h⟩
/-! fields -/
def Fl (K : PySem.W.Frag) (f : Str) (Q : VK) : VK := fun x H1 => ∃ a C dx fs v, x = .ref a ∧ H1 a = some (.ins C dx fs) ∧ Cls K C ∧ NoAttr K C f ∧ fs.lookup f = some v ∧ Q v H1
theorem g_fld {f : Str} (h : ta σ H (Fl K f Q)) : tFld K ta f σ H Q := h
theorem n_fld {a C dx : Addr} {fs : List (Str × V)} {f : Str} {v : V} (h1 : H a = some (.ins C dx fs)) (h2 : Cls K C) (h3 : NoAttr K C f) (h4 : fs.lookup f = some v) (h : Q v H) : Fl K f Q (.ref a) H := ⟨a, C, dx, fs, v, rfl, h1, h2, h3, h4, h⟩
def Pr (C : Addr) (sp : Sp) (Q : VK) : VK := fun x H1 => ∃ a dx fs, x = .ref a ∧ H1 a = some (.ins C dx fs) ∧ sp [.ref a] H1 Q E0
theorem g_prop {C : Addr} {sp : Sp} (h : ta σ H (Pr C sp Q)) : tPropR C sp ta σ H Q := h
theorem n_prop {a C dx : Addr} {fs : List (Str × V)} {sp : Sp} (h1 : H a = some (.ins C dx fs)) (h : sp [.ref a] H Q E0) : Pr C sp Q (.ref a) H := ⟨a, dx, fs, rfl, h1, h⟩
def Mt (C : Addr) (m : Str) (sp : Sp) (E : XK) (ts : TA) (σ : L2.St) (Q : VK) : VK := fun x H1 => ∃ a dx fs, x = .ref a ∧ H1 a = some (.ins C dx fs) ∧ fs.lookup m = none ∧ ts σ H1 fun vs H2 => sp (x :: vs) H2 Q E
theorem g_meth {C : Addr} {m : Str} {sp : Sp} {E : XK} (h : ta σ H (Mt C m sp E ts σ Q)) : tMethR C m sp E ta ts σ H Q := h
theorem n_meth {a C dx : Addr} {fs : List (Str × V)} {m : Str} {sp : Sp} {E : XK} (h1 : H a = some (.ins C dx fs)) (h2 : fs.lookup m = none) (h : ts σ H fun vs H2 => sp (.ref a :: vs) H2 Q E) : Mt C m sp E ts σ Q (.ref a) H := ⟨a, dx, fs, rfl, h1, h2, h⟩
def MkK (C : Addr) (sp : Sp) (E : XK) (Q : VK) (vs : List V) (H1 : Hp) : Prop := ∀ x dx, H1 x = none → H1 dx = none → dx ≠ x → sp (.ref x :: vs) (upd (upd H1 dx (.own x)) x (.ins C dx [])) (fun v H2 => v = .non ∧ Q (.ref x) H2) E
theorem g_make {C : Addr} {sp : Sp} {E : XK} (h : ts σ H (MkK C sp E Q)) : StX.tMakeR C sp E ts σ H Q := h
theorem n_make {C : Addr} {sp : Sp} {E : XK} {vs : List V} (h : ∀ x dx H', H x = none → H dx = none → dx ≠ x → Same H H' → H' x = some (.ins C dx []) → H' dx = some (.own x) → sp (.ref x :: vs) H' (fun v H2 => v = .non ∧ Q (.ref x) H2) E) : MkK C sp E Q vs H := fun x dx hx hd ne =>
  h x dx _ hx hd ne (fun b o e => by rw [upd_ne (ne_of_none e hx), upd_ne (ne_of_none e hd)]; exact e) upd_same (by rw [upd_ne ne, upd_same])
def St1 (K : PySem.W.Frag) (Q : List V → Hp → Prop) : VK := fun y H1 => ∃ a xs, y = V.ref a ∧ (SqT K H1 a xs ∨ SqL K H1 a xs) ∧ Q xs H1
theorem g_star1 {Q : List V → Hp → Prop} (h : te σ H (St1 K Q)) : tStar1 K te σ H Q := h
theorem n_star1 {a : Addr} {xs : List V} {Q : List V → Hp → Prop} (h1 : SqT K H a xs ∨ SqL K H a xs) (h : Q xs H) : St1 K Q (.ref a) H := ⟨a, xs, rfl, h1, h⟩
def StA (K : PySem.W.Frag) (t : TA) (σ : L2.St) (Q : List V → Hp → Prop) : VK := fun x H1 => ∃ p xs, x = V.ref p ∧ (SqT K H1 p xs ∨ SqL K H1 p xs) ∧ t σ H1 fun ys H2 => Q (xs ++ ys) H2
theorem g_star {Q : List V → Hp → Prop} (h : te σ H (StA K ts σ Q)) : StX.tStar K te ts σ H Q := h
theorem n_star {a : Addr} {xs : List V} {Q : List V → Hp → Prop} (h1 : SqT K H a xs ∨ SqL K H a xs) (h : ts σ H fun ys H2 => Q (xs ++ ys) H2) : StA K ts σ Q (.ref a) H := ⟨a, xs, rfl, h1, h⟩
def SFl (K : PySem.W.Frag) (f : Str) (y : V) (D : Ends) (σ : L2.St) : VK := fun x H2 => ∃ a C dx fs, x = .ref a ∧ H2 a = some (.ins C dx fs) ∧ Cls K C ∧ NoAttr K C f ∧ fs.length < 1000 ∧ D.nx σ (upd H2 a (.ins C dx (putF f y fs)))
theorem g_sfld {f : Str} {tv : TE} (h : tv σ H fun y H1 => ta σ H1 (SFl K f y D σ)) : sFld K ta tv f D σ H := h
theorem n_sfld {a C dx : Addr} {fs : List (Str × V)} {f : Str} {y : V} (h1 : H a = some (.ins C dx fs)) (h2 : Cls K C) (h3 : NoAttr K C f) (h4 : fs.length < 1000) (h : ∀ H', Keep a H H' → H' a = some (.ins C dx (putF f y fs)) → D.nx σ H') : SFl K f y D σ (.ref a) H := ⟨a, C, dx, fs, rfl, h1, h2, h3, h4, h _ keep_upd upd_same⟩

/-! words between -/
def tCutE (t : TE) : TE := fun σ H Q => ∃ Mid : V → Hp → Prop, t σ H Mid ∧ ∀ v H', Mid v H' → Q v H'
def tCutT (t : TT) : TT := fun σ H Q => ∃ Mid : Bool → Hp → Prop, t σ H Mid ∧ ∀ b H', Mid b H' → Q b H'
theorem pe_cut {e : Expr} {t : TE} (h : PE X e t) : PE X e (tCutE t) := ⟨fun pins s σ H Q I ⟨Mid, q, k⟩ => thn (h.run pins s σ H Mid I q) fun v s1 ⟨x, H1, I1, r1, q1⟩ => ⟨x, H1, I1, r1, k x H1 q1⟩⟩
theorem pt_cut {e : Expr} {t : TT} (h : PT X e t) : PT X e (tCutT t) := ⟨fun pins s σ H Q I ⟨Mid, q, k⟩ => thn (h.run pins s σ H Mid I q) fun b s1 ⟨H1, I1, q1⟩ => ⟨H1, I1, k b H1 q1⟩⟩
theorem g_cut {t u : TS} (Mid : L2.St → Hp → Prop) (h1 : t { D with nx := Mid } σ H) (h2 : ∀ σ' H', Mid σ' H' → u D σ' H') : C8.tCut t u D σ H := ⟨Mid, h1, h2⟩
theorem g_cutE {t : TE} (Mid : V → Hp → Prop) (h1 : t σ H Mid) (h2 : ∀ v H', Mid v H' → Q v H') : tCutE t σ H Q := ⟨Mid, h1, h2⟩
theorem g_cutT {t : TT} {Q : Bool → Hp → Prop} (Mid : Bool → Hp → Prop) (h1 : t σ H Mid) (h2 : ∀ b H', Mid b H' → Q b H') : tCutT t σ H Q := ⟨Mid, h1, h2⟩

/-! while -/
def WhK (Pv : Nat → L2.St → Hp → Prop) (m : Nat) (tb : TS) (D : Ends) (σ : L2.St) : Bool → Hp → Prop := fun b H1 => if b = true then ∃ N : L2.St → Hp → Prop, (∀ σ' H', N σ' H' → ∃ m', m' < m ∧ Pv m' σ' H') ∧ tb { D with nx := N, ct := N, bk := D.nx } σ H1 else D.nx σ H1
theorem n_while {c : TT} (Pv : Nat → L2.St → Hp → Prop) (m : Nat) (h0 : Pv m σ H) (hs : ∀ m σ H, Pv m σ H → c σ H (WhK Pv m tbs D σ)) : tWhile c tbs D σ H := ⟨Pv, ⟨m, h0⟩, hs⟩
theorem n_whT {Pv : Nat → L2.St → Hp → Prop} {m : Nat} (h : tbs { D with nx := fun σ' H' => ∃ m', m' < m ∧ Pv m' σ' H', ct := fun σ' H' => ∃ m', m' < m ∧ Pv m' σ' H', bk := D.nx } σ H) : WhK Pv m tbs D σ true H := iteT ⟨_, fun _ _ z => z, h⟩
theorem n_whF {Pv : Nat → L2.St → Hp → Prop} {m : Nat} (h : D.nx σ H) : WhK Pv m tbs D σ false H := iteF h

/-! a, b = x, y -/
def ParK (i j : Nat) (D : Ends) (σ : L2.St) (vs : List V) (H1 : Hp) : Prop := ∃ v w, vs = [v, w] ∧ D.nx ((σ.set i (some v)).set j (some w)) H1
theorem g_par {i j : Nat} (h : ts σ H (ParK i j D σ)) : tPar i j ts D σ H := h
theorem n_par {i j : Nat} {v w : V} {σ' : L2.St} (e : (σ.set i (some v)).set j (some w) = σ') (h : D.nx σ' H) : ParK i j D σ [v, w] H := ⟨v, w, rfl, by rw [e]; exact h⟩
def ParK3 (i j l : Nat) (D : Ends) (σ : L2.St) (vs : List V) (H1 : Hp) : Prop := ∃ u v w, vs = [u, v, w] ∧ D.nx (((σ.set i (some u)).set j (some v)).set l (some w)) H1
theorem g_par3 {i j l : Nat} (h : ts σ H (ParK3 i j l D σ)) : tPar3 i j l ts D σ H := h
theorem n_par3 {i j l : Nat} {u v w : V} {σ' : L2.St} (e : ((σ.set i (some u)).set j (some v)).set l (some w) = σ') (h : D.nx σ' H) : ParK3 i j l D σ [u, v, w] H := ⟨u, v, w, rfl, by rw [e]; exact h⟩
def AugK (i : Nat) (D : Ends) (σ : L2.St) : VK := fun z H2 => D.nx (σ.set i (some z)) H2
theorem g_aug {i : Nat} {x : V} {tip : TIp} (e : σ[i]? = some (some x)) (h : te σ H fun y H1 => tip x y H1 (AugK i D σ)) : tAug i te tip D σ H := ⟨x, e, h⟩
theorem n_aug {i : Nat} {z : V} {σ' : L2.St} (e : σ.set i (some z) = σ') (h : D.nx σ' H) : AugK i D σ z H := by subst e; exact h
theorem g_ipI {f : Int → Int → Int} {i j : Int} (h : Q (.int (f i j)) H) : ipI f (.int i) (.int j) H Q := ⟨i, j, rfl, rfl, h⟩
theorem g_rAdd {i j : Int} (h : Q (.int (i + j)) H) : rAdd (.int i) (.int j) H Q := ⟨i, j, rfl, rfl, h⟩
theorem g_rSub {i j : Int} (h : Q (.int (i - j)) H) : rSub (.int i) (.int j) H Q := ⟨i, j, rfl, rfl, h⟩
def FAK (K : PySem.W.Frag) (f : Str) (tv : TE) (rd : V → V → Hp → VK → Prop) (D : Ends) (σ : L2.St) : VK := fun x H => sFldAug K (fun _ H1 R => R x H1) tv rd f D σ H
def FAE (C a : Addr) (f : Str) (D : Ends) (σ : L2.St) : VK := fun z H3 => ∃ dx' fs', H3 a = some (.ins C dx' fs') ∧ fs'.length < 1000 ∧ D.nx σ (upd H3 a (.ins C dx' (putF f z fs')))
theorem g_fldaug {f : Str} {tv : TE} {rd : V → V → Hp → VK → Prop} (h : ta σ H (FAK K f tv rd D σ)) : sFldAug K ta tv rd f D σ H := h
theorem n_fldaug {a C dx : Addr} {fs : List (Str × V)} {f : Str} {v : V} {tv : TE} {rd : V → V → Hp → VK → Prop} (h1 : H a = some (.ins C dx fs)) (h2 : Cls K C) (h3 : NoAttr K C f) (h4 : fs.lookup f = some v) (h : tv σ H fun y H2 => rd v y H2 (FAE C a f D σ)) : FAK K f tv rd D σ (.ref a) H := ⟨a, C, dx, fs, v, rfl, h1, h2, h3, h4, h⟩
theorem n_fae {a C dx : Addr} {fs : List (Str × V)} {f : Str} {z : V} (h1 : H a = some (.ins C dx fs)) (h4 : fs.length < 1000) (h : ∀ H', Keep a H H' → H' a = some (.ins C dx (putF f z fs)) → D.nx σ H') : FAE C a f D σ z H := ⟨dx, fs, h1, h4, h _ keep_upd upd_same⟩
theorem g_minL {a : Addr} {ns : List Int} (h1 : SqL K H a (ns.map V.int)) (h2 : 0 < ns.length) (h : ∀ m, m ∈ ns → (∀ y, y ∈ ns → m ≤ y) → Q (.int m) H) : rMin K [.ref a] H Q := ⟨a, ns, rfl, h1, h2, h⟩
theorem g_maxL {a : Addr} {ns : List Int} (h1 : SqL K H a (ns.map V.int)) (h2 : 0 < ns.length) (h : ∀ m, m ∈ ns → (∀ y, y ∈ ns → y ≤ m) → Q (.int m) H) : rMax K [.ref a] H Q := ⟨a, ns, rfl, h1, h2, h⟩
theorem g_sumL {a : Addr} {ns : List Int} (h1 : SqL K H a (ns.map V.int)) (h : Q (.int ns.sum) H) : rSum K [.ref a] H Q := ⟨a, ns, rfl, h1, h⟩
theorem g_all {a : Addr} {bs : List Bool} (h1 : SqL K H a (bs.map V.bl)) (h : Q (.bl (bs.all id)) H) : rAll K [.ref a] H Q := ⟨a, bs, rfl, h1, h⟩
theorem g_any {a : Addr} {bs : List Bool} (h1 : SqL K H a (bs.map V.bl)) (h : Q (.bl (bs.any id)) H) : rAny K [.ref a] H Q := ⟨a, bs, rfl, h1, h⟩

/-! a comprehension whose i-th item is f i -/
def PMap (f : Nat → V) (H1 : Hp) : Nat → List V → Hp → Prop := fun i acc H' => Same H1 H' ∧ acc = (List.range i).map f
theorem n_mapK {f : Nat → V} {H1 : Hp} {C : Addr} {i : Nat} {y : V} (hC : H1 C = none) (h1 : Same H1 H) (h2 : H C = some (.lst ((List.range i).map f))) (e : y = f i) (hn : i < 1000000 := by omega) : LcK C (NxP (PMap f H1) C (i + 1)) y H := by
  refine n_lcK h2 (by simp) (by omega) fun H' k hc => ⟨fun b o e => k _ _ (ne_of_none e hC) (h1 _ _ e), ?_⟩
  rw [List.range_succ, List.map_append, e]; rfl
theorem lc_map {J : It} {n : Nat} {G : Hp → Prop} {Y : Nat → Hp → V → Hp → Prop} (w : Walk J n G Y) (f : Nat → V) {H1 : Hp} (hG : ∀ H, Same H1 H → G H)
    (hs : ∀ C i x H H', H1 C = none → i < n → Same H1 H → H C = some (.lst ((List.range i).map f)) → Y i H x H' → g x (wipe σ vs) H' fun σ2 H2 => wipe σ2 vs = wipe σ vs ∧ tt σ2 H2 (LcIf C te σ2 (NxP (PMap f H1) C (i + 1))))
    (hd : ∀ C H, H1 C = none → Same H1 H → H C = some (.lst ((List.range n).map f)) → Q (.ref C) H) : LcJ J g tt te vs σ Q H1 := by
  refine lc_run w (PMap f H1) (fun C H' nC s h => ⟨s, rfl⟩) (fun i acc H C nC hC ⟨s, _⟩ => hG H s) ?_ ?_
  · rintro C i acc x H H' nC hi hl hC ⟨s, rfl⟩ y
    exact hs C i x H H' nC hi s hC y
  · rintro C acc H nC hC ⟨s, rfl⟩
    exact hd C H nC s hC
theorem range_getD {α β : Type} (xs : List α) (d : α) (F : α → β) : (List.range xs.length).map (fun i => F (xs.getD i d)) = xs.map F := by
  apply List.ext_getElem
  · simp
  · intro i h1 h2
    simp at h1
    simp [List.getD, List.getElem?_eq_getElem h1]
theorem getD_of {α : Type} {xs : List α} {i : Nat} {x d : α} (h : xs[i]? = some x) : xs.getD i d = x := by simp [List.getD, h]
theorem cps_get {z : Str} {i c : Nat} (h : z.cps[i]? = some c) : z.cps.toList[i]? = some c := by simpa using h
end
end HC
/-! short words for terms -/
namespace HC
open PyProof.Rows PySem L2 PySem.Spec
theorem bt_len : bootBuiltins "len" = some (.builtin "len") := by decide +kernel
theorem bt_abs : bootBuiltins "abs" = some (.builtin "abs") := by decide +kernel
theorem bt_min : bootBuiltins "min" = some (.builtin "min") := by decide +kernel
theorem bt_max : bootBuiltins "max" = some (.builtin "max") := by decide +kernel
theorem bt_all : bootBuiltins "all" = some (.builtin "all") := by decide +kernel
theorem bt_any : bootBuiltins "any" = some (.builtin "any") := by decide +kernel
theorem bt_sum : bootBuiltins "sum" = some (.builtin "sum") := by decide +kernel
theorem bt_isinstance : bootBuiltins "isinstance" = some (.builtin "isinstance") := by decide +kernel
theorem bt_list : bootBuiltins "list" = some (.type "list") := by decide +kernel
theorem bt_tuple : bootBuiltins "tuple" = some (.type "tuple") := by decide +kernel
theorem bt_int : bootBuiltins "int" = some (.type "int") := by decide +kernel
theorem bt_str : bootBuiltins "str" = some (.type "str") := by decide +kernel
theorem bt_bool : bootBuiltins "bool" = some (.type "bool") := by decide +kernel
theorem bt_dict : bootBuiltins "dict" = some (.type "dict") := by decide +kernel
/-- the builtins' names are not the module's -/
structure Bts (mg : Str → Option Value) : Prop where
  len : mg "len" = none
  abs : mg "abs" = none
  min : mg "min" = none
  max : mg "max" = none
  all : mg "all" = none
  any : mg "any" = none
  sum : mg "sum" = none
  isinstance : mg "isinstance" = none
  list : mg "list" = none
  tuple : mg "tuple" = none
  int : mg "int" = none
  str : mg "str" = none
  bool : mg "bool" = none
  dict : mg "dict" = none
  range : mg "range" = none
  enumerate : mg "enumerate" = none
  zip : mg "zip" = none
  sorted : mg "sorted" = none
  set : mg "set" = none
def GInt (mg : Str → Option Value) (x : Str) (i : Int) : Prop := ∃ t, mg x = some (.int i t)
def GStr (mg : Str → Option Value) (x : Str) (z : Str) : Prop := ∃ t, mg x = some (.str z t)
/-- the class x (at C) has the int constant f -/
structure GCon (K : PySem.W.Frag) (mg : Str → Option Value) (x f : Str) (v : V) : Prop where
  ex : ∃ C mc u, mg x = some (.ref C) ∧ ClX.CRead K C mc ∧ ClX.CVal K C mc f v u
section
variable {X : Cx} {e e2 o : Expr} {es : List Expr} {te te2 to : TE} {ts : TA} {p pos apos tpos : Pos} {x f : Str}
theorem pe_gi {i : Int} (h : GInt X.mg x i) (hg : Gl X x := by rfl) (hd : (x == ("__debug__" : Str)) = false := by decide) : PE X (.Name x pos) (tC (.int i)) := by
  obtain ⟨t, h⟩ := h
  exact pe_glob hg h ⟨t, rfl⟩ hd
theorem pe_gs {z : Str} (h : GStr X.mg x z) (hg : Gl X x := by rfl) (hd : (x == ("__debug__" : Str)) = false := by decide) : PE X (.Name x pos) (tC (.str z)) := by
  obtain ⟨t, h⟩ := h
  exact pe_glob hg h ⟨t, rfl⟩ hd
theorem pe_gcon {v : V} (h : GCon X.K X.mg x f v) (hg : Gl X x := by rfl) (hb : attributeBase (.Name x p) f X.env (eval (.Name x p) X.env) = eval (.Name x p) X.env := by rfl) (hd : (x == ("__debug__" : Str)) = false := by decide) : PE X (.Attribute (.Name x p) f pos) (tC v) := by
  obtain ⟨C, mc, u, h1, h2, h3⟩ := h.ex
  exact ⟨fun pins s σ H Q I h => (ClX.pe_cval (pe_glob (v := .ref C) hg h1 rfl hd) hb).run pins s σ H Q I ⟨C, mc, v, u, rfl, h2, h3, h⟩⟩
theorem pe_len0 (m : Bts X.mg) (he : PE X e te) (hg : Gl X "len" := by rfl) (hs : starEach (e :: []) X.env = (false, eval e X.env) :: starEach [] X.env := by rfl) : PE X (.Call (.Name "len" p) [e] [] pos) (tCB (uLen X.K) (tCons te tNil)) :=
  pe_callB call_lenU hg m.len bt_len (pa_cons he pa_nil hs) (by decide) (by decide) hs rfl
theorem pe_len (K' : PySem.W.Frag) (m : Bts X.mg) (he : PE X e te) (hg : Gl X "len" := by rfl) (hs : starEach (e :: []) X.env = (false, eval e X.env) :: starEach [] X.env := by rfl) (hK : X.K = K' := by rfl) : PE X (.Call (.Name "len" p) [e] [] pos) (tCB (uLen K') (tCons te tNil)) := by
  subst hK
  exact pe_len0 m he hg hs
def rAbs : List V → Hp → VK → Prop := fun xs H Q => ∃ i, xs = [.int i] ∧ Q (.int (if i < 0 then -i else i)) H
theorem pe_abs (m : Bts X.mg) (he : PE X e te) (hg : Gl X "abs" := by rfl) (hs : starEach (e :: []) X.env = (false, eval e X.env) :: starEach [] X.env := by rfl) : PE X (.Call (.Name "abs" p) [e] [] pos) (tCB rAbs (tCons te tNil)) :=
  pe_callB call_abs hg m.abs bt_abs (pa_cons he pa_nil hs) (by decide) (by decide) hs rfl
def rMin2 : List V → Hp → VK → Prop := fun xs H Q => ∃ i j, xs = [.int i, .int j] ∧ Q (.int (if j < i then j else i)) H
theorem pe_min2 (m : Bts X.mg) (ha : PA X [e, e2] ts) (hc : X.calm = true := by rfl) (hg : Gl X "min" := by rfl) (he : starEach [e, e2] X.env = (false, eval e X.env) :: starEach [e2] X.env := by rfl) (hpl : (backTo pos (starEach [e2] X.env)).any (·.1) = false := by rfl) :
    PE X (.Call (.Name "min" p) [e, e2] [] pos) (tCB rMin2 ts) := pe_callB (call_min2 hc) hg m.min bt_min ha (by decide) (by decide) he hpl
theorem pe_max2 (m : Bts X.mg) (ha : PA X [e, e2] ts) (hc : X.calm = true := by rfl) (hg : Gl X "max" := by rfl) (he : starEach [e, e2] X.env = (false, eval e X.env) :: starEach [e2] X.env := by rfl) (hpl : (backTo pos (starEach [e2] X.env)).any (·.1) = false := by rfl) :
    PE X (.Call (.Name "max" p) [e, e2] [] pos) (tCB Evl.rMax2 ts) := pe_callB (call_max2 hc) hg m.max bt_max ha (by decide) (by decide) he hpl
theorem pe_min10 (m : Bts X.mg) (he : PE X e te) (hc : X.calm = true := by rfl) (hg : Gl X "min" := by rfl) (hs : starEach (e :: []) X.env = (false, eval e X.env) :: starEach [] X.env := by rfl) : PE X (.Call (.Name "min" p) [e] [] pos) (tCB (rMin X.K) (tCons te tNil)) :=
  pe_callB (cr_min hc) hg m.min bt_min (pa_cons he pa_nil hs) (by decide) (by decide) hs rfl
theorem pe_min1 (K' : PySem.W.Frag) (m : Bts X.mg) (he : PE X e te) (hc : X.calm = true := by rfl) (hg : Gl X "min" := by rfl) (hs : starEach (e :: []) X.env = (false, eval e X.env) :: starEach [] X.env := by rfl) (hK : X.K = K' := by rfl) : PE X (.Call (.Name "min" p) [e] [] pos) (tCB (rMin K') (tCons te tNil)) := by
  subst hK
  exact pe_min10 m he hc hg hs
theorem pe_max10 (m : Bts X.mg) (he : PE X e te) (hc : X.calm = true := by rfl) (hg : Gl X "max" := by rfl) (hs : starEach (e :: []) X.env = (false, eval e X.env) :: starEach [] X.env := by rfl) : PE X (.Call (.Name "max" p) [e] [] pos) (tCB (rMax X.K) (tCons te tNil)) :=
  pe_callB (cr_max hc) hg m.max bt_max (pa_cons he pa_nil hs) (by decide) (by decide) hs rfl
theorem pe_max1 (K' : PySem.W.Frag) (m : Bts X.mg) (he : PE X e te) (hc : X.calm = true := by rfl) (hg : Gl X "max" := by rfl) (hs : starEach (e :: []) X.env = (false, eval e X.env) :: starEach [] X.env := by rfl) (hK : X.K = K' := by rfl) : PE X (.Call (.Name "max" p) [e] [] pos) (tCB (rMax K') (tCons te tNil)) := by
  subst hK
  exact pe_max10 m he hc hg hs
theorem pe_sum10 (m : Bts X.mg) (he : PE X e te) (hc : X.calm = true := by rfl) (hg : Gl X "sum" := by rfl) (hs : starEach (e :: []) X.env = (false, eval e X.env) :: starEach [] X.env := by rfl) : PE X (.Call (.Name "sum" p) [e] [] pos) (tCB (rSum X.K) (tCons te tNil)) :=
  pe_callB (cr_sum hc) hg m.sum bt_sum (pa_cons he pa_nil hs) (by decide) (by decide) hs rfl
theorem pe_sum1 (K' : PySem.W.Frag) (m : Bts X.mg) (he : PE X e te) (hc : X.calm = true := by rfl) (hg : Gl X "sum" := by rfl) (hs : starEach (e :: []) X.env = (false, eval e X.env) :: starEach [] X.env := by rfl) (hK : X.K = K' := by rfl) : PE X (.Call (.Name "sum" p) [e] [] pos) (tCB (rSum K') (tCons te tNil)) := by
  subst hK
  exact pe_sum10 m he hc hg hs
theorem pe_all0 (m : Bts X.mg) (he : PE X e te) (hc : X.calm = true := by rfl) (hg : Gl X "all" := by rfl) (hs : starEach (e :: []) X.env = (false, eval e X.env) :: starEach [] X.env := by rfl) : PE X (.Call (.Name "all" p) [e] [] pos) (tCB (rAll X.K) (tCons te tNil)) :=
  pe_callB (cr_all hc) hg m.all bt_all (pa_cons he pa_nil hs) (by decide) (by decide) hs rfl
theorem pe_all (K' : PySem.W.Frag) (m : Bts X.mg) (he : PE X e te) (hc : X.calm = true := by rfl) (hg : Gl X "all" := by rfl) (hs : starEach (e :: []) X.env = (false, eval e X.env) :: starEach [] X.env := by rfl) (hK : X.K = K' := by rfl) : PE X (.Call (.Name "all" p) [e] [] pos) (tCB (rAll K') (tCons te tNil)) := by
  subst hK
  exact pe_all0 m he hc hg hs
theorem pe_any0 (m : Bts X.mg) (he : PE X e te) (hc : X.calm = true := by rfl) (hg : Gl X "any" := by rfl) (hs : starEach (e :: []) X.env = (false, eval e X.env) :: starEach [] X.env := by rfl) : PE X (.Call (.Name "any" p) [e] [] pos) (tCB (rAny X.K) (tCons te tNil)) :=
  pe_callB (cr_any hc) hg m.any bt_any (pa_cons he pa_nil hs) (by decide) (by decide) hs rfl
theorem pe_any (K' : PySem.W.Frag) (m : Bts X.mg) (he : PE X e te) (hc : X.calm = true := by rfl) (hg : Gl X "any" := by rfl) (hs : starEach (e :: []) X.env = (false, eval e X.env) :: starEach [] X.env := by rfl) (hK : X.K = K' := by rfl) : PE X (.Call (.Name "any" p) [e] [] pos) (tCB (rAny K') (tCons te tNil)) := by
  subst hK
  exact pe_any0 m he hc hg hs
def rInt1 : List V → Hp → VK → Prop := fun xs H Q => (∃ i, xs = [.int i] ∧ Q (.int i) H) ∨ ∃ k, xs = [.bl k] ∧ Q (.int (if k then 1 else 0)) H
theorem pe_int1 (m : Bts X.mg) (he : PE X e te) (hg : Gl X "int" := by rfl) (hs : starEach (e :: []) X.env = (false, eval e X.env) :: starEach [] X.env := by rfl) : PE X (.Call (.Name "int" p) [e] [] pos) (tCB rInt1 (tCons te tNil)) :=
  pe_callTy call_int1 hg m.int bt_int (pa_cons he pa_nil hs) (by decide) (by decide) hs rfl
def rListOf (K : PySem.W.Frag) : List V → Hp → VK → Prop := fun xs H Q => ∃ p ys, xs = [.ref p] ∧ (SqL K H p ys ∨ SqT K H p ys) ∧ ∀ l, H l = none → Q (.ref l) (upd H l (.lst ys))
def rTupleOf (K : PySem.W.Frag) : List V → Hp → VK → Prop := fun xs H Q => ∃ p ys, xs = [.ref p] ∧ ((SqL K H p ys ∧ ∀ l, H l = none → Q (.ref l) (upd H l (.tup ys))) ∨ (SqT K H p ys ∧ Q (.ref p) H))
theorem pe_listOf0 (m : Bts X.mg) (he : PE X e te) (hg : Gl X "list" := by rfl) (hs : starEach (e :: []) X.env = (false, eval e X.env) :: starEach [] X.env := by rfl) : PE X (.Call (.Name "list" p) [e] [] pos) (tCB (rListOf X.K) (tCons te tNil)) :=
  pe_callTy call_list_of hg m.list bt_list (pa_cons he pa_nil hs) (by decide) (by decide) hs rfl
theorem pe_listOf (K' : PySem.W.Frag) (m : Bts X.mg) (he : PE X e te) (hg : Gl X "list" := by rfl) (hs : starEach (e :: []) X.env = (false, eval e X.env) :: starEach [] X.env := by rfl) (hK : X.K = K' := by rfl) : PE X (.Call (.Name "list" p) [e] [] pos) (tCB (rListOf K') (tCons te tNil)) := by
  subst hK
  exact pe_listOf0 m he hg hs
theorem pe_tupOf0 (m : Bts X.mg) (he : PE X e te) (hg : Gl X "tuple" := by rfl) (hs : starEach (e :: []) X.env = (false, eval e X.env) :: starEach [] X.env := by rfl) : PE X (.Call (.Name "tuple" p) [e] [] pos) (tCB (rTupleOf X.K) (tCons te tNil)) :=
  pe_callTy call_tuple_of hg m.tuple bt_tuple (pa_cons he pa_nil hs) (by decide) (by decide) hs rfl
theorem pe_tupOf (K' : PySem.W.Frag) (m : Bts X.mg) (he : PE X e te) (hg : Gl X "tuple" := by rfl) (hs : starEach (e :: []) X.env = (false, eval e X.env) :: starEach [] X.env := by rfl) (hK : X.K = K' := by rfl) : PE X (.Call (.Name "tuple" p) [e] [] pos) (tCB (rTupleOf K') (tCons te tNil)) := by
  subst hK
  exact pe_tupOf0 m he hg hs
/-- isinstance(e, T), T a built-in class -/
theorem pe_isiB0 {T : String} {n : Str} (m : Bts X.mg) (hn : X.mg n = none) (hb : bootBuiltins n = some (.type T)) (he : PE X e te) (hg : Gl X "isinstance" := by rfl) (hg2 : Gl X n := by rfl) (hd1 : n ≠ "__name__" := by decide) (hd2 : (n == ("__debug__" : Str)) = false := by decide)
    (hs : starEach [e, .Name n tpos] X.env = (false, eval e X.env) :: starEach [.Name n tpos] X.env := by rfl) (hs2 : starEach [.Name n tpos] X.env = (false, eval (.Name n tpos) X.env) :: starEach [] X.env := by rfl) (hpl : (backTo pos (starEach [.Name n tpos] X.env)).any (·.1) = false := by rfl) :
    PE X (.Call (.Name "isinstance" p) [e, .Name n tpos] [] pos) (tCB (rIsi X.K) (tCons te (tCons (tC (.ty T)) tNil))) :=
  pe_callB (p := p) (pos := pos) call_isi hg m.isinstance bt_isinstance (pa_cons he (pa_cons (pe_bltn (pos := tpos) (v := .ty T) hg2 hn hb rfl hd1 hd2) pa_nil hs2) hs) (by decide) (by decide) hs hpl
theorem pe_isiB (K' : PySem.W.Frag) {T : String} {n : Str} (m : Bts X.mg) (hn : X.mg n = none) (hb : bootBuiltins n = some (.type T)) (he : PE X e te) (hg : Gl X "isinstance" := by rfl) (hg2 : Gl X n := by rfl) (hd1 : n ≠ "__name__" := by decide) (hd2 : (n == ("__debug__" : Str)) = false := by decide)
    (hs : starEach [e, .Name n tpos] X.env = (false, eval e X.env) :: starEach [.Name n tpos] X.env := by rfl) (hs2 : starEach [.Name n tpos] X.env = (false, eval (.Name n tpos) X.env) :: starEach [] X.env := by rfl) (hpl : (backTo pos (starEach [.Name n tpos] X.env)).any (·.1) = false := by rfl) (hK : X.K = K' := by rfl) :
    PE X (.Call (.Name "isinstance" p) [e, .Name n tpos] [] pos) (tCB (rIsi K') (tCons te (tCons (tC (.ty T)) tNil))) := by
  subst hK
  exact pe_isiB0 m hn hb he hg hg2 hd1 hd2 hs hs2 hpl
/-- isinstance(e, C), C a class of the module -/
theorem pe_isiC0 {C : Addr} {n : Str} (m : Bts X.mg) (hn : X.mg n = some (.ref C)) (he : PE X e te) (hg : Gl X "isinstance" := by rfl) (hg2 : Gl X n := by rfl) (hd2 : (n == ("__debug__" : Str)) = false := by decide)
    (hs : starEach [e, .Name n tpos] X.env = (false, eval e X.env) :: starEach [.Name n tpos] X.env := by rfl) (hs2 : starEach [.Name n tpos] X.env = (false, eval (.Name n tpos) X.env) :: starEach [] X.env := by rfl) (hpl : (backTo pos (starEach [.Name n tpos] X.env)).any (·.1) = false := by rfl) :
    PE X (.Call (.Name "isinstance" p) [e, .Name n tpos] [] pos) (tCB (rIsi X.K) (tCons te (tCons (tC (.ref C)) tNil))) :=
  pe_callB (p := p) (pos := pos) call_isi hg m.isinstance bt_isinstance (pa_cons he (pa_cons (pe_glob (pos := tpos) (v := .ref C) hg2 hn rfl hd2) pa_nil hs2) hs) (by decide) (by decide) hs hpl
/-! methods of built-in types -/
variable {K : PySem.W.Frag} {H : Hp} {Q : VK} {σ : L2.St}
theorem pe_isiC (K' : PySem.W.Frag) {C : Addr} {n : Str} (m : Bts X.mg) (hn : X.mg n = some (.ref C)) (he : PE X e te) (hg : Gl X "isinstance" := by rfl) (hg2 : Gl X n := by rfl) (hd2 : (n == ("__debug__" : Str)) = false := by decide)
    (hs : starEach [e, .Name n tpos] X.env = (false, eval e X.env) :: starEach [.Name n tpos] X.env := by rfl) (hs2 : starEach [.Name n tpos] X.env = (false, eval (.Name n tpos) X.env) :: starEach [] X.env := by rfl) (hpl : (backTo pos (starEach [.Name n tpos] X.env)).any (·.1) = false := by rfl) (hK : X.K = K' := by rfl) :
    PE X (.Call (.Name "isinstance" p) [e, .Name n tpos] [] pos) (tCB (rIsi K') (tCons te (tCons (tC (.ref C)) tNil))) := by
  subst hK
  exact pe_isiC0 m hn he hg hg2 hd2 hs hs2 hpl
end
section
variable {X : Cx} {K : PySem.W.Frag} {H : Hp} {Q : VK} {σ : L2.St}
theorem g_abs {i : Int} (h : Q (.int (if i < 0 then -i else i)) H) : rAbs [.int i] H Q := ⟨i, rfl, h⟩
theorem g_min2 {i j : Int} (h : Q (.int (if j < i then j else i)) H) : rMin2 [.int i, .int j] H Q := ⟨i, j, rfl, h⟩
theorem g_max2 {i j : Int} (h : Q (.int (if j > i then j else i)) H) : Evl.rMax2 [.int i, .int j] H Q := ⟨i, j, rfl, h⟩
theorem g_int_i {i : Int} (h : Q (.int i) H) : rInt1 [.int i] H Q := .inl ⟨i, rfl, h⟩
theorem g_int_b {k : Bool} (h : Q (.int (if k then 1 else 0)) H) : rInt1 [.bl k] H Q := .inr ⟨k, rfl, h⟩
theorem g_listOf {p : Addr} {ys : List V} (h1 : SqL K H p ys ∨ SqT K H p ys) (h : ∀ l H', H l = none → Same H H' → H' l = some (.lst ys) → Q (.ref l) H') : rListOf K [.ref p] H Q := ⟨p, ys, rfl, h1, fun l hl => h l _ hl (same_new hl) upd_same⟩
theorem g_tupOf_l {p : Addr} {ys : List V} (h1 : SqL K H p ys) (h : ∀ l H', H l = none → Same H H' → H' l = some (.tup ys) → Q (.ref l) H') : rTupleOf K [.ref p] H Q := ⟨p, ys, rfl, .inl ⟨h1, fun l hl => h l _ hl (same_new hl) upd_same⟩⟩
theorem g_tupOf_t {p : Addr} {ys : List V} (h1 : SqT K H p ys) (h : Q (.ref p) H) : rTupleOf K [.ref p] H Q := ⟨p, ys, rfl, .inr ⟨h1, h⟩⟩
theorem g_isi {x : V} {t T : String} {b : Bool} (h1 : TyX K H x (.type t)) (h2 : kitB t T = some b) (h : Q (.bl b) H) : rIsi K [x, .ty T] H Q := ⟨x, .ty T, .type t, .type T, b, rfl, .ty T, h1, kit_ty h2, h⟩
end

section
variable {X : Cx} {K : PySem.W.Frag} {a b e e2 o value : Expr} {es : List Expr} {ta tb te to tl : TE} {ts : TA} {p pos apos cpos tpos p2 pos' : Pos} {f name : Str}
theorem op_addK (K) (hK : X.K = K := by rfl) : OpR X (binaryOp .Add) (uAdd K) := by subst hK; exact op_addU
theorem op_eqK (K) {k : Nat} (hr : Room k X.A) (hK : X.K = K := by rfl) : OpR X (compareOp .Eq) (uEq K) := by subst hK; exact op_eqU hr
theorem op_neK (K) {k : Nat} (hr : Room k X.A) (hK : X.K = K := by rfl) : OpR X (compareOp .NotEq) (uNe K) := by subst hK; exact op_neU hr
theorem op_inK (K) {k : Nat} (hr : Room k X.A) (hK : X.K = K := by rfl) : OpR X (compareOp .In) (uIn K) := by subst hK; exact op_inU hr
theorem op_notInK (K) {k : Nat} (hr : Room k X.A) (hK : X.K = K := by rfl) : OpR X (compareOp .NotIn) (uNotIn K) := by subst hK; exact op_notInU hr
theorem ix_K (K) (hK : X.K = K := by rfl) : IxR X (rIx K) := by subst hK; exact ix_seq
theorem sl_listK (K) (hK : X.K = K := by rfl) : SlR X (rSlL K) := by subst hK; exact sl_list
theorem sl_tupK (K) (hK : X.K = K := by rfl) : SlR X (rSlA K) := by subst hK; exact sl_tupA
theorem pe_fldK (K) (he : PE X e ta) (hb : attributeBase e f X.env (eval e X.env) = eval e X.env := by rfl) (hK : X.K = K := by rfl) : PE X (.Attribute e f pos) (tFld K ta f) := by subst hK; exact pe_fld he hb
theorem ps_fldK (K) (ha : PE X o ta) (hv : PE X value te) (hs : swapsWith value (some (.Attribute o f pos')) pos.line X.env = pure false := by rfl) (hK : X.K = K := by rfl) : PS X (.Assign [.Attribute o f pos'] value pos) (sFld K ta te f) := by subst hK; exact ps_fld ha hv hs
theorem ps_fldaugK (K) {op : Operator} {rd : V → V → Hp → VK → Prop} (ha : PE X o ta) (hv : PE X value te) (hop : InOp X op rd) (hK : X.K = K := by rfl) : PS X (.AugAssign (.Attribute o f tpos) op value pos) (sFldAug K ta te rd f) := by subst hK; exact ps_fldaug ha hv hop
theorem as_bm (K) {c : Expr} {T : String} {r : V → List V → Hp → VK → Prop} (h : PE X c (tBM X.K T r to ts)) (hK : X.K = K := by rfl) : PE X c (tBM K T r to ts) := by subst hK; exact h
theorem pi_listK (K) {tg : Expr} (hl : PE X e tl) (hK : X.K = K := by rfl) : PI X tg e (iList K tl) := by subst hK; exact pi_list hl
theorem pi_tupK (K) {tg : Expr} (hl : PE X e tl) (hK : X.K = K := by rfl) : PI X tg e (iTup K tl) := by subst hK; exact pi_tup hl
theorem pi_enumTK (K) {elts : List Expr} {kk : Nat} (hg : Gl X "enumerate") (hm : X.mg "enumerate" = none) (ha : PA X [e] ts) (hs : starEach [e] X.env = [(false, eval e X.env)] := by rfl) (hK : X.K = K := by rfl) :
    PI X (.Tuple elts kk tpos) (.Call (.Name "enumerate" p) [e] [] pos) (iEnumT K ts) := by subst hK; exact pi_enumT hg hm ha hs
theorem pi_enumLK (K) {elts : List Expr} {kk : Nat} (hg : Gl X "enumerate") (hm : X.mg "enumerate" = none) (ha : PA X [e] ts) (hs : starEach [e] X.env = [(false, eval e X.env)] := by rfl) (hK : X.K = K := by rfl) :
    PI X (.Tuple elts kk tpos) (.Call (.Name "enumerate" p) [e] [] pos) (iEnum K ts) := by subst hK; exact pi_enum hg hm ha hs
theorem pi_zipK (K) {elts : List Expr} {kk : Nat} (hg : Gl X "zip") (hm : X.mg "zip" = none) (ha : PA X [e, e2] ts) (hs : starEach [e, e2] X.env = (false, eval e X.env) :: starEach [e2] X.env := by rfl) (hpl : (backTo pos (starEach [e2] X.env)).any (·.1) = false := by rfl) (hK : X.K = K := by rfl) :
    PI X (.Tuple elts kk tpos) (.Call (.Name "zip" p) [e, e2] [] pos) (RZ.iZipA K ts) := by subst hK; exact RZ.pi_zipA hg hm ha hs hpl
theorem pg_tupK (K) {k : Nat} {t : TGs} {n : Nat} (hc : X.calm = true) (h : PGs X es t) (hn : (assignEach es X.env).length = n := by rfl) (hst : (assignEach es X.env).findIdx? (·.1) = none := by rfl) (hK : X.K = K := by rfl) : PG X (.Tuple es k pos) (gTup K n t) := by subst hK; exact pg_tup hc h hn hst
theorem pa_starK (K) (he : PE X e te) (hr : PA X es ts) (hs : starEach (.Starred e p :: es) X.env = (true, eval e X.env) :: starEach es X.env := by rfl) (hK : X.K = K := by rfl) : PA X (.Starred e p :: es) (StX.tStar K te ts) := by subst hK; exact StX.pa_star he hr hs
def rJoin (K : PySem.W.Frag) : V → List V → Hp → VK → Prop := fun x xs H Q => ∃ a p, ∃ ys : List Str, x = .str a ∧ xs = [.ref p] ∧ (SqL K H p (ys.map V.str) ∨ SqT K H p (ys.map V.str)) ∧ (ys.map (·.length)).sum + ys.length * a.length ≤ 16777216 ∧ Q (.str (Txt.join a ys)) H
theorem pe_joinK (K) (ho : PE X o to) (he : PE X e te) (hs : starEach [e] X.env = [(false, eval e X.env)] := by rfl) (hbase : attributeBase o "join" X.env (eval o X.env) = eval o X.env := by rfl) (hline : (apos.endLine == pos.line) = true := by rfl) (hK : X.K = K := by rfl) :
    PE X (.Call (.Attribute o "join" apos) [e] [] pos) (tM1 (rJoin K) to te) := by subst hK; exact pe_join ho he hs hbase hline
theorem pe_makeSK (K) {x : Str} {C : Addr} {k : Nat} {sp : Sp} {E : XK} (M : MakeR X.prog X.w X.K X.mg X.base x C k sp) (hr : Room (k + 1) X.A) (hx : Passes (CXW X.prog X.w) X E) (he : PE X e te) (hg : Gl X x := by rfl) (hd : (x == ("__debug__" : Str)) = false := by decide)
    (hst : starEach [.Starred e apos] X.env = [(true, eval e X.env)] := by rfl) (hK : X.K = K := by rfl) : PE X (.Call (.Name x p) [.Starred e apos] [] pos) (StX.tMakeR C sp E (tStar1 K te)) := by subst hK; exact pe_makeS M hr hx he hg hd hst
end
end HC
/-! the head's facts: defs at any address, facts by names, properties, constants of classes -/
namespace HC
open PySem PySem.W PySem.Calls PyProof.Rows He He5 L2
/-- a property's getter -/
def pgA (K : Frag) (C : Addr) (f : PySem.Str) : Addr := match recIn K (ma K C f) "property" with
  | some (.ref g :: _) => g
  | _ => 0
def propB (K : Frag) (C : Addr) (f : PySem.Str) : Bool := eqO (findIn K (.ref C) f) (some (some (.ref (ma K C f)))) && (eqO (specialIn K (.ref (ma K C f)) "__get__") (some (some (.builtin "property.__get__"))) &&
  (decide (takesIn K (.ref (ma K C f)) = some true) && (match recIn K (ma K C f) "property" with
    | some (.ref _ :: _) => true
    | _ => false)))
theorem propB_ok {K : Frag} {C : Addr} {f : PySem.Str} (h : propB K C f = true) : PropOf K C f (ma K C f) (pgA K C f) := by
  obtain ⟨h1, h⟩ := ba h
  obtain ⟨h2, h⟩ := ba h
  obtain ⟨h3, h4⟩ := ba h
  refine ⟨eqO_ok h1, eqO_ok h2, of_decide_eq_true h3, ?_⟩
  unfold pgA
  split at h4
  · rename_i g r e
    exact ⟨r, by rw [e]⟩
  · cases h4
def gconB (K : Frag) (C : Addr) (f : PySem.Str) (v : V) : Bool := readsIn K C (.type "type") && (eqO (specialIn K (.ref C) "__getattribute__") (some (some (.builtin "type.__getattribute__"))) && (match findCls K (.ref C) (.type "type") f with
  | some (.val u) => relB v u
  | _ => false))
theorem gconB_ok {K : Frag} {mg : PySem.Str → Option Value} {x f : PySem.Str} {C : Addr} {v : V} (hx : mg x = some (.ref C)) (h : gconB K C f v = true) : GCon K mg x f v := by
  obtain ⟨h1, h⟩ := ba h
  obtain ⟨h2, h3⟩ := ba h
  split at h3
  · rename_i u e
    exact ⟨C, .type "type", u, hx, ⟨h1, eqO_ok h2⟩, ⟨e, relB_ok h3⟩⟩
  · cases h3
/-- facts that He.Fa has no word for -/
inductive Fx where
  | prop (c f : PySem.Str)
  | con (c f : PySem.Str) (v : V)
def Fx.ok (K : Frag) : Fx → Bool
  | .prop c f => propB K (ga K c) f
  | .con c f v => gconB K (ga K c) f v
/-- the library's observation of facts and defs, and these facts beside it -/
def obsH (fx : List Fx) (fa : List Fa) (fn : List DefA) (K : Frag) : He.AlD × Bool := (obsA fa fn K, fx.all (Fx.ok K))
structure SaysH (fx : List Fx) (fa : List Fa) (fn : List DefA) (K : Frag) : Prop where
  base : SaysA fa fn K
  also : fx.all (Fx.ok K) = true
theorem SaysH.more {fx : List Fx} {fa : List Fa} {fn : List DefA} {K : Frag} (c : SaysH fx fa fn K) (i : Nat) {f : Fx} (at_ : fx[i]? = some f := by rfl) : f.ok K = true :=
  (List.all_eq_true.mp c.also) f (List.mem_of_getElem? at_)
def obsHG (n : Nat) (fx : List Fx) (fa : List Fa) (fn : List DefA) (g : Addr → Option Obj) : He.AlD × Bool := obsH fx fa fn (frG g (asA g n))
def hookH (n : Nat) (fx : List Fx) (fa : List Fa) (fn : List DefA) : PySem.W.Hook where
  α := He.AlD × Bool
  obs s := obsHG n fx fa fn s.heap.get?
  val _ := (valA fn, true)
  says _ h := ∃ K : Frag, K.In h ∧ SaysH fx fa fn K
  of _ _ both := ⟨_, frG_in, congrArg Prod.fst both, congrArg Prod.snd both⟩
  keeps _ _ _ here up := let ⟨K, inH, says⟩ := here; ⟨K, inH.keeps up, says⟩
theorem obsHG_eq {n : Nat} {fx : List Fx} {fa : List Fa} {fn : List DefA} {g : Addr → Option Obj} {s : Shared} (same : ∀ a, g a = s.heap.get? a) : obsHG n fx fa fn g = (hookH n fx fa fn).obs s := congrArg (obsHG n fx fa fn) (funext same)
end HC
/-! own operators, and makers with a star and a keyword -/
namespace HC
open PyProof.Rows PySem L2 PySem.Spec
section
variable {X : Cx} {k : Nat} {C : Addr} {sp : Sp} {m : Str}
/-- an instance's address, as its class asks it -/
theorem instAt {pins : List (Addr × Obj)} {s : Shared} {σ : L2.St} {H : Hp} {a C dx : Addr} {fs : List (Str × V)} (inv : L2.Inv X pins σ H s) (at_ : H a = some (.ins C dx fs)) : ∃ ox od, PySem.W.InstAt s.heap a ox C od := by
  obtain ⟨mA, obj, _⟩ := ins_get inv.hok at_
  obtain ⟨od, is, _⟩ := obj.look
  exact ⟨_, _, is⟩
/-- a value of ours is never NotImplemented -/
theorem cmpBack {pins : List (Addr × Obj)} {σ : L2.St} {Q : VK} {v : Value} {s : Shared} (h : EP X pins σ Q v s) : PySem.W.CmpBack (EP X pins σ Q) v s := by
  obtain ⟨x, H, inv, rel, q⟩ := h
  cases v <;> first | exact ⟨x, H, inv, rel, q⟩ | (cases x <;> simp [L2.RelV] at rel)
/-- x op y by the own method of x's class, both of the class at C -/
def rOwn2 (C : Addr) (sp : Sp) : R2 := fun x y H Q => ∃ a b dx dy fs gs, x = .ref a ∧ y = .ref b ∧ H a = some (.ins C dx fs) ∧ H b = some (.ins C dy gs) ∧ sp [.ref a, .ref b] H Q E0
theorem op_own2 {op : Operator} (M : MethR X.prog X.w X.K X.mg X.base C m k sp) (self : PySem.W.selfFirst X.K C = true) (room : Room k X.A) (nm : PySem.dunder op.info.2 = m := by first | rfl | decide) : OpR X (binaryOp op) (rOwn2 C sp) := by
  rintro pins s σ H _ _ v u Q inv rv ru ⟨a, b, dx, dy, fs, gs, rfl, rfl, ha, hb, owed⟩
  cases rv
  cases ru
  obtain ⟨ox, od, isA⟩ := instAt inv ha
  obtain ⟨oy, od', isB⟩ := instAt inv hb
  obtain ⟨mm, fr⟩ := inv.fr
  have called := run_fnR (us := [.ref a, .ref b]) (vs := [V.ref a, V.ref b]) M.fn room passN inv (.cons (by rfl) (.cons (by rfl) .nil)) owed
  exact PySem.W.binop_K fr inv.mod.kin isA isB.type self (nm ▸ M.at_.at_) M.at_.fn (wpAny_mono (wpAny_call called) (fun _ _ => cmpBack) fun _ _ z => z)
end
theorem callWith_SKW {M : Model} {A : Around} {E : Value → Shared → Prop} {s : Shared} {K : PySem.W.Frag} {env : Env} {pos p : Pos} {f : Value} {first : List Value} {Q : Value → Shared → Prop} {e : Expr} {kws : List Keyword} (kept : PySem.W.keepIn K f = true)
    (named : (backToKw pos (keywordEach kws env)).all (·.1.isSome) = true)
    (h : wpAny M A (eval e env) (fun v s1 => wpAny M A (evalAll ((backToKw pos (keywordEach kws env)).map (·.2))) (fun ks s2 => PySem.W.StarOf M A E v (fun vs s3 => K.In s3.heap ∧ wpAny M A (call f (first ++ vs) (((backToKw pos (keywordEach kws env)).filterMap (·.1)).zip ks)) Q E s3) s2) E s1) E s)
    (one : starEach [.Starred e p] env = [(true, eval e env)] := by rfl) : wpAny M A (callWith pos f first (backTo pos (starEach [.Starred e p] env)) (backToKw pos (keywordEach kws env))) Q E s := by
  rw [one]
  unfold callWith evalArgs
  apply wpAny_bind; apply wpAny_holding
  simp only [named, if_true, backTo]
  simp only [List.map_cons, List.map_nil, if_true]
  refine wpAny_bind (wpAny_bind (wpAny_mono h (fun v s1 h1 => wpAny_bind (wpAny_standAt (wpAny_pure ?_))) fun _ _ z => z))
  refine wpAny_bind (wpAny_pure (wpAny_holding (wpAny_bind (wpAny_mono h1 (fun ks s2 h2 => ?_) fun _ _ z => z))))
  refine wpAny_bind (wpAny_bind (wpAny_mono h2 (fun b s3 hb => ?_) fun _ _ z => z))
  obtain ⟨rfl, hb⟩ := hb
  rw [if_neg (fun z : false = true => nomatch z)]
  refine wpAny_holding (wpAny_mono hb (fun vs s4 done => wpAny_pure ?_) fun _ _ z => z)
  obtain ⟨kin, called⟩ := done
  apply wpAny_bind; apply wpAny_standAt
  obtain ⟨keeper, which, looks⟩ := PySem.W.keeps_K (M := M) kept _ kin
  simp only [List.any_cons, Bool.true_or]
  refine wpAny_bind (looks.here ?_)
  have ends : ∀ {m : Sem Value}, wpAny M A m Q E s4 → wpAny M A (do let r ← m; holding [r] point; pure r) Q E s4 := fun {m} hm =>
    wpAny_bind (wpAny_mono hm (fun r s5 q => wpAny_bind (wpAny_holding (wpAny_point (wpAny_pure q)))) fun _ _ z => z)
  rcases which with rfl | rfl | rfl
  · exact ends (by unfold callMarked; exact Calls.wpAny_keep called)
  · exact ends (wpAny_operating called)
  · exact ends (wpAny_operating called)
section
variable {P : Program} {w : World} {K : PySem.W.Frag}
variable {mg : Str → Option Value} {base : Heap} {k : Nat} {f : Addr} {sp : Sp}
/-- a def called by place and with the keyword kw: sp is told of the keyword's value, then of the others -/
def FnRK (P : Program) (w : World) (K : PySem.W.Frag) (mg : Str → Option Value) (base : Heap) (k : Nat) (f : Addr) (kw : Str) (sp : Sp) : Prop :=
  ∀ (A : Around) (outer : List Env) (s : Shared) (H : Hp) (us : List Value) (vs : List V) (u : Value) (z : V) (Q : VK) (E : XK), Room k A → Env0 P w K mg base A outer s H → Vals vs us → L2.RelV z u → sp (z :: vs) H Q E →
    codeAny (model P w) A (.call (.ref f) ⟨us, [(kw, u)]⟩) (CR (CXW P w) outer P w H s Q E) s
/-- def f(self, *v, kw=..), called with kw -/
theorem fnk_star1 {x qual : Str} {params : Arguments} {body : List Stmt} {scope : Scope} {kws : List (Str × V)} {fd : FuncData} {N : List Str} {p1 pv kw : Str} (F : FunD K x qual params body scope [] kws f fd) (S : FnScope N [p1, kw, pv] scope)
    (h0 : ∀ (kV doc pm : Value) (an : Option Addr) (cdv ct : Value) (a u : Value), bindArgs (PySem.W.fnOf x qual params body scope .none kV doc pm an cdv ct) ⟨[a], [(kw, u)]⟩ = (newTuple [] >>= fun t => pure [(p1, a), (kw, u), (pv, t)]))
    (h1 : ∀ (kV doc pm : Value) (an : Option Addr) (cdv ct : Value) (a u r : Value) (rs : List Value), bindArgs (PySem.W.fnOf x qual params body scope .none kV doc pm an cdv ct) ⟨a :: r :: rs, [(kw, u)]⟩ = (newTuple (r :: rs) >>= fun t => pure [(p1, a), (kw, u), (pv, t)]))
    (owes : ∀ cdv, Owes P w K mg base N qual scope body k f sp cdv) :
    FnRK P w K mg base (k + 1) f kw (fun vs H Q E => ∃ z w0 rest, vs = z :: w0 :: rest ∧ rest.length ≤ sizeLine ∧ ∀ p, H p = none → sp [w0, z, V.ref p] (upd H p (.tup rest)) Q E) := by
  rcases F.ex with ⟨c1, c2, dv, kv, dc, pm, an, cdv, ct, sl, e, at_, code, dfl, _⟩
  subst e
  have dn : dv = .none := dfl.elim (fun z => z.2) (fun z => absurd rfl z.1)
  subst dn
  rintro A outer s H us vs u z Q E room env rel relz ⟨z', w0, rest, ev, size, owed⟩
  injection ev with ez ev
  subst ez ev
  cases rel with
  | @cons _ a _ more ra rmore =>
    have free : H s.heap.objs.size = none := env.hok.fresh (Nat.le_refl _)
    have size' : more.length ≤ sizeLine := rmore.length ▸ size
    have bind : bindArgs (PySem.W.fnOf x qual params body scope .none kv dc pm an cdv ct) ⟨a :: more, [(kw, u)]⟩ = (newTuple more >>= fun t => pure [(p1, a), (kw, u), (pv, t)]) := by
      cases more with
      | nil => exact h0 kv dc pm an cdv ct a u
      | cons r rs => exact h1 kv dc pm an cdv ct a u r rs
    refine StX.run_bnd at_ code S room env (G := fun xs H2 => ∃ p, H p = none ∧ xs = [w0, z, V.ref p] ∧ H2 = upd H p (.tup rest)) ?_ ?_
    · intro A' Ex Q' go
      rw [bind]
      refine wpAny_bind (wpAny_newTuple (wpAny_pure ?_) size')
      have fresh : ObjOk P w (upd H s.heap.objs.size (.tup rest)) (s.heap.push { cls := .type "tuple", data := .seq more.toArray }) s.heap.objs.size (.tup rest) := ⟨size, more, rmore, _, Heap.get?_push_size _ rfl, rfl, _, rfl⟩
      have grown := StX.un_laid (fs := frs outer) (s := s) (o := { cls := .type "tuple", data := .seq more.toArray }) (u := .tup rest) free
      exact go _ _ [w0, z, .ref s.heap.objs.size] [a, u, .ref s.heap.objs.size] (StX.env0_laid env fresh) grown rfl (fun e s' => StX.cxUp outer s H _ _ E e s' grown (fun b o q => Heap.get?_push_of_some _ q) rfl) (.cons ra (.cons relz (.cons rfl .nil))) rfl ⟨_, free, rfl, rfl⟩
    · rintro s2 _ _ ⟨p, hp, rfl, rfl⟩ room'
      exact owes cdv A outer s2 _ _ Q E room' (owed p hp)
end
/-- the class x at C is made by an __init__ that keeps sp, the keyword kw given -/
structure MakeRK (P : Program) (w : World) (K : PySem.W.Frag) (mg : Str → Option Value) (base : Heap) (x : Str) (C : Addr) (k : Nat) (kw : Str) (sp : Sp) : Prop where
  at_ : mg x = some (.ref C)
  ex : ∃ f, Mk K C f ∧ FnRK P w K mg base k f kw sp
section
variable {X : Cx} {k : Nat} {C f : Addr} {sp : Sp} {E : XK} {x kw : Str} {e ke : Expr} {es : List Expr} {te tk : TE} {t : TA} {p pos apos kpos : Pos}
/-- what the maker owes: the new instance and its dict, then __init__ -/
def Makes (C : Addr) (sp : Sp) (E : XK) (Q : VK) (z : V) (vs : List V) (H : Hp) : Prop := ∀ x dx, H x = none → H dx = none → dx ≠ x → sp (z :: V.ref x :: vs) (upd (upd H dx (.own x)) x (.ins C dx [])) (fun v H2 => v = .non ∧ Q (.ref x) H2) E
theorem run_makeRK {pins : List (Addr × Obj)} {σ : L2.St} {H : Hp} {s : Shared} {Q : VK} {us : List Value} {vs : List V} {u : Value} {z : V} (made : Mk X.K C f) (F : FnRK X.prog X.w X.K X.mg X.base k f kw sp) (room : Room (k + 1) X.A) (leave : Passes (CXW X.prog X.w) X E) (inv : L2.Inv X pins σ H s)
    (rel : Vals vs us) (relz : L2.RelV z u) (owed : Makes C sp E Q z vs H) : wpAny (model X.prog X.w) X.A (call (.ref C) us [(kw, u)]) (EP X pins σ Q) X.xe s := by
  have inv2 := Inv.made (C := C) inv
  have here := owed _ _ (inv.hok.fresh (Nat.le_succ _)) (inv.hok.fresh (Nat.le_refl _)) (Nat.ne_of_lt (Nat.lt_succ_self _))
  have run := F _ X.stack _ _ (Value.ref (s.heap.objs.size + 1) :: us) (V.ref (s.heap.objs.size + 1) :: vs) u z _ E (room.make C us [(kw, u)]) (inv2.env0.make C us [(kw, u)]) (.cons rfl rel) relz here
  refine wpAny_call (make_map (f := f) inv.kIn made.makes made.init (beq_iff_eq.mp made.fn) (codeAny_mono run ?_))
  rintro (er | fl) s' got
  · exact leave pins σ _ _ er s' inv2 got
  · cases fl with
    | ret v =>
      obtain ⟨y, H', inv3, ry, ey, q⟩ := inv2.after got
      subst ey
      exact ⟨ry, V.ref (s.heap.objs.size + 1), H', inv3, rfl, q⟩
    | _ => exact got.elim
/-- one keyword's value, then the maker -/
def KwMk (C : Addr) (sp : Sp) (E : XK) (Q : VK) (vs : List V) (zs : List V) (H : Hp) : Prop := ∃ z, zs = [z] ∧ Makes C sp E Q z vs H
/-- C(e, .., kw=v) -/
def tMakeKW (C : Addr) (sp : Sp) (E : XK) (t tk : TA) : TE := fun σ H Q => t σ H fun vs H1 => tk σ H1 (KwMk C sp E Q vs)
theorem pe_makeKW {tk : TA} (M : MakeRK X.prog X.w X.K X.mg X.base x C k kw sp) (room : Room (k + 1) X.A) (leave : Passes (CXW X.prog X.w) X E) (args : PA X (e :: es) t) (key : PK X [⟨some kw, ke, kpos⟩] tk) (glob : Gl X x := by rfl) (nodeb : (x == ("__debug__" : Str)) = false := by decide)
    (named : (backToKw pos (keywordEach [⟨some kw, ke, kpos⟩] X.env)).all (·.1.isSome) = true := by rfl) (nm : (backToKw pos (keywordEach [⟨some kw, ke, kpos⟩] X.env)).filterMap (·.1) = [kw] := by rfl)
    (plain : ((backTo pos (starEach (e :: es) X.env)).any (·.1) || (backToKw pos (keywordEach [⟨some kw, ke, kpos⟩] X.env)).any (·.1.isNone)) = false := by rfl) (one : starEach (e :: es) X.env = (false, eval e X.env) :: starEach es X.env := by rfl) :
    PE X (.Call (.Name x p) (e :: es) [⟨some kw, ke, kpos⟩] pos) (tMakeKW C sp E t tk) := by
  constructor
  intro pn s σ H Q inv h
  obtain ⟨g, made, F⟩ := M.ex
  refine wpAny_Call_Name_kw (ld_glob inv glob M.at_ (PySem.W.callWith_KW (h₀ := X.base) inv.ok.mod.kin made.kp named (thn (args.run pos pn s σ H _ inv h) ?_) plain one) nodeb)
  rintro us s1 ⟨vs, H1, inv1, rel, q⟩
  refine thn (key.run pos pn s1 σ H1 _ inv1 q) ?_
  rintro ws s2 ⟨_, H2, inv2, relz, z, rfl, owed⟩
  obtain ⟨u, rfl, ru⟩ := vals1 relz
  refine ⟨inv2.kIn, ?_⟩
  rw [nm]
  exact run_makeRK made F room leave inv2 rel ru owed
/-- C( *e, kw=v): e's value, the keyword's, then e's items -/
def tMakeSKW (K : PySem.W.Frag) (C : Addr) (sp : Sp) (E : XK) (te : TE) (tk : TA) : TE := fun σ H Q => te σ H fun y H1 => tk σ H1 fun zs H2 => ∃ a xs, y = V.ref a ∧ (SqT K H2 a xs ∨ SqL K H2 a xs) ∧ KwMk C sp E Q xs zs H2
theorem pe_makeSKW {tk : TA} (M : MakeRK X.prog X.w X.K X.mg X.base x C k kw sp) (room : Room (k + 1) X.A) (leave : Passes (CXW X.prog X.w) X E) (arg : PE X e te) (key : PK X [⟨some kw, ke, kpos⟩] tk) (glob : Gl X x := by rfl) (nodeb : (x == ("__debug__" : Str)) = false := by decide)
    (named : (backToKw pos (keywordEach [⟨some kw, ke, kpos⟩] X.env)).all (·.1.isSome) = true := by rfl) (nm : (backToKw pos (keywordEach [⟨some kw, ke, kpos⟩] X.env)).filterMap (·.1) = [kw] := by rfl) (one : starEach [.Starred e apos] X.env = [(true, eval e X.env)] := by rfl) :
    PE X (.Call (.Name x p) [.Starred e apos] [⟨some kw, ke, kpos⟩] pos) (tMakeSKW X.K C sp E te tk) := by
  constructor
  intro pn s σ H Q inv h
  obtain ⟨g, made, F⟩ := M.ex
  refine wpAny_Call_Name_kw (ld_glob inv glob M.at_ (callWith_SKW made.kp named (thn (arg.run pn s σ H _ inv h) ?_) one) nodeb)
  rintro v s1 ⟨y, H1, inv1, rel, q⟩
  refine thn (key.run pos pn s1 σ H1 _ inv1 q) ?_
  rintro ws s2 ⟨_, H2, inv2, relz, a, xs, rfl, sq, z, rfl, owed⟩
  obtain ⟨u, rfl, ru⟩ := vals1 relz
  cases rel
  refine StX.star_any inv2 sq fun us s3 inv3 rv => ⟨inv3.kIn, ?_⟩
  rw [nm]
  exact run_makeRK made F room leave inv3 rv ru owed
end
section
variable {X : Cx} {K : PySem.W.Frag} {H : Hp} {Q : VK} {σ : L2.St} {C : Addr} {sp : Sp} {E : XK} {t tk : TA} {te : TE} {c : Expr}
theorem as_skw (K) (h : PE X c (tMakeSKW X.K C sp E te tk)) (hK : X.K = K := by rfl) : PE X c (tMakeSKW K C sp E te tk) := by subst hK; exact h
theorem n_own2 {a b dx dy : Addr} {fs gs : List (Str × V)} (h1 : H a = some (.ins C dx fs)) (h2 : H b = some (.ins C dy gs)) (h : sp [.ref a, .ref b] H Q E0) : rOwn2 C sp (.ref a) (.ref b) H Q := ⟨a, b, dx, dy, fs, gs, rfl, rfl, h1, h2, h⟩
theorem g_mkw (h : t σ H fun vs H1 => tk σ H1 (KwMk C sp E Q vs)) : tMakeKW C sp E t tk σ H Q := h
/-- the items of what stood behind the star, then the maker -/
def SkwK (K : PySem.W.Frag) (C : Addr) (sp : Sp) (E : XK) (Q : VK) (y : V) (zs : List V) (H : Hp) : Prop := ∃ a xs, y = V.ref a ∧ (SqT K H a xs ∨ SqL K H a xs) ∧ KwMk C sp E Q xs zs H
theorem g_mskw (h : te σ H fun y H1 => tk σ H1 (SkwK K C sp E Q y)) : tMakeSKW K C sp E te tk σ H Q := h
theorem n_mskw {a : Addr} {xs zs : List V} (h1 : SqT K H a xs ∨ SqL K H a xs) (h : KwMk C sp E Q xs zs H) : SkwK K C sp E Q (.ref a) zs H := ⟨a, xs, rfl, h1, h⟩
theorem n_kwmk {vs : List V} {z : V} (h : ∀ x dx H', H x = none → H dx = none → dx ≠ x → Same H H' → H' x = some (.ins C dx []) → H' dx = some (.own x) → sp (z :: .ref x :: vs) H' (fun v H2 => v = .non ∧ Q (.ref x) H2) E) : KwMk C sp E Q vs [z] H :=
  ⟨z, rfl, fun x dx hx hd ne => h x dx _ hx hd ne ((same_new hd).trans (same_new (by rw [upd_ne (Ne.symm ne)]; exact hx))) upd_same (by rw [upd_ne ne]; exact upd_same)⟩
theorem g_add_t {a b : Addr} {xs ys : List V} (h1 : SqT K H a xs) (h2 : SqT K H b ys) (hz : xs.length + ys.length ≤ sizeLine) (h : ∀ p H', Same H H' → SqT K H' p (xs ++ ys) → Q (.ref p) H') : uAdd K (.ref a) (.ref b) H Q := by
  refine .inr (.inr (.inr ⟨a, b, xs, ys, rfl, rfl, h1, h2, hz, fun e => ?_, fun _ e => ?_, fun _ _ p hp => h p _ (same_new hp) (SqT.of upd_same)⟩))
  · subst e
    exact h b H (Same.refl H) h2
  · subst e
    exact h a H (Same.refl H) (by simpa using h1)
end
theorem dpa_app {K : PySem.W.Frag} {H : Hp} : ∀ {vs us : List V} {ds es : List PyData}, DpAll K H vs ds → DpAll K H us es → DpAll K H (vs ++ us) (ds ++ es)
  | _, _, _, _, .nil, b => b
  | _, _, _, _, .cons a r, b => .cons a (dpa_app r b)
theorem dpa_drop {K : PySem.W.Frag} {H : Hp} : ∀ {vs : List V} {ds : List PyData} (n : Nat), DpAll K H vs ds → DpAll K H (vs.drop n) (ds.drop n)
  | _, _, 0, h => h
  | _, _, _ + 1, .nil => .nil
  | _, _, n + 1, .cons _ t => dpa_drop n t
end HC
/-! set(t) of a tuple of texts that differ, and its length -/
namespace HC
open PyProof.Rows PySem L2 PySem.Spec
section
variable {P : Program} {w : World} {A : Around} {E : Value → Shared → Prop} {s : Shared} {I S : Addr} {fp wr : List Addr} {Pv : Nat → Value → Prop} {St : Nat → Heap → Prop} {R : Result → Shared → Prop}
/-- a set is what its own record says -/
theorem setOf_kept {h h' : Heap} {B : Str → Bool} {n : Nat} (has : h.SetOf (PySem.strKind P w) S B n) (same : ∀ o, h.get? S = some o → h'.get? S = some o) : h'.SetOf (PySem.strKind P w) S B n := by
  obtain ⟨o, es, ep, t, at_, rest⟩ := has
  exact ⟨o, es, ep, t, same o at_, rest⟩
/-- one turn of set.update's loop -/
abbrev upTurn (S I : Addr) : Code := .builtin "set.update.loop" ⟨[.ref S, .ref I], []⟩
theorem upIn (h : wpAny (model P w) A.in1 (Builtin.«set.update.loop» ⟨[.ref S, .ref I], []⟩) (fun fin s' => match fin with
    | .done f => R (.ok f) s'
    | .again c => c.quiet = true ∧ codeAny (model P w) A c R s') (fun e s' => R (.error e) s') s) : codeAny (model P w) A (upTurn S I) R s :=
  codeAny_builtin F.entry_set_update_loop (by rw [Around.under_plainId F.plain_set_update_loop]; exact h)
/-- set.update's loop over any walk that gives the texts zs, all new -/
theorem fills {zs : List Str} (W : Walks P w A.in1 I fp wr zs.length Pv St) (off : S ∉ fp) (nz : zs.Nodup) (room : zs.length + 1 < scanBound) (val : ∀ i v, Pv i v → ∃ z t, zs[i]? = some z ∧ v = Value.str z t) (more : Nat) : ∀ (i : Nat) (s : Shared), i + more = zs.length → St i s.heap →
    s.heap.SetOf (PySem.strKind P w) S (fun z => decide (z ∈ zs.take i)) i →
    (∀ h' tk, (∀ b o, b ∉ S :: wr → s.heap.get? b = some o → h'.get? b = some o) → h'.SetOf (PySem.strKind P w) S (fun z => decide (z ∈ zs)) zs.length → R (.ok (.ret .none)) { s with heap := h', toks := tk }) →
    codeAny (model P w) A (upTurn S I) R s := by
  have offw : S ∉ wr := fun z => off (W.sub _ z)
  induction more with
  | zero =>
    intro i s sum now has done
    have last : i = zs.length := sum
    subst last
    rw [List.take_length] at has
    apply upIn
    refine wpAny_bind (W.done s _ _ now fun h' tk same => wpAny_pure (done h' tk (fun b o nb => same b o fun z => nb (List.mem_cons_of_mem _ z)) ?_))
    exact setOf_kept has fun o e => same S o offw e
  | succ more ih =>
    intro i s sum now has done
    have lt : i < zs.length := by omega
    apply upIn
    refine wpAny_bind (W.item i s _ _ lt now fun v h' tk pv now' same => ?_)
    obtain ⟨z, t, hz, rfl⟩ := val i v pv
    have fresh : z ∉ zs.take i := fun hm => by
      have ⟨j, hj⟩ := List.getElem?_of_mem hm
      rw [List.getElem?_take] at hj
      split at hj
      · rename_i ji
        have := (List.getElem?_inj (by omega) nz).mp (hj.trans hz.symm)
        omega
      · cases hj
    have has' : h'.SetOf (PySem.strKind P w) S (fun y => decide (y ∈ zs.take i)) i := setOf_kept has fun o e => same S o offw e
    apply wpAny_bind; apply wpAny_holding
    unfold setAdd
    refine wpAny_holding (wpAny_bind ((PySem.strKind P w).pyHash (k := z) ?_ ?_))
    · exact PySem.strKind_is P w z t
    refine wpAny_setAddHashed_of (knd := PySem.strKind P w) (s := { s with heap := h', toks := tk + 1 }) (PySem.strKind_is P w z t) rfl has' (by omega) fun h2 but has2 => ?_
    rw [decide_eq_false fresh] at has2
    have has3 : h2.SetOf (PySem.strKind P w) S (fun y => decide (y ∈ zs.take (i + 1))) (i + 1) := SetOf_congr has2 (fun y => by rw [List.take_add_one, hz]; simp [List.mem_append]) rfl
    refine wpAny_pure ⟨plainId_quiet F.plain_set_update_loop _, ih (i + 1) _ (by omega) (W.frame _ _ _ now' fun b hb o e => ?_) has3 fun h3 tk3 same3 fin => ?_⟩
    · rw [but.2 b fun q => off (q ▸ hb)]
      exact e
    · refine done h3 tk3 (fun b o nb e => same3 b o nb ?_) fin
      show h2.get? b = some o
      rw [but.2 b fun q => nb (q ▸ List.mem_cons_self)]
      exact same b o (fun q => nb (List.mem_cons_of_mem _ q)) e
/-- T(args) of a built-in class, its __init__ run as it stands -/
theorem callType_by {T newId initId : String} {args : List Value} {Q Q₁ : Value → Shared → Prop} (ft : TypeCalled T newId initId) (fit : checkTypeCall T ⟨args, []⟩ = pure ())
    (new : codeAny (model P w) A.in1 (.call (.builtin newId) ⟨.type T :: args, []⟩) (wants Q₁ E) s)
    (next : ∀ obj s₁, Q₁ obj s₁ → s₁.TypeIs obj T ∧ codeAny (model P w) A.in1 (.call (.builtin initId) ⟨obj :: args, []⟩) (wants (fun r s₂ => r = .none ∧ Q obj s₂) E) s₁) : wpAny (model P w) A (call (.type T) args) Q E s := by
  obtain ⟨first, others, mro⟩ := ft.mro
  have made := ft.made
  have sub := ft.sub
  have notT := ft.notType
  have can := ft.canCreate
  apply wpAny_call
  apply codeAny_of_tree
  change wpAny _ _ (callAny (.type T) _) _ _ _
  apply wpAny_pure
  refine ⟨Code.quiet_builtin _ (by decide +kernel), codeAny_builtin F.entry_type_call ?_⟩
  have same := Around.under_plain (A := A) (weight_type_call_type T args []) (units_type_call_type T args [])
  rw [same]
  repeat any_goals first | assumption | wp_step
  refine codeAny_mono new ?_
  rintro (er | fl) s1 got
  · exact got
  · cases fl with
    | ret obj =>
      obtain ⟨is, run⟩ := next obj s1 got
      have look := ft.init.lookup
      have bound := ft.init.bind obj
      repeat any_goals first | assumption | wp_step
      refine codeAny_mono run ?_
      rintro (er | fl) s2 back
      · exact back
      · cases fl with
        | ret v =>
          obtain ⟨rfl, q⟩ := back
          exact wpAny_pure (wpAny_pure q)
        | _ => exact back
    | _ => exact got
/-- set(t) -/
theorem call_setS {l : Addr} {cells : Array Value} {zs : List Str} {Q : Value → Shared → Prop} (calm : A.handled = none) (tup : s.heap.IsTuple l cells) (size : cells.size = zs.length) (texts : ∀ (i : Nat) (v : Value), cells[i]? = some v → ∃ z t, zs[i]? = some z ∧ v = Value.str z t) (nz : zs.Nodup) (room : zs.length + 1 < scanBound)
    (go : ∀ h' tk, h'.SetOf (PySem.strKind P w) s.heap.objs.size (fun z => decide (z ∈ zs)) zs.length → (∀ b o, s.heap.get? b = some o → h'.get? b = some o) → Q (.ref s.heap.objs.size) { s with heap := h', toks := tk }) :
    wpAny (model P w) A (call (Value.type "set") [Value.ref l]) Q E s := by
  refine callType_by F.called_set (F.typeCall_set_1 _) (code_set_new_1 (.ref l) (Q₁ := fun obj s1 => obj = .ref s.heap.objs.size ∧ ∃ led, s1 = { s with heap := s.heap.push { cls := .type "set", dict := none, data := .set #[] 0 (.fresh 0 0 led) } }) fun led => ⟨rfl, led, rfl⟩) ?_
  rintro _ _ ⟨rfl, led, rfl⟩
  have at_ : (s.heap.push { cls := .type "set", dict := none, data := .set #[] 0 (.fresh 0 0 led) }).get? s.heap.objs.size = some { cls := .type "set", dict := none, data := .set #[] 0 (.fresh 0 0 led) } := Heap.get?_push_size _ rfl
  have is : Shared.TypeIs { s with heap := s.heap.push { cls := .type "set", dict := none, data := .set #[] 0 (.fresh 0 0 led) } } (.ref s.heap.objs.size) "set" := ⟨_, at_, rfl⟩
  have subTS : isSubtype (.type "tuple") (.type "set") = pure false := by rw [isSubtype_type]; kernel_rfl
  have subTF : isSubtype (.type "tuple") (.type "frozenset") = pure false := by rw [isSubtype_type]; kernel_rfl
  have tup' : (s.heap.push { cls := .type "set", dict := none, data := .set #[] 0 (.fresh 0 0 led) }).IsTuple l cells := tup.at fun o e => Heap.get?_push_of_some _ e
  obtain ⟨⟨c, dct, dt, sl⟩, getT, clsT, n, datT⟩ := tup'
  simp only at clsT datT
  subst clsT datT
  refine ⟨is, codeAny_call_builtin F.called_set.init.plain F.entry_set_init (check_set_init_1 is ?_)⟩
  have isT : Heap.IsTuple (s.heap.push { cls := .type "set", dict := none, data := .set #[] 0 (.fresh 0 0 led) }) l cells := ⟨_, getT, rfl, n, rfl⟩
  unfold Builtin.«set.__init__»
  wp_walk using PySem.AutoSeq1.wpAny_loadPart' at_, PySem.AutoSeq1.wpAny_loadPart' getT, wpAny_pyIter_tuple isT
  have sz : (s.heap.push { cls := .type "set", dict := none, data := .set #[] 0 (.fresh 0 0 led) }).objs.size = s.heap.objs.size + 1 := Heap.size_push ..
  have low : l < s.heap.objs.size := by
    obtain ⟨o, z, _⟩ := tup
    exact Heap.lt_size z
  have W := Walks.tuple (prog := P) (w := w) (A := A.in1.in1.in1) calm (s.heap.push { cls := .type "set", dict := none, data := .set #[] 0 (.fresh 0 0 led) }).objs.size l (by rw [sz]; exact Nat.ne_of_lt (Nat.lt_succ_of_lt low)) cells
  rw [size] at W
  refine fills (S := s.heap.objs.size) W ?_ nz room (fun i v h => texts i v h) zs.length 0 _ (Nat.zero_add _) ⟨⟨_, Heap.get?_push_size _ rfl, rfl, rfl⟩, isT.at fun o e => Heap.get?_push_of_some _ e⟩ ?_ ?_
  · simp only [List.mem_cons, List.not_mem_nil, or_false, not_or, sz]
    exact ⟨Nat.ne_of_lt (Nat.lt_succ_self _), Nat.ne_of_gt low⟩
  · exact SetOf_congr ((setObjOf_fresh led).setOf (Heap.get?_push_of_some _ at_) (by decide)) (fun y => by simp) rfl
  · intro h' tk same fin
    refine wpAny_pure (wpAny_pure ⟨rfl, go h' tk fin fun b o e => same b o ?_ (Heap.get?_push_of_some _ (Heap.get?_push_of_some _ e))⟩)
    have lt := Heap.lt_size e
    simp only [List.mem_cons, List.not_mem_nil, or_false, not_or, sz]
    exact ⟨Nat.ne_of_lt lt, Nat.ne_of_lt (Nat.lt_succ_of_lt lt)⟩
end
/-- len(set(e)), e a tuple of texts that differ -/
def tLenSet (K : PySem.W.Frag) (te : TE) : TE := fun σ H Q => te σ H fun y H1 => ∃ (a : Addr) (zs : List Str), y = V.ref a ∧ SqT K H1 a (zs.map V.str) ∧ zs.Nodup ∧ zs.length ≤ 1000 ∧ Q (.int zs.length) H1
theorem pe_lenSet {X : Cx} {e : Expr} {te : TE} {p p2 q pos : Pos} (calm : X.calm = true) (gl : Gl X "len") (ml : X.mg "len" = none) (gs : Gl X "set") (ms : X.mg "set" = none) (arg : PE X e te) (one : starEach [e] X.env = (false, eval e X.env) :: starEach [] X.env := by rfl) :
    PE X (.Call (.Name "len" p) [.Call (.Name "set" p2) [e] [] q] [] pos) (tLenSet X.K te) := by
  constructor
  intro pn s σ H Q inv h
  refine Call_ (ld_blt inv gl ml PySem.boot_len (PyProof.Rows.callWith_builtin1 (PyProof.Rows.args_cons ?_ rfl) rfl rfl))
  refine Call_ (ld_blt inv gs ms PyProof.Rows.boot_set ?_)
  refine PyProof.Rows.callWith_type1 (PyProof.Rows.args_cons (thn (arg.run pn s σ H _ inv h) ?_) one) one rfl
  rintro v s1 ⟨y, H1, inv1, rel, a, zs, rfl, sq, nz, few, q⟩
  cases rel
  apply PyProof.Rows.args_nil
  obtain ⟨cells, vals, tup, _⟩ := inv1.tuple sq
  have len : cells.length = zs.length := by
    have := vals.length
    simpa using this.symm
  refine call_setS (inv1.ok.hd calm) tup (by simpa using len) (fun i v at_ => ?_) nz (by unfold scanBound; omega) fun h' tk has same => ?_
  · rw [List.getElem?_toArray] at at_
    have lt : i < zs.length := by
      have := (List.getElem?_eq_some_iff.mp at_).1
      omega
    obtain ⟨u, hu, ru⟩ := vals.get (i := i) (x := V.str zs[i]) (by simp [lt])
    rw [hu] at at_
    cases at_
    obtain ⟨t, rfl⟩ := ru
    exact ⟨zs[i], t, List.getElem?_eq_getElem lt, rfl⟩
  · apply PyProof.Rows.args_nil
    obtain ⟨o, es, ep, tb, at_, exact_, dat, _, _, _, fits, num⟩ := has
    have inv2 : L2.Inv X pn σ H1 { s1 with heap := h', toks := tk } := inv1.kept same
    refine call_len_set at_ exact_ dat fits (by rw [num]; omega) ⟨V.int zs.length, H1, inv2.tok _, ⟨_, by rw [num]⟩, q⟩
theorem as_lenSet {X : Cx} (K) {c : Expr} {te : TE} (h : PE X c (tLenSet X.K te)) (hK : X.K = K := by rfl) : PE X c (tLenSet K te) := by subst hK; exact h
/-- what len(set( .. )) asks of the tuple -/
def LsK (K : PySem.W.Frag) (Q : VK) : VK := fun y H1 => ∃ (a : Addr) (zs : List Str), y = V.ref a ∧ SqT K H1 a (zs.map V.str) ∧ zs.Nodup ∧ zs.length ≤ 1000 ∧ Q (.int zs.length) H1
theorem g_lenSet {K : PySem.W.Frag} {te : TE} {σ : L2.St} {H : Hp} {Q : VK} (h : te σ H (LsK K Q)) : tLenSet K te σ H Q := h
theorem n_lenSet {K : PySem.W.Frag} {H : Hp} {Q : VK} {a : Addr} {zs : List Str} (h1 : SqT K H a (zs.map V.str)) (h2 : zs.Nodup) (h3 : zs.length ≤ 1000) (h : Q (.int zs.length) H) : LsK K Q (.ref a) H := ⟨a, zs, rfl, h1, h2, h3, h⟩
end HC
/-! facts carried along heaps -/
namespace HC
open PyProof.Rows PySem L2 PySem.Spec
theorem same_at {H H' : Hp} {a : Addr} {o : HO} (e : Same H H') (h : H a = some o) : H' a = some o := e _ _ h
theorem keep_at {H H' : Hp} {d a : Addr} {o : HO} (e : Keep d H H') (n : a ≠ d) (h : H a = some o) : H' a = some o := e _ _ n h
/-- what stood before d was made stands when d changes -/
theorem same_keep {H0 H H' : Hp} {d : Addr} (s : Same H0 H) (n : H0 d = none) (e : Keep d H H') : Same H0 H' := fun b o h => e b o (ne_of_none h n) (s b o h)
theorem same_mid {H0 H1 H : Hp} {d : Addr} (s : Same H0 H1) (n : H1 d = none) : H0 d = none := s.free n
theorem sqt_keep {K : PySem.W.Frag} {H H' : Hp} {d a : Addr} {xs ys : List V} (e : Keep d H H') (hd : H d = some (.lst ys)) (h : SqT K H a xs) : SqT K H' a xs := keep_t e (notT_l hd) h
/-- a chain link of the list at l: items are only added -/
theorem app_tail {α : Type} (l : List α) (i : Nat) {x : α} (h : l[i]? = some x) : l.take (i + 1) = l.take i ++ [x] := by rw [List.take_add_one, h]; rfl
/-! a comprehension with a test: what passes, in order -/
section
variable {α : Type} {K : PySem.W.Frag} {H : Hp} {Q : VK} {σ : L2.St} {g : TG} {tt : TT} {te : TE} {vs : List Nat}
def PFilt (xs : List α) (p : α → Bool) (f : α → V) (H1 : Hp) : Nat → List V → Hp → Prop := fun i acc H' => Same H1 H' ∧ acc = ((xs.take i).filter p).map f
theorem n_filtT {xs : List α} {p : α → Bool} {f : α → V} {H1 : Hp} {C : Addr} {i : Nat} {x : α} {y : V} (hx : xs[i]? = some x) (hp : p x = true) (e : y = f x) (hC : H1 C = none) (h1 : Same H1 H) (h2 : H C = some (.lst (((xs.take i).filter p).map f))) (hn : i < 1000000 := by omega) : LcK C (NxP (PFilt xs p f H1) C (i + 1)) y H := by
  have hl : (((xs.take i).filter p).map f).length ≤ i := by
    rw [List.length_map]
    exact Nat.le_trans (List.length_filter_le _ _) (by rw [List.length_take]; exact Nat.min_le_left _ _)
  refine n_lcK h2 (by omega) (by omega) fun H' k hc => ⟨fun b o e => k _ _ (ne_of_none e hC) (h1 _ _ e), ?_⟩
  rw [app_tail _ _ hx, List.filter_append, List.map_append, e]
  simp [hp]
theorem n_filtF {xs : List α} {p : α → Bool} {f : α → V} {H1 : Hp} {C : Addr} {i : Nat} {x : α} (hx : xs[i]? = some x) (hp : p x = false) (h1 : Same H1 H) (h2 : H C = some (.lst (((xs.take i).filter p).map f))) : NxP (PFilt xs p f H1) C (i + 1) H := by
  have hl : (((xs.take i).filter p).map f).length ≤ i := by
    rw [List.length_map]
    exact Nat.le_trans (List.length_filter_le _ _) (by rw [List.length_take]; exact Nat.min_le_left _ _)
  refine n_lcN h2 (by omega) ⟨h1, ?_⟩
  rw [app_tail _ _ hx, List.filter_append]
  simp [hp]
theorem lc_filt {J : It} {G : Hp → Prop} {Y : Nat → Hp → V → Hp → Prop} (xs : List α) (w : Walk J xs.length G Y) (p : α → Bool) (f : α → V) {H1 : Hp} (hG : ∀ H, Same H1 H → G H)
    (hs : ∀ C i x v H H', H1 C = none → xs[i]? = some x → i < xs.length → Same H1 H → H C = some (.lst (((xs.take i).filter p).map f)) → Y i H v H' → g v (wipe σ vs) H' fun σ2 H2 => wipe σ2 vs = wipe σ vs ∧ tt σ2 H2 (LcIf C te σ2 (NxP (PFilt xs p f H1) C (i + 1))))
    (hd : ∀ C H, H1 C = none → Same H1 H → H C = some (.lst ((xs.filter p).map f)) → Q (.ref C) H) : LcJ J g tt te vs σ Q H1 := by
  refine lc_run w (PFilt xs p f H1) (fun C H' nC s h => ⟨s, by simp⟩) (fun i acc H C nC hC ⟨s, _⟩ => hG H s) ?_ ?_
  · rintro C i acc v H H' nC hi hl hC ⟨s, rfl⟩ y
    exact hs C i xs[i] v H H' nC (List.getElem?_eq_getElem hi) hi s hC y
  · rintro C acc H nC hC ⟨s, rfl⟩
    rw [List.take_length] at hC
    exact hd C H nC s hC
end
/-! keeping lists of data that hold no list -/
theorem dpa_keep {K : PySem.W.Frag} {H H' : Hp} {d : Addr} {ys vs : List V} {xs : List PyData} (e : Keep d H H') (hd : H d = some (.lst ys)) (n : noLs xs = true) (h : DpAll K H vs xs) : DpAll K H' vs xs := dp_keepAll e (notT_l hd) xs vs n h
theorem noLs_map {α : Type} {f : α → PyData} (l : List α) (h : ∀ x, noL (f x) = true) : noLs (l.map f) = true := noLs_of fun d hd => by
  obtain ⟨x, _, rfl⟩ := List.mem_map.mp hd
  exact h x
/-! isinstance(e, (tuple, list)) -/
section
variable {X : Cx} {e : Expr} {te : TE} {p pos p1 p2 tpos : Pos} {kk : Nat} {K : PySem.W.Frag} {H : Hp} {Q : VK} {σ : L2.St}
def tIsTT (K : PySem.W.Frag) (te : TE) : TE := tCB (rIsiT K) (tCons te (tCons (tTup (tCons (tC (.ty "tuple")) (tCons (tC (.ty "list")) tNil))) tNil))
theorem pe_isiTT (K' : PySem.W.Frag) (m : Bts X.mg) (he : PE X e te) (hg : Gl X "isinstance" := by rfl) (hg1 : Gl X "tuple" := by rfl) (hg2 : Gl X "list" := by rfl)
    (hs : starEach [e, .Tuple [.Name "tuple" p1, .Name "list" p2] kk tpos] X.env = (false, eval e X.env) :: starEach [.Tuple [.Name "tuple" p1, .Name "list" p2] kk tpos] X.env := by rfl) (hK : X.K = K' := by rfl) :
    PE X (.Call (.Name "isinstance" p) [e, .Tuple [.Name "tuple" p1, .Name "list" p2] kk tpos] [] pos) (tIsTT K' te) := by
  subst hK
  exact pe_callB (p := p) (pos := pos) call_isiT hg m.isinstance bt_isinstance (pa_cons he (pa_cons (pe_tup (pa_cons (pe_bltn (v := .ty "tuple") hg1 m.tuple bt_tuple rfl (by decide) (by decide)) (pa_cons (pe_bltn (v := .ty "list") hg2 m.list bt_list rfl (by decide) (by decide)) pa_nil))) pa_nil) hs) (by decide) (by decide) hs rfl
def IsTTK (K : PySem.W.Frag) (Q : VK) : VK := fun x H1 => NewT [.ty "tuple", .ty "list"] H1 fun y H2 => rIsiT K [x, y] H2 Q
theorem g_isTT (h : te σ H (IsTTK K Q)) : tIsTT K te σ H Q := h
theorem n_isTT {x : V} {t : String} {b c : Bool} (h0 : ∀ H', Same H H' → TyX K H' x (.type t)) (h1 : kitB t "tuple" = some b) (h2 : kitB t "list" = some c) (h : ∀ H', Same H H' → Q (.bl (b || c)) H') : IsTTK K Q x H := by
  refine ⟨by simp [sizeLine_eq], fun T hT => ?_⟩
  have s := same_new (o := .tup [.ty "tuple", .ty "list"]) hT
  refine ⟨x, T, _, .type t, [.type "tuple", .type "list"], b || c, rfl, upd_same, .cons (.ty _) (.cons (.ty _) .nil), h0 _ s, ?_, h _ s⟩
  refine kitAny_cons (kit_ty h1) (fun e => ?_) (fun e => by rw [e]; rfl)
  subst e
  refine kitAny_cons (kit_ty h2) (fun e => ?_) (fun e => by rw [e]; rfl)
  subst e
  rfl
end
/-- a list or a tuple, by its type's name -/
def SqQ (K : PySem.W.Frag) (H : Hp) (T : String) (a : Addr) (xs : List V) : Prop := (T = "list" ∧ SqL K H a xs) ∨ (T = "tuple" ∧ SqT K H a xs)
theorem SqQ.same {K : PySem.W.Frag} {H H' : Hp} {T : String} {a : Addr} {xs : List V} (e : Same H H') (h : SqQ K H T a xs) : SqQ K H' T a xs := h.imp (fun z => ⟨z.1, same_l e z.2⟩) (fun z => ⟨z.1, same_t e z.2⟩)
theorem SqQ.or {K : PySem.W.Frag} {H : Hp} {T : String} {a : Addr} {xs : List V} (h : SqQ K H T a xs) : SqL K H a xs ∨ SqT K H a xs := h.imp (·.2) (·.2)
end HC
/-! list(text); dicts: made of pairs, read, stored -/
namespace HC
open PyProof.Rows PySem L2 PySem.Spec
/-- the signs of a text, one by one -/
def signs (z : Str) : List Str := z.cps.toList.map fun c => ⟨#[c]⟩
def rListS : List V → Hp → VK → Prop := fun xs H Q => ∃ z : Str, xs = [.str z] ∧ z.cps.size ≤ sizeLine ∧ ∀ l, H l = none → Q (.ref l) (upd H l (.lst ((signs z).map V.str)))
theorem vals_signs {z : Str} {acc : Array Value} (h : ItemsOf (SignAt z) acc z.cps.size) : Vals ((signs z).map V.str) acc.toList := by
  have key : ∀ (cs : List Nat) (us : List Value), cs.length = us.length → (∀ (j : Nat) v, us[j]? = some v → ∃ c u, cs[j]? = some c ∧ v = Value.str ⟨#[c]⟩ u) → Vals (cs.map fun c => V.str ⟨#[c]⟩) us := by
    intro cs
    induction cs with
    | nil => intro us hl _; cases us with | nil => exact .nil | cons _ _ => simp at hl
    | cons c cs ih =>
      intro us hl hj
      cases us with
      | nil => simp at hl
      | cons u us =>
        obtain ⟨c', t, h1, h2⟩ := hj 0 u rfl
        cases h1
        refine .cons ⟨t, h2⟩ (ih us (by simpa using hl) fun j v hv => ?_)
        exact hj (j + 1) v (by simpa using hv)
  have e : (signs z).map V.str = z.cps.toList.map fun c => V.str ⟨#[c]⟩ := by simp [signs]
  rw [e]
  refine key _ _ (by simp [h.1]) fun j v hv => ?_
  obtain ⟨c, u, h1, h2⟩ := h.2 j v (by simpa using hv)
  exact ⟨c, u, by simpa using h1, h2⟩
section
variable {X : Cx} {e o i value : Expr} {te td ty tv : TE} {p pos pos' : Pos} {K : PySem.W.Frag} {H : Hp} {Q : VK} {σ : L2.St} {D : Ends}
theorem call_list_txt (calm : X.calm = true) : CallR X (.type "list") rListS := by
  rintro pins s σ H xs us Q inv rel ⟨z, rfl, hz, q⟩
  obtain ⟨_, rfl, t, rfl⟩ := vals1 rel
  refine call_list_str (inv.ok.hd calm) z t (fun h' tk acc c kept at_ items => ?_) hz
  have rv := vals_signs items
  have len : ((signs z).map V.str).length ≤ sizeLine := by simpa [signs] using hz
  exact ⟨.ref s.heap.objs.size, _, inv.laid (t' := tk) kept (Nat.le_refl _) (show ObjOk X.prog X.w _ h' _ (.lst _) from ⟨len, acc.toList, c, rv, at_⟩), rfl, q _ (inv.hok.fresh (Nat.le_refl _))⟩
theorem pe_listTxt (m : Bts X.mg) (he : PE X e te) (calm : X.calm = true := by rfl) (hg : Gl X "list" := by rfl) (hs : starEach (e :: []) X.env = (false, eval e X.env) :: starEach [] X.env := by rfl) : PE X (.Call (.Name "list" p) [e] [] pos) (tCB rListS (tCons te tNil)) :=
  pe_callTy (call_list_txt calm) hg m.list bt_list (pa_cons he pa_nil hs) (by decide) (by decide) hs rfl
theorem g_listS {z : Str} (hz : z.cps.size ≤ sizeLine) (h : ∀ l H', H l = none → Same H H' → H' l = some (.lst ((signs z).map V.str)) → Q (.ref l) H') : rListS [.str z] H Q := ⟨z, rfl, hz, fun l hl => h l _ hl (same_new hl) upd_same⟩
/-! dicts -/
def rDictP (K : PySem.W.Frag) : List V → Hp → VK → Prop := fun xs H Q => ∃ (a : Addr) (ps : List Addr) (kvs : List (Key × V)), xs = [.ref a] ∧ SqL K H a (ps.map V.ref) ∧ Paired (fun p kv => SqT K H p [kV kv.1, kv.2]) ps kvs ∧ ∀ p, H p = none → Q (.ref p) (upd H p (.dK (mergeK [] kvs)))
theorem pe_dictP (K' : PySem.W.Frag) (m : Bts X.mg) (he : PE X e te) (calm : X.calm = true := by rfl) (hg : Gl X "dict" := by rfl) (hs : starEach (e :: []) X.env = (false, eval e X.env) :: starEach [] X.env := by rfl) (hK : X.K = K' := by rfl) : PE X (.Call (.Name "dict" p) [e] [] pos) (tCB (rDictP K') (tCons te tNil)) := by
  subst hK
  exact pe_callTy (call_dictP calm) hg m.dict bt_dict (pa_cons he pa_nil hs) (by decide) (by decide) hs rfl
theorem g_dictP {a : Addr} {ps : List Addr} {kvs : List (Key × V)} (h1 : SqL K H a (ps.map V.ref)) (h2 : Paired (fun p kv => SqT K H p [kV kv.1, kv.2]) ps kvs) (h : ∀ l H', H l = none → Same H H' → H' l = some (.dK (mergeK [] kvs)) → Q (.ref l) H') : rDictP K [.ref a] H Q := ⟨a, ps, kvs, rfl, h1, h2, fun l hl => h l _ hl (same_new hl) upd_same⟩
/-- d[y]: what is asked of the dict -/
def DgK (y : V) (Q : VK) (x : V) : Hp → Prop := fun H => ∃ a v, x = .ref a ∧ DGet H a y (some v) ∧ Q v H
theorem g_dget (h : td σ H fun x H1 => ty σ H1 fun y H2 => DgK y Q x H2) : tDGet td ty σ H Q := h
theorem n_dget {a : Addr} {kvs : List (Key × V)} {k : Key} {v : V} (h1 : H a = some (.dK kvs)) (h2 : valV kvs k = some v) (h : Q v H) : DgK (kV k) Q (.ref a) H := ⟨a, v, rfl, h2 ▸ DGet.k h1, h⟩
theorem n_dgetS {a : Addr} {kvs : List (Key × V)} {k : Str} {v : V} (h1 : H a = some (.dK kvs)) (h2 : valV kvs (.inr k) = some v) (h : Q v H) : DgK (.str k) Q (.ref a) H := n_dget (k := .inr k) h1 h2 h
def DpK (y v : V) (D : Ends) (σ : L2.St) (x : V) : Hp → Prop := fun H => ∃ a H4, x = .ref a ∧ DPut H a y v H4 ∧ D.nx σ H4
theorem g_dput (h : tv σ H fun v H1 => td σ H1 fun x H2 => ty σ H2 fun y H3 => DpK y v D σ x H3) : sDPut td ty tv D σ H := h
theorem n_dput {a : Addr} {kvs : List (Key × V)} {k : Key} {v : V} (h1 : H a = some (.dK kvs)) (hz : kvs.length < sizeLine) (h : ∀ H', Keep a H H' → H' a = some (.dK (putK kvs k v)) → D.nx σ H') : DpK (kV k) v D σ (.ref a) H := ⟨a, _, rfl, DPut.k h1 hz, h _ keep_upd upd_same⟩
theorem n_dputS {a : Addr} {kvs : List (Key × V)} {k : Str} {v : V} (h1 : H a = some (.dK kvs)) (hz : kvs.length < sizeLine) (h : ∀ H', Keep a H H' → H' a = some (.dK (putK kvs (.inr k) v)) → D.nx σ H') : DpK (.str k) v D σ (.ref a) H := n_dput (k := .inr k) h1 hz h
theorem units2 {k : Nat} {A : Around} (hr : Room k A) : A.units + 1 < cLine := by have := units65 hr; omega
end
theorem notT_d {H : Hp} {d : Addr} {kvs : List (Key × V)} (h : H d = some (.dK kvs)) : NotT (H d) := by rw [h]; trivial
end HC
/-! the head's facts, further ones as tests of the written part -/
namespace HC
open PySem PySem.W PySem.Calls PyProof.Rows He He5 L2
abbrev Tst := Frag → Bool
/-- the library's observation of facts and defs, and these tests beside it -/
def obsJ (fx : List Tst) (fa : List Fa) (fn : List DefA) (K : Frag) : He.AlD × Bool := (obsA fa fn K, fx.all fun t => t K)
structure SaysJ (fx : List Tst) (fa : List Fa) (fn : List DefA) (K : Frag) : Prop where
  base : SaysA fa fn K
  also : (fx.all fun t => t K) = true
theorem SaysJ.more {fx : List Tst} {fa : List Fa} {fn : List DefA} {K : Frag} (c : SaysJ fx fa fn K) (i : Nat) {f : Tst} (at_ : fx[i]? = some f := by rfl) : f K = true :=
  (List.all_eq_true.mp c.also) f (List.mem_of_getElem? at_)
def obsJG (n : Nat) (fx : List Tst) (fa : List Fa) (fn : List DefA) (g : Addr → Option Obj) : He.AlD × Bool := obsJ fx fa fn (frG g (asA g n))
def hookJ (n : Nat) (fx : List Tst) (fa : List Fa) (fn : List DefA) : PySem.W.Hook where
  α := He.AlD × Bool
  obs s := obsJG n fx fa fn s.heap.get?
  val _ := (valA fn, true)
  says _ h := ∃ K : Frag, K.In h ∧ SaysJ fx fa fn K
  of _ _ both := ⟨_, frG_in, congrArg Prod.fst both, congrArg Prod.snd both⟩
  keeps _ _ _ here up := let ⟨K, inH, says⟩ := here; ⟨K, inH.keeps up, says⟩
theorem obsJG_eq {n : Nat} {fx : List Tst} {fa : List Fa} {fn : List DefA} {g : Addr → Option Obj} {s : Shared} (same : ∀ a, g a = s.heap.get? a) : obsJG n fx fa fn g = (hookJ n fx fa fn).obs s := congrArg (obsJG n fx fa fn) (funext same)
end HC
/-! generators: if and for in their bodies; defs and methods that are generators -/
namespace HC
open PyProof.Rows PySem L2 PySem.Spec GenW
section
variable {X : Cx} {test tg iter : Expr} {body orelse : List Stmt} {pos : Pos}
/-- if in a generator -/
def tGIf (c : TT) (t u : TGn) : TGn := fun D ys σ H => c σ H fun b H1 => if b = true then t D ys σ H1 else u D ys σ H1
theorem gs_if {tc : TT} {t u : TGn} (hc : PT X test tc) (yes : GSs X body t) (no : GSs X orelse u) : GS X (.If test body orelse pos) (tGIf tc t u) := by
  constructor
  intro A S ip R n ys s₀ c fs K J gd lv s σ H D g size k now owed
  obtain ⟨acc, cc, rel, inv⟩ := now
  rw [arm_exec_If]
  refine seg_at (seg_bind_wrap (wpAny_pure (seg_bind_wrap ?_)))
  rw [g.over]
  refine wpAny_mono (hc.run _ s σ H _ inv owed) ?_ fun e s' raised => k.exc n s₀ e s' raised
  rintro b s' ⟨H1, inv1, q⟩
  cases b
  · exact no.run A S ip R n ys s₀ c fs K J gd lv s' σ H1 D g size k ⟨acc, cc, rel, inv1⟩ (by simpa using q)
  · exact yes.run A S ip R n ys s₀ c fs K J gd lv s' σ H1 D g size k ⟨acc, cc, rel, inv1⟩ (by simpa using q)
/-- for in a generator: ys is what is out so far -/
def tGFor (wi : TI) (g : TG) (tb : TGn) : TGn := fun D ys σ H => wi σ H fun J H1 => ∃ W : Nat → Nat → List V → L2.St → Hp → Prop, (∃ m, W 0 m ys σ H1) ∧ ∀ i m ys σ H, W i m ys σ H →
  (J.stop i H ∧ D.nx ys σ H) ∨ (J.go i H ∧ ∃ N : List V → L2.St → Hp → Prop, (∀ ys' σ' H', N ys' σ' H' → ∃ m', m' < m ∧ W (i + 1) m' ys' σ' H') ∧ ∀ x H', J.yld i H x H' → g x σ H' fun σ2 H2 => tb { D with nx := N, ct := N, bk := D.nx } ys σ2 H2)
/-- what the code of a loop does with an exception: it is noted, then it leaves -/
abbrev noted (env : Env) (e : Value) : Sem PySem.Fin := (do noteFrame e env; theTreesLotGoes e : Sem Unit).wrap (fun _ => .raise e) .raise id id
theorem noted_eq (env : Env) (e : Value) : ((do noteFrame e env; theTreesLotGoes e : Sem Unit).bind fun _ => (.raise e : Sem PySem.Fin)) = noted env e := Sem.bind_eq_wrap _ _
/-- a turn of the loop's code -/
theorem seg_forTurn {prog : Program} {w : World} {A : Around} {R : GenEnd} {Y : Protocol} {n : Nat} {s₀ s : Shared} {fs : List Frame} {env : Env} {it : Value}
    (h : wpAny (model prog w) (A.over (.forLoop tg it body [] env) fs) (pyNext it) (fun r s1 => match r with
        | none => Seg (model prog w) A R Y n s₀ (.forLoop tg it body [] env) (.pure (.again (.block [] env))) fs s1
        | some v => wpAny (model prog w) (A.over (.forLoop tg it body [] env) fs) (letOwnedTupleGo tg it v) (fun _ s2 => wpAny (model prog w) (A.over (.forLoop tg it body [] env) fs) (assign tg env v) (fun _ s3 =>
            Seg (model prog w) A R Y n s₀ (.forLoop tg it body [] env) ((execs body env).wrap (fun f => match f with
              | .next | .cont => .pure (.again (.forLoop tg it body [] env))
              | .brk => .pure (.done .next)
              | .ret v => .pure (.done (.ret v))) (noted env) id id) fs s3)
          (fun e s' => Seg (model prog w) A R Y n s₀ (.forLoop tg it body [] env) (noted env e) fs s') s2)
          (fun e s' => Seg (model prog w) A R Y n s₀ (.forLoop tg it body [] env) (noted env e) fs s') s1)
      (fun e s' => Seg (model prog w) A R Y n s₀ (.forLoop tg it body [] env) (noted env e) fs s') s) :
    Seg (model prog w) A R Y n s₀ (.forLoop tg it body [] env) ((model prog w).den (.forLoop tg it body [] env)) fs s := by
  show Seg _ A R Y n s₀ _ ((forTurn tg it body [] env).onRaise (fun x => do noteFrame x env; theTreesLotGoes x)) fs s
  unfold forTurn
  rw [Sem.onRaise_eq_wrap]
  simp only [noted_eq]
  refine seg_at (seg_bind_wrap (wpAny_pure (seg_bind_wrap (wpAny_onRaise (wpAny_mono h ?_ fun e s' z => wpAny_standAt z)))))
  rintro (_ | v) s1 h1
  · exact h1
  · refine seg_bind_wrap (wpAny_mono h1 ?_ fun e s' z => z)
    intro _ s2 h2
    refine seg_bind_wrap (wpAny_mono h2 ?_ fun e s' z => z)
    intro _ s3 h3
    rw [Sem.bind_eq_wrap', Sem.wrap_wrap]
    refine (congrArg (fun t => Seg (model prog w) A R Y n s₀ (.forLoop tg it body [] env) t fs s3) (Sem.wrap_congr (execs body env) _ _ (fun f => ?_) (fun e => ?_))).mpr h3
    · cases f <;> rfl
    · rfl
theorem gs_for {wi : TI} {g : TG} {tb : TGn} (hp : PassesOwn (model X.prog X.w) X.A X.env X.xe) (calm : X.calm = true) (hi : PI X tg iter wi) (hg : PG X tg g) (hb : GSs X body tb) (hs : ∀ x, foldedSetIterable iter X.env x = pure x := by intro _; rfl) : GS X (.For tg iter body [] pos) (tGFor wi g tb) := by
  constructor
  intro A S ip R n ys s₀ c fs K J gd lv s σ H D gc size k now owed
  obtain ⟨acc, cc, rel, inv⟩ := now
  rw [arm_exec_For]
  refine seg_at (seg_bind_wrap (wpAny_pure (seg_bind_wrap ?_)))
  rw [gc.over]
  refine wpAny_mono (hi.run _ s σ H _ inv owed) ?_ fun e s' raised => k.exc n s₀ e s' raised
  intro v s1 h1
  rw [hs v]
  refine seg_at (seg_bind_wrap (wpAny_pure (seg_bind_wrap ?_)))
  rw [gc.over]
  refine wpAny_holding (wpAny_mono h1 ?_ fun e s' raised => k.exc n s₀ e s' raised)
  rintro itv s2 ⟨it, fp, tn, J', H2, rfl, inv2, T, st, ok, W, ⟨m0, w0⟩, turn⟩
  have offS : ∀ b ∈ fp, S ≠ b := fun b hb => (ok b hb).2.2.2.2.2 (S, lstObj acc cc) (List.mem_append_right _ List.mem_cons_self)
  have still : ∀ {H' : Hp} {acc' : Array Value} {cc' : Nat}, (∀ b ∈ fp, H' b = none) → ∀ b ∈ fp, FpOk X ((S, lstObj acc' cc') :: ip) H' b := by
    intro H' acc' cc' free b hb
    obtain ⟨_, o1, o2, o3, o4, o5⟩ := ok b hb
    refine ⟨free b hb, o1, o2, o3, o4, fun p hm => ?_⟩
    rcases List.mem_append.mp hm with z | z
    · exact o5 p (List.mem_append_left _ z)
    · rcases List.mem_cons.mp z with rfl | z
      · exact offS b hb
      · exact o5 p (List.mem_append_right _ (List.mem_cons_of_mem _ z))
  refine seg_call fun p => ?_
  have here := fun (kk : Result → Sem PySem.Fin) => gc_loop (k := kk) (c' := .forLoop tg (.ref it) body [] X.env) (l := lv []) (kp := []) (p := p) gc rfl rfl
  have out : ∀ (n : Nat) (s₀ : Shared) (e : Value) (s' : Shared), X.xe e s' → Seg (model X.prog X.w) A R (GY X S) n s₀ (.forLoop tg (.ref it) body [] X.env) (noted X.env e)
      (.ret (fun r => ((match r with
        | .ok f => (.pure f : Sem Flow)
        | .error e => .raise e).onRaise (cameBack X.env)).wrap K J gd lv) none (gd false) (lv []) c p [] :: fs) s' := by
    intro n s₀ e s' raised
    apply seg_wrap
    rw [(here _).over]
    apply wpAny_bind
    refine wpAny_mono (hp e s' raised) (fun _ s3 back => wpAny_theTreesLotGoes ?_) fun e2 s3 back => ?_
    · exact seg_leaf (.error e) (seg_cameBack gc k back)
    · exact seg_leaf (.error e2) (seg_cameBack gc k back)
  have loop : ∀ (m n i : Nat) (ys : List V) (s₀ s : Shared) (σ : L2.St) (H : Hp) (acc : Array Value) (cc : Nat), n + ys.length = sizeLine → W i m ys σ H → Vals ys acc.toList → L2.Inv X ((S, lstObj acc cc) :: ip) σ H s → tn i s.heap → (∀ b ∈ fp, H b = none) →
      Seg (model X.prog X.w) A R (GY X S) n s₀ (.forLoop tg (.ref it) body [] X.env) ((model X.prog X.w).den (.forLoop tg (.ref it) body [] X.env))
        (.ret (fun r => ((match r with
        | .ok f => (.pure f : Sem Flow)
        | .error e => .raise e).onRaise (cameBack X.env)).wrap K J gd lv) none (gd false) (lv []) c p [] :: fs) s := by
    intro m
    induction m using Nat.strongRecOn with | ind m ih =>
      intro n i ys s₀ s σ H acc cc size w rel inv st free
      apply seg_forTurn
      rw [(here _).over]
      rcases turn i m ys σ H w with ⟨stop, q⟩ | ⟨go, N, back, step⟩
      · refine wpAny_mono (T.done X rfl rfl rfl calm i _ s σ H X.xe inv (still free) st stop) ?_ fun e s' raised => out n s₀ e s' raised
        rintro r s4 ⟨rfl, inv4⟩
        refine seg_again rfl ?_
        exact seg_leaf (.ok .next) (k.ok n ys s₀ s4 .next size ⟨σ, H, ⟨acc, cc, rel, inv4⟩, q⟩)
      · refine wpAny_mono (T.item X rfl rfl rfl calm i _ s σ H X.xe inv (still free) st go) ?_ fun e s' raised => out n s₀ e s' raised
        rintro r s4 ⟨u, rfl, h4⟩
        refine wpAny_mono h4 ?_ fun e s' raised => out n s₀ e s' raised
        rintro _ s5 ⟨x, H5, inv5, ru, yl, st5, free5⟩
        refine wpAny_mono (hg.run _ s5 σ H5 x u _ (inv5.pinned (still free5) (T.obj _ _ st5)) ru (step x H5 yl)) ?_ fun e s' raised => out n s₀ e s' raised
        rintro _ s6 ⟨σ6, H6, inv6, q6⟩
        have again : ∀ {n' : Nat} {ys' : List V} {s₀' s7 : Shared} {σ7 : L2.St} {H7 : Hp}, n' + ys'.length = sizeLine → GI X S (ip ++ pinsAt fp s5.heap) ys' σ7 H7 s7 → N ys' σ7 H7 →
            Seg (model X.prog X.w) A R (GY X S) n' s₀' (.forLoop tg (.ref it) body [] X.env) (.pure (.again (.forLoop tg (.ref it) body [] X.env)))
              (.ret (fun r => ((match r with
        | .ok f => (.pure f : Sem Flow)
        | .error e => .raise e).onRaise (cameBack X.env)).wrap K J gd lv) none (gd false) (lv []) c p [] :: fs) s7 := by
          rintro n' ys' s₀' s7 σ7 H7 size' ⟨acc7, cc7, rel7, inv7⟩ n7
          obtain ⟨m', lt, w7⟩ := back ys' σ7 H7 n7
          have pin : ∀ b ∈ fp, ∀ o, s5.heap.get? b = some o → s7.heap.get? b = some o ∧ H7 b = none := fun b hb o at_ =>
            have z := inv7.pin (b, o) (List.mem_append_right _ (List.mem_cons_of_mem _ (List.mem_append_right _ (mem_pinsAt hb at_))))
            ⟨z.1, z.2.1⟩
          refine seg_again rfl (ih m' lt n' (i + 1) ys' s₀' s7 σ7 H7 acc7 cc7 size' w7 rel7 (Inv.unpinned (pins := (S, lstObj acc7 cc7) :: ip) (pl := pinsAt fp s5.heap) inv7) (T.keep _ _ _ st5 fun b hb o at_ => (pin b hb o at_).1) fun b hb => ?_)
          obtain ⟨o, at_, _⟩ := T.obj _ _ st5 b hb
          exact (pin b hb o at_).2
        refine hb.run A S (ip ++ pinsAt fp s5.heap) R n ys s₀ _ _ _ _ id id s6 σ6 H6 { D with nx := N, ct := N, bk := D.nx } ⟨gc.pn, fun q hq => ?_, gc.apart, (here _).over, (here _).split, (here _).guard, rfl⟩ size ⟨fun n' ys' s₀' s7 f size' got => ?_, fun n' s₀' e s7 raised => out n' s₀' e s7 raised⟩ ⟨acc, cc, rel, inv6⟩ q6
        · rcases List.mem_append.mp hq with z | z
          · exact gc.ip q z
          · exact (offS _ (of_pinsAt z).1).symm
        · cases f with
          | next =>
            obtain ⟨σ7, H7, G7, n7⟩ := got
            exact again size' G7 n7
          | cont =>
            obtain ⟨σ7, H7, G7, n7⟩ := got
            exact again size' G7 n7
          | brk =>
            obtain ⟨σ7, H7, ⟨acc7, cc7, rel7, inv7⟩, n7⟩ := got
            exact seg_leaf (.ok .next) (k.ok n' ys' s₀' s7 .next size' ⟨σ7, H7, ⟨acc7, cc7, rel7, Inv.unpinned (pins := (S, lstObj acc7 cc7) :: ip) (pl := pinsAt fp s5.heap) inv7⟩, n7⟩)
          | ret v =>
            obtain ⟨x7, σ7, H7, ⟨acc7, cc7, rel7, inv7⟩, r7, n7⟩ := got
            exact seg_leaf (.ok (.ret v)) (k.ok n' ys' s₀' s7 (.ret v) size' ⟨x7, σ7, H7, ⟨acc7, cc7, rel7, Inv.unpinned (pins := (S, lstObj acc7 cc7) :: ip) (pl := pinsAt fp s5.heap) inv7⟩, r7, n7⟩)
  exact loop m0 n 0 ys s₀ s2 σ H2 acc cc size w0 rel inv2 st fun b hb => (ok b hb).1
end
end HC
/-! signs of own classes: x op int, x[i], x(..), x != y and x == y by an own __eq__ -/
namespace HC
open PyProof.Rows PySem L2 PySem.Spec
/-- what op between an instance of C and an int asks of the written part -/
structure BinI (K : PySem.W.Frag) (C : Addr) (nm : Str × Str) : Prop where
  self : PySem.W.selfFirst K C = true
  noR : PySem.W.findIn K (.ref C) nm.2 = some none
  i1 : ∃ fo, PySem.W.findIn K (.type "int") nm.1 = some fo
  i2 : ∃ ro, PySem.W.findIn K (.type "int") nm.2 = some ro
  sub : PySem.W.subIn K (.type "int") (.ref C) = some false
def binIB (K : PySem.W.Frag) (C : Addr) (nm : Str × Str) : Bool := PySem.W.selfFirst K C && (decide (PySem.W.findIn K (.ref C) nm.2 = some none) && ((PySem.W.findIn K (.type "int") nm.1).isSome && ((PySem.W.findIn K (.type "int") nm.2).isSome && decide (PySem.W.subIn K (.type "int") (.ref C) = some false))))
theorem binIB_ok {K : PySem.W.Frag} {C : Addr} {nm : Str × Str} (h : binIB K C nm = true) : BinI K C nm := by
  simp only [binIB, Bool.and_eq_true, decide_eq_true_eq] at h
  exact ⟨h.1, h.2.1, Option.isSome_iff_exists.mp h.2.2.1, Option.isSome_iff_exists.mp h.2.2.2.1, h.2.2.2.2⟩
section
variable {X : Cx} {k : Nat} {C : Addr} {sp : Sp} {m : Str}
def rOwnI (C : Addr) (sp : Sp) : R2 := fun x y H Q => ∃ a dx fs i, x = .ref a ∧ y = .int i ∧ H a = some (.ins C dx fs) ∧ sp [.ref a, .int i] H Q E0
theorem op_ownI {op : Operator} {nm : Str × Str} (M : MethR X.prog X.w X.K X.mg X.base C m k sp) (B : BinI X.K C nm) (room : Room k X.A) (h1 : PySem.dunder op.info.2 = m := by first | rfl | decide) (h2 : PySem.dunder op.info.2 = nm.1 := by first | rfl | decide) (h3 : PySem.dunderR op.info.2 = nm.2 := by first | rfl | decide) : OpR X (binaryOp op) (rOwnI C sp) := by
  rintro pins s σ H _ _ v u Q inv rv ru ⟨a, dx, fs, i, rfl, rfl, ha, owed⟩
  cases rv
  obtain ⟨t, rfl⟩ := ru
  obtain ⟨ox, od, isA⟩ := instAt inv ha
  obtain ⟨mm, fr⟩ := inv.fr
  obtain ⟨fo, i1⟩ := B.i1
  obtain ⟨ro, i2⟩ := B.i2
  have called := run_fnR (us := [.ref a, .int i t]) (vs := [V.ref a, V.int i]) M.fn room passN inv (.cons (by rfl) (.cons ⟨t, rfl⟩ .nil)) owed
  exact PySem.W.ksp_binT (T := "int") fr inv.mod.kin isA rfl B.self (h1 ▸ M.at_.at_) M.at_.fn (h3 ▸ B.noR) (.inl rfl) (h2 ▸ i1) (h3 ▸ i2) B.sub (wpAny_mono (wpAny_call called) (fun _ _ => cmpBack) fun _ _ z => z)
theorem n_ownI {H : Hp} {Q : VK} {a dx : Addr} {fs : List (Str × V)} {i : Int} (h1 : H a = some (.ins C dx fs)) (h : sp [.ref a, .int i] H Q E0) : rOwnI C sp (.ref a) (.int i) H Q := ⟨a, dx, fs, i, rfl, rfl, h1, h⟩
/-- o[i] by an own __getitem__ -/
def tOwnIx (C : Addr) (sp : Sp) (to ti : TE) : TE := fun σ H Q => to σ H fun x H1 => ti σ H1 fun i H2 => ∃ a dx fs, x = V.ref a ∧ H2 a = some (.ins C dx fs) ∧ sp [x, i] H2 Q E0
theorem pe_ownIx {o i : Expr} {to ti : TE} {pos : Pos} (M : MethR X.prog X.w X.K X.mg X.base C "__getitem__" k sp) (fi : ∀ f, Meth X.K C "__getitem__" f → PySem.W.fnIn X.K f = true) (room : Room (k + 1) X.A) (ho : PE X o to) (hi : PE X i ti)
    (plain : ∀ (a : Addr) (v : Value), subscripted i true (.ref a) v = runValue (.builtin "lifetime.subscript" ⟨[.ref a, v], []⟩) := by intro _ _; rfl) : PE X (.Subscript o i pos) (tOwnIx C sp to ti) := by
  constructor
  intro pn s σ H Q inv h
  refine Subscript_ (thn (ho.run pn s σ H _ inv h) ?_)
  rintro u s1 ⟨x, H1, inv1, rx, q1⟩
  refine thn (hi.run pn s1 σ H1 _ inv1 q1) ?_
  rintro v s2 ⟨y, H2, inv2, ry, a, dx, fs, rfl, ha, owed⟩
  cases rx
  obtain ⟨ox, od, isA⟩ := instAt inv2 ha
  obtain ⟨mm, fr⟩ := inv2.fr
  have called := M.fn X.A.in1 X.stack s2 H2 [.ref a, v] [.ref a, y] Q E0 room.in1 inv2.env0.in1 (.cons rfl (.cons ry .nil)) owed
  refine PySem.W.sub_K fr inv2.mod.kin isA M.at_.at_ (fi _ M.at_) M.at_.fn (wpAny_call (codeAny_mono called ?_)) (plain a v)
  rintro (er | fl) s3 got
  · rcases got with ⟨_, _, _, _, _, _, _, _, _, _, _, _, none_leaves⟩
    exact none_leaves.elim
  · cases fl with
    | ret val => exact inv2.after got
    | _ => exact got.elim
def OixK (C : Addr) (sp : Sp) (Q : VK) (x : V) : VK := fun i H2 => ∃ a dx fs, x = V.ref a ∧ H2 a = some (.ins C dx fs) ∧ sp [x, i] H2 Q E0
theorem g_ownIx {to ti : TE} {σ : L2.St} {H : Hp} {Q : VK} (h : to σ H fun x H1 => ti σ H1 (OixK C sp Q x)) : tOwnIx C sp to ti σ H Q := h
theorem n_ownIx {H : Hp} {Q : VK} {a dx : Addr} {fs : List (Str × V)} {i : V} (h1 : H a = some (.ins C dx fs)) (h : sp [.ref a, i] H Q E0) : OixK C sp Q (.ref a) i H := ⟨a, dx, fs, rfl, h1, h⟩
/-! == and != by an own __eq__ -/
structure EqO (K : PySem.W.Frag) (C : Addr) : Prop where
  ne : PySem.W.findIn K (.ref C) "__ne__" = some (some (.builtin "object.__ne__"))
  obj : PySem.W.subIn K (.ref C) (.type "object") = some true
def eqOB (K : PySem.W.Frag) (C : Addr) : Bool := decide (PySem.W.findIn K (.ref C) "__ne__" = some (some (.builtin "object.__ne__"))) && decide (PySem.W.subIn K (.ref C) (.type "object") = some true)
theorem eqOB_ok {K : PySem.W.Frag} {C : Addr} (h : eqOB K C = true) : EqO K C := by
  simp only [eqOB, Bool.and_eq_true, decide_eq_true_eq] at h
  exact ⟨h.1, h.2⟩
/-- both of the class at C; b: the answer of __eq__ -/
def rOwnEq (neg : Bool) (C : Addr) (sp : Sp) : R2 := fun x y H Q => ∃ a b dx dy fs gs, x = .ref a ∧ y = .ref b ∧ H a = some (.ins C dx fs) ∧ H b = some (.ins C dy gs) ∧ sp [.ref a, .ref b] H (fun v H' => ∃ r : Bool, v = .bl r ∧ Q (.bl (if neg then !r else r)) H') E0
theorem notFirst_self {K : PySem.W.Frag} {C : Addr} : PySem.W.notFirst K C (.ref C) = true := by unfold PySem.W.notFirst; simp
theorem ne_bind (self : Value) : bindSpecial (.builtin "object.__ne__") self = pure (.builtin "object.__ne__", [self]) := by kernel_rfl
theorem op_ownEq (M : MethR X.prog X.w X.K X.mg X.base C "__eq__" k sp) (room : Room (k + 1) X.A) : OpR X (compareOp .Eq) (rOwnEq false C sp) := by
  rintro pins s σ H _ _ v u Q inv rv ru ⟨a, b, dx, dy, fs, gs, rfl, rfl, ha, hb, owed⟩
  cases rv
  cases ru
  obtain ⟨ox, od, isA⟩ := instAt inv ha
  obtain ⟨oy, od', isB⟩ := instAt inv hb
  obtain ⟨mm, fr⟩ := inv.fr
  have called := run_fnR (us := [.ref a, .ref b]) (vs := [V.ref a, V.ref b]) M.fn (room.mono (Nat.le_succ k)) passN inv (.cons (by rfl) (.cons (by rfl) .nil)) owed
  show wpAny _ _ (richCompare .Eq (.ref a) (.ref b)) _ _ _
  refine PySem.W.cmp_K (by have := units65 room; omega) fr inv.mod.kin isA isB.type notFirst_self M.at_.at_ M.at_.fn (wpAny_mono (wpAny_call called) ?_ fun _ _ z => z)
  rintro r s1 ⟨x, H1, inv1, rx, br, rfl, q⟩
  obtain rfl : r = Value.bool br := rx
  exact ⟨.bl br, H1, inv1, rfl, by simpa using q⟩
theorem op_ownNe (M : MethR X.prog X.w X.K X.mg X.base C "__eq__" k sp) (O : EqO X.K C) (room : Room (k + 1) X.A) : OpR X (compareOp .NotEq) (rOwnEq true C sp) := by
  rintro pins s σ H _ _ v u Q inv rv ru ⟨a, b, dx, dy, fs, gs, rfl, rfl, ha, hb, owed⟩
  cases rv
  cases ru
  obtain ⟨ox, od, isA⟩ := instAt inv ha
  obtain ⟨oy, od', isB⟩ := instAt inv hb
  have un := units65 room
  have called := M.fn X.A.in1 X.stack s H [.ref a, .ref b] [.ref a, .ref b] _ E0 room.in1 inv.env0.in1 (.cons rfl (.cons rfl .nil)) owed
  have look : PySem.W.Looks (model X.prog X.w) s.heap (specialOf (.ref a) "__ne__") (some (.builtin "object.__ne__")) := isA.type.andThen (PySem.W.looks_findIn inv.kIn O.ne)
  have isObj : PySem.W.Looks (model X.prog X.w) s.heap (isInstance (.ref a) (.type "object")) true := isA.type.andThen (PySem.W.looks_subIn inv.kIn O.obj)
  have inner : wpAny (model X.prog X.w) X.A.in1 (Builtin.«object.__ne__» ⟨[.ref a, .ref b], []⟩) (fun fin s' => ∃ r : Bool, fin = .done (.ret (.bool r)) ∧ EP X pins σ Q (.bool r) s') X.xe s := by
    unfold Builtin.«object.__ne__»; refine wpAny_bind (wpAny_pure (wpAny_bind (wpAny_cRoomFor (by show X.A.in1.units < cLine; exact Nat.lt_of_le_of_lt (Nat.le_of_eq rfl) (by have : X.A.in1.units ≤ X.A.units + 1 := Nat.le_of_eq rfl; omega)) (wpAny_bind (PySem.W.ifBound_K inv.kIn isA M.at_.at_ M.at_.fn (wpAny_call (codeAny_mono called ?_)))))))
    rintro (er | fl) s1 got
    · rcases got with ⟨_, _, _, _, _, _, _, _, _, _, _, _, none_leaves⟩
      exact none_leaves.elim
    · cases fl with
      | ret val =>
        obtain ⟨x, H1, inv1, rx, br, rfl, q⟩ := inv.after got
        obtain rfl : val = Value.bool br := rx
        refine wpAny_bind (wpAny_truthy_bool (wpAny_pure ⟨!br, rfl, .bl (!br), H1, inv1, rfl, by simpa using q⟩))
      | _ => exact got.elim
  show wpAny _ _ (richCompare .NotEq (.ref a) (.ref b)) _ _ _
  unfold richCompare
  simp only [oneThing_ref]
  refine wpAny_holding (wpAny_bind (wpAny_cRoomFor (by omega) (wpAny_bind (isA.type.here (wpAny_bind (isB.type.here ?_))))))
  simp only [bne_self_eq_false, Bool.false_eq_true, if_false, Bool.false_and]
  refine wpAny_bind (wpAny_pure (show _ from ?_)); simp only [Bool.false_eq_true, if_false]; unfold tryCompare
  refine wpAny_bind (wpAny_bind (NtL.csib look (ne_bind _) ?_))
  refine wpAny_call (codeAny_call_builtin (by decide +kernel) F.cmpEntry_ne (PySem.W.check_slot F.cmpKind_ne F.cmpSplit_ne isObj (F.cmpArgs_ne _ _) (wpAny_mono inner ?_ fun _ _ z => z)))
  rintro fin s1 ⟨r, rfl, q⟩
  exact wpAny_pure (wpAny_pure q)
theorem n_ownEq {neg : Bool} {H : Hp} {Q : VK} {a b dx dy : Addr} {fs gs : List (Str × V)} (h1 : H a = some (.ins C dx fs)) (h2 : H b = some (.ins C dy gs)) (h : sp [.ref a, .ref b] H (fun v H' => ∃ r : Bool, v = .bl r ∧ Q (.bl (if neg then !r else r)) H') E0) : rOwnEq neg C sp (.ref a) (.ref b) H Q := ⟨a, b, dx, dy, fs, gs, rfl, rfl, h1, h2, h⟩
end
end HC
/-! head, *rest = list; str(int), int(text), text.split(text), f-strings -/
namespace HC
open PyProof.Rows PySem L2 PySem.Spec
/-- a list taken apart: its first item, and a new list of the others; nothing else is touched -/
theorem unpack_head {prog : Program} {w : World} {A : Around} {E : Value → Shared → Prop} {s : Shared} {l : Addr} {v : Value} {vs : List Value} {Q : List Value → Shared → Prop} (is : s.heap.IsList l (v :: vs).toArray) (calm : A.handled = none) (short : vs.length + 1 ≤ sizeLine)
    (go : ∀ (h' : Heap) (tk : Nat), (∀ b o, s.heap.get? b = some o → h'.get? b = some o) → Q [v, .ref h'.objs.size] { s with heap := h'.push { cls := .type "list", data := .seq vs.toArray }, toks := tk }) : wpAny (model prog w) A (unpackItems (.ref l) 2 (some 1)) Q E s := by
  obtain ⟨ol, at_, _⟩ := id is
  have low := Heap.lt_size at_
  have off : l ≠ s.heap.objs.size := Nat.ne_of_lt low
  unfold unpackItems notIterableAtAll
  refine wpAny_bind (wpAny_bind (wpAny_specialOf is.typeIs PySem.F.slot_list_iter.lookup (wpAny_pure ?_)))
  rw [if_neg (fun z : false = true => nomatch z)]
  refine wpAny_bind (wpAny_holding (wpAny_pyIter_list is (wpAny_bind (wpAny_holding (PySem.W.kun_draw off 1 0 _ _ ⟨_, Heap.get?_push_size _ rfl, rfl, rfl⟩ (is.push _) (by simp) fun h1 it1 same1 => ?_)))))
  have is1 : h1.IsList l (v :: vs).toArray := (is.push _).extBut same1.extBut off
  obtain ⟨oi, ati, _⟩ := id it1
  obtain ⟨ol1, at1, _⟩ := id is1
  refine wpAny_bind (wpAny_holding (PySem.W.kun_collect (s := { s with heap := h1 }) (T := "list_iterator") (items := (v :: vs).toArray) (.inr (.inr (.inl rfl))) (Walks.list (A := A.in1) calm s.heap.objs.size l off _) (fun j u st => st.1.typeIs) (k := 1) (by simp) ⟨it1, is1⟩ (Heap.lt_size ati) (Heap.lt_size at1) (fun h2 tk kept => ?_) (by simpa using short)))
  have all : ∀ b o, s.heap.get? b = some o → h2.get? b = some o := fun b o e => kept b o (Nat.ne_of_lt (Heap.lt_size e)) (same1.extBut b o (Nat.ne_of_lt (Heap.lt_size e)) (Heap.get?_push_of_some _ e))
  have cut : (((v :: vs).toArray.toList.drop 1).length - (2 - 1 - 1)) = vs.length := by simp
  show wpAny _ _ (if ((v :: vs).toArray.toList.drop 1).length < 2 - 1 - 1 then _ else _) _ _ _
  rw [if_neg (by simp)]
  show wpAny _ _ (newList (((v :: vs).toArray.toList.drop 1).take (((v :: vs).toArray.toList.drop 1).length - (2 - 1 - 1))) >>= fun d => pure (((v :: vs).toArray.toList.drop 0).take 1 ++ [d] ++ ((v :: vs).toArray.toList.drop 1).drop (((v :: vs).toArray.toList.drop 1).length - (2 - 1 - 1)))) _ _ _
  rw [cut]
  have e1 : ((v :: vs).toArray.toList.drop 1).take vs.length = vs := by simp
  have e2 : ((v :: vs).toArray.toList.drop 1).drop vs.length = [] := by simp
  rw [e1, e2]
  exact wpAny_bind (wpAny_newList (s := { s with heap := h2, toks := tk }) (wpAny_pure (by simpa using go h2 tk all)) (by omega))
section
variable {X : Cx} {e o t1 t2 : Expr} {te to : TE} {p q pos apos : Pos} {k : Nat} {K : PySem.W.Frag} {H : Hp} {Q : VK} {σ : L2.St}
/-- t1, *t2 = list -/
def gStar1 (K : PySem.W.Frag) (g : TGs) : TG := fun v σ H Q => ∃ a x xs, v = .ref a ∧ SqL K H a (x :: xs) ∧ ∀ p, H p = none → g [x, .ref p] σ (upd H p (.lst xs)) Q
theorem pg_star1 (K' : PySem.W.Frag) {g : TGs} (calm : X.calm = true) (h : PGs X [t1, t2] g) (e1 : (assignEach [t1, .Starred t2 p] X.env).map (·.2) = (assignEach [t1, t2] X.env).map (·.2) := by rfl) (e2 : (assignEach [t1, .Starred t2 p] X.env).length = 2 := by rfl) (e3 : (assignEach [t1, .Starred t2 p] X.env).findIdx? (·.1) = some 1 := by rfl) (hK : X.K = K' := by rfl) :
    PG X (.Tuple [t1, .Starred t2 p] k pos) (gStar1 K' g) := by
  subst hK
  constructor
  rintro pins s σ H _ u Q inv rel ⟨a, x, xs, rfl, sq, owed⟩
  cases rel
  obtain ⟨its, rv, pl, hz⟩ := inv.list sq
  cases rv with
  | @cons _ v _ vs rx rxs =>
    rw [assign_Tuple]
    refine wpAny_bind (wpAny_standAt ?_); unfold unpack
    rw [e2, e3, e1]
    refine wpAny_bind (wpAny_holding (unpack_head pl.isList (inv.ok.hd calm) (by have := rxs.length; simpa [← this] using hz) fun h' tk kept => ?_))
    have inv1 : L2.Inv X pins σ H { s with heap := h', toks := tk } := inv.kept kept
    have free : H h'.objs.size = none := inv1.hok.fresh (Nat.le_refl _)
    have len : xs.length ≤ sizeLine := Nat.le_trans (Nat.le_succ _) (by simpa using hz)
    have ok : ObjOk X.prog X.w (upd H h'.objs.size (.lst xs)) (h'.push { cls := .type "list", data := .seq vs.toArray }) h'.objs.size (.lst xs) := ⟨len, vs, 0, rxs, Heap.get?_push_size _ rfl⟩
    have inv2 := inv1.laid (t' := tk) (a := h'.objs.size) (o := .lst xs) (h' := h'.push { cls := .type "list", data := .seq vs.toArray }) (fun b o z => Heap.get?_push_of_some _ z) (Nat.le_refl _) ok
    exact h.run pins _ σ _ [x, V.ref h'.objs.size] _ Q inv2 (.cons rx (.cons rfl .nil)) (owed _ free)
theorem n_star1P {g : TGs} {a : Addr} {x : V} {xs : List V} {Q : L2.St → Hp → Prop} (h1 : SqL K H a (x :: xs)) (h : ∀ p H', H p = none → Same H H' → H' p = some (.lst xs) → g [x, .ref p] σ H' Q) : gStar1 K g (.ref a) σ H Q := ⟨a, x, xs, rfl, h1, fun p hp => h p _ hp (same_new hp) upd_same⟩
/-- the text of a number -/
def numS (i : Int) : Str := Str.ofString (toString i)
def rStr1 : List V → Hp → VK → Prop := fun xs H Q => ∃ i, xs = [.int i] ∧ i.natAbs.log2 < 1920 ∧ Q (.str (numS i)) H
theorem call_strI : CallR X (.type "str") rStr1 := by
  rintro pins s σ H xs us Q inv rel ⟨i, rfl, small, q⟩
  obtain ⟨_, rfl, t, rfl⟩ := vals1 rel
  exact PySem.P.str_of_int small ⟨.str (numS i), H, inv.tok _, ⟨_, rfl⟩, q⟩
theorem pe_strI (m : Bts X.mg) (he : PE X e te) (hg : Gl X "str" := by rfl) (hs : starEach (e :: []) X.env = (false, eval e X.env) :: starEach [] X.env := by rfl) : PE X (.Call (.Name "str" p) [e] [] pos) (tCB rStr1 (tCons te tNil)) :=
  pe_callTy call_strI hg m.str bt_str (pa_cons he pa_nil hs) (by decide) (by decide) hs rfl
theorem g_strI {i : Int} (h1 : i.natAbs.log2 < 1920) (h : Q (.str (numS i)) H) : rStr1 [.int i] H Q := ⟨i, rfl, h1, h⟩
def rIntS : List V → Hp → VK → Prop := fun xs H Q => ∃ a n, xs = [.str a] ∧ PySem.intText? a = some n ∧ a.length ≤ 640 ∧ Q (.int n) H
theorem pe_intS (m : Bts X.mg) (he : PE X e te) (hg : Gl X "int" := by rfl) (hs : starEach (e :: []) X.env = (false, eval e X.env) :: starEach [] X.env := by rfl) : PE X (.Call (.Name "int" p) [e] [] pos) (tCB rIntS (tCons te tNil)) :=
  pe_callTy call_int_str hg m.int bt_int (pa_cons he pa_nil hs) (by decide) (by decide) hs rfl
theorem g_intS {a : Str} {n : Int} (h1 : PySem.intText? a = some n) (h2 : a.length ≤ 640) (h : Q (.int n) H) : rIntS [.str a] H Q := ⟨a, n, rfl, h1, h2, h⟩
theorem num_small {i : Int} (h0 : 0 ≤ i) (h1 : i < 2 ^ 64) : i.natAbs.log2 < 1920 := by
  have : i.natAbs < 2 ^ 1920 := Nat.lt_of_lt_of_le (by omega : i.natAbs < 2 ^ 64) (Nat.pow_le_pow_right (by decide) (by decide))
  by_cases z : i.natAbs = 0
  · rw [z]; decide
  · exact (Nat.log2_lt z).mpr this
/-- text.split(text) -/
def rSplit : V → List V → Hp → VK → Prop := fun x xs H Q => ∃ a b, x = .str a ∧ xs = [.str b] ∧ (b.length == 0) = false ∧ a.length + 2 ≤ sizeLine ∧ rNewStrs (Txt.split a b) H Q
theorem g_split {a b : Str} (h1 : (b.length == 0) = false) (h2 : a.length + 2 ≤ sizeLine) (h : ∀ p H', H p = none → Same H H' → H' p = some (.lst ((Txt.split a b).map V.str)) → Q (.ref p) H') : rSplit (.str a) [.str b] H Q := ⟨a, b, rfl, rfl, h1, h2, fun p hp => h p _ hp (same_new hp) upd_same⟩
/-- f'..' of two parts and more -/
def tFs (ts : List TE) : TE := fun σ H Q => tJs ts Str.empty σ H fun out H1 => Q (.str out) H1
def FsK (ts : List TE) (acc : Str) (σ : L2.St) (Q : VK) : VK := fun x H1 => ∃ y : Str, x = .str y ∧ (acc ++ y).length ≤ sizeLine ∧ tJs ts (acc ++ y) σ H1 fun out H2 => Q (.str out) H2
theorem g_fs {t : TE} {ts : List TE} (h : t σ H (FsK ts Str.empty σ Q)) : tFs (t :: ts) σ H Q := h
theorem n_fs0 {acc y : Str} (hz : (acc ++ y).length ≤ sizeLine) (h : Q (.str (acc ++ y)) H) : FsK [] acc σ Q (.str y) H := ⟨y, rfl, hz, h⟩
theorem n_fs {acc y : Str} {t : TE} {ts : List TE} (hz : (acc ++ y).length ≤ sizeLine) (h : t σ H (FsK ts (acc ++ y) σ Q)) : FsK (t :: ts) acc σ Q (.str y) H := ⟨y, rfl, hz, h⟩
def FmK (Q : VK) : VK := fun x H1 => (∃ y : Str, x = .str y ∧ y.length ≤ sizeLine ∧ Q (.str y) H1) ∨ ∃ i : Int, x = .int i ∧ i.natAbs.log2 < 1920 ∧ Q (.str (numS i)) H1
theorem g_fmt (h : te σ H (FmK Q)) : tFmt te σ H Q := h
theorem n_fmtS {y : Str} (hz : y.length ≤ sizeLine) (h : Q (.str y) H) : FmK Q (.str y) H := .inl ⟨y, rfl, hz, h⟩
theorem n_fmtI {i : Int} (hz : i.natAbs.log2 < 1920) (h : Q (.str (numS i)) H) : FmK Q (.int i) H := .inr ⟨i, rfl, hz, h⟩
end
end HC
/-! generator methods: their promises, list(o.m(..)); instances called; steps of generator bodies -/
namespace HC
open PyProof.Rows PySem L2 PySem.Spec
section
variable {K : PySem.W.Frag} {P : Program} {w : World} {base : Heap} {mg : Str → Option Value}
/-- the method m of the class at C is a generator that keeps sp -/
structure MethG (P : Program) (w : World) (K : PySem.W.Frag) (mg : Str → Option Value) (base : Heap) (C : Addr) (m : Str) (k : Nat) (sp : SpG) : Prop where
  cl : Cls K C
  ex : ∃ f fd ps, Meth K C m f ∧ GFn P w K mg base k f fd ps sp ∧ Binds K fd ps []
theorem gfn_body {x qual : Str} {params : Arguments} {body : List Stmt} {scope : Scope} {f : Addr} {fd : FuncData} {N ps : List Str} {k : Nat} {sp : SpG} (F : FunD K x qual params body scope [] [] f fd) (S : GScope N ps scope) (len : ∀ vs H Q E, sp vs H Q E → vs.length = ps.length)
    (owes : ∀ (cdv : Value) (A : Around) (outer : List Env) (s : Shared) (H : Hp) (vs : List V) (Q : List V → Hp → Prop) (E : XK) (pn : List (Addr × Obj)), Room k (A.deeper (envOfC qual scope s.heap.objs.size f cdv)) → sp vs H Q E →
      ∃ t, GSs (gcxOf P w K mg base N qual scope f cdv A outer s H E pn) body t ∧ t { nx := fun ys _ H' => Q ys H', rt := fun ys v H' => v = .non ∧ Q ys H' } [] (start N vs) H) : GFn P w K mg base (k + 1) f fd ps sp := by
  rcases F.ex with ⟨c1, c2, dv, kv, dc, pm, an, cdv, ct, sl, e, at_, code, _⟩
  subst e
  exact gfn_of at_ code S len (owes cdv)
end
section
variable {X : Cx} {k : Nat} {C : Addr} {sp : SpG} {m : Str} {o e : Expr} {es : List Expr} {to : TE} {t : TA} {p q pos apos : Pos} {K : PySem.W.Frag} {H : Hp} {Q : VK} {σ : L2.St}
theorem noStop0 : NoStop X.K E0 := fun _ _ _ z => z.elim
/-- list(o.m(e, ..)), m a generator method -/
theorem pe_listM {pl : Sem Bool} (M : MethG X.prog X.w X.K X.mg X.base C m k sp) (room : Room (k + 3) X.A) (b : Bts X.mg) (ho : PE X o to) (ha : PA X (e :: es) t) (hg : Gl X "list" := by rfl)
    (hs : starEach [.Call (.Attribute o m apos) (e :: es) [] q] X.env = (false, eval (.Call (.Attribute o m apos) (e :: es) [] q) X.env) :: starEach [] X.env := by rfl)
    (hst : starEach (e :: es) X.env = (false, eval e X.env) :: starEach es X.env := by rfl) (hpl : (backTo q (starEach es X.env)).any (·.1) = false := by rfl)
    (ht : eval (.Call (.Attribute o m apos) (e :: es) [] q) X.env = (do
      let ov ← eval o X.env
      standAt apos.atName
      let (fn, rest) ← holding [ov] (getMethod ov m pl)
      callWith q fn rest (backTo q (starEach (e :: es) X.env)) (backToKw q (keywordEach [] X.env))) := by rfl) :
    PE X (.Call (.Name "list" p) [.Call (.Attribute o m apos) (e :: es) [] q] [] pos) (tListG (tMethG C m sp [] E0 to t)) := by
  obtain ⟨f, fd, ps, at_, F, bnd⟩ := M.ex
  exact pe_listG (pgen_meth (pl := pl) ho M.cl at_ F (room.mono (by omega)) bnd .nil ha hst hpl ht) passN noStop0 room hg b.list bt_list (by decide) (by decide) hs
/-- the object, then the arguments, then what the generator promises -/
def GmK (C : Addr) (m : Str) (sp : SpG) (t : TA) (σ : L2.St) (Q : VK) : VK := fun x H1 => ∃ a dx fs, x = .ref a ∧ H1 a = some (.ins C dx fs) ∧ fs.lookup m = none ∧ t σ H1 fun vs H2 => sp (x :: (vs ++ [])) H2 (fun out H3 => ∀ p, H3 p = none → Q (.ref p) (upd H3 p (.lst out))) E0
theorem g_listM (h : to σ H (GmK C m sp t σ Q)) : tListG (tMethG C m sp [] E0 to t) σ H Q := h
theorem n_listM {a dx : Addr} {fs : List (Str × V)} (h1 : H a = some (.ins C dx fs)) (h2 : fs.lookup m = none) (h : t σ H fun vs H2 => sp (V.ref a :: (vs ++ [])) H2 (fun out H3 => ∀ p, H3 p = none → Q (.ref p) (upd H3 p (.lst out))) E0) : GmK C m sp t σ Q (.ref a) H := ⟨a, dx, fs, rfl, h1, h2, h⟩
end
section
variable {X : Cx} {k : Nat} {C : Addr} {sp : Sp} {fe e : Expr} {es : List Expr} {tf : TE} {t : TA} {p pos : Pos} {H : Hp} {Q : VK} {σ : L2.St}
/-- x(e, ..), x an instance of the class at C -/
theorem pe_callI (M : MethR X.prog X.w X.K X.mg X.base C "__call__" k sp) (fi : ∀ f, Meth X.K C "__call__" f → PySem.W.fnIn X.K f = true) (room : Room k X.A) (hf : PE X fe tf) (ha : PA X (e :: es) t)
    (ht : eval (.Call fe (e :: es) [] pos) X.env = (do
      callWith pos (← eval fe X.env) [] (backTo pos (starEach (e :: es) X.env)) (backToKw pos (keywordEach [] X.env))) := by rfl) (he : starEach (e :: es) X.env = (false, eval e X.env) :: starEach es X.env := by rfl) (hpl : (backTo pos (starEach es X.env)).any (·.1) = false := by rfl) : PE X (.Call fe (e :: es) [] pos) (StX.tCallO X C sp E0 tf t) :=
  StX.pe_callO hf ⟨M.at_.at_, M.at_.fn, fi _ M.at_⟩ M.fn room passN ha ht he hpl
def CiK (X : Cx) (C : Addr) (sp : Sp) (t : TA) (σ : L2.St) (Q : VK) : VK := fun y H1 => ∃ a, y = V.ref a ∧ t σ H1 fun vs H2 => StX.InsC X H2 a C ∧ sp (V.ref a :: vs) H2 Q E0
theorem g_callI (h : tf σ H (CiK X C sp t σ Q)) : StX.tCallO X C sp E0 tf t σ H Q := h
theorem n_callI {a : Addr} (h : t σ H fun vs H2 => StX.InsC X H2 a C ∧ sp (V.ref a :: vs) H2 Q E0) : CiK X C sp t σ Q (.ref a) H := ⟨a, rfl, h⟩
theorem insC_of {a dx : Addr} {fs : List (Str × V)} (h : H a = some (.ins C dx fs)) : StX.InsC X H a C := .inr ⟨dx, fs, h⟩
theorem pe_splitH {o : Expr} {to te : TE} {apos : Pos} (ho : PE X o to) (he : PE X e te) (hs : starEach [e] X.env = [(false, eval e X.env)] := by rfl) (hbase : attributeBase o "split" X.env (eval o X.env) = eval o X.env := by rfl) (hline : (apos.endLine == pos.line) = true := by rfl) :
    PE X (.Call (.Attribute o "split" apos) [e] [] pos) (tM1 rSplit to te) := pe_split ho he hs hbase hline
theorem pe_fs {v1 v2 : Expr} {rest : List Expr} {ts : List TE} (h : PJ X (v1 :: v2 :: rest) ts) : PE X (.JoinedStr (v1 :: v2 :: rest) pos) (tFs ts) := pe_joined h
end
/-! steps of a generator's body -/
section
variable {D : GEnds} {ys : List V} {σ : L2.St} {H : Hp} {t u : TGn} {te : TE} {tp : TS} {tc : TT} {g : TG} {ts : TA}
theorem g_gthen (h : t { D with nx := fun ys' σ' H' => u D ys' σ' H' } ys σ H) : tGThen t u D ys σ H := h
theorem g_gplain (h : tp { nx := D.nx ys, rt := D.rt ys, bk := D.bk ys, ct := D.ct ys } σ H) : tPlain tp D ys σ H := h
theorem g_gif (h : tc σ H fun b H1 => if b = true then t D ys σ H1 else u D ys σ H1) : tGIf tc t u D ys σ H := h
theorem g_g0 (h : D.nx ys σ H) : tG0 D ys σ H := h
theorem n_yield (hz : ys.length < sizeLine) (h : te σ H fun x H1 => D.nx (ys ++ [x]) σ H1) : tGYield te D ys σ H := ⟨hz, h⟩
def GiR2 (g : TG) (tb : TGn) (D : GEnds) (ys : List V) (σ : L2.St) (vs : List V) (H1 : Hp) : Prop := ∃ lo hi, vs = [.int lo, .int hi] ∧ (-(2 ^ 62) ≤ lo ∧ lo < 2 ^ 62 ∧ -(2 ^ 62) ≤ hi ∧ hi < 2 ^ 62) ∧ tGFor (fun _ H2 R => R (Itr lo (hi - lo).toNat) H2) g tb D ys σ H1
theorem g_gforR2 (h : ts σ H (GiR2 g t D ys σ)) : tGFor (iRng2 ts) g t D ys σ H := h
theorem n_gforR2 {lo hi : Int} (h1 : -(2 ^ 62) ≤ lo) (h2 : lo < 2 ^ 62) (h3 : -(2 ^ 62) ≤ hi) (h4 : hi < 2 ^ 62) (Pv : Nat → List V → L2.St → Hp → Prop) (h0 : Pv 0 ys σ H)
    (hs : ∀ (i : Nat) ys σ H, i < (hi - lo).toNat → Pv i ys σ H → g (.int (lo + i)) σ H fun σ2 H2 => t { D with nx := Pv (i + 1), ct := Pv (i + 1), bk := D.nx } ys σ2 H2) (hd : ∀ ys σ H, Pv (hi - lo).toNat ys σ H → D.nx ys σ H) : GiR2 g t D ys σ [.int lo, .int hi] H := by
  refine ⟨lo, hi, rfl, ⟨h1, h2, h3, h4⟩, fun i m ys σ H => m = (hi - lo).toNat - i ∧ i ≤ (hi - lo).toNat ∧ Pv i ys σ H, ⟨_, rfl, Nat.zero_le _, h0⟩, ?_⟩
  rintro i m ys σ H ⟨rfl, le, p⟩
  have W := walk_range (lo := lo) (n := (hi - lo).toNat)
  by_cases lt : i < (hi - lo).toNat
  · refine .inr ⟨W.goes i H lt trivial, Pv (i + 1), fun ys' σ' H' p' => ⟨_, by omega, rfl, lt, p'⟩, fun x H' y => ?_⟩
    obtain ⟨rfl, rfl⟩ := W.yields i H x H' lt trivial y
    exact hs i ys σ H' lt p
  · obtain rfl : i = (hi - lo).toNat := by omega
    exact .inl ⟨W.stops H trivial, hd ys σ H p⟩
end
end HC
/-! def f(self, *v, kw=d), called without kw -/
namespace HC
open PyProof.Rows PySem L2 PySem.Spec
/-- the binder looks one name up in the dict at D, then goes on as g tells -/
def Looks1 {α : Type} (D : Addr) (kw : Str) (t : Sem α) (g : Value → Sem α) : Prop := ∃ (β γ : Type) (k1 : Option Value → Sem β) (k2 : β → Sem γ) (k3 : γ → Sem α), t = ((nsGet D kw >>= k1) >>= k2) >>= k3 ∧ ∀ u, ∃ b, k1 (some u) = pure b ∧ (k2 b >>= k3) = g u
theorem looks1_run {α : Type} {M : Model} {A : Around} {E : Value → Shared → Prop} {s : Shared} {K : PySem.W.Frag} {D : Addr} {kw : Str} {t : Sem α} {g : Value → Sem α} {u : Value} {Q : α → Shared → Prop} (X : K.In s.heap) (at_ : PySem.W.nsIn K D kw = some (some u)) (l : Looks1 D kw t g) (h : wpAny M A (g u) Q E s) : wpAny M A t Q E s := by
  obtain ⟨β, γ, k1, k2, k3, rfl, more⟩ := l
  obtain ⟨b, e1, e2⟩ := more u
  have one : PySem.W.Looks M s.heap (nsGet D kw >>= k1) b := (PySem.W.looks_nsIn X at_).andThen (PySem.W.Looks.of_pure e1)
  rw [bind_assoc]
  refine wpAny_bind (one.here ?_)
  show wpAny M A (k2 b >>= k3) Q E s
  rw [e2]
  exact h
section
variable {P : Program} {w : World} {K : PySem.W.Frag} {mg : Str → Option Value} {base : Heap} {k : Nat} {f : Addr} {sp : Sp}
theorem fnd_star1 {x qual : Str} {params : Arguments} {body : List Stmt} {scope : Scope} {dv : V} {fd : FuncData} {N : List Str} {p1 pv kw : Str} (F : FunD K x qual params body scope [] [(kw, dv)] f fd) (S : FnScope N [p1, kw, pv] scope)
    (h0 : ∀ (D : Addr) (doc pm : Value) (an : Option Addr) (cdv ct : Value) (a : Value), Looks1 D kw (bindArgs (PySem.W.fnOf x qual params body scope .none (.ref D) doc pm an cdv ct) ⟨[a], []⟩) fun u => newTuple [] >>= fun t => pure [(p1, a), (kw, u), (pv, t)])
    (h1 : ∀ (D : Addr) (doc pm : Value) (an : Option Addr) (cdv ct : Value) (a r : Value) (rs : List Value), Looks1 D kw (bindArgs (PySem.W.fnOf x qual params body scope .none (.ref D) doc pm an cdv ct) ⟨a :: r :: rs, []⟩) fun u => newTuple (r :: rs) >>= fun t => pure [(p1, a), (kw, u), (pv, t)])
    (owes : ∀ cdv, Owes P w K mg base N qual scope body k f sp cdv) :
    FnR P w K mg base (CXW P w) (k + 1) f (fun vs H Q E => ∃ w0 rest, vs = w0 :: rest ∧ rest.length ≤ sizeLine ∧ ∀ p, H p = none → sp [w0, dv, V.ref p] (upd H p (.tup rest)) Q E) := by
  rcases F.ex with ⟨c1, c2, dV, kV, dc, pm, an, cdv, ct, sl, e, at_, code, dfl, kwd⟩
  subst e
  have dn : dV = .none := dfl.elim (fun z => z.2) (fun z => absurd rfl z.1)
  subst dn
  rcases kwd with z | ⟨D, rfl, has⟩
  · exact absurd z (by simp)
  obtain ⟨u, atD, ru⟩ := has (kw, dv) (by simp)
  rintro A outer s H us vs Q E room env rel ⟨w0, rest, rfl, size, owed⟩
  cases rel with
  | @cons _ a _ more ra rmore =>
    have free : H s.heap.objs.size = none := env.hok.fresh (Nat.le_refl _)
    have size' : more.length ≤ sizeLine := rmore.length ▸ size
    have KX : K.In s.heap := env.mod.kin.keeps fun b o e => (env.bs b o e).1
    have bind : Looks1 D kw (bindArgs (PySem.W.fnOf x qual params body scope .none (.ref D) dc pm an cdv ct) ⟨a :: more, []⟩) fun u => newTuple more >>= fun t => pure [(p1, a), (kw, u), (pv, t)] := by
      cases more with
      | nil => exact h0 D dc pm an cdv ct a
      | cons r rs => exact h1 D dc pm an cdv ct a r rs
    refine StX.run_bnd at_ code S room env (G := fun xs H2 => ∃ p, H p = none ∧ xs = [w0, dv, V.ref p] ∧ H2 = upd H p (.tup rest)) ?_ ?_
    · intro A' Ex Q' go
      refine looks1_run KX atD bind (wpAny_bind (wpAny_newTuple (wpAny_pure ?_) size'))
      have fresh : ObjOk P w (upd H s.heap.objs.size (.tup rest)) (s.heap.push { cls := .type "tuple", data := .seq more.toArray }) s.heap.objs.size (.tup rest) := ⟨size, more, rmore, _, Heap.get?_push_size _ rfl, rfl, _, rfl⟩
      have grown := StX.un_laid (fs := frs outer) (s := s) (o := { cls := .type "tuple", data := .seq more.toArray }) (u := .tup rest) free
      exact go _ _ [w0, dv, .ref s.heap.objs.size] [a, u, .ref s.heap.objs.size] (StX.env0_laid env fresh) grown rfl (fun e s' => StX.cxUp outer s H _ _ E e s' grown (fun b o q => Heap.get?_push_of_some _ q) rfl) (.cons ra (.cons ru (.cons rfl .nil))) rfl ⟨_, free, rfl, rfl⟩
    · rintro s2 _ _ ⟨p, hp, rfl, rfl⟩ room'
      exact owes cdv A outer s2 _ _ Q E room' (owed p hp)
end
end HC
/-! exceptions of own classes whose __init__ takes keywords alone -/
namespace HC
open PyProof.Rows PySem Spec HandSPX
/-- at C stands an own class below ValueError; what its line of classes holds -/
structure VeAt (h : Heap) (C : Addr) (o : Obj) (bm : List Value) : Prop where
  obj : ∃ nm q N bs hdct sn sub ab col dd k0 k1 k2 k3 k5, o = excClassObj nm q C N bs bm hdct sn sub ab col dd k0 k1 k2 k3 k5 "ValueError.__new__"
  at_ : h.get? C = some o
  ve : (Value.ref C :: bm).contains (.type "ValueError") = true
  ae : (Value.ref C :: bm).contains (.type "AttributeError") = false
  ne : (Value.ref C :: bm).contains (.type "NameError") = false
  me : (Value.ref C :: bm).contains (.ref C) = true
theorem veAt {h : Heap} {C : Addr} {nm q : Str} {N : Addr} {bs bm sub : List Value} {hdct ab : Bool} {sn : List Str} {col : Option Bool} {dd : Option Addr} {k0 k1 k2 k3 k5 : Option Value}
    (at_ : h.get? C = some (excClassObj nm q C N bs bm hdct sn sub ab col dd k0 k1 k2 k3 k5 "ValueError.__new__")) (tail : refsVE bm = true) : VeAt h C (excClassObj nm q C N bs bm hdct sn sub ab col dd k0 k1 k2 k3 k5 "ValueError.__new__") bm := by
  have key : ∀ T : String, (Value.ref C :: bm).contains (.type T) = veTail.contains (.type T) := fun T => by rw [List.contains_cons, refsVE_contains T bm tail]; rfl
  exact ⟨⟨_, _, _, _, _, _, _, _, _, _, _, _, _, _, _, rfl⟩, at_, by rw [key]; decide +kernel, by rw [key]; decide +kernel, by rw [key]; decide +kernel, by simp⟩
section
variable {prog : Program} {w : World} {A : Around} {h : Heap} {C : Addr} {o : Obj} {bm : List Value} {kw : List (Str × Value)} {g : Array GenState} {d : Drawn} {t : Nat} {os : OsState}
/-- the object that C(k=v, ..) makes, no argument by place -/
abbrev bare (h : Heap) (C : Addr) : Heap := (h.push (W.kdv_tup [])).push (excO C h.objs.size)
theorem new_bare {R : Result → Shared → Prop} (V : VeAt h C o bm) (k : R (.ok (.ret (.ref (h.objs.size + 1)))) ⟨bare h C, g, d, t, os⟩) : codeAny (model prog w) A (.builtin "ValueError.__new__" ⟨[.ref C], kw⟩) R ⟨h, g, d, t, os⟩ := by
  obtain ⟨nm, q, N, bs, hdct, sn, sub, ab, col, dd, k0, k1, k2, k3, k5, rfl⟩ := V.obj
  have cl := V.at_
  have p := V.ve; have a := V.ae; have n := V.ne; have m := V.me
  have fin := PySem.F.excBase_ValueError.ends
  refine codeAny_builtinAt PySem.F.excBase_ValueError.entry (show PySem.wpAt _ _ _ (Builtin.«BaseException.__new__» _) _ _ _ from ?_)
  unfold Builtin.«BaseException.__new__»; refine PySem.wpAt_bind (show PySem.wpAt _ _ _ (stack >>= _) _ _ _ from PySem.wpAt_bind (PySem.wpAt_stack fun _ _ => PySem.wpAt_of_wpAny ?_))
  wp_walk
  refine PySem.wpAt_of_wpAny ?_
  rw [PySem.F.excBase_ValueError.owner]
  repeat (first
    | with_reducible refine wpAny_madeHere_exc PySem.F.excBase_ValueError.canon cl ?_ | with_reducible refine wpAny_madeBy_exc cl ?_ | with_reducible refine wpAny_staticBase_exc cl ?_ | with_reducible refine wpAny_loadPart_at cl ?_
    | ((with_reducible refine wpAny_isSubtype_exc cl ?_); first | rw [p] | rw [a] | rw [n] | rw [m]) | simp only [bne_self_eq_false, Bool.false_eq_true, if_false] | wp_step)
  rw [Heap.size_push]
  exact k
theorem call_bare {R : Result → Shared → Prop} {fI : Addr} (V : VeAt h C o bm) (hi : W.Looks (model prog w) h (typeLookup (.ref C) "__init__") (some (.ref fI))) (hb : ∀ self, W.Looks (model prog w) h (bindSpecial (.ref fI) self) (.ref fI, [self]))
    (k : codeAny (model prog w) (A.under (.builtin "type.__call__" ⟨[.ref C], kw⟩)) (.call (.ref fI) ⟨[.ref (h.objs.size + 1)], kw⟩) (W.InitBack (h.objs.size + 1) R) ⟨bare h C, g, d, t, os⟩) :
    codeAny (model prog w) A (.call (.ref C) ⟨[], kw⟩) R ⟨h, g, d, t, os⟩ := by
  obtain ⟨nm, q, N, bs, hdct, sn, sub, ab, col, dd, k0, k1, k2, k3, k5, rfl⟩ := V.obj
  have cl := V.at_
  have p := V.ve; have a := V.ae; have n := V.ne; have m := V.me
  have up : ∀ b u, h.get? b = some u → (bare h C).get? b = some u := fun b u e => Heap.get?_push_of_some _ (Heap.get?_push_of_some _ e)
  have cl' := up _ _ cl
  have mine : (bare h C).get? (h.objs.size + 1) = some (excO C h.objs.size) := by heap_get
  have lk := tc_lookup
  have bn := tc_bind (.ref C)
  have ty : (⟨h, g, d, t, os⟩ : Shared).TypeIs (.ref C) "type" := ⟨_, cl, rfl⟩
  have may : ∀ {M : Model} {B : Around} {E : Value → Shared → Prop} {Q : Unit → Shared → Prop}, Q () ⟨h, g, d, t, os⟩ → wpAny M B (checkBuiltinCall "ValueError.__new__" ⟨[.ref C], kw⟩) Q E ⟨h, g, d, t, os⟩ := fun {M B E Q} ok => by
    have st := PySem.F.excBase_ValueError.noStar
    simp only [checkBuiltinCall, PySem.F.excBase_ValueError.newSplit, PySem.F.excBase_ValueError.newKind, PySem.F.excBase_ValueError.newRow]
    repeat (first
    | with_reducible refine wpAny_madeHere_exc PySem.F.excBase_ValueError.canon cl ?_ | with_reducible refine wpAny_madeBy_exc cl ?_ | with_reducible refine wpAny_staticBase_exc cl ?_ | with_reducible refine wpAny_loadPart_at cl ?_
    | ((with_reducible refine wpAny_isSubtype_exc cl ?_); first | rw [p] | rw [a] | rw [n] | rw [m]) | simp only [bne_self_eq_false, Bool.false_eq_true, if_false] | wp_step)
    exact ok
  have typ : ∀ {Q : Fin → Shared → Prop} {E : Value → Shared → Prop}, codeAny (model prog w) (A.under (.builtin "type.__call__" ⟨[.ref C], kw⟩)) (.call (.ref fI) ⟨[.ref (h.objs.size + 1)], kw⟩)
      (fun r s' => match r with | .error e => E e s' | .ok (.ret v) => v = .none ∧ Q (.done (.ret (.ref (h.objs.size + 1)))) s' | .ok _ => False) ⟨bare h C, g, d, t, os⟩ →
      wpAny (model prog w) (A.under (.builtin "type.__call__" ⟨[.ref C], kw⟩)) (Builtin.«type.__call__» ⟨[.ref C], kw⟩) Q E ⟨h, g, d, t, os⟩ := fun {Q E} z => by
    repeat (first
    | with_reducible refine wpAny_madeHere_exc PySem.F.excBase_ValueError.canon cl ?_ | with_reducible refine wpAny_madeBy_exc cl ?_ | with_reducible refine wpAny_staticBase_exc cl ?_ | with_reducible refine wpAny_loadPart_at cl ?_
    | ((with_reducible refine wpAny_isSubtype_exc cl ?_); first | rw [p] | rw [a] | rw [n] | rw [m]) | simp only [bne_self_eq_false, Bool.false_eq_true, if_false] | wp_step)
    refine codeAny_call_builtin_code (Code.quiet_builtin _ PySem.F.excBase_ValueError.quiet) (may (new_bare V ?_))
    show wpAny _ _ _ _ _ _
    unfold isInstance
    repeat (first | with_reducible refine wpAny_loadPart_at mine ?_ | (with_reducible refine wpAny_isSubtype_exc cl' ?_; rw [m]) | wp_step)
    refine (show wpAny _ _ (typeLookup (.ref C) _) _ _ _ from (hi.keeps up).at (wpAny_holding (wpAny_bind (((hb _).keeps up).at (wpAny_bind (wpAny_call (codeAny_mono z ?_)))))))
    intro r s' got
    match r, got with
    | .error e, got => exact got
    | .ok (.ret v), got =>
      obtain ⟨rfl, got⟩ := got
      first | exact wpAny_pure (wpAny_pure got) | (wp_walk; exact got)
    | .ok .next, got => exact got.elim
    | .ok .brk, got => exact got.elim
    | .ok .cont, got => exact got.elim
  refine codeAny_of_tree (show wpAny _ _ (callAny (.ref C) _) _ _ _ from ?_)
  repeat (any_goals (first | assumption | with_reducible refine wpAny_loadPart_at cl ?_ | wp_step))
  refine ⟨rfl, codeAny_call_builtin_at (Code.quiet_builtin _ (by decide +kernel)) entry_typeCall (wpAny_check_type_call_sub cl (typ (codeAny_mono k ?_)))⟩
  intro r s' got
  match r, got with
  | .error e, got => exact got
  | .ok (.ret v), got => exact got
  | .ok .next, got => exact got
  | .ok .brk, got => exact got
  | .ok .cont, got => exact got
end
end HC
namespace HC
open PyProof.Rows PySem L2 PySem.Spec
/-- C.__init__ is ValueError's, C an own class -/
structure InitV (K : PySem.W.Frag) (mg : Str → Option Value) (b : Str) : Prop where
  ex : ∃ B, mg b = some (.ref B) ∧ PySem.W.typeIn K (.ref B) = some (.type "type") ∧ ClX.CRead K B (.type "type") ∧ PySem.W.findCls K (.ref B) (.type "type") "__init__" = some (.val (.builtin "ValueError.__init__"))
section
variable {X : Cx} {e : Expr} {es : List Expr} {ta : TA} {b x fld : Str} {p p1 p2 pos kpos : Pos}
/-- b.__init__(e, ..), b such a class -/
theorem pe_binit {pl : Sem Bool} (V : InitV X.K X.mg b) (ha : PA X (e :: es) ta) (hg : Gl X b := by rfl) (nodeb : (b == ("__debug__" : Str)) = false := by decide)
    (form : eval (.Call (.Attribute (.Name b p1) "__init__" p2) (e :: es) [] pos) X.env = (do
      let ov ← eval (.Name b p1) X.env
      standAt p2.atName
      let (fn, more) ← holding [ov] (getMethod ov "__init__" pl)
      callWith pos fn more (backTo pos (starEach (e :: es) X.env)) (backToKw pos (keywordEach [] X.env))) := by rfl)
    (one : starEach (e :: es) X.env = (false, eval e X.env) :: starEach es X.env := by rfl) (plain : (backTo pos (starEach es X.env)).any (·.1) = false := by rfl) :
    PE X (.Call (.Attribute (.Name b p1) "__init__" p2) (e :: es) [] pos) (tVeI X.K ta) := by
  obtain ⟨B, at_, ty, rd, fi⟩ := V.ex
  constructor
  intro pn s σ H Q inv h
  refine PySem.W.methodCall_KW (ld_glob inv hg at_ ?_ nodeb) form
  have fr := inv.fr.choose_spec
  refine PySem.W.method_of_cls fr inv.ok.mod.kin rd.ga (PySem.W.cls_val fr inv.ok.mod.kin ty rd.rd fi (by decide +kernel) ?_)
  show wpAny _ _ (callWith pos (Value.builtin "ValueError.__init__") [] (backTo pos (starEach (e :: es) X.env)) []) _ _ _; refine PyProof.Rows.callWith_method1 (thn (ha.run pos pn _ σ H _ (inv.tok _) h) ?_) one plain
  rintro us s1 ⟨vs, H1, inv1, rel, a, C, ws, rfl, few, T, at1, q⟩
  cases rel with
  | @cons _ u0 _ more ra rm =>
    cases ra
    have len : more.length ≤ sizeLine := by
      have := Paired.length rm
      rw [sizeLine_eq]
      omega
    exact oinit_ok T inv1 at1 len fun s' inv2 => ⟨.non, H1, inv2, rfl, q⟩
/-- what the __init__ of an exception with the one field fld keeps -/
def sp_init1 (K : PySem.W.Frag) (C : Addr) (fld : Str) : Sp := fun vs H Q _ => ∃ a v, vs = [.ref a, v] ∧ H a = some (exo a C none) ∧ ∀ dx, H dx = none → dx ≠ a → Q .non (upd (upd H dx (exd dx [(fld, v)])) a (exo a C (some dx)))
end
/-- the exception class x at C: made by C(fld=..), which lays the field and nothing else -/
structure ExcR (P : Program) (w : World) (K : PySem.W.Frag) (mg : Str → Option Value) (base : Heap) (x : Str) (C : Addr) (k : Nat) (fld : Str) : Prop where
  at_ : mg x = some (.ref C)
  oex : OexC K C
  ex : ∃ fI fd, PySem.W.findIn K (.ref C) "__init__" = some (some (.ref fI)) ∧ PySem.W.typeIn K (.ref fI) = some (.type "function") ∧ FnOk P w K mg base (CXW P w) k fI fd ["self", fld] (sp_init1 K C fld) ∧
    KBn K fd ["self", fld] 1 [fld] (fun us ws => us ++ ws) (fun vs zs => vs ++ zs)
section
variable {P : Program} {w : World} {K : PySem.W.Frag} {mg : Str → Option Value} {base : Heap} {f C : Addr} {fd : FuncData} {qual b fld msg : Str} {params : Arguments} {scope : Scope} {j : Nat} {p1 p2 p3 p4 p5 p6 p7 p8 p9 p10 : Pos}
/-- def __init__(self, *, fld): b.__init__(self, msg); self.fld = fld -/
theorem init1_ok (T : OexC K C) (no : PySem.W.findIn K (.ref C) fld = some none) (V : InitV K mg b)
    (F : FunD K "__init__" qual params [.Expr (.Call (.Attribute (.Name b p1) "__init__" p2) [.Name "self" p3, .Constant (.str msg) j p4] [] p5) p6, .Assign [.Attribute (.Name "self" p7) fld p8] (.Name fld p9) p10] scope [] [] f fd)
    (S : FnScope ["self", fld] ["self", fld] scope) (gl : scope.names.lookup b = some .globalImplicit) (vs : Vis scope "self") (vf : Vis scope fld) (nb : (b == ("__debug__" : Str)) = false) (nf : (fld == ("__debug__" : Str)) = false) (nf2 : (fld == ("__classdict__" : Str)) = false)
    (pl : Env → Sem Bool) (form : ∀ env : Env, eval (.Call (.Attribute (.Name b p1) "__init__" p2) [.Name "self" p3, .Constant (.str msg) j p4] [] p5) env = (do
      let ov ← eval (.Name b p1) env
      standAt p2.atName
      let (fn, more) ← holding [ov] (getMethod ov "__init__" (pl env))
      callWith p5 fn more (backTo p5 (starEach [.Name "self" p3, .Constant (.str msg) j p4] env)) (backToKw p5 (keywordEach [] env)))) :
    FnOk P w K mg base (CXW P w) 2 f fd ["self", fld] (sp_init1 K C fld) := by
  refine F.ok S ?_ (fun cdv A outer s H vs Q E hr h => ?_)
  · rintro vs H Q E ⟨a, v, rfl, _⟩; rfl
  · obtain ⟨a, v, rfl, at_, k⟩ := h
    refine ⟨_, pss_cons (ps_expr (pe_binit V (pa_cons (pe_var (i := 0) rfl vs (by decide) (by decide)) (pa_cons pe_str pa_nil)) gl nb (form _))) (pss_one (ps_ost (pe_var (i := 0) rfl vs (by decide) (by decide)) (pe_var (i := 1) rfl vf nf nf2))), ?_⟩
    refine ⟨_, rfl, a, C, [.str msg], rfl, ?_, T, at_, ?_⟩
    · show 1 ≤ 1000
      decide
    · refine ⟨_, rfl, _, rfl, a, C, rfl, T, no, .inl ⟨at_, fun dx n ne => ?_⟩⟩
      exact k dx n ne
end
section
variable {X : Cx} {x fld : Str} {C : Addr} {k : Nat} {ke : Expr} {tk : TA} {p pos kpos : Pos}
/-- C(fld=e), an exception -/
def tMkX (C : Addr) (fld : Str) (tk : TA) : L2.St → Hp → XK → Prop := fun σ H Q => tk σ H fun zs H1 => ∃ v, zs = [v] ∧ ∀ d, H1 d = none → Q (.ref C) (some d) (upd H1 d (.xd [(fld, v)]))
theorem pmk_kx (R : ExcR X.prog X.w X.K X.mg X.base x C k fld) (room : Room (k + 1) X.A) (key : PK X [⟨some fld, ke, kpos⟩] tk) (glob : Gl X x := by rfl) (nodeb : (x == ("__debug__" : Str)) = false := by decide)
    (all : (backToKw pos (keywordEach [⟨some fld, ke, kpos⟩] X.env)).all (·.1.isSome) = true := by rfl) (names : (backToKw pos (keywordEach [⟨some fld, ke, kpos⟩] X.env)).filterMap (·.1) = [fld] := by rfl)
    (plain : ((backTo pos (starEach [] X.env)).any (·.1) || (backToKw pos (keywordEach [⟨some fld, ke, kpos⟩] X.env)).any (·.1.isNone)) = false := by rfl) :
    PMk X (.Call (.Name x p) [] [⟨some fld, ke, kpos⟩] pos) (tMkX C fld tk) := by
  obtain ⟨fI, fd, i1, i2, F1, B1⟩ := R.ex
  intro pn s σ H Q inv h
  obtain ⟨nm, q, N, bs, bm, sn, sub, ab, col, dd, k0, k1, k2, k3, k5, cls, tail⟩ := R.oex.cls
  refine wpAny_Call_Name_kw (ld_glob inv glob R.at_ ?_ nodeb)
  refine PySem.W.callWith_KW0 (h₀ := X.base) inv.ok.mod.kin R.oex.kC all ?_ plain
  refine thn (key.run pos pn s σ H _ inv h) ?_
  rintro ws s1 ⟨zs, H1, inv1, rel, v, rfl, q1⟩
  refine ⟨inv1.kIn, ?_⟩
  rw [names]
  obtain ⟨u, rfl, ru⟩ : ∃ u, ws = [u] ∧ L2.RelV v u := by
    cases rel with
    | cons a b => cases b; exact ⟨_, rfl, a⟩
  show wpAny _ _ (call (.ref C) [] [(fld, u)]) _ _ _
  obtain ⟨hp, g, dr, tk1, os⟩ := s1
  have up : hp.objs.size ≤ hp.objs.size + 1 := Nat.le_succ _
  have new : H1 (hp.objs.size + 1) = none := inv1.hok.fresh up
  have kk : ∀ b o, hp.get? b = some o → ((hp.push (PySem.W.kdv_tup [])).push (PySem.HandSPX.excO C hp.objs.size)).get? b = some o := fun b o e => Heap.get?_push_of_some _ (Heap.get?_push_of_some _ e)
  have own : ((hp.push (PySem.W.kdv_tup [])).push (PySem.HandSPX.excO C hp.objs.size)).get? (hp.objs.size + 1) = some (PySem.HandSPX.excO C hp.objs.size) := by heap_get
  have inv2 : L2.Inv X pn σ (upd H1 (hp.objs.size + 1) (exo (hp.objs.size + 1) C none)) ⟨(hp.push (PySem.W.kdv_tup [])).push (PySem.HandSPX.excO C hp.objs.size), g, dr, tk1, os⟩ :=
    inv1.laid (t' := tk1) (a := hp.objs.size + 1) (o := exo (hp.objs.size + 1) C none) (h' := (hp.push (PySem.W.kdv_tup [])).push (PySem.HandSPX.excO C hp.objs.size)) kk up (exo_ok own)
  have r2 : Vals [V.ref (hp.objs.size + 1), v] [Value.ref (hp.objs.size + 1), u] := .cons rfl (.cons ru .nil)
  have hq : sp_init1 X.K C fld [V.ref (hp.objs.size + 1), v] (upd H1 (hp.objs.size + 1) (exo (hp.objs.size + 1) C none))
      (fun y H2 => y = .non ∧ ∃ (d : Addr) (fs : List (Str × V)), H2 (hp.objs.size + 1) = some (exo (hp.objs.size + 1) C (some d)) ∧ H2 d = some (exd d fs) ∧ H1 d = none ∧ Q (.ref C) (some d) (upd (del H2 (hp.objs.size + 1)) d (.xd fs))) E0 := by
    refine ⟨_, _, rfl, upd_same, fun dx n ne => ⟨rfl, dx, [(fld, v)], upd_same, ?_, ?_, ?_⟩⟩
    · rw [upd_ne ne]; exact upd_same
    · rw [upd_ne ne] at n; exact n
    · have n1 : H1 dx = none := by rw [upd_ne ne] at n; exact n
      have e : upd (del (upd (upd (upd H1 (hp.objs.size + 1) (exo (hp.objs.size + 1) C none)) dx (exd dx [(fld, v)])) (hp.objs.size + 1) (exo (hp.objs.size + 1) C (some dx))) (hp.objs.size + 1)) dx (.xd [(fld, v)]) = upd H1 dx (.xd [(fld, v)]) := by
        funext c
        by_cases c1 : c = dx
        · rw [c1, upd_same, upd_same]
        · rw [upd_ne c1, upd_ne c1]
          by_cases c2 : c = hp.objs.size + 1
          · rw [c2, del_same, new]
          · rw [del_ne c2, upd_ne c2, upd_ne c1, upd_ne c2]
      rw [e]
      exact q1 dx n1
  refine wpAny_call (call_bare (veAt (inv1.kIn _ _ cls) tail) (PySem.W.looks_findIn inv1.kIn i1) (fun self => PySem.W.bind_fn inv1.kIn self i2)
    (codeAny_mono (F1.run _ X.stack _ _ ⟨[Value.ref (hp.objs.size + 1)], [(fld, u)]⟩ [Value.ref (hp.objs.size + 1), u] _ _ E0 (room.make C [] [(fld, u)]) (inv2.env0.make C [] [(fld, u)]) (B1.to _ [Value.ref (hp.objs.size + 1)] [u] inv2.kIn rfl rfl) r2 hq) ?_))
  rintro (er | fl) s' got
  · exact passN pn σ _ _ er s' inv2 got
  · cases fl with
    | ret y =>
      obtain ⟨v2, H2, os2, bare2, un2, hok2, rv, rfl, d, fs, e1, e2, e3, q2⟩ := got
      obtain ⟨hp2, g2, d2, t2, os2'⟩ := s'
      exact ⟨rv, mk_end (raises_own R.oex.exC R.oex.tyC) inv1 up kk un2 hok2 os2 bare2 e1 e2 e3 q2⟩
    | _ => exact got.elim
end
end HC
/-! lambdas as values: without a parameter, or with one that has a default; a def that calls what it is given -/
namespace HC
open PyProof.Rows PySem L2 PySem.Spec LamX
/-- a lambda's text -/
structure LF where
  params : Arguments
  body : Expr
  scope : Scope
def LamO (f : Addr) (q : Str) (l : LF) (cl : List (Str × Addr)) (dV : Value) (c : Addr) : HO := .ext fun h => ∃ doc pm ctv : Value, h.get? f = some (PySem.W.kdv_obj "<lambda>" q l.params (.expr l.body) l.scope cl dV doc pm c ctv)
theorem lamO_ne {f c : Addr} {q : Str} {l : LF} {cl : List (Str × Addr)} {dV : Value} (ps : Array Value) : LamO f q l cl dV c ≠ .tbl ps := fun z => by
  unfold LamO at z
  cases z
/-- the value f is the lambda l of the frame env, its default d -/
def IsLam (env : Env) (H : Hp) (f : Addr) (l : LF) (d : Option V) : Prop := ∃ (c : Addr) (dV : Value), H f = some (LamO f (env.qual ++ "<lambda>") l (cloFrom env.cells l.scope.names []) dV c) ∧ H c = some (CodeO c (env.qual ++ "<lambda>")) ∧
  (d = none ∧ dV = .none ∨ ∃ v T0, d = some v ∧ dV = .ref T0 ∧ H T0 = some (.tup [v]))
theorem IsLam.ext {env : Env} {H H' : Hp} {f : Addr} {l : LF} {d : Option V} (x : IsLam env H f l d) (e : ExtN H H') : IsLam env H' f l d := by
  obtain ⟨c, dV, h1, h2, h3⟩ := x
  refine ⟨c, dV, e _ _ h1 lamO_ne, e _ _ h2 codeO_ne, h3.imp id fun ⟨v, T0, a, b, z⟩ => ⟨v, T0, a, b, e _ _ z nofun⟩⟩
section
variable {X : Cx} {σ : L2.St} {H : Hp} {s : Shared} {pins : List (Addr × Obj)}
theorem nofr_new (inv : L2.Inv X pins σ H s) {h' : Heap} (hsz : s.heap.objs.size ≤ h'.objs.size) : H h'.objs.size = none := inv.hok.fresh hsz
/-- the object of the lambda is laid and known -/
theorem lam_lay {q : Str} {l : LF} {cl : List (Str × Addr)} {dV doc pm ctv : Value} {c : Addr} {t' : Nat} (inv : L2.Inv X pins σ H s) :
    L2.Inv X pins σ (upd H s.heap.objs.size (LamO s.heap.objs.size q l cl dV c)) { s with heap := s.heap.push (PySem.W.kdv_obj "<lambda>" q l.params (.expr l.body) l.scope cl dV doc pm c ctv), toks := t' } := by
  refine inv.laid (a := s.heap.objs.size) (fun b u e => Heap.get?_push_of_some _ e) (Nat.le_refl _) ?_
  have at_ : (s.heap.push (PySem.W.kdv_obj "<lambda>" q l.params (.expr l.body) l.scope cl dV doc pm c ctv)).get? s.heap.objs.size = some (PySem.W.kdv_obj "<lambda>" q l.params (.expr l.body) l.scope cl dV doc pm c ctv) := Heap.get?_push_size _ rfl
  exact ⟨⟨doc, pm, ctv, at_⟩, ⟨_, at_⟩, fun h1 h2 ⟨a, b, d, z⟩ st => ⟨a, b, d, st _ z⟩⟩
theorem extN_new {H : Hp} {f : Addr} {o : HO} (h : H f = none) : ExtN H (upd H f o) := ExtN.of fun b u e => by rw [upd_ne (ne_of_none e h)]; exact e
theorem tabs_new {T : List (Addr × Str)} {H : Hp} {f : Addr} {o : HO} (h : H f = none) (t : Tabs T H) : Tabs T (upd H f o) := t.ext fun b u e => by rw [upd_ne (ne_of_none e h)]; exact e
theorem lam_tail {T : List (Addr × Str)} {c P : Addr} {l : LF} {dV : Value} {pos : Pos} {E : Value → Shared → Prop} {Q : Value → Shared → Prop} (inv : L2.Inv X pins σ H s) (TB : TabB X.base X.mg c P) (code : X.env.code = .ref c)
    (mem : (P, X.env.qual ++ "<lambda>") ∈ T) (one : ∀ p ∈ T, p.1 = P → p.2 = X.env.qual ++ "<lambda>") (tabs : Tabs T H) (free : ∀ y ∈ l.scope.names, y.2 = .free → ∃ c, X.env.cells.lookup y.1 = some c)
    (h : ∀ (f c' : Addr) (H1 : Hp) (s' : Shared), L2.Inv X pins σ H1 s' → H f = none → ExtN H H1 → Tabs T H1 → H1 f = some (LamO f (X.env.qual ++ "<lambda>") l (cloFrom X.env.cells l.scope.names []) dV c') → H1 c' = some (CodeO c' (X.env.qual ++ "<lambda>")) → Q (.ref f) s') :
    wpAny (model X.prog X.w) X.A (makeTail "<lambda>" (X.env.qual ++ "<lambda>") l.params (.expr l.body) l.scope X.env dV .none none pos pos.line) Q E s := by
  obtain ⟨ps, atP, trip, among⟩ := tabs _ mem
  have bP : s.heap.BuiltinsAt X.mg P := TB.bm.keeps inv.bk
  have realP : s.heap.get? P = some { cls := .none, data := .fields ps } := inv.hok P _ atP
  cases found : codeAmong pos ps.toList with
  | none =>
    refine PySem.W.kdv_makeTail (mg := X.mg) (c := c) (P := P) (ps := ps) (closure_ok free) inv.ok.glob (inv.mod.glob.keeps inv.bk) code (TB.code.keeps inv.bk) realP trip found TB.gP bP fun c' ctv doc h' tk but ge lt rec_ tab => ?_
    obtain ⟨c2, oc, vs, t, e2, oc2, dat, val⟩ := rec_
    cases e2
    have size : s.heap.objs.size ≤ h'.objs.size := Nat.le_trans ge (Nat.le_of_lt lt)
    have newC : H c' = none := inv.hok.fresh ge
    have inv1 := inv_table (t' := tk) (more := #[rawInt pos.line, rawInt pos.col, .ref c']) (h' := h') inv atP (fun b o nb e => but b o nb e) tab ge ⟨oc, vs, t, oc2, dat, val⟩
    have ext1 : ExtN H (upd (upd H P (.tbl (ps ++ #[rawInt pos.line, rawInt pos.col, .ref c']))) c' (CodeO c' (X.env.qual ++ "<lambda>"))) := fun b o e n => by
      rw [upd_ne (ne_of_none e newC), upd_ne (fun z => n ps (Option.some.inj (e.symm.trans (by rw [z]; exact atP))))]
      exact e
    have asL : (ps ++ #[rawInt pos.line, rawInt pos.col, .ref c']).toList = ps.toList ++ [rawInt pos.line, rawInt pos.col, .ref c'] := by simp
    have tabs1 : Tabs T (upd (upd H P (.tbl (ps ++ #[rawInt pos.line, rawInt pos.col, .ref c']))) c' (CodeO c' (X.env.qual ++ "<lambda>"))) := fun p hp => by
      by_cases hb : p.1 = P
      · rw [one p hp hb, hb]
        refine ⟨_, by rw [upd_ne (ne_of_none atP newC), upd_same], by rw [asL]; exact PySem.TriplesOk_snoc _ _ _ _ trip, fun p' cv at_ => ?_⟩
        rw [asL] at at_
        rcases among_app _ trip at_ with z | z
        · obtain ⟨c0, e1, e2⟩ := among p' cv z
          exact ⟨c0, e1, ext1 _ _ e2 codeO_ne⟩
        · exact ⟨c', z, upd_same⟩
      · obtain ⟨ps', a1, a2, a3⟩ := tabs p hp
        refine ⟨ps', by rw [upd_ne (ne_of_none a1 newC), upd_ne hb]; exact a1, a2, fun p' cv at_ => ?_⟩
        obtain ⟨c0, e1, e2⟩ := a3 p' cv at_
        exact ⟨c0, e1, ext1 _ _ e2 codeO_ne⟩
    have newF : (upd (upd H P (.tbl (ps ++ #[rawInt pos.line, rawInt pos.col, .ref c']))) c' (CodeO c' (X.env.qual ++ "<lambda>"))) h'.objs.size = none := inv1.hok.fresh (Nat.le_refl _)
    have inv2 := lam_lay (q := X.env.qual ++ "<lambda>") (l := l) (cl := cloFrom X.env.cells l.scope.names []) (dV := dV) (doc := doc) (pm := (X.mg "__name__").getD .none) (ctv := ctv) (c := c') (t' := tk) inv1
    refine h h'.objs.size c' _ _ inv2 (inv.hok.fresh size) (ext1.trans (extN_new newF)) (tabs_new newF tabs1) upd_same ?_
    rw [upd_ne (Nat.ne_of_lt lt)]
    exact upd_same
  | some cv =>
    obtain ⟨c', e, at_⟩ := among pos cv found
    subst e
    refine PySem.W.kdv_makeTailHit (mg := X.mg) (c := c) (P := P) (ps := ps) (closure_ok free) inv.ok.glob (inv.mod.glob.keeps inv.bk) code (TB.code.keeps inv.bk) realP trip found bP fun ctv doc h' tk keep size => ?_
    have inv1 : L2.Inv X pins σ H { s with heap := h', toks := tk } := inv.kept keep
    have newF : H h'.objs.size = none := inv1.hok.fresh (Nat.le_refl _)
    have inv2 := lam_lay (q := X.env.qual ++ "<lambda>") (l := l) (cl := cloFrom X.env.cells l.scope.names []) (dV := dV) (doc := doc) (pm := (X.mg "__name__").getD .none) (ctv := ctv) (c := c') (t' := tk) inv1
    refine h h'.objs.size c' _ _ inv2 newF (extN_new newF) (tabs_new newF tabs) upd_same ?_
    rw [upd_ne (ne_of_none at_ newF)]
    exact at_
end
/-! ### the lambda's names -/
/-- no name of its own but a parameter that the maker has not: captured ones and globals -/
structure LamN (N : List Str) (sc scope : Scope) : Prop where
  kind : scope.kind = .function
  noco : scope.isCoroutine = false
  nogen : scope.isGenerator = false
  own : ∀ y ∈ scope.names, y.2 ≠ .cell ∧ (y.2 = .local → y.1 ∉ N)
  caught : ∀ y ∈ scope.names, y.2 = .free → sc.names.lookup y.1 = some .cell ∨ sc.names.lookup y.1 = some .free
def lamNB (N : List Str) (sc scope : Scope) : Bool :=
  decide (scope.kind = .function) && !scope.isCoroutine && !scope.isGenerator && scope.names.all fun y => !decide (y.2 = .cell) && (!decide (y.2 = .local) || !N.contains y.1) && (!decide (y.2 = .free) || decide (sc.names.lookup y.1 = some .cell) || decide (sc.names.lookup y.1 = some .free))
theorem lamN_by {N : List Str} {sc scope : Scope} (h : lamNB N sc scope = true) : LamN N sc scope := by
  unfold lamNB at h
  simp only [Bool.and_eq_true, Bool.or_eq_true, Bool.not_eq_true', List.all_eq_true, decide_eq_true_eq, decide_eq_false_iff_not] at h
  rcases h with ⟨⟨⟨h1, h2⟩, h3⟩, h4⟩
  refine ⟨h1, h2, h3, fun y hy => ⟨(h4 y hy).1.1, fun e m => ?_⟩, fun y hy e => ?_⟩
  · rcases (h4 y hy).1.2 with z | z
    · exact z e
    · rw [List.contains_iff_mem.mpr m] at z
      cases z
  · rcases (h4 y hy).2 with (z | z) | z
    · exact absurd e z
    · exact .inl z
    · exact .inr z
theorem LamN.has {X : Cx} {scope : Scope} (L : LamN X.N X.env.scope scope) (ok : X.Ok) : ∀ y ∈ scope.names, y.2 = .free → ∃ c, X.env.cells.lookup y.1 = some c := fun y hy e => (L.caught y hy e).elim (fun k => ok.has _ (.inl k)) fun k => ok.has _ (.inr k)
/-- a lambda -/
def tLamV (T : List (Addr × Str)) (env : Env) (l : LF) (d : Option V) : TE := fun σ H Q => Tabs T H ∧ ∀ f H1, H f = none → ExtN H H1 → Tabs T H1 → IsLam env H1 f l d → Q (.ref f) H1
section
variable {X : Cx} {T : List (Addr × Str)} {c P : Addr} {params : Arguments} {body : Expr} {scope : Scope} {pos : Pos}
/-- lambda: e -/
theorem pe_lam0 (TB : TabB X.base X.mg c P) (code : X.env.code = .ref c) (mem : (P, X.env.qual ++ "<lambda>") ∈ T) (one : ∀ p ∈ T, p.1 = P → p.2 = X.env.qual ++ "<lambda>") (L : LamN X.N X.env.scope scope) (nod : defaultsOf params X.env = ([], []) := by rfl) :
    PE X (.Lambda params body scope pos) (tLamV T X.env ⟨params, body, scope⟩ none) := by
  constructor
  rintro pn s σ H Q inv ⟨tabs, k⟩
  refine PySem.W.kla_eval nod ?_
  rw [makeFunction_eq]; simp only [List.zip_nil_right, List.filterMap_nil, List.isEmpty_nil, if_true, pure_bind]
  refine lam_tail (l := ⟨params, body, scope⟩) inv TB code mem one tabs (L.has inv.ok) fun f c' H1 s' inv1 new ext tabs1 at1 at2 => ?_
  exact ⟨.ref f, H1, inv1, rfl, k f H1 new ext tabs1 ⟨c', .none, at1, at2, .inl ⟨rfl, rfl⟩⟩⟩
/-- lambda y=i: e, i a number -/
theorem pe_lam1 {i : Int} {j : Nat} {ip : Pos} (TB : TabB X.base X.mg c P) (code : X.env.code = .ref c) (mem : (P, X.env.qual ++ "<lambda>") ∈ T) (one : ∀ p ∈ T, p.1 = P → p.2 = X.env.qual ++ "<lambda>") (L : LamN X.N X.env.scope scope)
    (dfl : params.defaults = [.Constant (.int i) j ip] := by rfl) (nok : params.kw_defaults = [] := by rfl) : PE X (.Lambda params body scope pos) (tLamV T X.env ⟨params, body, scope⟩ (some (.int i))) := by
  constructor
  rintro pn s σ H Q inv ⟨tabs, k⟩
  refine PySem.W.kdv_lam (by rw [dfl]; rfl) nok ?_
  rw [dfl]
  have ci : PE X (.Constant (.int i) j ip) (tC (.int i)) := pe_int
  refine PySem.W.kdv_all1 (thn (ci.run pn s σ H (fun v H1 => v = .int i ∧ H1 = H) inv ⟨rfl, rfl⟩) ?_)
  rintro u s1 ⟨v, H1, inv1, rel, rfl, rfl⟩
  refine PySem.W.kdv_all0 ?_
  rw [makeFunction_eq]
  simp only [List.zip_nil_right, List.filterMap_nil, List.isEmpty_nil, if_true, pure_bind, List.isEmpty_cons, Bool.false_eq_true, if_false]
  refine wpAny_bind (wpAny_newTextTuple (show _ from ?_))
  have newT : H1 s1.heap.objs.size = none := inv1.hok.fresh (Nat.le_refl _)
  have laid : L2.Inv X pn σ (upd H1 s1.heap.objs.size (.tup [.int i])) { s1 with heap := s1.heap.push { cls := .type "tuple", data := .seq [u].toArray } } := by
    refine inv1.laid (t' := s1.toks) (a := s1.heap.objs.size) (fun b o e => Heap.get?_push_of_some _ e) (Nat.le_refl _) ⟨?_, [u], .cons rel .nil, ?_⟩
    · show 1 ≤ sizeLine
      rw [sizeLine_eq]; omega
    · exact ⟨_, Heap.get?_push_size _ rfl, rfl, _, rfl⟩
  refine lam_tail (l := ⟨params, body, scope⟩) laid TB code mem one (tabs_new newT tabs) (L.has inv.ok) fun f c' H2 s' inv2 new ext tabs1 at1 at2 => ?_
  have newF : H1 f = none := by
    cases z : H1 f with
    | none => rfl
    | some o => rw [upd_ne (ne_of_none z newT), z] at new; cases new
  exact ⟨.ref f, H2, inv2, rfl, k f H2 newF ((extN_new newT).trans ext) tabs1 ⟨c', _, at1, at2, .inr ⟨_, _, rfl, rfl, ext _ _ upd_same nofun⟩⟩⟩
end

/-! ### the lambda, called -/
/-- how the lambda's parameter is bound, nothing being given -/
def LamB (l : LF) : Option V → Prop
  | none => ∀ (q : Str) (cl : List (Str × Addr)) (doc pm cv ctv : Value), bindArgs (PySem.W.kdv_fn "<lambda>" q l.params (.expr l.body) l.scope cl .none doc pm cv ctv) ⟨[], []⟩ = pure []
  | some _ => ∃ y : Str, l.scope.names.lookup y = some .local ∧ ∀ (q : Str) (cl : List (Str × Addr)) (T0 : Addr) (doc pm cv ctv u : Value), ∃ k, bindArgs (PySem.W.kdv_fn "<lambda>" q l.params (.expr l.body) l.scope cl (.ref T0) doc pm cv ctv) ⟨[], []⟩ = seqItems? (.ref T0) >>= k ∧ k (some #[u]) = pure [(y, u)]
/-- the lambda's body reads as t, in the maker's slots -/
structure BodyR (X : Cx) (k : Nat) (l : LF) (d : Option V) (t : XK → TE) : Prop where
  nm : LamN X.N X.env.scope l.scope
  bd : LamB l d
  rd : ∀ (A : Around) (outer : List Env) (s : Shared) (H : Hp) (E : XK) (f c' : Addr), Room k (A.deeper (lamEnv X l.scope s.heap.objs.size f c')) → PE (lamCx X A outer s H E l.scope f c') l.body (t E)
/-- the maker's cells stand from s to s1 -/
structure KeptC (X : Cx) (s : Shared) (HZ : Hp) (s1 : Shared) : Prop where
  cell : ∀ y c v, X.env.cells.lookup y = some c → s.heap.IsCell c v → s1.heap.IsCell c v
  free : ∀ y c, X.env.cells.lookup y = some c → HZ c = none
section
variable {X : Cx} {σ : L2.St} {H HZ : Hp} {s s1 : Shared} {pins : List (Addr × Obj)}
theorem KeptC.refl (inv : L2.Inv X pins σ H s) : KeptC X s H s := ⟨fun _ _ _ _ z => z, fun y c e => inv.freeC y c e⟩
/-- .. and over a call, or a block whose iterator is none of them -/
theorem KeptC.un {H1 : Hp} {s2 : Shared} {fs fp : List Addr} (k : KeptC X s H1 s1) (inv : L2.Inv X pins σ H s) (un : Un fs fp H1 HZ s1.heap s2.heap) (off : ∀ b ∈ fp, ∀ y c, X.env.cells.lookup y = some c → b ≠ c) : KeptC X s HZ s2 := by
  have out : ∀ y c, X.env.cells.lookup y = some c → c ∉ fp := fun y c e m => off c m y c e rfl
  refine ⟨fun y c v e z => ?_, fun y c e => ?_⟩
  · obtain ⟨o, ho, hd⟩ := k.cell y c v e z
    obtain ⟨sl, q⟩ := un.any ho (k.free y c e) (out y c e)
    exact ⟨_, q, hd⟩
  · obtain ⟨v, z⟩ := inv.cell y c e
    obtain ⟨o, ho, hd⟩ := k.cell y c v e z
    exact un.free c o ho (k.free y c e) (out y c e)
/-- what the lambda caught is the maker's -/
theorem clo_back {scope : Scope} {y : Str} {c : Addr} (inv : L2.Inv X pins σ H s) (L : LamN X.N X.env.scope scope) (e : (cloFrom X.env.cells scope.names []).lookup y = some c) : X.env.cells.lookup y = some c := by
  cases cloFrom_mem (PySem.mem_of_lookup e) with
  | inl no => cases no
  | inr both =>
    obtain ⟨c1, z⟩ := L.has inv.ok _ both.1 rfl
    have z : X.env.cells.lookup y = some c1 := z
    rw [z, show c = c1 by rw [both.2, z] <;> rfl]
theorem clo_has {cells : List (Str × Addr)} {scope : Scope} {y : Str} (e : scope.names.lookup y = some .free) : ∃ c, (cloFrom cells scope.names []).lookup y = some c := mem_lookup (cloFrom_has (PySem.mem_of_lookup e))
theorem lam_okX {A : Around} {outer : List Env} {E : XK} {scope : Scope} {f c' : Addr} (inv : L2.Inv X pins σ H s) (L : LamN X.N X.env.scope scope) (e0 : Env0 X.prog X.w X.K X.mg X.base A outer s1 HZ) (calm : A.handled = none) : (lamCx X A outer s1 HZ E scope f c').Ok where
  mod := e0.mod
  kind := L.kind
  glob := rfl
  blt := rfl
  above := Nat.le_refl _
  inj y z c e1 e2 := inv.ok.inj y z c (clo_back inv L e1) (clo_back inv L e2)
  has y k := k.elim (fun z => absurd rfl (L.own _ (PySem.mem_of_lookup z)).1) fun z => clo_has z
  cab _ _ z _ := nomatch (show false = true from z)
  hd _ := calm
  frames := Around.frames_deeper e0.frames
  stk := .inr ⟨rfl, rfl⟩
  exf _ z := nomatch z
  bs := e0.bs
  bsz := e0.bsz
  noex _ _ _ z := nomatch z
  exfs _ z := nomatch z
  funs := e0.funs
  frf := e0.frf
theorem lam_start3 {A : Around} {outer : List Env} {E : XK} {scope : Scope} {f c' : Addr} {h₁ : Heap} {tk : Nat} {m : Str → Option Value} (inv : L2.Inv X pins σ H s) (L : LamN X.N X.env.scope scope) (e0 : Env0 X.prog X.w X.K X.mg X.base A outer s1 HZ) (calm : A.handled = none)
    (kc : KeptC X s HZ s1) (ns : h₁.Ns s1.heap.objs.size m) (kp : ∀ b o, s1.heap.get? b = some o → h₁.get? b = some o) :
    L2.Inv (lamCx X A outer s1 HZ E scope f c') [] σ HZ { s1 with heap := h₁, toks := tk } where
  ok := lam_okX inv L e0 calm
  os := rfl
  bare := e0.bare
  base := Un.kept kp
  loc := by
    refine ⟨m, ns, fun i y v at_ val vis => ?_⟩
    have at_ : X.N[i]? = some y := at_
    rcases (show Vis scope y from vis) with k | k | k
    · exact absurd (List.mem_of_getElem? at_) ((L.own _ (PySem.mem_of_lookup k)).2 rfl)
    · exact absurd rfl (LamN.own L _ (PySem.mem_of_lookup k)).1
    · have mine := L.caught _ (PySem.mem_of_lookup k) rfl
      obtain ⟨_, _, all⟩ := inv.loc
      obtain ⟨u, ru, way⟩ := all i y v at_ val (.inr mine)
      obtain ⟨c2, e2⟩ := clo_has (cells := X.env.cells) k
      have e1 := clo_back inv L e2
      refine ⟨u, ru, .inr ⟨.inr k, c2, e2, ?_⟩⟩
      rcases way with ⟨own, _⟩ | ⟨_, c3, e3, cell⟩
      · rcases mine with z | z <;> exact nomatch z.symm.trans own
      · obtain rfl : c2 = c3 := Option.some.inj (e1.symm.trans e3)
        obtain ⟨o, ho, dat⟩ := kc.cell y c2 _ e1 cell
        exact ⟨o, kp _ _ ho, dat⟩
  cell y c e := by
    obtain ⟨v, z⟩ := inv.cell y c (clo_back inv L e)
    obtain ⟨o, ho, dat⟩ := kc.cell y c v (clo_back inv L e) z
    exact ⟨v, o, kp _ _ ho, dat⟩
  free := e0.hok.fresh (Nat.le_refl _)
  freeC y c e := kc.free y c (clo_back inv L e)
  pin _ z := nomatch z
  hok := e0.hok.kept kp
  len := inv.len
/-- x(), in the def that got the lambda: Z is that def's context, entered at s0 from the frames st -/
theorem pe_act3 {CXg : CXT} {Eg : XK} {Ng : List Str} {qg : Str} {sg : Scope} {g f : Addr} {cdg : Value} {l : LF} {d : Option V} {k i : Nat} {a : Str} {pn : List (Addr × Obj)} {xe : Value → Shared → Prop} {W : WX} {E : XK} {t : XK → TE} {p1 p2 : Pos} {A0 : Around} {st : List Env} {s0 : Shared} {H0 : Hp}
    (inv : L2.Inv X pins σ H s) (kc : KeptC X s H0 s0) (B : BodyR X k l d t)
    (tk : Takes ((cxOf CXg X.prog X.w X.K X.mg X.base Ng qg sg g cdg A0 st s0 H0 Eg).tr pn xe) W) (room : Room (k + 1) (A0.deeper (envOfC qg sg s0.heap.objs.size g cdg)))
    (hN : Ng[i]? = some a) (hv : Vis sg a) (hd : (a == ("__debug__" : Str)) = false := by decide) (hcd : (a == ("__classdict__" : Str)) = false := by decide) : PE ((cxOf CXg X.prog X.w X.K X.mg X.base Ng qg sg g cdg A0 st s0 H0 Eg).tr pn xe) (.Call (.Name a p1) [] [] p2)
      (fun σZ HZ Q => (∀ cls d H', E cls d H' → W cls d σZ H') ∧ σZ[i]? = some (some (.ref f)) ∧ IsLam X.env HZ f l d ∧ t E σ HZ Q) := by
  constructor
  rintro pinsZ sZ σZ HZ Q invZ ⟨hW, slot, ⟨c', dV, atF, atC, dfl⟩, go⟩
  refine wpAny_Call_Name_kw (thn ((pe_var (pos := p1) (i := i) hN hv hd hcd).run pinsZ sZ σZ HZ (fun v H1 => v = .ref f ∧ H1 = HZ) invZ ⟨.ref f, slot, rfl, rfl⟩) ?_)
  rintro u s1 ⟨v, H1, inv1, rel, rfl, rfl⟩
  cases rel
  obtain ⟨⟨doc, pm, ctv, realF⟩, _, _⟩ := inv1.hok f _ atF
  obtain ⟨⟨oc, vs, tk0, hoc, hdc, hvc⟩, _, _⟩ := inv1.hok c' _ atC
  refine PySem.W.callWith_F0 ⟨_, _, _, _, realF⟩ ?_
  have kc1 : KeptC X s H1 s1 := kc.un inv (fs := frs st) (fp := []) inv1.base (fun b hb => absurd hb (by simp))
  have rc : codeAny (model X.prog X.w) (A0.deeper (envOfC qg sg s0.heap.objs.size g cdg)) (.call (.ref f) ⟨[], []⟩) (CR (L2.CX X.prog X.w) (envOfC qg sg s0.heap.objs.size g cdg :: st) X.prog X.w H1 s1 Q E) s1 := by
    refine PySem.W.kla_callFunE room.depth realF rfl B.nm.noco B.nm.nogen rfl ⟨c', oc, vs, tk0, rfl, hoc, hdc, hvc⟩ ?_
    have enter : ∀ (binds : List (Str × Value)), (∀ y ∈ binds, l.scope.names.lookup y.1 = some .local) →
        wpAny (model X.prog X.w) (A0.deeper (envOfC qg sg s0.heap.objs.size g cdg)).in1 (newFunctionEnv l.scope mainGlobals (cloFrom X.env.cells l.scope.names []) binds ((X.env.qual ++ "<lambda>") ++ ".<locals>.") (some f) (.ref c') none builtinsNs)
          (fun env s₂ => s₂.heap.NoLimit ∧ codeAny (model X.prog X.w) (A0.deeper (envOfC qg sg s0.heap.objs.size g cdg)) (.expr l.body env) (CR (L2.CX X.prog X.w) (envOfC qg sg s0.heap.objs.size g cdg :: st) X.prog X.w H1 s1 Q E) s₂)
          (fun e s' => CR (L2.CX X.prog X.w) (envOfC qg sg s0.heap.objs.size g cdg :: st) X.prog X.w H1 s1 Q E (.error e) s') s1 := fun binds loc => by
      refine wpAny_newFunctionEnv (fun y hy => (B.nm.own y hy).1) loc (fun h₁ ns sb => ⟨inv1.nolimit.fresh _ sb, ?_⟩) B.nm.kind
      show codeAny _ _ (.expr l.body (lamEnv X l.scope s1.heap.objs.size f c')) _ _
      have kp : ∀ b o, s1.heap.get? b = some o → h₁.get? b = some o := fun b o e => sb.extBut b o (Nat.ne_of_lt (Heap.lt_size e)) (Heap.get?_push_of_some _ e)
      have J : L2.Inv (lamCx X (A0.deeper (envOfC qg sg s0.heap.objs.size g cdg)) (envOfC qg sg s0.heap.objs.size g cdg :: st) s1 H1 E l.scope f c') [] σ H1 { s1 with heap := h₁, toks := s1.toks + binds.length } :=
        lam_start3 inv B.nm inv1.env0 room.hd kc1 ns kp
      refine PySem.W.kla_codeExpr (wpAny_mono ((B.rd _ _ s1 H1 E f c' (room.deeper _)).run [] _ _ H1 Q J go) ?_ fun e s' hq => hq)
      rintro v s' ⟨w', H', J', rv, q⟩
      exact ⟨w', _, J'.os, J'.bare, J'.base, J'.hok, rv, q⟩
    have bd := B.bd
    rcases dfl with ⟨rfl, rfl⟩ | ⟨v, T0, rfl, rfl, atT⟩
    · rw [bd]
      exact wpAny_pure (enter [] (by simp))
    · obtain ⟨y, loc, binds⟩ := bd
      obtain ⟨cells, vals, ⟨oT, hT, cT, nT, dT⟩, _⟩ := inv1.tuple (SqT.of atT)
      obtain ⟨u, e, ru⟩ : ∃ u, cells = [u] ∧ L2.RelV v u := by
        cases vals with
        | cons a b => cases b; exact ⟨_, rfl, a⟩
      subst e
      obtain ⟨kk, e1, e2⟩ := binds (X.env.qual ++ "<lambda>") (cloFrom X.env.cells l.scope.names []) T0 doc pm (.ref c') ctv u
      rw [e1]
      refine wpAny_bind (wpAny_seqItems hT dT ?_)
      rw [show ([u].toArray) = #[u] from rfl, e2]
      exact wpAny_pure (enter [(y, u)] (fun z hz => by rw [List.mem_singleton.mp hz]; exact loc))
  refine wpAny_call (codeAny_mono rc ?_)
  rintro (er | fl) s' got
  · exact tk er s' (XE.of_call inv1 (fun cls d H' z => hW cls d H' z) got)
  · cases fl with
    | ret u => exact inv1.after got
    | _ => exact got.elim
end
end HC
/-! a def that tells what a lambda does -/
namespace HC
open PyProof.Rows PySem L2 PySem.Spec LamX
/-! ### a def that calls what it is given -/
/-- the def's body, entered from X with the lambda f: TT, what it makes of the lambda's reading; IsL, what is known of f -/
def Gives (X : Cx) (Ng : List Str) (x : Str) (sg : Scope) (g : Addr) (cdg : Value) (bg : List Stmt) (a : Str) (TT : (XK → Hp → VK → Prop) → Hp → VK → Prop) : Prop :=
  ∀ (f : Addr) (s : Shared) (H : Hp) (Q : VK) (IsL : Hp → Prop) (tl : XK → Hp → VK → Prop),
    (∀ (W : WX) (pn : List (Addr × Obj)) (xe : Value → Shared → Prop) (E : XK) (p1 p2 : Pos), Takes ((cxOf C8.CX0 X.prog X.w X.K X.mg X.base Ng x sg g cdg X.A X.stack s H C8.E0).tr pn xe) W →
      PE ((cxOf C8.CX0 X.prog X.w X.K X.mg X.base Ng x sg g cdg X.A X.stack s H C8.E0).tr pn xe) (.Call (.Name a p1) [] [] p2) (fun σZ HZ Q => (∀ cls d H', E cls d H' → W cls d σZ H') ∧ σZ[0]? = some (some (.ref f)) ∧ IsL HZ ∧ tl E HZ Q)) →
    IsL H → TT tl H Q →
    ∃ ts, PSs (cxOf C8.CX0 X.prog X.w X.K X.mg X.base Ng x sg g cdg X.A X.stack s H C8.E0).nox bg ts ∧ ts { nx := fun _ H' => Q .non H', rt := Q } (L2.start Ng [.ref f]) H
def onOne (R : V → Hp → Prop) : List V → Hp → Prop
  | [v], H => R v H
  | _, _ => False
theorem onOne_inv {R : V → Hp → Prop} {vs : List V} {H : Hp} (h : onOne R vs H) : ∃ v, vs = [v] ∧ R v H :=
  match vs, h with
  | [v], h => ⟨v, rfl, h⟩
def tOut (X : Cx) (k : Nat) (TT : (XK → Hp → VK → Prop) → Hp → VK → Prop) (te : TE) (σ0 : L2.St) : TE := fun σ H Q => te σ H fun v H1 => ∃ f l d t, v = V.ref f ∧ BodyR X k l d t ∧ IsLam X.env H1 f l d ∧ TT (fun E H' Q' => t E σ0 H' Q') H1 Q
section
variable {X : Cx} {TT : (XK → Hp → VK → Prop) → Hp → VK → Prop} {x a : Str} {g : Addr} {fd : FuncData} {k : Nat} {pg : Arguments} {bg : List Stmt} {sg : Scope} {Ng : List Str} {e : Expr} {te : TE} {p pos : Pos}
variable {s0 : Shared} {H0 : Hp} {pins0 : List (Addr × Obj)} {σ0 : L2.St} {scope : Scope} {cenv : Env} {fp : List Addr}
/-- x(e) in a block of X -/
theorem pe_out (at_ : X.mg x = some (.ref g)) (F : FunD X.K x x pg bg sg [] [] g fd) (B : L2.Binds X.K fd [a] []) (Sg : FnScope Ng [a] sg) (hNg : Ng[0]? = some a) (hva : Vis sg a) (hG : ∀ cdg, Gives X Ng x sg g cdg bg a TT) (room : Room (k + 2) X.A)
    (inv0 : L2.Inv X pins0 σ0 H0 s0) (off : ∀ b ∈ fp, ∀ y c, X.env.cells.lookup y = some c → b ≠ c) (he : PE (X.blk s0 H0 scope cenv fp) e te)
    (glob : Gl (X.blk s0 H0 scope cenv fp) x := by rfl) (nodeb : (x == ("__debug__" : Str)) = false := by decide) (hd : (a == ("__debug__" : Str)) = false := by decide) (hcd : (a == ("__classdict__" : Str)) = false := by decide) (one : starEach [e] cenv = [(false, eval e cenv)] := by rfl) :
    PE (X.blk s0 H0 scope cenv fp) (.Call (.Name x p) [e] [] pos) (tOut X k TT te σ0) := by
  obtain ⟨oc, od, dV, kV, doc, pm, an, cdv, ct, osl, rfl, lk, code, _, _⟩ := F.ex
  constructor
  intro pn s σ H Q inv h
  refine wpAny_Call_Name_kw (ld_glob inv glob at_ ?_ nodeb)
  refine PySem.W.callWith_K (h₀ := X.base) inv.ok.mod.kin F.kp (thn ((pa_cons he pa_nil one).run pos pn s σ H (onOne fun v H1 => ∃ f l d t, v = V.ref f ∧ BodyR X k l d t ∧ IsLam X.env H1 f l d ∧ TT (fun E H' Q' => t E σ0 H' Q') H1 Q) inv h) ?_) one (by rfl)
  · rintro us s1 ⟨vs, H1, inv1, rel, one1⟩
    obtain ⟨v, rfl, f, l, d, t, rfl, body, isl, q⟩ := onOne_inv one1
    obtain ⟨_, rfl, rfl⟩ := vals1 rel
    refine ⟨inv1.kIn, ?_⟩
    have kc : KeptC X s0 H1 s1 := (KeptC.refl inv0).un inv0 (fs := frs X.stack) inv1.base off
    have rc : codeAny (model X.prog X.w) X.A (.call (.ref g) ⟨[.ref f], []⟩) (CR C8.CX0 X.stack X.prog X.w H1 s1 Q C8.E0) s1 := by
      refine run_ofS (N := Ng) (ps := [a]) (us := [.ref f]) (vs := [.ref f]) lk code Sg room inv1.env0 (B s1 [.ref f] inv1.kIn rfl) (.cons rfl .nil) rfl fun room' => ?_
      obtain ⟨t', ht', hq'⟩ := hG cdv f s1 H1 Q (fun HZ => IsLam X.env HZ f l d) (fun E H' Q' => t E σ0 H' Q') (fun W pn xe E p1 p2 tk => pe_act3 (i := 0) inv0 kc body tk room' hNg hva hd hcd) isl q
      exact ⟨t', ht'.nox, hq'⟩
    refine wpAny_call (codeAny_mono rc ?_)
    rintro (er | fl) s' got
    · exact (show False from got).elim
    · cases fl with
      | ret u => exact inv1.after got
      | _ => exact got.elim
end
/-! ### a comprehension whose element looks back at the def -/
section
variable {X : Cx}
theorem pe_lcX {elt tg iter : Expr} {scope : Scope} {own : List (Str × Nat)} {pos : Pos} {wi : TI} {g : TG} {te : L2.St → TE} (calm : X.calm = true) (nodup : X.N.Nodup) (hi : PI X tg iter wi) (ok : BlkOk X.N X.env.scope scope own)
    (hg : ∀ (s : Shared) (H : Hp) (C : Addr) (cl : List (Str × Addr)) (fp : List Addr), PG (X.blk s H scope (compEnvC scope cl C X.env) fp) tg g)
    (he : ∀ (pins : List (Addr × Obj)) (σ : L2.St) (s : Shared) (H : Hp) (C : Addr) (cl : List (Str × Addr)) (fp : List Addr), L2.Inv X pins σ H s → (∀ b ∈ fp, ∀ y c, X.env.cells.lookup y = some c → b ≠ c) → PE (X.blk s H scope (compEnvC scope cl C X.env) fp) elt (te σ))
    (folds : ∀ x, foldedSetIterable iter X.env x = pure x := by intro _; rfl) :
    PE X (.ListComp elt [⟨tg, iter, [], 0⟩] scope pos) (fun σ H Q => tLc wi g tYes (te σ) (own.map (·.2)) σ H Q) := by
  constructor
  intro pins s σ H Q inv h
  rw [eval_ListComp]
  have closed : ∀ y ∈ scope.names, y.2 = .free → ∃ c, X.env.cells.lookup y.1 = some c := fun y hy e => (ok.free y hy e).elim (fun z => inv.ok.has _ (.inl z)) fun z => inv.ok.has _ (.inr z)
  refine wpAny_comprehension_free (use := none) rfl folds (closure_ok closed) ok.kind (fun y hy e => by rw [ok.uniq y hy, e]) (thn (hi.run pins s σ H _ inv h) fun xv s1 got => thn got ?_)
  rintro _ s2 ⟨it, fp, tn, J, H2, rfl, inv2, turns, now, off, q⟩
  refine wpAny_newObj_type (newEnv_comp (show _ from ?_)) (by show 0 ≤ sizeLine; decide)
  obtain ⟨W, ⟨m0, w0⟩, turn⟩ := q s2.heap.objs.size (inv2.hok.fresh (Nat.le_refl _))
  have keep3 : ∀ b o, s2.heap.get? b = some o → (s2.heap.push { cls := .type "list", data := .seq ([] : List Value).toArray }).get? b = some o := fun b o e => Heap.get?_push_of_some _ e
  obtain ⟨s3, e3, D, eD⟩ : ∃ s3 : Shared, s3 = { s2 with heap := s2.heap.push { cls := .type "list", data := .seq ([] : List Value).toArray } } ∧ ∃ D, D = s2.heap.objs.size := ⟨_, rfl, _, rfl⟩
  rw [← e3]
  rw [← eD] at w0 turn ⊢
  have inv3 : L2.Inv X pins σ (upd H2 D (.lst [])) s3 := by
    rw [e3, eD]
    exact inv2.laid (t' := s2.toks) keep3 (Nat.le_refl _) ⟨Nat.zero_le _, [], 0, .nil, Heap.get?_push_size _ rfl⟩
  have keep3' : ∀ b o, s2.heap.get? b = some o → s3.heap.get? b = some o := by rw [e3]; exact keep3
  have low : ∀ b ∈ fp, b < s2.heap.objs.size := fun b hb => Heap.lt_size (turns.obj _ _ now b hb).choose_spec.1
  have off3 : ∀ b ∈ fp, FpOk X pins (upd H2 D (.lst [])) b ∧ b < s3.heap.objs.size := fun b hb => by
    refine ⟨⟨?_, (off b hb).2⟩, ?_⟩
    · rw [upd_ne (by rw [eD]; exact Nat.ne_of_lt (low b hb))]
      exact (off b hb).1
    · obtain ⟨o, z, _⟩ := turns.obj _ _ now b hb
      exact Heap.lt_size (keep3' b o z)
  have now3 : tn 0 s3.heap := turns.keep _ _ _ now fun b _ o e => keep3' b o e
  have cells : ∀ b ∈ fp, ∀ y c, X.env.cells.lookup y = some c → b ≠ c := fun b hb y c e => ((off3 b hb).1.2.2.2.2.1 y c e).symm
  have blk := block_start inv3 ok nodup off3
  obtain ⟨H3, eH⟩ : ∃ H3, H3 = upd H2 D (.lst []) := ⟨_, rfl⟩
  rw [← eH] at w0 inv3 off3 blk
  obtain ⟨cl, ecl⟩ : ∃ cl, cl = cellsFrom (s3.heap.objs.size + 1) scope.names (cloFrom X.env.cells scope.names []) := ⟨_, rfl⟩
  have pg := hg s3 H3 s3.heap.objs.size cl fp
  have pe := he pins σ s3 H3 s3.heap.objs.size cl fp inv3 cells
  rw [← ecl] at blk
  show codeAny _ _ (.compStart (.ListComp elt [⟨tg, iter, [], 0⟩] scope pos) 0 (.ref it) (.ref D) (compEnvC scope (cellsFrom (s3.heap.objs.size + 1) scope.names (cloFrom X.env.cells scope.names [])) s3.heap.objs.size X.env)) _ { s3 with heap := pushCells (s3.heap.push { cls := .type "dict", data := .dict #[] }) scope.names }
  rw [← ecl]
  obtain ⟨ce, ece, cL⟩ : ∃ ce, ce = compEnvC scope cl s3.heap.objs.size X.env ∧ ce.locals = s3.heap.objs.size := ⟨_, rfl, rfl⟩
  rw [← ece] at blk pg pe ⊢
  obtain ⟨s4, e4⟩ : ∃ s4 : Shared, s4 = { s3 with heap := pushCells (s3.heap.push { cls := .type "dict", data := .dict #[] }) scope.names } := ⟨_, rfl⟩
  rw [← e4] at blk ⊢
  have now4 : tn 0 s4.heap := turns.keep _ _ _ now3 fun b _ o e => by rw [e4]; exact pushCells_keeps _ _ _ _ (Heap.get?_push_of_some _ e)
  have none3 : ∀ b ∈ fp, H3 b = none := fun b hb => (off3 b hb).1.1
  have still : ∀ {σ' : L2.St} {H' : Hp} {s' : Shared}, L2.Inv (X.blk s3 H3 scope ce fp) [] σ' H' s' → (∀ b ∈ fp, H' b = none) → ∀ b ∈ fp, FpOk (X.blk s3 H3 scope ce fp) [] H' b := fun {σ' H' s'} i' hn b hb =>
    ⟨hn b hb, (i'.ok.exf b hb).1, i'.ok.exfs b hb, .inl hb, (i'.ok.exf b hb).2, fun p hp => absurd (show p ∈ ([] : List (Addr × Obj)) ++ [] from hp) (by simp)⟩
  have back : ∀ (s6 : Shared) (H5 : Hp) (m : Str → Option Value), L2.Inv X pins σ H5 s6 → Q (.ref D) H5 → s6.heap.Ns s3.heap.objs.size m → FpOk X pins H5 s3.heap.objs.size → compPost (model X.prog X.w) X.A X.xe none (EP X pins σ Q) (.ref D) s3.heap.objs.size (.ok .next) s6 := by
    rintro s6 H5 m i6 q6 ns ⟨f0, f1, f2, f3, f4, f5⟩
    exact ⟨m, ns, fun h'' sb => ⟨.ref D, H5, i6.turned (t' := s6.toks) (fun b o hb e => (sb.2 b hb).trans e) f0 f1 f3 f4 f5, rfl, q6⟩⟩
  have loop : codeAny (model X.prog X.w) X.A (.compLoop (.ListComp elt [⟨tg, iter, [], 0⟩] scope pos) 0 (.ref it) (.ref D) ce) (compPost (model X.prog X.w) X.A X.xe none (EP X pins σ Q) (.ref D) s3.heap.objs.size) s4 := by
    refine compLoop_any (fun n s' => ∃ i H', L2.Inv (X.blk s3 H3 scope ce fp) [] (wipe σ (own.map (·.2))) H' s' ∧ tn i s'.heap ∧ (∀ b ∈ fp, H' b = none) ∧ W i n H') ?_ m0 ⟨0, H3, blk, now4, none3, w0⟩
    rintro n s5 ⟨i, H5, inv5, now5, none5, w5⟩
    rcases turn i n H5 w5 with ⟨stop, qq⟩ | ⟨go, Nx, less, step⟩
    · refine thnF (turns.done (X.blk s3 H3 scope ce fp) rfl rfl rfl calm i [] s5 _ H5 (fun _ _ => False) inv5 (still inv5 none5) now5 stop) ?_
      rintro _ s6 ⟨rfl, inv6⟩
      obtain ⟨m, ns, _⟩ := inv6.loc
      have ns : s6.heap.Ns ce.locals m := ns
      have nC : H5 ce.locals = none := inv6.free
      rw [cL] at ns nC
      refine back s6 H5 m (inv3.call' (ch := fp) inv6.os inv6.base inv6.hok inv6.bare fun b hb => ?_) qq ns (inv3.fpOk (Nat.le_refl _) nC)
      obtain ⟨_, a1, a2, a3, a4, a5⟩ := (off3 b hb).1
      exact ⟨a3, a1, a4, a5⟩
    · refine thnF (turns.item (X.blk s3 H3 scope ce fp) rfl rfl rfl calm i [] s5 _ H5 (fun _ _ => False) inv5 (still inv5 none5) now5 go) ?_
      rintro _ s6 ⟨u, rfl, h6⟩
      refine thnF h6 ?_
      rintro _ s7 ⟨x, H7, inv7, r7, y7, now7, none7⟩
      refine thnF (pg.run _ s7 _ H7 x u _ (inv7.pinned (still inv7 none7) (turns.obj _ _ now7)) r7 (step x H7 y7)) ?_
      rintro _ s8 ⟨σ8, H8, inv8, wiped, q8⟩
      have yes : PTs (X.blk s3 H3 scope ce fp) [] tYes := pts_nil
      refine thnF (yes.run _ s8 σ8 H8 _ inv8 q8) ?_
      rintro b s9 ⟨H9, inv9, q9⟩
      have fin : ∀ {s' : Shared} {H' : Hp}, L2.Inv (X.blk s3 H3 scope ce fp) ([] ++ pinsAt fp s7.heap) σ8 H' s' → Nx H' → ∃ m, m < n ∧ ∃ i H', L2.Inv (X.blk s3 H3 scope ce fp) [] (wipe σ (own.map (·.2))) H' s' ∧ tn i s'.heap ∧ (∀ b ∈ fp, H' b = none) ∧ W i m H' := fun {s' H'} i' nx => by
        obtain ⟨m', lt, w'⟩ := less H' nx
        have pin' : ∀ b ∈ fp, ∀ o, s7.heap.get? b = some o → s'.heap.get? b = some o ∧ H' b = none := fun b hb o e => by
          have z := i'.pin (b, o) (List.mem_append_right _ (List.mem_append_right _ (mem_pinsAt hb e)))
          exact ⟨z.1, z.2.1⟩
        have len : (wipe σ (own.map (·.2))).length = σ8.length := by rw [← wiped, wipe_length]
        refine ⟨m', lt, i + 1, H', (i'.unpinned (pins := [])).weak len (fun j v e => ?_), turns.keep _ _ _ now7 fun b hb o e => (pin' b hb o e).1, fun b hb => ?_, w'⟩
        · rw [← wiped] at e
          exact (wipe_some e).1
        · exact (pin' b hb _ (turns.obj _ _ now7 b hb).choose_spec.1).2
      cases b with
      | false =>
        rw [if_neg (by decide)] at q9
        exact fin inv9 q9
      | true =>
        rw [if_pos rfl] at q9
        refine thnF (pe.run _ s9 σ8 H9 _ inv9 q9) ?_
        rintro z s10 ⟨yv, H10, inv10, r10, acc, at10, few, nx⟩
        exact app_ok (X := X.blk s3 H3 scope ce fp) inv10 at10 few r10 fun s11 inv11 => fin inv11 nx
  exact codeAny_compStart_list loop (turns.self X.A 0 _ _ _ now4 loop)
end
end HC
/-! the head's facts where lambdas are made: the tables of some defs' code objects are empty; tests of exception classes -/
namespace HC
open PySem PySem.W PySem.Calls PyProof.Rows He He5 L2
def obsL (fx : List Tst) (fa : List Fa) (fn : List DefA) (tf : List He.Defn) (g : Addr → Option Obj) (K : Frag) : He.AlD × Bool := (obsA fa fn K, (fx.all fun t => t K) && He.tabsB g tf K)
structure SaysL (fx : List Tst) (fa : List Fa) (fn : List DefA) (tf : List He.Defn) (h : Heap) (K : Frag) : Prop where
  j : SaysJ fx fa fn K
  hd : ∀ p ∈ tf, codeHdIn K (He.cT K p).1 (He.cT K p).2 = true
  out : ∀ p ∈ tf, K.lookup (He.cT K p).2 = none
  empty : ∀ p ∈ tf, h.get? (He.cT K p).2 = some { cls := .none, data := .fields #[] }
def obsLG (n : Nat) (fx : List Tst) (fa : List Fa) (fn : List DefA) (tf : List He.Defn) (g : Addr → Option Obj) : He.AlD × Bool := obsL fx fa fn tf g (He.frT g (asA g n))
theorem saysL_of {n : Nat} {fx : List Tst} {fa : List Fa} {fn : List DefA} {tf : List He.Defn} {h : Heap} (e : obsLG n fx fa fn tf h.get? = (valA fn, true)) : SaysL fx fa fn tf h (He.frT h.get? (asA h.get? n)) := by
  have e1 : obsA fa fn (He.frT h.get? (asA h.get? n)) = valA fn := congrArg Prod.fst e
  have e2 : ((fx.all fun t => t (He.frT h.get? (asA h.get? n))) && He.tabsB h.get? tf (He.frT h.get? (asA h.get? n))) = true := congrArg Prod.snd e
  obtain ⟨h1, h2⟩ := ba e2
  have key : ∀ p ∈ tf, codeHdIn (He.frT h.get? (asA h.get? n)) (He.cT (He.frT h.get? (asA h.get? n)) p).1 (He.cT (He.frT h.get? (asA h.get? n)) p).2 = true ∧ ∃ o, h.get? (He.cT (He.frT h.get? (asA h.get? n)) p).2 = some o ∧ He.emptyTab o = true := fun p hp => by
    have ⟨h3, h4⟩ := ba (List.all_eq_true.mp h2 p hp)
    refine ⟨h3, ?_⟩
    split at h4
    · rename_i o q
      exact ⟨o, q, h4⟩
    · cases h4
  refine ⟨⟨e1, h1⟩, fun p hp => (key p hp).1, fun p hp => ?_, fun p hp => ?_⟩
  · obtain ⟨_, o, q, z⟩ := key p hp
    exact He.frT_none q z
  · obtain ⟨_, o, q, z⟩ := key p hp
    rw [q, He.emptyTab_eq z]
def hookL (n : Nat) (fx : List Tst) (fa : List Fa) (fn : List DefA) (tf : List He.Defn) : PySem.W.Hook where
  α := He.AlD × Bool
  obs s := obsLG n fx fa fn tf s.heap.get?
  val _ := (valA fn, true)
  says _ h := ∃ K : Frag, K.In h ∧ SaysL fx fa fn tf h K
  of _ _ both := ⟨_, He.frT_in, saysL_of both⟩
  keeps _ _ _ here up := let ⟨K, inH, says⟩ := here; ⟨K, inH.keeps up, says.j, says.hd, says.out, fun p hp => up _ _ (says.empty p hp)⟩
theorem obsLG_eq {n : Nat} {fx : List Tst} {fa : List Fa} {fn : List DefA} {tf : List He.Defn} {g : Addr → Option Obj} {s : Shared} (same : ∀ a, g a = s.heap.get? a) : obsLG n fx fa fn tf g = (hookL n fx fa fn tf).obs s := congrArg (obsLG n fx fa fn tf) (funext same)
/-- the code of a def of K, known by its place -/
theorem code_at {K : Frag} {p : He.Defn} {x q : PySem.Str} {params : Arguments} {body : List Stmt} {scope : Scope} {dvs : List V} {kws : List (PySem.Str × V)} {fd : FuncData} (F : FunD K x q params body scope dvs kws (He.fAd K p) fd) : fd.code = .ref (He.cT K p).1 := by
  obtain ⟨oc, od, dV, kV, doc, pm, an, cdv, ct, osl, rfl, lk, code, _, _⟩ := F.ex
  obtain ⟨c, e⟩ := He.codeIn_ref code
  have z := He.codeOf_eq lk e
  show cdv = .ref (He.codeOf K p)
  rw [z, e]
/-- the layer's rule for a def, its code object told -/
theorem FunD_okC {P : Program} {w : World} {K : Frag} {mg : PySem.Str → Option Value} {base : Heap} {x qual : PySem.Str} {params : Arguments} {body : List Stmt} {scope : Scope} {dvs : List V} {kws : List (PySem.Str × V)} {f : Addr} {fd : FuncData} {CX : CXT} {N ps : List PySem.Str} {k : Nat} {sp : Sp}
    (F : FunD K x qual params body scope dvs kws f fd) (S : FnScope N ps scope) (len : ∀ vs H Q E, sp vs H Q E → vs.length = ps.length)
    (hbody : ∀ (A : Around) (outer : List Env) (s : Shared) (H : Hp) (vs : List V) (Q : VK) (E : XK), Room k (A.deeper (envOfC qual scope s.heap.objs.size f fd.code)) → sp vs H Q E →
      ∃ t, PSs (cxOf CX P w K mg base N qual scope f fd.code A outer s H E) body t ∧ t { nx := fun _ H' => Q .non H', rt := Q } (start N vs) H) : FnOk P w K mg base CX (k + 1) f fd ps sp := by
  obtain ⟨oc, od, dV, kV, doc, pm, an, cdv, ct, sl, rfl, lk, hcd, _, _⟩ := F.ex
  exact fn_of lk hcd S len fun A outer s H vs Q E hr hsp => hbody A outer s H vs Q E hr hsp
/-! ### tests -/
def oexB (K : Frag) (C : Addr) : Bool := (match K.lookup C with
  | some ⟨.type c, _, .cls cd, sl⟩ => decide (c = "type") && (match cd.mro, sl.toList with
    | .ref C' :: bm, [_, _, _, _, some (.builtin n), _] => decide (C' = C) && (decide (n = "ValueError.__new__") && (!cd.hasDel && (cd.hasDict && HandSPX.refsVE bm)))
    | _, _ => false)
  | _ => false) && (eqO (findIn K (.ref C) "__setattr__") (some (some (.builtin "object.__setattr__"))) && (decide (subIn K (.ref C) (.type "BaseException") = some true) && (decide (typeIn K (.ref C) = some (.type "type")) && keepIn K (.ref C))))
theorem oexB_ok {K : Frag} {C : Addr} (h : oexB K C = true) : OexC K C := by
  obtain ⟨h1, h⟩ := ba h
  obtain ⟨h2, h⟩ := ba h
  obtain ⟨h3, h⟩ := ba h
  obtain ⟨h4, h5⟩ := ba h
  refine ⟨?_, eqO_ok h2, of_decide_eq_true h3, of_decide_eq_true h4, h5⟩
  split at h1
  · rename_i c od cd sl lk
    obtain ⟨hc, h1⟩ := ba h1
    split at h1
    · rename_i C' bm k0 k1 k2 k3 n k5 em es
      obtain ⟨i1, i⟩ := ba h1
      obtain ⟨i2, i⟩ := ba i
      obtain ⟨i3, i⟩ := ba i
      obtain ⟨i4, i5⟩ := ba i
      have e1 := of_decide_eq_true i1
      have e2 := of_decide_eq_true i2
      have e3 : cd.hasDel = false := by simpa using i3
      have e0 := of_decide_eq_true hc
      subst e0 e1 e2
      obtain ⟨nm, bs, mro, ns, qn, hdc, sn, sub, ab, col, hdl⟩ := cd
      have em : mro = _ := em
      have e3 : hdl = false := e3
      have i4 : hdc = true := i4
      subst em e3 i4
      have e4 : sl = #[k0, k1, k2, k3, some (.builtin "ValueError.__new__"), k5] := by
        cases sl
        simpa using es
      subst e4
      exact ⟨nm, qn, ns, bs, bm, sn, sub, ab, col, od, k0, k1, k2, k3, k5, lk, i5⟩
    · cases h1
  · cases h1
def initB (K : Frag) (B : Addr) : Bool := decide (typeIn K (.ref B) = some (.type "type")) && (readsIn K B (.type "type") && (eqO (specialIn K (.ref B) "__getattribute__") (some (some (.builtin "type.__getattribute__"))) &&
  (match findCls K (.ref B) (.type "type") "__init__" with
  | some (.val (.builtin n)) => decide (n = "ValueError.__init__")
  | _ => false)))
theorem initB_ok {K : Frag} {mg : PySem.Str → Option Value} {b : PySem.Str} {B : Addr} (at_ : mg b = some (.ref B)) (h : initB K B = true) : InitV K mg b := by
  obtain ⟨h1, h⟩ := ba h
  obtain ⟨h2, h⟩ := ba h
  obtain ⟨h3, h4⟩ := ba h
  refine ⟨B, at_, of_decide_eq_true h1, ⟨h2, eqO_ok h3⟩, ?_⟩
  split at h4
  · rename_i n e
    rw [e, of_decide_eq_true h4]
  · cases h4
end HC
/-! what a def or a lambda lets out; tables and lambdas as the heap goes on; steps for raise and lambda -/
namespace HC
open PyProof.Rows PySem L2 PySem.Spec LamX
section
variable {P : Program} {w : World} {K : PySem.W.Frag} {mg : Str → Option Value} {base : Heap} {N : List Str} {qual : Str} {scope : Scope} {f c' : Addr} {cdv : Value} {A : Around} {outer : List Env} {s : Shared} {H : Hp} {E : XK}
theorem tk_def : Takes (cxOf (CXW P w) P w K mg base N qual scope f cdv A outer s H E) (fun cls d _ H' => E cls d H') := takes_of rfl rfl rfl rfl
theorem pz_def : Passes (CXW P w) (cxOf (CXW P w) P w K mg base N qual scope f cdv A outer s H E) E := passes_call tk_def fun _ _ _ _ h => h
theorem po_def : PassesOwn (model P w) (cxOf (CXW P w) P w K mg base N qual scope f cdv A outer s H E).A (cxOf (CXW P w) P w K mg base N qual scope f cdv A outer s H E).env (cxOf (CXW P w) P w K mg base N qual scope f cdv A outer s H E).xe := passes_of (X := cxOf (CXW P w) P w K mg base N qual scope f cdv A outer s H E) rfl
theorem pz_lam {X : Cx} : Passes (CXW X.prog X.w) (lamCx X A outer s H E scope f c') E := passes_call (takes_of (X := lamCx X A outer s H E scope f c') rfl rfl rfl rfl) fun _ _ _ _ h => h
end
/-! ### all but the tables stays -/
section
variable {K : PySem.W.Frag} {H H' : Hp} {T : List (Addr × Str)}
theorem extN_same (e : Same H H') : ExtN H H' := fun b o h _ => e b o h
theorem extN_l {a : Addr} {xs : List V} (e : ExtN H H') (h : SqL K H a xs) : SqL K H' a xs := h.imp (fun z => z.imp (fun q => e _ _ q nofun) fun ⟨o, q⟩ => ⟨o, e _ _ q nofun⟩) id
theorem extN_t {a : Addr} {xs : List V} (e : ExtN H H') (h : SqT K H a xs) : SqT K H' a xs := h.imp (fun z => z.imp (fun q => e _ _ q nofun) fun ⟨o, q⟩ => ⟨o, e _ _ q nofun⟩) id
mutual
theorem dp_extN (e : ExtN H H') : ∀ (d : PyData) (v : V), Dp K H v d → Dp K H' v d
  | .none, _, .non => .non
  | .bool _, _, .bl b => .bl b
  | .int _, _, .int i => .int i
  | .str _, _, .str x => .str x
  | .list ds, _, .lst h a => .lst (extN_l e h) (dpa_extN e ds _ a)
  | .tuple ds, _, .tup h a => .tup (extN_t e h) (dpa_extN e ds _ a)
theorem dpa_extN (e : ExtN H H') : ∀ (ds : List PyData) (vs : List V), DpAll K H vs ds → DpAll K H' vs ds
  | [], _, .nil => .nil
  | d :: ds, _, .cons a b => .cons (dp_extN e d _ a) (dpa_extN e ds _ b)
end
theorem tabs_same (e : Same H H') (t : Tabs T H) : Tabs T H' := t.ext e
theorem tabs_keep {d : Addr} {xs : List V} (e : Keep d H H') (at_ : H d = some (.lst xs)) (t : Tabs T H) : Tabs T H' := fun p hp => by
  obtain ⟨ps, h1, h2, h3⟩ := t p hp
  have off : ∀ {b : Addr} {o : HO}, H b = some o → (∀ ys, o ≠ .lst ys) → b ≠ d := fun {b o} z n e => by
    rw [e, at_] at z
    exact n xs (Option.some.inj z).symm
  refine ⟨ps, e _ _ (off h1 nofun) h1, h2, fun pos cv hc => ?_⟩
  have ⟨c, e1, e2⟩ := h3 pos cv hc
  exact ⟨c, e1, e _ _ (off e2 fun ys z => by unfold CodeO at z; cases z) e2⟩
end
/-! ### steps -/
section
variable {X : Cx} {K : PySem.W.Frag} {H : Hp} {Q : VK} {σ : L2.St} {D : Ends}
theorem g_lam {T : List (Addr × Str)} {env : Env} {l : LF} {d : Option V} (t : Tabs T H) (h : ∀ f H1, H f = none → ExtN H H1 → Tabs T H1 → IsLam env H1 f l d → Q (.ref f) H1) : tLamV T env l d σ H Q := ⟨t, h⟩
/-- xs * k -/
theorem g_rep {l : Addr} {k : Int} {xs : List V} (h1 : H l = some (.lst xs)) (lo : 0 ≤ k) (hi : k < 1000) (few : xs.length * k.toNat ≤ sizeLine) (h : ∀ p H', Same H H' → H p = none → H' p = some (.lst (List.replicate k.toNat xs).flatten) → Q (.ref p) H') : rRep (.ref l) (.int k) H Q :=
  ⟨l, k, xs, rfl, rfl, h1, by omega, by omega, few, fun p hp => h p _ (same_new hp) hp upd_same⟩
end
theorem noLs_mem : ∀ {ds : List PyData} {d : PyData}, noLs ds = true → d ∈ ds → noL d = true
  | e :: r, d, h, m => by
    have h' : noL e = true ∧ noLs r = true := by simpa [noLs] using h
    rcases List.mem_cons.mp m with q | q
    · rw [q]; exact h'.1
    · exact noLs_mem h'.2 q
/-- [x(y) for y in l]: data without lists, one for each; the rest stands -/
theorem lc_outs {K : PySem.W.Frag} {wl : Addr} {xs : List V} {ds : List PyData} {j : Nat} {te : TE} {vs : List Nat} {σ : L2.St} {Q : VK} {H1 : Hp} (flat : noLs ds = true) (len : xs.length = ds.length) (few : ds.length ≤ 1000) (h1 : H1 wl = some (.lst xs))
    (back : ∀ x, wipe ((wipe σ vs).set j (some x)) vs = wipe σ vs)
    (step : ∀ (i : Nat) (x : V) (d : PyData) (H2 : Hp) (R : VK), xs[i]? = some x → ds[i]? = some d → Same H1 H2 → (∀ v H3, Same H2 H3 → Dp K H3 v d → R v H3) → te ((wipe σ vs).set j (some x)) H2 R)
    (done : ∀ C acc H', H1 C = none → Same H1 H' → H' C = some (.lst acc) → DpAll K H' acc ds → Q (.ref C) H') : LcJ (Itl K wl) (gName j) tYes te vs σ Q H1 := by
  refine lc_run (walk_list (xs := xs)) (fun i acc H => Same H1 H ∧ acc.length = i ∧ DpAll K H acc (ds.take i)) ?_ ?_ ?_ ?_
  · intro C H' _ s _
    exact ⟨s, rfl, .nil⟩
  · rintro i acc H C _ _ ⟨s, _, _⟩
    exact SqL.of (s _ _ h1)
  · rintro C i acc x H H' nC lt la at_ ⟨s, rfl, all⟩ ⟨rfl, hx⟩
    have ld : acc.length < ds.length := by omega
    have hd : ds[acc.length]? = some ds[acc.length] := List.getElem?_eq_getElem ld
    refine ⟨back x, ?_⟩
    show LcIf C te ((wipe σ vs).set j (some x)) _ true _
    refine g_lcIfT (step _ x _ _ _ hx hd s fun v H3 s3 dv => ?_)
    refine n_lcK (s3 _ _ at_) (Nat.lt_succ_self _) (by omega) fun H4 k4 at4 => ⟨keep_same ((Same.keep s).trans ((Same.keep s3).trans k4)) nC, by simp, ?_⟩
    have flat1 : noLs (ds.take acc.length ++ [ds[acc.length]]) = true := noLs_of fun d hd => noLs_mem flat (by
      rcases List.mem_append.mp hd with z | z
      · exact List.mem_of_mem_take z
      · rw [List.mem_singleton.mp z]; exact List.getElem_mem ld)
    rw [List.take_succ, hd]
    exact dp_keepAll k4 (notT_l (s3 _ _ at_)) _ _ flat1 ((s3.dpa all).append (.cons dv .nil))
  · rintro C acc H nC at_ ⟨s, la, all⟩
    rw [len, List.take_length] at all
    exact done C acc H nC s at_ all
/-- lambda: x(y1, y2), both names the maker's -/
theorem body_call2 {X : Cx} {l : LF} {d : Option V} {k i j : Nat} {x y1 y2 : Str} {sp : Sp} {p p1 p2 p3 : Pos} (D : DefR X.prog X.w X.K X.mg X.base x k sp) (nm : LamN X.N X.env.scope l.scope) (bd : LamB l d) (hb : l.body = .Call (.Name x p) [.Name y1 p1, .Name y2 p2] [] p3)
    (g : l.scope.names.lookup x = some NameKind.globalImplicit) (n1 : X.N[i]? = some y1) (v1 : Vis l.scope y1) (n2 : X.N[j]? = some y2) (v2 : Vis l.scope y2) (b0 : (x == ("__debug__" : Str)) = false := by decide) (b1 : (y1 == ("__debug__" : Str)) = false := by decide) (c1 : (y1 == ("__classdict__" : Str)) = false := by decide)
    (b2 : (y2 == ("__debug__" : Str)) = false := by decide) (c2 : (y2 == ("__classdict__" : Str)) = false := by decide) : BodyR X k l d (fun E => tCallR sp E (tCons (tVar i) (tCons (tVar j) tNil))) := by
  refine ⟨nm, bd, fun A outer s H E f c' r => ?_⟩
  rw [hb]
  have pz : Passes (CXW X.prog X.w) (lamCx X A outer s H E l.scope f c') E := pz_lam (X := X)
  have a2 : PA (lamCx X A outer s H E l.scope f c') [.Name y1 p1, .Name y2 p2] (tCons (tVar i) (tCons (tVar j) tNil)) := pa_cons (pe_var (i := i) n1 v1 b1 c1) (pa_cons (pe_var (i := j) n2 v2 b2 c2) pa_nil)
  have gl : Gl (lamCx X A outer s H E l.scope f c') x := g
  exact pe_callR (X := lamCx X A outer s H E l.scope f c') (E := E) D r pz a2 gl b0
end HC
/-! try with clauses with and without a name: what stands when an exception is caught, one lemma for each kind of clause -/
namespace HC
open PyProof.Rows PySem L2 PySem.Spec LamX
/-- one clause: its class, the slot of its name, what its suite does -/
structure Cl where
  c : Value
  i : Option Nat
  ts : Addr → Value → Option Addr → TS
def Cl.set (k : Cl) (σ : L2.St) (v : Option V) : L2.St := match k.i with
  | some i => σ.set i v
  | none => σ
/-- the ends of a suite, its name gone -/
def Cl.ends (k : Cl) (D : Ends) : Ends := { nx := fun σ H => D.nx (k.set σ none) H, rt := D.rt, bk := fun σ H => D.bk (k.set σ none) H, ct := fun σ H => D.ct (k.set σ none) H }
/-- what the clauses wish of an exception of the body -/
def wMix (K : PySem.W.Frag) (Wout : WX) (D : Ends) : List Cl → WX
  | [] => Wout
  | k :: r => fun cls d σ H => ∃ b, PySem.W.exmOne K cls k.c = some b ∧ (b = true → ∀ a, H a = none → k.ts a cls d (k.ends D) (k.set σ (some (.ref a))) H) ∧ (b = false → wMix K Wout D r cls d σ H)
/-- the exception at a is caught: noted, landed, the def's state beneath it -/
structure Caught (X : Cx) (pins : List (Addr × Obj)) (σ : L2.St) (H : Hp) (a : Addr) (cls : Value) (d : Option Addr) (s : Shared) : Prop where
  ex : ∃ (B : Heap) (sI : Shared), L2.Inv X pins σ H sI ∧ (∀ b o, sI.heap.get? b = some o → b ∉ frs X.stack → B.get? b = some o) ∧ sI.heap.UpToSlots s.heap ∧ HandSPX.FlyingZ B X.stack a (Zc cls d) s.heap ∧ s.os = sI.os ∧ AllBare s.gens
  na : H a = none
section
variable {X : Cx} {pins : List (Addr × Obj)} {σ : L2.St} {H : Hp} {a : Addr} {cls : Value} {d : Option Addr} {s : Shared} {D : Ends}
theorem Caught.suite (c : Caught X pins σ H a cls d s) (hs : X.stack = X.env :: X.outer) (hf : X.env.frame = some X.env.locals) : L2.Inv X pins σ H s ∧ ∃ oe vs, s.heap.get? a = some oe ∧ Zc cls d oe ∧ oe.data = .fields vs ∧ L2.Inv (X.suite a ((a, oe) :: (X.pn ++ pins))) [] σ H s := by
  obtain ⟨B, sI, J, nb, up, fly, os, ag⟩ := c.ex
  have I : L2.Inv X pins σ H s := J.landed nb fly.1 up os ag
  obtain ⟨oe, vs, at_, z, dat⟩ := fly.there
  have out : a ∉ frs (X.env :: X.outer) := fun m => by
    obtain ⟨_, o, e, no⟩ := (hs ▸ fly.2.2.1 : s.heap.FunFrames B (X.env :: X.outer)).mem m
    cases at_.symm.trans e
    exact no _ dat
  refine ⟨I, oe, vs, at_, z, dat, I.suite at_ dat c.na (fun e => out (List.mem_filterMap.mpr ⟨X.env, .head _, by rw [hf, e]⟩)) fun m => ?_⟩
  obtain ⟨e, he, q⟩ := List.mem_filterMap.mp m
  exact out (List.mem_filterMap.mpr ⟨e, .tail _ he, q⟩)
/-- .. and lands once more, for a suite -/
theorem Caught.again {A : Around} {Q : Unit → Shared → Prop} {E : Value → Shared → Prop} (c : Caught X pins σ H a cls d s) (k : ∀ h, Caught X pins σ H a cls d { s with heap := h } → Q () { s with heap := h }) : wpAny (model X.prog X.w) A (setFlight (.ref a) none) Q E s := by
  obtain ⟨B, sI, J, nb, up, fly, os, ag⟩ := c.ex
  exact HandSPX.lands_againZ fly fun h fly' up' => k h ⟨⟨B, sI, J, nb, up.trans up', fly', os, ag⟩, c.na⟩
/-- no clause is left: it flies on -/
theorem Caught.on {Wout : WX} (c : Caught X pins σ H a cls d s) (hs : X.stack = X.env :: X.outer) (hf : X.env.frame = some X.env.locals) (tk : Takes X Wout) (w : Wout cls d σ H) : wpAny (model X.prog X.w) X.A (handleBy (.ref a) X.env []) (SP X pins D) X.xe s := by
  obtain ⟨B, sI, J, nb, up, fly, os, ag⟩ := c.ex
  obtain ⟨_, _, _, oe, vs, T, oT, ts, at_, _, dat, first, _⟩ := id fly
  refine wpAny_handleBy_nil ?_
  unfold PySem.passOn
  refine wpAny_bind (wpAny_field at_ dat first (show _ from ?_))
  rw [if_neg (show ¬ (Value.ref T == Value.none) = true by simp)]
  have last : wpAny (model X.prog X.w) X.A (setFlight (.ref a) X.env.frame) (fun _ s4 => wpAny (model X.prog X.w) X.A (throw (.ref a) : Sem Flow) (SP X pins D) X.xe s4) X.xe s := by
    rw [hf]
    have fly' : HandSPX.FlyingZ B (X.env :: X.outer) a (Zc cls d) s.heap := hs ▸ fly
    exact HandSPX.setFlight_upZ fly' fun h4 held up4 => wpAny_throw (tk _ _ ⟨a, B, sI, pins, σ, H, cls, d, rfl, J, nb, up.trans up4, .inr (.inr (by rw [hs]; exact held)), c.na, os, ag, w⟩)
  first | exact wpAny_bind last | exact wpAny_bind (wpAny_pure (wpAny_bind last))
/-- the class of a clause is looked up, and asked -/
theorem Caught.ask {x : Str} {cv : Value} {np : Pos} {b : Bool} {Q : Bool → Shared → Prop} {E : Value → Shared → Prop} (c : Caught X pins σ H a cls d s) (hs : X.stack = X.env :: X.outer) (hf : X.env.frame = some X.env.locals) (nm : Names X x cv) (ex : PySem.W.exmOne X.K cls cv = some b) (q : Q b s) :
    wpAny (model X.prog X.w) (X.A.mark (some (.ref a))) (eval (.Name x np) X.env) (fun v s' => wpAny (model X.prog X.w) (X.A.mark (some (.ref a))) (excMatches (.ref a) v) Q E s') E s := by
  obtain ⟨I, oe, vs, at_, z, dat, S⟩ := c.suite hs hf
  have ty : PySem.W.Looks (model X.prog X.w) s.heap (typeOf (.ref a)) cls := fun A Q E s' k q => wpAny_typeOf_ref (k _ _ at_) (by rw [z.1]; exact q)
  have yes := (PySem.W.exm_one (M := model X.prog X.w) I.kIn ty ex).here (A := X.A.mark (some (.ref a))) (E := E) q
  obtain ⟨gl, nodeb, own | ⟨no, bt, nn⟩⟩ := nm
  · exact ld_glob (X := X.suite a ((a, oe) :: (X.pn ++ pins))) S gl own yes nodeb
  · exact ld_blt (X := X.suite a ((a, oe) :: (X.pn ++ pins))) S gl no bt yes nn nodeb
/-- the clauses of a try and what they do -/
inductive HdsM (X : Cx) : List ExceptHandler → List Cl → Prop
  | nil : HdsM X [] []
  | plain {x : Str} {c : Value} {ts : Addr → Value → Option Addr → TS} {b₀ : Stmt} {suite : List Stmt} {np pos' : Pos} {hds : List ExceptHandler} {l : List Cl} (nm : Names X x c)
      (run : ∀ (a : Addr) (oe : Obj) (cls : Value) (d : Option Addr) (pn : List (Addr × Obj)), Zc cls d oe → (∃ vs, oe.data = .fields vs) → PSs (X.suite a ((a, oe) :: pn)) (b₀ :: suite) (ts a cls d)) (r : HdsM X hds l) : HdsM X (.ExceptHandler (some (.Name x np)) none (b₀ :: suite) pos' :: hds) (⟨c, none, ts⟩ :: l)
  | as_ {x n : Str} {i : Nat} {c : Value} {ts : Addr → Value → Option Addr → TS} {b₀ : Stmt} {suite : List Stmt} {np pos' : Pos} {hds : List ExceptHandler} {l : List Cl} (nm : Names X x c) (nd : X.N.Nodup) (at_ : X.N[i]? = some n) (loc : X.env.kindOf n = some .local)
      (run : ∀ (a : Addr) (oe : Obj) (cls : Value) (d : Option Addr) (pn : List (Addr × Obj)), Zc cls d oe → (∃ vs, oe.data = .fields vs) → PSs (X.suite a ((a, oe) :: pn)) (b₀ :: suite) (ts a cls d)) (r : HdsM X hds l) : HdsM X (.ExceptHandler (some (.Name x np)) (some n) (b₀ :: suite) pos' :: hds) (⟨c, some i, ts⟩ :: l)
theorem caught_run {Wout : WX} {hds : List ExceptHandler} {l : List Cl} (hs : X.stack = X.env :: X.outer) (hf : X.env.frame = some X.env.locals) (tk : Takes X Wout) (ok : X.Ok) (M : HdsM X hds l) (c : Caught X pins σ H a cls d s) (w : wMix X.K Wout D l cls d σ H) :
    wpAny (model X.prog X.w) X.A (handleBy (.ref a) X.env hds) (SP X pins D) X.xe s := by
  induction M with
  | nil => exact c.on hs hf tk w
  | plain nm run r ih =>
    obtain ⟨b, ex, yes, no⟩ := w
    refine wpAny_handleBy_cons (codeAny_handlers_test (c.ask hs hf nm ex ?_)) nofun
    cases b with
    | false => exact ih (no rfl)
    | true =>
      refine codeAny_handlers_suite (c.again fun h c4 => ?_)
      obtain ⟨_, oe, vs, _, z, dat, S⟩ := c4.suite hs hf
      refine wpAny_mono ((run a oe cls d (X.pn ++ pins) z ⟨_, dat⟩).run [] _ _ H _ S (yes rfl a c.na)) (fun fl s6 got => ?_) (fun _ _ z => z.elim)
      cases fl with
      | ret u => exact let ⟨v, σ6, H6, S6, rv, q⟩ := got; ⟨v, σ6, H6, S6.unsuite ok, rv, q⟩
      | _ => exact let ⟨σ6, H6, S6, q⟩ := got; ⟨σ6, H6, S6.unsuite ok, q⟩
  | @as_ x n i cv ts b₀ suite np pos' hds' l' nm nd at_ loc run r ih =>
    obtain ⟨b, ex, yes, no⟩ := w
    refine wpAny_handleBy_cons (codeAny_handlers_test (c.ask hs hf nm ex ?_)) nofun
    cases b with
    | false => exact ih (no rfl)
    | true =>
      refine codeAny_handlers_suite_as (c.again fun h c4 => ?_)
      obtain ⟨_, oe, vs, _, z, dat, S⟩ := c4.suite hs hf
      refine store_ok (X := X.suite a ((a, oe) :: (X.pn ++ pins))) (v := .ref a) S nd at_ (.inl loc) rfl (fun s5 S5 => ?_) (.inr loc)
      refine wpAny_mono ((run a oe cls d (X.pn ++ pins) z ⟨_, dat⟩).run [] s5 _ H _ S5 (yes rfl a c.na)) (fun fl s6 got => ?_) (fun _ _ z => z.elim)
      have bye : ∀ {σ6 : L2.St} {H6 : Hp} {Q : Shared → Prop}, L2.Inv (X.suite a ((a, oe) :: (X.pn ++ pins))) [] σ6 H6 s6 → (∀ s7, L2.Inv X pins (σ6.set i none) H6 s7 → Q s7) →
          wpAny (model X.prog X.w) X.A (bindName X.env n .none >>= fun _ => unbindBehindTheSuite X.env n pos') (fun _ s7 => Q s7) X.xe s6 := fun S6 k => gone_ok (S6.unsuite ok) nd at_ loc k
      cases fl with
      | ret u => exact let ⟨v, σ6, H6, S6, rv, q⟩ := got; bye S6 fun s7 J => ⟨v, _, H6, J, rv, q⟩
      | _ => exact let ⟨σ6, H6, S6, q⟩ := got; bye S6 fun s7 J => ⟨_, H6, J, q⟩
/-- try: body / except A: .. / except B as e: .. -/
theorem ps_try_mix {body : List Stmt} {h₀ : ExceptHandler} {hds : List ExceptHandler} {l : List Cl} {pos : Pos} {tb : WX → TS} {Wout : WX} (hs : X.stack = X.env :: X.outer) (hf : X.env.frame = some X.env.locals) (tk : Takes X Wout)
    (inner : ∀ (W : WX) (pn : List (Addr × Obj)) (xe : Value → Shared → Prop), Takes (X.tr pn xe) W → PassesOwn (model X.prog X.w) X.A X.env xe → PSs (X.tr pn xe) body (tb W)) (M : HdsM X (h₀ :: hds) l) : PS X (.Try body (h₀ :: hds) [] [] pos) (fun D σ H => tb (wMix X.K Wout D l) D σ H) := by
  constructor
  intro pins s σ H D inv h
  have ok := inv.ok
  have catch_ : ∀ u s', XE (X.tr (X.pn ++ pins) fun e s₁ => wpAny (model X.prog X.w) X.A (noteFrame e X.env) (fun _ s₂ => wpAny (model X.prog X.w) X.A (setFlight e none) (fun _ s₃ => wpAny (model X.prog X.w) X.A (handleBy e X.env (h₀ :: hds)) (SP X pins D) X.xe s₃) X.xe s₂) X.xe s₁) (wMix X.K Wout D l) u s' →
      wpAny (model X.prog X.w) X.A (noteFrame u X.env) (fun _ s₂ => wpAny (model X.prog X.w) X.A (setFlight u none) (fun _ s₃ => wpAny (model X.prog X.w) X.A (handleBy u X.env (h₀ :: hds)) (SP X pins D) X.xe s₃) X.xe s₂) X.xe s' := by
    rintro _ s' ⟨a, B, sI, pn', σ', H', cls, d, rfl, J, nb, up, sky, na, os, ag, w⟩
    have air : Sky B (X.env :: X.outer) a (Zc cls d) X.env.locals s'.heap := hs ▸ sky
    refine Sky.land Zc.steady (by rw [ok.frames, hs]) hf air fun h3 fly up3 => ?_
    exact caught_run hs hf tk ok M ⟨⟨B, sI, J.ofTry ok, nb, up.trans up3, hs ▸ fly, os, ag⟩, na⟩ w
  refine wpAny_Try_except (wpAny_mono ((inner (wMix X.K Wout D l) (X.pn ++ pins) _ catch_ PassesOwn.looking).run [] s σ H D (inv.toTry _) h) (fun fl s1 got => ?_) fun _ _ z => z)
  cases fl with
  | next => exact let ⟨σ', H', J, q⟩ := got; wpAny_execs_nil ⟨σ', H', L2.Inv.ofTry J ok, q⟩
  | ret u => exact let ⟨v, σ', H', J, r, q⟩ := got; ⟨v, σ', H', L2.Inv.ofTry J ok, r, q⟩
  | _ => exact let ⟨σ', H', J, q⟩ := got; ⟨σ', H', L2.Inv.ofTry J ok, q⟩
end
/-- x(e) in the maker's own frame -/
theorem pe_outD {X : Cx} {TT : (XK → Hp → VK → Prop) → Hp → VK → Prop} {x a : Str} {g : Addr} {fd : FuncData} {k : Nat} {pg : Arguments} {bg : List Stmt} {sg : Scope} {Ng : List Str} {e : Expr} {te : TE} {p pos : Pos} (at_ : X.mg x = some (.ref g)) (F : FunD X.K x x pg bg sg [] [] g fd) (B : L2.Binds X.K fd [a] [])
    (Sg : FnScope Ng [a] sg) (hNg : Ng[0]? = some a) (hva : Vis sg a) (hG : ∀ cdg, Gives X Ng x sg g cdg bg a TT) (room : Room (k + 2) X.A) (he : PE X e te) (glob : Gl X x := by rfl) (nodeb : (x == ("__debug__" : Str)) = false := by decide) (hd : (a == ("__debug__" : Str)) = false := by decide)
    (hcd : (a == ("__classdict__" : Str)) = false := by decide) (one : starEach [e] X.env = [(false, eval e X.env)] := by rfl) : PE X (.Call (.Name x p) [e] [] pos) (fun σ H Q => tOut X k TT te σ σ H Q) := by
  obtain ⟨oc, od, dV, kV, doc, pm, an, cdv, ct, sl, rfl, lk, code, _, _⟩ := F.ex
  constructor
  intro pn s σ H Q inv h
  refine wpAny_Call_Name_kw (ld_glob inv glob at_ ?_ nodeb)
  refine PySem.W.callWith_K (h₀ := X.base) inv.ok.mod.kin F.kp (thn ((pa_cons he pa_nil one).run pos pn s σ H (onOne fun v H1 => ∃ f l d t, v = V.ref f ∧ BodyR X k l d t ∧ IsLam X.env H1 f l d ∧ TT (fun E H' Q' => t E σ H' Q') H1 Q) inv h) ?_) one (by rfl)
  rintro us s1 ⟨vs, H1, inv1, rel, got1⟩
  obtain ⟨v, rfl, f, l, d, t, rfl, body, isl, q⟩ := onOne_inv got1
  obtain ⟨_, rfl, rfl⟩ := vals1 rel
  refine ⟨inv1.kIn, wpAny_call (codeAny_mono (run_ofS (CX := C8.CX0) (Q := Q) (E := C8.E0) (N := Ng) (ps := [a]) (us := [.ref f]) (vs := [.ref f]) lk code Sg room inv1.env0 (B s1 [.ref f] inv1.kIn rfl) (.cons rfl .nil) rfl fun room' => ?_) ?_)⟩
  · obtain ⟨t', ht', hq'⟩ := hG cdv f s1 H1 Q (fun HZ => IsLam X.env HZ f l d) (fun E H' Q' => t E σ H' Q') (fun W pn xe E p1 p2 tk => pe_act3 (i := 0) inv1 (KeptC.refl inv1) body tk room' hNg hva hd hcd) isl q
    exact ⟨t', ht'.nox, hq'⟩
  · rintro (er | fl) s' got
    · exact (show False from got).elim
    · cases fl with
      | ret u => exact inv1.after got
      | _ => exact got.elim
end HC
/-! what a caught exception is asked; exceptions with more than one field; list.count of plain values -/
namespace HC
open PyProof.Rows PySem L2 PySem.Spec LamX
/-! ### isinstance of the exception that a suite holds -/
/-- its dict, if it has one, stands in the heap -/
def DctAt (d : Option Addr) (H : Hp) : Prop := ∀ dd, d = some dd → ∃ fs, H dd = some (.xd fs)
def rIsX (K : PySem.W.Frag) (a : Addr) (cls : Value) (d : Option Addr) : List V → Hp → VK → Prop := fun xs H Q =>
  ∃ (D : Addr) (c : V) (cv : Value) (b : Bool), cls = .ref D ∧ ExcC K D ∧ DctAt d H ∧ xs = [.ref a, c] ∧ (∀ u, L2.RelV c u → u = cv) ∧ PySem.W.kitOne K (.ref D) cv = some b ∧ Q (.bl b) H
section
variable {X : Cx} {a : Addr} {oe : Obj} {pn : List (Addr × Obj)} {cls : Value} {d : Option Addr}
theorem caught_inst {D : Addr} {pins : List (Addr × Obj)} {σ : L2.St} {H : Hp} {s : Shared} (hz : Zc (.ref D) d oe) (hf : ∃ vs, oe.data = .fields vs) (inv : L2.Inv (X.suite a ((a, oe) :: pn)) pins σ H s) (dc : DctAt d H) : ∃ od, PySem.W.InstAt s.heap a oe D od := by
  have held := (inv.pin (a, oe) (List.mem_append_left _ (.head _))).1
  have nc : PySem.W.notCls oe = true := by
    obtain ⟨vs, e⟩ := hf
    unfold PySem.W.notCls
    rw [e]
  cases d with
  | none => exact ⟨none, held, hz.1, nc, by rw [hz.2]; trivial⟩
  | some dd =>
    obtain ⟨fs, at_⟩ := dc dd rfl
    obtain ⟨mA, ns, _⟩ : ObjOk X.prog X.w H s.heap dd (.xd fs) := inv.hok dd _ at_
    obtain ⟨od, ho, _⟩ := lookIn_ns ns
    exact ⟨some od, held, hz.1, nc, by rw [hz.2]; exact ho⟩
theorem call_isX (hz : Zc cls d oe) (hf : ∃ vs, oe.data = .fields vs) : CallR (X.suite a ((a, oe) :: pn)) (.builtin "isinstance") (rIsX X.K a cls d) := by
  rintro pins s σ H _ us Q inv rel ⟨D, c, cv, b, rfl, ex, dc, rfl, is, yes, q⟩
  cases rel with
  | cons r1 r2 =>
    cases r2 with
    | cons r3 r4 =>
      cases r4
      cases r1
      obtain rfl := is _ r3
      obtain ⟨od, J⟩ := caught_inst hz hf inv dc
      have cl : (PySem.W.clsIn X.K D).isSome = true := by
        obtain ⟨cd, e, _⟩ := PySem.W.any_some ex.hd
        rw [e]; rfl
      exact PySem.W.kia_one (PySem.W.kitx_exc (od := od) cl ex.hg ex.hk ex.hs ex.ha ex.hn ex.ht ex.hm) inv.kIn J yes nofun fun tk => ⟨.bl b, H, inv.kept (t' := tk) fun _ _ z => z, rfl, q⟩
theorem pe_isX {n : Str} {c : V} {e : Expr} {te : TE} {p pos tpos : Pos} (m : Bts X.mg) (hz : Zc cls d oe) (hf : ∃ vs, oe.data = .fields vs) (he : PE (X.suite a ((a, oe) :: pn)) e te) (hc : PE (X.suite a ((a, oe) :: pn)) (.Name n tpos) (tC c)) (hg : Gl (X.suite a ((a, oe) :: pn)) "isinstance" := by rfl)
    (s1 : starEach [e, .Name n tpos] (X.suite a ((a, oe) :: pn)).env = (false, eval e (X.suite a ((a, oe) :: pn)).env) :: starEach [.Name n tpos] (X.suite a ((a, oe) :: pn)).env := by rfl) (s2 : starEach [.Name n tpos] (X.suite a ((a, oe) :: pn)).env = (false, eval (.Name n tpos) (X.suite a ((a, oe) :: pn)).env) :: starEach [] (X.suite a ((a, oe) :: pn)).env := by rfl)
    (pl : (backTo pos (starEach [.Name n tpos] (X.suite a ((a, oe) :: pn)).env)).any (·.1) = false := by rfl) : PE (X.suite a ((a, oe) :: pn)) (.Call (.Name "isinstance" p) [e, .Name n tpos] [] pos) (tCB (rIsX X.K a cls d) (tCons te (tCons (tC c) tNil))) :=
  pe_callB (p := p) (pos := pos) (call_isX hz hf) hg m.isinstance bt_isinstance (pa_cons he (pa_cons hc pa_nil s2) s1) (by decide) (by decide) s1 pl
end
theorem n_isX {K : PySem.W.Frag} {a D C : Addr} {d : Option Addr} {H : Hp} {Q : VK} {b : Bool} (ex : ExcC K D) (dc : DctAt d H) (yes : PySem.W.kitOne K (.ref D) (.ref C) = some b) (q : Q (.bl b) H) : rIsX K a (.ref D) d [.ref a, .ref C] H Q :=
  ⟨D, .ref C, .ref C, b, rfl, ex, dc, rfl, fun u r => r, yes, q⟩
theorem n_isXT {K : PySem.W.Frag} {a D : Addr} {T : String} {d : Option Addr} {H : Hp} {Q : VK} {b : Bool} (ex : ExcC K D) (dc : DctAt d H) (yes : PySem.W.kitOne K (.ref D) (.type T) = some b) (q : Q (.bl b) H) : rIsX K a (.ref D) d [.ref a, .ty T] H Q :=
  ⟨D, .ty T, .type T, b, rfl, ex, dc, rfl, fun u r => r, yes, q⟩
def excCB (K : PySem.W.Frag) (D : Addr) : Bool := He.eqO (PySem.W.findIn K (.ref D) "__getattribute__") (some (some (.builtin "BaseException.__getattribute__"))) && (decide (PySem.W.findIn K (.ref D) "__getattr__" = some none) && (decide (PySem.W.subIn K (.ref D) (.type "BaseException") = some true) && (PySem.W.hasDictIn K D && (He.eqO (PySem.W.findIn K (.ref D) "__class__") (some (some (.builtin "object.__class__"))) &&
  (He.eqO (PySem.W.specialIn K (.builtin "object.__class__") "__get__") (some (some (.builtin "getset_descriptor.__get__"))) && (decide (PySem.W.takesIn K (.builtin "object.__class__") = some true) && decide (PySem.W.mroIn K D (.type "object") = some true)))))))
theorem excCB_ok {K : PySem.W.Frag} {D : Addr} (h : excCB K D = true) : ExcC K D := by
  simp only [excCB, Bool.and_eq_true, decide_eq_true_eq] at h
  obtain ⟨h1, h2, h3, h4, h5, h6, h7, h8⟩ := h
  exact ⟨He.eqO_ok h1, h2, h3, h4, He.eqO_ok h5, He.eqO_ok h6, h7, h8⟩
/-- two readings of one expression -/
def tEither (t u : TE) : TE := fun σ H Q => t σ H Q ∨ u σ H Q
theorem pe_either {X : Cx} {e : Expr} {t u : TE} (h1 : PE X e t) (h2 : PE X e u) : PE X e (tEither t u) := ⟨fun pn s σ H Q inv h => h.elim (h1.run pn s σ H Q inv) (h2.run pn s σ H Q inv)⟩
/-! ### list.count of plain values -/
def rCntF (K : PySem.W.Frag) : V → List V → Hp → VK → Prop := fun x xs H Q => ∃ (l : Addr) (ys : List V) (y : V), x = .ref l ∧ xs = [y] ∧ SqL K H l ys ∧ flatV y = true ∧ ys.all flatV = true ∧ Q (.int (ys.countP fun z => eqV z y : Nat)) H
theorem cnt_vals {y : V} : ∀ {ys : List V} {us : List Value}, Vals ys us → ys.all flatV = true → us.countP (eqU y) = ys.countP fun z => eqV z y
  | _, _, .nil, _ => rfl
  | z :: ys, u :: us, .cons r t, f => by
    have both : flatV z = true ∧ ys.all flatV = true := by simpa using f
    rw [List.countP_cons, List.countP_cons, cnt_vals t both.2, eqU_of r both.1]
theorem mt_cntF {X : Cx} : MtR X "list.count" (rCntF X.K) := by
  rintro pins s σ H _ _ v us Q inv rx rel ⟨l, ys, y, rfl, rfl, at_, fy, fys, q⟩
  cases rx
  cases rel with
  | @cons _ uy _ _ ry rn =>
    cases rn
    obtain ⟨its, vals, ⟨⟨c, dd, dat, sl⟩, n, held, hc, hn, hd⟩, _⟩ := inv.list at_
    dsimp only at hc hd
    subst hc hd
    have cnt : its.toArray.toList.countP (eqU y) = ys.countP fun z => eqV z y := cnt_vals vals fys
    have met := SeqAt.list_countAt l its.toArray n dd sl uy (eqU y)
    refine call_meets PySem.F.slot_list_count ⟨_, held, rfl⟩ PySem.F.entry_list_count (PySem.F.args_list_count_2 _ _) met ⟨held, fun u hu => mem_eqAt ry fy vals fys u (List.mem_toArray.mp hu), ?_⟩
    refine ⟨.int (ys.countP (fun z => eqV z y) : Nat), H, inv.tok _, ⟨s.toks, ?_⟩, q⟩
    rw [cnt]
theorem g_cntF {K : PySem.W.Frag} {H : Hp} {Q : VK} {l : Addr} {ys : List V} {y : V} (h1 : SqL K H l ys) (h2 : flatV y = true) (h3 : ys.all flatV = true) (h : Q (.int (ys.countP fun z => eqV z y : Nat)) H) : rCntF K (.ref l) [y] H Q := ⟨l, ys, y, rfl, rfl, h1, h2, h3, h⟩
/-! ### exceptions with some fields, all given by keyword -/
def sp_initN (K : PySem.W.Frag) (C : Addr) (fo : List V → List (Str × V)) (n : Nat) : Sp := fun vs H Q _ => ∃ a zs, vs = .ref a :: zs ∧ zs.length = n ∧ H a = some (exo a C none) ∧
  ∀ dx H', H dx = none → dx ≠ a → H' a = some (exo a C (some dx)) → H' dx = some (exd dx (fo zs)) → (∀ c, c ≠ a → c ≠ dx → H' c = H c) → Q .non H'
structure ExcN (P : Program) (w : World) (K : PySem.W.Frag) (mg : Str → Option Value) (base : Heap) (x : Str) (C : Addr) (k : Nat) (flds : List Str) (fo : List V → List (Str × V)) : Prop where
  at_ : mg x = some (.ref C)
  oex : OexC K C
  ex : ∃ fI fd, PySem.W.findIn K (.ref C) "__init__" = some (some (.ref fI)) ∧ PySem.W.typeIn K (.ref fI) = some (.type "function") ∧ FnOk P w K mg base (CXW P w) k fI fd ("self" :: flds) (sp_initN K C fo flds.length) ∧
    KBn K fd ("self" :: flds) 1 flds (fun us ws => us ++ ws) (fun vs zs => vs ++ zs)
def two2 (f1 f2 : Str) : List V → List (Str × V)
  | [v, u] => [(f2, u), (f1, v)]
  | _ => []
section
variable {P : Program} {w : World} {K : PySem.W.Frag} {mg : Str → Option Value} {base : Heap} {f C : Addr} {fd : FuncData} {qual b f1 f2 msg : Str} {params : Arguments} {scope : Scope} {j : Nat} {p1 p2 p3 p4 p5 p6 p7 p8 p9 p10 q7 q8 q9 q10 : Pos}
/-- def __init__(self, *, f1, f2): b.__init__(self, msg); self.f1 = f1; self.f2 = f2 -/
theorem init2_ok (T : OexC K C) (no1 : PySem.W.findIn K (.ref C) f1 = some none) (no2 : PySem.W.findIn K (.ref C) f2 = some none) (V : InitV K mg b)
    (F : FunD K "__init__" qual params [.Expr (.Call (.Attribute (.Name b p1) "__init__" p2) [.Name "self" p3, .Constant (.str msg) j p4] [] p5) p6, .Assign [.Attribute (.Name "self" p7) f1 p8] (.Name f1 p9) p10, .Assign [.Attribute (.Name "self" q7) f2 q8] (.Name f2 q9) q10] scope [] [] f fd)
    (S : FnScope ["self", f1, f2] ["self", f1, f2] scope) (gl : scope.names.lookup b = some .globalImplicit) (vs : Vis scope "self") (v1 : Vis scope f1) (v2 : Vis scope f2) (nb : (b == ("__debug__" : Str)) = false) (n1 : (f1 == ("__debug__" : Str)) = false) (n1' : (f1 == ("__classdict__" : Str)) = false) (n2 : (f2 == ("__debug__" : Str)) = false) (n2' : (f2 == ("__classdict__" : Str)) = false)
    (pl : Env → Sem Bool) (form : ∀ env : Env, eval (.Call (.Attribute (.Name b p1) "__init__" p2) [.Name "self" p3, .Constant (.str msg) j p4] [] p5) env = (do
      let ov ← eval (.Name b p1) env
      standAt p2.atName
      let (fn, more) ← holding [ov] (getMethod ov "__init__" (pl env))
      callWith p5 fn more (backTo p5 (starEach [.Name "self" p3, .Constant (.str msg) j p4] env)) (backToKw p5 (keywordEach [] env)))) :
    FnOk P w K mg base (CXW P w) 2 f fd ["self", f1, f2] (sp_initN K C (two2 f1 f2) 2) := by
  refine F.ok S ?_ (fun cdv A outer s H vs Q E hr h => ?_)
  · rintro vs H Q E ⟨a, zs, rfl, e, _⟩
    simp [e]
  · obtain ⟨a, zs, rfl, len, at_, k⟩ := h
    match zs, len with
    | [y, z], _ =>
      refine ⟨_, pss_cons (ps_expr (pe_binit V (pa_cons (pe_var (i := 0) rfl vs (by decide) (by decide)) (pa_cons pe_str pa_nil)) gl nb (form _))) (pss_cons (ps_ost (pe_var (i := 0) rfl vs (by decide) (by decide)) (pe_var (i := 1) rfl v1 n1 n1')) (pss_one (ps_ost (pe_var (i := 0) rfl vs (by decide) (by decide)) (pe_var (i := 2) rfl v2 n2 n2')))), ?_⟩
      refine ⟨_, rfl, a, C, [.str msg], rfl, ?_, T, at_, ?_⟩
      · show 1 ≤ 1000
        decide
      · refine ⟨_, rfl, _, rfl, a, C, rfl, T, no1, .inl ⟨at_, fun dx n ne => ?_⟩⟩
        refine ⟨_, rfl, _, rfl, a, C, rfl, T, no2, .inr ⟨dx, [(f1, y)], upd_same, ?_, by show 1 ≤ 900; decide, ?_⟩⟩
        · rw [upd_ne ne]; exact upd_same
        · refine k dx _ n ne ?_ upd_same fun c h1 h2 => ?_
          · rw [upd_ne (Ne.symm ne)]; exact upd_same
          · rw [upd_ne h2, upd_ne h1, upd_ne h2]
end
section
variable {X : Cx} {x : Str} {C : Addr} {k : Nat} {ks : List Keyword} {tk : TA} {p pos : Pos} {flds : List Str} {fo : List V → List (Str × V)}
def tMkN (C : Addr) (n : Nat) (fo : List V → List (Str × V)) (tk : TA) : L2.St → Hp → XK → Prop := fun σ H Q => tk σ H fun zs H1 => zs.length = n ∧ ∀ d, H1 d = none → Q (.ref C) (some d) (upd H1 d (.xd (fo zs)))
theorem pmk_kn (R : ExcN X.prog X.w X.K X.mg X.base x C k flds fo) (room : Room (k + 1) X.A) (key : PK X ks tk) (glob : Gl X x := by rfl) (nodeb : (x == ("__debug__" : Str)) = false := by decide) (all : (backToKw pos (keywordEach ks X.env)).all (·.1.isSome) = true := by rfl)
    (names : (backToKw pos (keywordEach ks X.env)).filterMap (·.1) = flds := by rfl) (plain : ((backTo pos (starEach [] X.env)).any (·.1) || (backToKw pos (keywordEach ks X.env)).any (·.1.isNone)) = false := by rfl) : PMk X (.Call (.Name x p) [] ks pos) (tMkN C flds.length fo tk) := by
  obtain ⟨fI, fd, i1, i2, F1, B1⟩ := R.ex
  intro pn s σ H Q inv h
  obtain ⟨nm, q, N, bs, bm, sn, sub, ab, col, dd, k0, k1, k2, k3, k5, cls, tail⟩ := R.oex.cls
  refine wpAny_Call_Name_kw (ld_glob inv glob R.at_ (PySem.W.callWith_KW0 (h₀ := X.base) inv.ok.mod.kin R.oex.kC all (thn (key.run pos pn s σ H _ inv h) ?_) plain) nodeb)
  rintro ws s1 ⟨zs, H1, inv1, rel, len, q1⟩
  refine ⟨inv1.kIn, ?_⟩
  rw [names]
  have lw : ws.length = flds.length := by rw [← len]; exact (Paired.length rel).symm
  obtain ⟨hp, g, dr, tk1, os⟩ := s1
  generalize ee : hp.objs.size + 1 = me
  have up : hp.objs.size ≤ me := by omega
  have new : H1 me = none := inv1.hok.fresh up
  have kk : ∀ b o, hp.get? b = some o → (bare hp C).get? b = some o := fun b o e => Heap.get?_push_of_some _ (Heap.get?_push_of_some _ e)
  have own : (bare hp C).get? me = some (PySem.HandSPX.excO C hp.objs.size) := by subst ee; heap_get
  have inv2 : L2.Inv X pn σ (upd H1 me (exo me C none)) ⟨bare hp C, g, dr, tk1, os⟩ := inv1.laid (t' := tk1) (a := me) (o := exo me C none) (h' := bare hp C) kk up (exo_ok own)
  have owed : sp_initN X.K C fo flds.length (V.ref me :: zs) (upd H1 me (exo me C none))
      (fun y H2 => y = .non ∧ ∃ (d : Addr) (fs : List (Str × V)), H2 me = some (exo me C (some d)) ∧ H2 d = some (exd d fs) ∧ H1 d = none ∧ Q (.ref C) (some d) (upd (del H2 me) d (.xd fs))) E0 := by
    refine ⟨me, zs, rfl, len, upd_same, fun dx H' n ne e1 e2 e3 => ⟨rfl, dx, fo zs, e1, e2, ?_, ?_⟩⟩
    · rw [upd_ne ne] at n; exact n
    · have n1 : H1 dx = none := by rw [upd_ne ne] at n; exact n
      have same : upd (del H' me) dx (.xd (fo zs)) = upd H1 dx (.xd (fo zs)) := by
        funext c
        by_cases c1 : c = dx
        · rw [c1, upd_same, upd_same]
        · rw [upd_ne c1, upd_ne c1]
          by_cases c2 : c = me
          · rw [c2, del_same, new]
          · rw [del_ne c2, e3 c c2 c1, upd_ne c2]
      rw [same]
      exact q1 dx n1
  have run := F1.run _ X.stack _ _ ⟨[Value.ref me], flds.zip ws⟩ (Value.ref me :: ws) _ _ E0 (room.make C [] (flds.zip ws)) (inv2.env0.make C [] (flds.zip ws)) (B1.to _ [Value.ref me] ws inv2.kIn rfl lw) (show Vals (V.ref me :: zs) (Value.ref me :: ws) from .cons rfl rel) owed
  refine wpAny_call (call_bare (veAt (inv1.kIn _ _ cls) tail) (PySem.W.looks_findIn inv1.kIn i1) (fun self => PySem.W.bind_fn inv1.kIn self i2) (codeAny_mono (by rw [ee]; exact run) ?_))
  rintro (er | fl) s' got
  · exact passN pn σ _ _ er s' inv2 got
  · cases fl with
    | ret y =>
      obtain ⟨v2, H2, os2, bare2, un2, hok2, rv, rfl, d, fs, e1, e2, e3, q2⟩ := got
      obtain ⟨hp2, g2, d2, t2, os2'⟩ := s'
      rw [ee]
      exact ⟨rv, mk_end (raises_own R.oex.exC R.oex.tyC) inv1 up kk un2 hok2 os2 bare2 e1 e2 e3 q2⟩
    | _ => exact got.elim
end
/-! ### an own exception without __init__, made with a text -/
abbrev veLine : List Value := [.type "ValueError", .type "Exception", .type "BaseException", .type "object"]
structure ExcT (K : PySem.W.Frag) (mg : Str → Option Value) (x : Str) (C : Addr) : Prop where
  at_ : mg x = some (.ref C)
  exI : PySem.W.excIn K C veLine "ValueError.__new__" = true
  kept : PySem.W.keepIn K (.ref C) = true
  base : PySem.W.subIn K (.ref C) (.type "BaseException") = some true
  meta_ : PySem.W.typeIn K (.ref C) = some (.type "type")
def excTB (K : PySem.W.Frag) (C : Addr) : Bool := PySem.W.excIn K C veLine "ValueError.__new__" && (PySem.W.keepIn K (.ref C) && (decide (PySem.W.subIn K (.ref C) (.type "BaseException") = some true) && decide (PySem.W.typeIn K (.ref C) = some (.type "type"))))
theorem excTB_ok {K : PySem.W.Frag} {mg : Str → Option Value} {x : Str} {C : Addr} (at_ : mg x = some (.ref C)) (h : excTB K C = true) : ExcT K mg x C := by
  simp only [excTB, Bool.and_eq_true, decide_eq_true_eq] at h
  exact ⟨at_, h.1, h.2.1, h.2.2.1, h.2.2.2⟩
theorem pmk_px {X : Cx} {x m : Str} {C : Addr} {j : Nat} {p p2 pos : Pos} (R : ExcT X.K X.mg x C) (glob : Gl X x := by rfl) (nodeb : (x == ("__debug__" : Str)) = false := by decide) : PMk X (.Call (.Name x p) [.Constant (.str m) j p2] [] pos) (fun _ H Q => Q (.ref C) none H) :=
  pmk_own PySem.F.excBase_ValueError R.exI R.at_ R.kept (raises_own R.base R.meta_) glob nodeb
end HC
/-! len(set(e)) of texts that may be alike, e a tuple or a list -/
namespace HC
open PyProof.Rows PySem L2 PySem.Spec
/-- the texts of a list, each once -/
def accD (l : List Str) : List Str := l.foldl (fun acc z => if z ∈ acc then acc else z :: acc) []
theorem accD_snoc (l : List Str) (z : Str) : accD (l ++ [z]) = if z ∈ accD l then accD l else z :: accD l := by
  show List.foldl _ _ (l ++ [z]) = _
  rw [List.foldl_append]
  rfl
/-- how many there are -/
def dst (l : List Str) : Nat := (accD l).length
theorem snoc_ind {α : Type} {P : List α → Prop} (h0 : P []) (hs : ∀ l x, P l → P (l ++ [x])) (l : List α) : P l := by
  rw [← List.reverse_reverse l]
  induction l.reverse with
  | nil => exact h0
  | cons x r ih => rw [List.reverse_cons]; exact hs _ _ ih
theorem mem_accD (y : Str) (l : List Str) : y ∈ accD l ↔ y ∈ l := by
  refine snoc_ind (P := fun l => y ∈ accD l ↔ y ∈ l) (by simp [accD]) (fun l z ih => ?_) l
  rw [accD_snoc, List.mem_append, List.mem_singleton]
  by_cases h : z ∈ accD l
  · rw [if_pos h, ih]
    exact ⟨.inl, fun q => q.elim id fun e => e ▸ ih.mp (e ▸ h)⟩
  · rw [if_neg h, List.mem_cons, ih]
    exact Or.comm
theorem dst_snoc (l : List Str) (z : Str) : dst (l ++ [z]) = if z ∈ l then dst l else dst l + 1 := by
  unfold dst
  rw [accD_snoc]
  by_cases h : z ∈ l
  · rw [if_pos ((mem_accD z l).mpr h), if_pos h]
  · rw [if_neg fun q => h ((mem_accD z l).mp q), if_neg h, List.length_cons]
theorem dst_le (l : List Str) : dst l ≤ l.length := by
  refine snoc_ind (P := fun l => dst l ≤ l.length) (Nat.le_refl _) (fun l z ih => ?_) l
  rw [dst_snoc, List.length_append, List.length_singleton]
  split <;> omega
theorem nodup_snoc {α : Type} {l : List α} {z : α} : (l ++ [z]).Nodup ↔ l.Nodup ∧ z ∉ l := by
  rw [List.nodup_append]
  constructor
  · rintro ⟨h1, _, h3⟩
    exact ⟨h1, fun m => h3 z m z (by simp) rfl⟩
  · rintro ⟨h1, h2⟩
    refine ⟨h1, by simp, fun a ha b hb e => ?_⟩
    rw [List.mem_singleton] at hb
    exact h2 (hb ▸ e ▸ ha)
theorem dst_nd (l : List Str) : dst l = l.length ↔ l.Nodup := by
  refine snoc_ind (P := fun l => dst l = l.length ↔ l.Nodup) (by simp [dst, accD]) (fun l z ih => ?_) l
  have le := dst_le l
  rw [dst_snoc, nodup_snoc, ← ih, List.length_append, List.length_singleton]
  by_cases h : z ∈ l
  · rw [if_pos h]
    exact ⟨fun e => absurd e (by omega), fun e => absurd h e.2⟩
  · rw [if_neg h]
    exact ⟨fun e => ⟨by omega, h⟩, fun e => by omega⟩
section
variable {P : Program} {w : World} {A : Around} {E : Value → Shared → Prop} {s : Shared} {I S : Addr} {fp wr : List Addr} {Pv : Nat → Value → Prop} {St : Nat → Heap → Prop} {R : Result → Shared → Prop}
/-- the loop over any walk that gives the texts zs -/
theorem fillsD {zs : List Str} (W : Walks P w A.in1 I fp wr zs.length Pv St) (off : S ∉ fp) (room : zs.length + 1 < scanBound) (val : ∀ i v, Pv i v → ∃ z t, zs[i]? = some z ∧ v = Value.str z t) (more : Nat) : ∀ (i : Nat) (s : Shared), i + more = zs.length → St i s.heap →
    s.heap.SetOf (PySem.strKind P w) S (fun z => decide (z ∈ zs.take i)) (dst (zs.take i)) →
    (∀ h' tk, (∀ b o, b ∉ S :: wr → s.heap.get? b = some o → h'.get? b = some o) → h'.SetOf (PySem.strKind P w) S (fun z => decide (z ∈ zs)) (dst zs) → R (.ok (.ret .none)) { s with heap := h', toks := tk }) →
    codeAny (model P w) A (upTurn S I) R s := by
  have offw : S ∉ wr := fun z => off (W.sub _ z)
  induction more with
  | zero =>
    intro i s sum now has done
    obtain rfl : i = zs.length := sum
    rw [List.take_length] at has
    refine upIn (wpAny_bind (W.done s _ _ now fun h' tk same => wpAny_pure (done h' tk (fun b o nb => same b o fun z => nb (.tail _ z)) (setOf_kept has fun o e => same S o offw e))))
  | succ more ih =>
    intro i s sum now has done
    have lt : i < zs.length := by omega
    refine upIn (wpAny_bind (W.item i s _ _ lt now fun v h' tk pv now' same => ?_))
    obtain ⟨z, t, hz, rfl⟩ := val i v pv
    have has' := setOf_kept (h' := h') has fun o e => same S o offw e
    have few : dst (zs.take i) ≤ i := Nat.le_trans (dst_le _) (by simp; omega)
    refine wpAny_bind (wpAny_holding (show wpAny _ _ (setAdd _ _) _ _ _ from ?_))
    unfold setAdd
    refine wpAny_holding (wpAny_bind ((PySem.strKind P w).pyHash (k := z) (PySem.strKind_is P w z t) ?_))
    refine wpAny_setAddHashed_of (knd := PySem.strKind P w) (s := { s with heap := h', toks := tk + 1 }) (PySem.strKind_is P w z t) rfl has' (by omega) fun h2 but has2 => ?_
    have tk1 : zs.take (i + 1) = zs.take i ++ [z] := by rw [List.take_add_one, hz]; rfl
    have has3 : h2.SetOf (PySem.strKind P w) S (fun y => decide (y ∈ zs.take (i + 1))) (dst (zs.take (i + 1))) := SetOf_congr has2 (fun y => by rw [tk1]; simp [List.mem_append]) (by
      rw [tk1, dst_snoc]
      by_cases m : z ∈ zs.take i <;> simp [m])
    refine wpAny_pure ⟨plainId_quiet F.plain_set_update_loop _, ih (i + 1) _ (by omega) (W.frame _ _ _ now' fun b hb o e => ?_) has3 fun h3 tk3 same3 fin => done h3 tk3 (fun b o nb e => same3 b o nb ?_) fin⟩
    · show h2.get? b = some o
      rw [but.2 b fun q => off (q ▸ hb)]; exact e
    · show h2.get? b = some o
      rw [but.2 b fun q => nb (q ▸ .head _)]; exact same b o (fun q => nb (.tail _ q)) e
/-- set(t), t a tuple -/
theorem call_setT {l : Addr} {cells : Array Value} {zs : List Str} {Q : Value → Shared → Prop} (calm : A.handled = none) (tup : s.heap.IsTuple l cells) (size : cells.size = zs.length) (texts : ∀ (i : Nat) (v : Value), cells[i]? = some v → ∃ z t, zs[i]? = some z ∧ v = Value.str z t) (room : zs.length + 1 < scanBound)
    (go : ∀ h' tk, h'.SetOf (PySem.strKind P w) s.heap.objs.size (fun z => decide (z ∈ zs)) (dst zs) → (∀ b o, s.heap.get? b = some o → h'.get? b = some o) → Q (.ref s.heap.objs.size) { s with heap := h', toks := tk }) :
    wpAny (model P w) A (call (Value.type "set") [Value.ref l]) Q E s := by
  refine callType_by F.called_set (F.typeCall_set_1 _) (code_set_new_1 (.ref l) (Q₁ := fun obj s1 => obj = .ref s.heap.objs.size ∧ ∃ led, s1 = { s with heap := s.heap.push { cls := .type "set", dict := none, data := .set #[] 0 (.fresh 0 0 led) } }) fun led => ⟨rfl, led, rfl⟩) ?_
  rintro _ _ ⟨rfl, led, rfl⟩
  generalize e0 : s.heap.push { cls := .type "set", dict := none, data := .set #[] 0 (.fresh 0 0 led) } = h0
  have at_ : h0.get? s.heap.objs.size = some { cls := .type "set", dict := none, data := .set #[] 0 (.fresh 0 0 led) } := by rw [← e0]; exact Heap.get?_push_size _ rfl
  have up0 : ∀ b o, s.heap.get? b = some o → h0.get? b = some o := fun b o e => by rw [← e0]; exact Heap.get?_push_of_some _ e
  have sz : h0.objs.size = s.heap.objs.size + 1 := by rw [← e0]; exact Heap.size_push ..
  have is : Shared.TypeIs { s with heap := h0 } (.ref s.heap.objs.size) "set" := ⟨_, at_, rfl⟩
  have n1 : isSubtype (.type "tuple") (.type "set") = pure false := by rw [isSubtype_type]; kernel_rfl
  have n2 : isSubtype (.type "tuple") (.type "frozenset") = pure false := by rw [isSubtype_type]; kernel_rfl
  have low : l < s.heap.objs.size := let ⟨o, z, _⟩ := tup; Heap.lt_size z
  have tup' : h0.IsTuple l cells := tup.at fun o e => up0 l o e
  obtain ⟨⟨c, dct, dt, sl⟩, getT, clsT, n, datT⟩ := id tup'
  dsimp only at clsT datT
  subst clsT datT
  refine ⟨is, codeAny_call_builtin F.called_set.init.plain F.entry_set_init (check_set_init_1 is ?_)⟩
  unfold Builtin.«set.__init__»
  wp_walk using PySem.AutoSeq1.wpAny_loadPart' at_, PySem.AutoSeq1.wpAny_loadPart' getT, wpAny_pyIter_tuple tup'
  have W := Walks.tuple (prog := P) (w := w) (A := A.in1.in1.in1) calm h0.objs.size l (by rw [sz]; exact Nat.ne_of_lt (Nat.lt_succ_of_lt low)) cells
  rw [size] at W
  refine fillsD (S := s.heap.objs.size) W ?_ room (fun i v h => texts i v h) zs.length 0 _ (Nat.zero_add _) ⟨⟨_, Heap.get?_push_size _ rfl, rfl, rfl⟩, tup'.at fun o e => Heap.get?_push_of_some _ e⟩ ?_ ?_
  · simp only [List.mem_cons, List.not_mem_nil, or_false, not_or, sz]
    exact ⟨Nat.ne_of_lt (Nat.lt_succ_self _), Ne.symm (Nat.ne_of_lt low)⟩
  · exact SetOf_congr ((setObjOf_fresh led).setOf (Heap.get?_push_of_some _ at_) (by decide)) (fun y => by simp) rfl
  · intro h' tk same fin
    refine wpAny_pure (wpAny_pure ⟨rfl, go h' tk fin fun b o e => same b o ?_ (Heap.get?_push_of_some _ (up0 b o e))⟩)
    have lt := Heap.lt_size e
    simp only [List.mem_cons, List.not_mem_nil, or_false, not_or, sz]
    exact ⟨Nat.ne_of_lt lt, Nat.ne_of_lt (Nat.lt_succ_of_lt lt)⟩
/-- set(l), l a list -/
theorem call_setL {l : Addr} {cells : Array Value} {zs : List Str} {Q : Value → Shared → Prop} (calm : A.handled = none) (tup : s.heap.IsList l cells) (size : cells.size = zs.length) (texts : ∀ (i : Nat) (v : Value), cells[i]? = some v → ∃ z t, zs[i]? = some z ∧ v = Value.str z t) (room : zs.length + 1 < scanBound)
    (go : ∀ h' tk, h'.SetOf (PySem.strKind P w) s.heap.objs.size (fun z => decide (z ∈ zs)) (dst zs) → (∀ b o, s.heap.get? b = some o → h'.get? b = some o) → Q (.ref s.heap.objs.size) { s with heap := h', toks := tk }) :
    wpAny (model P w) A (call (Value.type "set") [Value.ref l]) Q E s := by
  refine callType_by F.called_set (F.typeCall_set_1 _) (code_set_new_1 (.ref l) (Q₁ := fun obj s1 => obj = .ref s.heap.objs.size ∧ ∃ led, s1 = { s with heap := s.heap.push { cls := .type "set", dict := none, data := .set #[] 0 (.fresh 0 0 led) } }) fun led => ⟨rfl, led, rfl⟩) ?_
  rintro _ _ ⟨rfl, led, rfl⟩
  generalize e0 : s.heap.push { cls := .type "set", dict := none, data := .set #[] 0 (.fresh 0 0 led) } = h0
  have at_ : h0.get? s.heap.objs.size = some { cls := .type "set", dict := none, data := .set #[] 0 (.fresh 0 0 led) } := by rw [← e0]; exact Heap.get?_push_size _ rfl
  have up0 : ∀ b o, s.heap.get? b = some o → h0.get? b = some o := fun b o e => by rw [← e0]; exact Heap.get?_push_of_some _ e
  have sz : h0.objs.size = s.heap.objs.size + 1 := by rw [← e0]; exact Heap.size_push ..
  have is : Shared.TypeIs { s with heap := h0 } (.ref s.heap.objs.size) "set" := ⟨_, at_, rfl⟩
  have n1 : isSubtype (.type "list") (.type "set") = pure false := by rw [isSubtype_type]; kernel_rfl
  have n2 : isSubtype (.type "list") (.type "frozenset") = pure false := by rw [isSubtype_type]; kernel_rfl
  have low : l < s.heap.objs.size := let ⟨o, z, _⟩ := tup; Heap.lt_size z
  have tup' : h0.IsList l cells := tup.at fun o e => up0 l o e
  obtain ⟨⟨c, dct, dt, sl⟩, getT, clsT, n, datT⟩ := id tup'
  dsimp only at clsT datT
  subst clsT datT
  refine ⟨is, codeAny_call_builtin F.called_set.init.plain F.entry_set_init (check_set_init_1 is ?_)⟩
  unfold Builtin.«set.__init__»
  wp_walk using PySem.AutoSeq1.wpAny_loadPart' at_, PySem.AutoSeq1.wpAny_loadPart' getT, wpAny_pyIter_list tup'
  have W := Walks.list (prog := P) (w := w) (A := A.in1.in1.in1) calm h0.objs.size l (by rw [sz]; exact Nat.ne_of_lt (Nat.lt_succ_of_lt low)) cells
  rw [size] at W
  refine fillsD (S := s.heap.objs.size) W ?_ room (fun i v h => texts i v h) zs.length 0 _ (Nat.zero_add _) ⟨⟨_, Heap.get?_push_size _ rfl, rfl, rfl⟩, tup'.at fun o e => Heap.get?_push_of_some _ e⟩ ?_ ?_
  · simp only [List.mem_cons, List.not_mem_nil, or_false, not_or, sz]
    exact ⟨Nat.ne_of_lt (Nat.lt_succ_self _), Ne.symm (Nat.ne_of_lt low)⟩
  · exact SetOf_congr ((setObjOf_fresh led).setOf (Heap.get?_push_of_some _ at_) (by decide)) (fun y => by simp) rfl
  · intro h' tk same fin
    refine wpAny_pure (wpAny_pure ⟨rfl, go h' tk fin fun b o e => same b o ?_ (Heap.get?_push_of_some _ (up0 b o e))⟩)
    have lt := Heap.lt_size e
    simp only [List.mem_cons, List.not_mem_nil, or_false, not_or, sz]
    exact ⟨Nat.ne_of_lt lt, Nat.ne_of_lt (Nat.lt_succ_of_lt lt)⟩
end
/-- len(set(e)), e a tuple or a list of texts -/
def tLenSetD (K : PySem.W.Frag) (te : TE) : TE := fun σ H Q => te σ H fun y H1 => ∃ (a : Addr) (zs : List Str), y = V.ref a ∧ (SqT K H1 a (zs.map V.str) ∨ SqL K H1 a (zs.map V.str)) ∧ zs.length ≤ 1000 ∧ Q (.int (dst zs)) H1
theorem texts_of {zs : List Str} {cells : List Value} (vals : Vals (zs.map V.str) cells) : cells.toArray.size = zs.length ∧ ∀ (i : Nat) (v : Value), cells.toArray[i]? = some v → ∃ z t, zs[i]? = some z ∧ v = Value.str z t := by
  have len : cells.length = zs.length := by
    have := vals.length
    simpa using this.symm
  refine ⟨by simpa using len, fun i v at_ => ?_⟩
  rw [List.getElem?_toArray] at at_
  have lt : i < zs.length := by
    have := (List.getElem?_eq_some_iff.mp at_).1
    omega
  obtain ⟨u, hu, ru⟩ := vals.get (i := i) (x := V.str zs[i]) (by simp [lt])
  rw [hu] at at_
  cases at_
  obtain ⟨t, rfl⟩ := ru
  exact ⟨zs[i], t, List.getElem?_eq_getElem lt, rfl⟩
theorem pe_lenSetD {X : Cx} (K' : PySem.W.Frag) {e : Expr} {te : TE} {p p2 q pos : Pos} (m : Bts X.mg) (arg : PE X e te) (calm : X.calm = true := by rfl) (gl : Gl X "len" := by rfl) (gs : Gl X "set" := by rfl) (one : starEach [e] X.env = (false, eval e X.env) :: starEach [] X.env := by rfl) (hK : X.K = K' := by rfl) :
    PE X (.Call (.Name "len" p) [.Call (.Name "set" p2) [e] [] q] [] pos) (tLenSetD K' te) := by
  subst hK
  constructor
  intro pn s σ H Q inv h
  refine Call_ (ld_blt inv gl m.len PySem.boot_len (PyProof.Rows.callWith_builtin1 (PyProof.Rows.args_cons (Call_ (ld_blt inv gs m.set PyProof.Rows.boot_set (PyProof.Rows.callWith_type1 (PyProof.Rows.args_cons (thn (arg.run pn s σ H _ inv h) ?_) one) one rfl))) rfl) rfl rfl))
  rintro v s1 ⟨y, H1, inv1, rel, a, zs, rfl, sq, few, q⟩
  cases rel
  have fin : ∀ h' tk, h'.SetOf (PySem.strKind X.prog X.w) s1.heap.objs.size (fun z => decide (z ∈ zs)) (dst zs) → (∀ b o, s1.heap.get? b = some o → h'.get? b = some o) →
      wpAny (model X.prog X.w) X.A (call (.builtin "len") [.ref s1.heap.objs.size]) (EP X pn σ Q) X.xe { s1 with heap := h', toks := tk } := fun h' tk has same => by
    obtain ⟨o, es, ep, tb, at_, exact_, dat, _, _, _, fits, num⟩ := has
    have inv2 : L2.Inv X pn σ H1 { s1 with heap := h', toks := tk } := inv1.kept same
    have := dst_le zs
    exact call_len_set at_ exact_ dat fits (by rw [num]; omega) ⟨V.int (dst zs), H1, inv2.tok _, ⟨_, by rw [num]⟩, q⟩
  have rm : zs.length + 1 < scanBound := by unfold scanBound; omega
  apply PyProof.Rows.args_nil
  rcases sq with sq | sq
  · obtain ⟨cells, vals, tup, _⟩ := inv1.tuple sq
    obtain ⟨size, texts⟩ := texts_of vals
    exact call_setT (inv1.ok.hd calm) tup size texts rm fun h' tk has same => PyProof.Rows.args_nil (fin h' tk has same)
  · obtain ⟨cells, vals, ⟨o, n, at_, hc, _, hd⟩, _⟩ := inv1.list sq
    obtain ⟨size, texts⟩ := texts_of vals
    exact call_setL (inv1.ok.hd calm) ⟨o, at_, hc, n, hd⟩ size texts rm fun h' tk has same => PyProof.Rows.args_nil (fin h' tk has same)
def LsD (K : PySem.W.Frag) (Q : VK) : VK := fun y H1 => ∃ (a : Addr) (zs : List Str), y = V.ref a ∧ (SqT K H1 a (zs.map V.str) ∨ SqL K H1 a (zs.map V.str)) ∧ zs.length ≤ 1000 ∧ Q (.int (dst zs)) H1
theorem g_lenSetD {K : PySem.W.Frag} {te : TE} {σ : L2.St} {H : Hp} {Q : VK} (h : te σ H (LsD K Q)) : tLenSetD K te σ H Q := h
theorem n_lenSetD {K : PySem.W.Frag} {H : Hp} {Q : VK} {a : Addr} {zs : List Str} (h1 : SqT K H a (zs.map V.str) ∨ SqL K H a (zs.map V.str)) (h3 : zs.length ≤ 1000) (h : Q (.int (dst zs)) H) : LsD K Q (.ref a) H := ⟨a, zs, rfl, h1, h3, h⟩
end HC
/-! f-strings with a width: {x:<8} of a text, {n:>5} of an int -/
namespace HC
open PyProof.Rows PySem L2 PySem.Spec
/-- a text filled up with spaces on its right, to 8 signs -/
def padR (x : Str) : Str := ⟨(TL.tl x ++ List.replicate (8 - x.length) 32).toArray⟩
/-- a text filled up with spaces on its left, to 5 signs -/
def padL (x : Str) : Str := ⟨(List.replicate (5 - x.length) 32 ++ TL.tl x).toArray⟩
abbrev spL8 : Str := ⟨#[60, 56]⟩
abbrev spR5 : Str := ⟨#[62, 53]⟩
theorem len_tl8 (z : Str) : z.length = (TL.tl z).length := by simp [Str.length, TL.tl]
theorem pad_small {z : Str} (h : z.length ≤ 8) : (padR z).length ≤ sizeLine ∧ (padL z).length ≤ sizeLine := by
  have hs : z.cps.size ≤ 8 := h
  constructor
  · show (padR z).cps.size ≤ sizeLine
    unfold padR
    simp [sizeLine_eq, TL.tl]
    omega
  · show (padL z).cps.size ≤ sizeLine
    unfold padL
    simp [sizeLine_eq, TL.tl]
    omega
/-- the field of a text that is 8 long at most: itself, or filled up -/
theorem field8 {x : Str} (hx : x.length ≤ 8) : ∃ o, Builtin.Str.strField x { align := 60, width := some 8 } "str" = .ok o ∧ (o = none ∧ x = padR x ∨ o = some (padR x)) := by
  by_cases h8 : 8 ≤ x.length
  · refine ⟨none, by unfold Builtin.Str.strField; simp [h8, bind, Except.bind, pure, Except.pure], .inl ⟨rfl, TL.ext_tl ?_⟩⟩
    have : 8 - x.length = 0 := by omega
    unfold padR
    rw [this]
    simp [TL.tl]
  · have es : Builtin.Str.strSub x 0 x.length = x := by simp [Builtin.Str.strSub, Str.length]
    have e : Builtin.Str.padded x 0 (8 - x.length) 32 = padR x := TL.ext_tl (by unfold padR Builtin.Str.padded; simp [TL.tl])
    exact ⟨_, by unfold Builtin.Str.strField; simp [h8, es, bind, Except.bind, pure, Except.pure]; rfl, .inr (by rw [e])⟩
theorem meets_s8 {x : Str} {t : Tok} (hx : x.length ≤ 8) (u : Tok) : Meets (Builtin.«str.__format__» ⟨[.str x t, .str spL8 u], []⟩) (fun _ R s => ∀ t' k, R (.ok (.ret (.str (padR x) t'))) { s with toks := k }) := by
  intro prog w A R s done
  have hS : ∀ s : Shared, s.TypeIs (.str spL8 u) "str" := fun _ => rfl
  have hT : ∀ s : Shared, s.TypeIs (.str x t) "str" := fun _ => rfl
  repeat wp_step
  have hn : ((Manifest.find? "str").elim "str" fun x => x.tpName) = "str" := by decide +kernel
  rw [hn]
  have ht : Builtin.Str.tooLong 8 = false := by decide +kernel
  have hb : (spL8.cps.back? == some 0) = false := by decide +kernel
  have hp : Builtin.Float.parseFormatSpec spL8.cps.toList "str" 60 = .ok { align := 60, width := some 8 } := by rfl
  obtain ⟨o, hf, ho⟩ := field8 hx
  have hl := (pad_small hx).1
  rcases ho with ⟨rfl, e⟩ | rfl
  · split <;> rename_i heq <;> simp [hp, hf, ht, hb, bind, Except.bind, pure, Except.pure] at heq
    repeat wp_step
    rw [e]
    exact done _ _
  · split <;> rename_i heq <;> simp [hp, hf, ht, hb, bind, Except.bind, pure, Except.pure] at heq
    rw [← heq]
    repeat wp_step
    exact done _ _
theorem num_tl {a : Int} (h0 : 0 ≤ a) : TL.tl (numS a) = TL.numL a.natAbs := by
  have e : a = ((a.natAbs : Nat) : Int) := by omega
  rw [e]
  exact TL.tl_num _
theorem text5 {a : Int} (h0 : 0 ≤ a) : intSpecText { align := 62, width := some 5 } a = padL (numS a) := by
  have et : TL.tl (numS a) = (Nat.toDigits 10 a.natAbs).map Char.toNat := num_tl h0
  have ne : Nat.toDigits 10 a.natAbs ≠ [] := Nat.toDigits_ne_nil
  refine TL.ext_tl ?_
  unfold intSpecText intField' padL
  rw [et, len_tl8, et]
  generalize Nat.toDigits 10 a.natAbs = D at ne
  simp [TL.tl, ne, show ¬ a < 0 by omega]
theorem meets_i5 {a : Int} {t : Tok} (h0 : 0 ≤ a) (h1 : a < 10000) (u : Tok) : Meets (Builtin.«int.__format__» ⟨[.int a t, .str spR5 u], []⟩) (fun _ R s => ∀ t' k, R (.ok (.ret (.str (padL (numS a)) t'))) { s with toks := k }) := by
  intro prog w A R s done
  have hS : ∀ s : Shared, s.TypeIs (.str spR5 u) "str" := fun _ => rfl
  have hT : ∀ s : Shared, s.TypeIs (.int a t) "int" := fun _ => rfl
  have l4 : (TL.tl (numS a)).length ≤ 4 := by
    rw [num_tl h0]
    exact TL.numL_len (by decide) (by omega)
  have small : (padL (numS a)).length ≤ sizeLine := (pad_small (by rw [len_tl8]; omega)).2
  have go : ∀ X : Str, X = padL (numS a) → wpAny (model prog w) A.in1 (retStr X) (fun fin s' => match fin with | Fin.done f => R (Except.ok f) s' | Fin.again c' => c'.quiet = true ∧ codeAny (model prog w) A c' R s') (fun e s' => R (Except.error e) s') s := fun X e => PySem.W.KXf.ret_text e (by rw [e]; exact small) done
  repeat wp_step
  rw [if_pos (num_small h0 (by omega))]
  refine wpAny_pure ?_
  repeat kxf_if
  refine go _ (Eq.trans (b := intSpecText { align := 62, width := some 5 } a) ?_ (text5 h0))
  kernel_rfl
section
variable {X : Cx} {e : Expr} {te : TE} {pos p1 p2 : Pos} {j : Nat} {σ : L2.St} {H : Hp} {Q : VK}
/-- {x:<8} -/
def tFmt8 (te : TE) : TE := fun σ H Q => te σ H fun x H1 => ∃ y : Str, x = .str y ∧ y.length ≤ 8 ∧ Q (.str (padR y)) H1
theorem pe_fmt8 (he : PE X e te) : PE X (.FormattedValue e (-1) (some (.JoinedStr [.Constant (.str "<8") j p1] p2)) pos) (tFmt8 te) := by
  constructor
  intro pn s σ H Q inv h
  have hs : PE X (.JoinedStr [.Constant (.str "<8") j p1] p2) (tC (.str "<8")) := pe_joined1 pe_str
  refine wpAny_FormattedValue_spec (thn (he.run pn s σ H _ inv h) ?_)
  rintro v s1 ⟨x, H1, inv1, rx, y, rfl, le, q⟩
  obtain ⟨t, rfl⟩ := rx
  refine thn (hs.run pn s1 σ H1 (fun z H2 => z = .str "<8" ∧ H2 = H1) inv1 ⟨rfl, rfl⟩) ?_
  rintro r s2 ⟨_, H2, inv2, rr, rfl, rfl⟩
  obtain ⟨t2, rfl⟩ := rr
  exact ⟨_, t2, rfl, PySem.W.KXf.field_str (spec' := spL8) (by decide +kernel) rfl (by decide +kernel) (by decide +kernel) (fun u => meets_s8 le u) fun t' k => ⟨.str (padR y), H2, inv2.kept (t' := k) fun _ _ z => z, ⟨t', rfl⟩, q⟩⟩
/-- {n:>5} -/
def tFmt5 (te : TE) : TE := fun σ H Q => te σ H fun x H1 => ∃ i : Int, x = .int i ∧ 0 ≤ i ∧ i < 10000 ∧ Q (.str (padL (numS i))) H1
theorem pe_fmt5 (he : PE X e te) : PE X (.FormattedValue e (-1) (some (.JoinedStr [.Constant (.str ">5") j p1] p2)) pos) (tFmt5 te) := by
  constructor
  intro pn s σ H Q inv h
  have hs : PE X (.JoinedStr [.Constant (.str ">5") j p1] p2) (tC (.str ">5")) := pe_joined1 pe_str
  refine wpAny_FormattedValue_spec (thn (he.run pn s σ H _ inv h) ?_)
  rintro v s1 ⟨x, H1, inv1, rx, i, rfl, i0, i1, q⟩
  obtain ⟨t, rfl⟩ := rx
  refine thn (hs.run pn s1 σ H1 (fun z H2 => z = .str ">5" ∧ H2 = H1) inv1 ⟨rfl, rfl⟩) ?_
  rintro r s2 ⟨_, H2, inv2, rr, rfl, rfl⟩
  obtain ⟨t2, rfl⟩ := rr
  exact ⟨_, t2, rfl, PySem.W.KXf.field_int (spec' := spR5) (by decide +kernel) (by decide +kernel) (by decide +kernel) (fun u => meets_i5 i0 i1 u) fun t' k => ⟨.str (padL (numS i)), H2, inv2.kept (t' := k) fun _ _ z => z, ⟨t', rfl⟩, q⟩⟩
def Fm8 (Q : VK) : VK := fun x H1 => ∃ y : Str, x = .str y ∧ y.length ≤ 8 ∧ Q (.str (padR y)) H1
theorem g_fmt8 (h : te σ H (Fm8 Q)) : tFmt8 te σ H Q := h
theorem n_fmt8 {y : Str} (le : y.length ≤ 8) (h : Q (.str (padR y)) H) : Fm8 Q (.str y) H := ⟨y, rfl, le, h⟩
def Fm5 (Q : VK) : VK := fun x H1 => ∃ i : Int, x = .int i ∧ 0 ≤ i ∧ i < 10000 ∧ Q (.str (padL (numS i))) H1
theorem g_fmt5 (h : te σ H (Fm5 Q)) : tFmt5 te σ H Q := h
theorem n_fmt5 {i : Int} (i0 : 0 ≤ i) (i1 : i < 10000) (h : Q (.str (padL (numS i))) H) : Fm5 Q (.int i) H := ⟨i, rfl, i0, i1, h⟩
end
end HC
/-! tuple * n, n at least 1 -/
namespace HC
open PyProof.Rows PySem L2 PySem.Spec
/-- a tuple * 1 is itself -/
theorem tuple_once (l : Addr) (items : Array Value) (n : Nat) (dd : Option Addr) (sl : Array (Option Value)) (x : Int) (u : Tok) (big : (decide (x < -(2 ^ 63)) || decide (x ≥ 2 ^ 63)) = false) (once : (items.isEmpty || x == 1) = true) : Meets (Builtin.«tuple.__mul__» ⟨[.ref l, .int x u], []⟩) (fun _ R s => s.heap.get? l = some { cls := .type "tuple", dict := dd, data := .seq items n, slots := sl } ∧ R (.ok (.ret (.ref l))) s) := by
  refine .of_wp fun prog w A R sh owed => ?_
  rcases owed with ⟨there, done⟩
  rcases sh with ⟨heap, gens, drawn, toks, files⟩
  have ix := AutoSeq1.idx_int
  wp_walk using wpAny_loadPart' there
  refine wpAny_ite_false (decide_eq_false (fun e => by rw [big] at e; cases e)) ?_
  wp_walk using wpAny_loadPart' there
  exact ⟨_, rfl, done⟩
/-- tuple * n -/
def rRep1 (K : PySem.W.Frag) : R2 := fun x y H Q => ∃ l k xs, x = .ref l ∧ y = .int k ∧ SqT K H l xs ∧ xs ≠ [] ∧ 1 ≤ k ∧ k ≤ 1000 ∧ xs.length ≤ 1000 ∧ ∀ p H', Same H H' → SqT K H' p (List.replicate k.toNat xs).flatten → Q (.ref p) H'
theorem op_rep1 {X : Cx} : OpR X (binaryOp .Mult) (rRep1 X.K) := by
  rintro pn sh σ H _ _ v u Q inv rx ry ⟨l, k, xs, rfl, rfl, sq, some_, low, high, few, q⟩
  by_cases two : 2 ≤ k
  · exact op_repT pn sh σ H _ _ v u Q inv rx ry ⟨l, k, xs, rfl, rfl, sq, some_, two, high, few, fun p hp => q p _ (same_new hp) (SqT.of upd_same)⟩
  · obtain rfl : k = 1 := by omega
    cases rx
    obtain ⟨t, rfl⟩ := ry
    obtain ⟨its, _, ⟨ob, there, isT, n, items⟩, _⟩ := inv.tuple sq
    obtain ⟨cls, dd, data, sl⟩ := ob
    obtain rfl : cls = _ := isT
    obtain rfl : data = _ := items
    have again := q l H (Same.refl H) (by simpa using sq)
    refine wpAny_binaryOp_repeat_ref (U := "int") (T := "tuple") (by decide) ⟨_, there, rfl⟩ (typeIs_int · 1 t) noFill_tuple_mul F.fills_int_mul F.slot_int_rmul repeat_tuple F.slot_int_index.lookup ?_
    refine call_meets F.slot_int_rmul (typeIs_int sh 1 t) F.entry_int_rmul (F.args_int_rmul_2 _ _) (int_rmul_tuple 1 t l its.toArray n dd sl) ⟨there, rfl, ⟨_, there, rfl⟩, ?_⟩
    exact call_meets F.slot_tuple_mul ⟨_, there, rfl⟩ F.entry_tuple_mul (F.args_tuple_mul_2 _ _) (tuple_once l its.toArray n dd sl 1 t (by decide) (by simp)) ⟨there, .ref l, H, inv, rfl, again⟩
theorem op_rep1K {X : Cx} (K : PySem.W.Frag) (hK : X.K = K := by rfl) : OpR X (binaryOp .Mult) (rRep1 K) := by subst hK; exact op_rep1
theorem g_rep1 {K : PySem.W.Frag} {H : Hp} {Q : VK} {l : Addr} {k : Int} {x : V} (hT : SqT K H l [x]) (h1 : 1 ≤ k) (h2 : k ≤ 1000) (h : ∀ p H', Same H H' → SqT K H' p (List.replicate k.toNat x) → Q (.ref p) H') : rRep1 K (.ref l) (.int k) H Q :=
  ⟨l, k, [x], rfl, rfl, hT, by simp, h1, h2, by simp, fun p H' s hp => h p H' s (by simpa [List.flatten_replicate_singleton] using hp)⟩
end HC
/-! a tuple that was made by tuple(list): its object is told, so its methods can be called -/
namespace HC
open PyProof.Rows PySem L2 PySem.Spec
/-- a tuple whose object is known to bear no dict -/
def Bare (H : Hp) (a : Addr) (xs : List V) : Prop := ∃ o : Obj, H a = some (.frz o (.tup xs)) ∧ o.dict = none
theorem Bare.sq {K : PySem.W.Frag} {H : Hp} {a : Addr} {xs : List V} (h : Bare H a xs) : SqT K H a xs := let ⟨o, e, _⟩ := h; .inl (.inr ⟨o, e⟩)
theorem Bare.same {H H' : Hp} {a : Addr} {xs : List V} (e : Same H H') (h : Bare H a xs) : Bare H' a xs := let ⟨o, h1, h2⟩ := h; ⟨o, e _ _ h1, h2⟩
section
variable {X : Cx} {o e : Expr} {to te : TE} {apos cpos p pos : Pos}
def rTupleNew (K : PySem.W.Frag) : List V → Hp → VK → Prop := fun xs H Q => ∃ p ys, xs = [.ref p] ∧ SqL K H p ys ∧ ∀ l H', H l = none → Same H H' → Bare H' l ys → Q (.ref l) H'
theorem call_tuple_new : CallR X (.type "tuple") (rTupleNew X.K) := by
  rintro pn s σ H _ us Q inv rel ⟨p, ys, rfl, hq, q⟩
  obtain ⟨_, rfl, rfl⟩ := vals1 rel
  obtain ⟨its, rv, pl, hz⟩ := inv.list hq
  have fits : its.toArray.size ≤ sizeLine := by rw [List.size_toArray, ← rv.length]; exact hz
  refine call_tuple_list pl.isList (fun h1 kp => ?_) fits
  have step := inv.kept (t' := s.toks) kp
  have free := step.hok.fresh (Nat.le_refl _)
  refine ⟨.ref h1.objs.size, upd H h1.objs.size (.frz _ (.tup ys)), step.laid (t' := s.toks) (fun _ _ there => Heap.get?_push_of_some _ there) (Nat.le_refl _) ⟨Heap.get?_push_size _ rfl, hz, its, rv, IsTup.new _ _⟩, rfl, q _ _ free (same_new free) ⟨_, upd_same, rfl⟩⟩
theorem pe_tupNew (K : PySem.W.Frag) (m : Bts X.mg) (he : PE X e te) (hg : Gl X "tuple" := by rfl) (hs : starEach (e :: []) X.env = (false, eval e X.env) :: starEach [] X.env := by rfl) (hK : X.K = K := by rfl) : PE X (.Call (.Name "tuple" p) [e] [] pos) (tCB (rTupleNew K) (tCons te tNil)) := by
  subst hK
  exact pe_callTy call_tuple_new hg m.tuple bt_tuple (pa_cons he pa_nil hs) (by decide) (by decide) hs rfl
/-- t.index(x), t such a tuple of texts -/
def TIx (K : PySem.W.Frag) (te : TE) (σ : L2.St) (Q : VK) : VK := fun x H1 => ∃ a, ∃ ys : List Str, x = .ref a ∧ Bare H1 a (ys.map V.str) ∧ te σ H1 fun y H2 => ∃ z j, y = .str z ∧ SqT K H2 a (ys.map V.str) ∧ ys[j]? = some z ∧ (∀ m, m < j → ys[m]? ≠ some z) ∧ Q (.int (j : Nat)) H2
def tTupIx (K : PySem.W.Frag) (to te : TE) : TE := fun σ H Q => to σ H (TIx K te σ Q)
theorem g_tupIx {K : PySem.W.Frag} {σ : L2.St} {H : Hp} {Q : VK} (h : to σ H (TIx K te σ Q)) : tTupIx K to te σ H Q := h
theorem pe_tupIx (K : PySem.W.Frag) (ho : PE X o to) (ha : PE X e te) (own : attributeBase o "index" X.env (eval o X.env) = eval o X.env := by rfl)
    (few : ((backTo cpos (starEach [e] X.env)).all (fun x => !x.1) && (backToKw cpos (keywordEach [] X.env)).all (fun x => x.1.isSome) && decide ([e].length + ([] : List Keyword).length + (if ([] : List Keyword).isEmpty then 0 else 1) < 30)) = true := by rfl)
    (line : (apos.endLine == cpos.line) = true := by rfl) (star : starEach [e] X.env = (false, eval e X.env) :: starEach [] X.env := by rfl) (plain : (backTo cpos (starEach [e] X.env)).any (·.1) = false := by rfl) (hK : X.K = K := by rfl) : PE X (.Call (.Attribute o "index" apos) [e] [] cpos) (tTupIx K to te) := by
  subst hK
  constructor
  intro pn s σ H Q inv h
  refine wpAny_Call_method_late own few line rfl (thn (ho.run pn s σ H _ inv h) ?_)
  rintro v s1 ⟨x, H1, inv1, rel, a, ys, rfl, ⟨ob, at_, bare⟩, q⟩
  cases rel
  obtain ⟨there, _, its, _, ob', there', isT, _⟩ := inv1.hok a _ at_
  obtain rfl : ob = ob' := Option.some.inj (there.symm.trans there')
  have found : ∀ u s2 y H2, Inv X pn σ H2 s2 → RelV y u → (∃ z j, y = V.str z ∧ SqT X.K H2 a (ys.map V.str) ∧ ys[j]? = some z ∧ (∀ m, m < j → ys[m]? ≠ some z) ∧ Q (.int (j : Nat)) H2) → wpAny (model X.prog X.w) X.A (call (.builtin "tuple.index") ([.ref a] ++ [u]) []) (EP X pn σ Q) X.xe s2 := by
    rintro u s2 y H2 inv2 ry ⟨z, j, rfl, hT, hj, first, q2⟩
    exact mt_tup_index pn s2 σ H2 (.ref a) [.str z] _ [u] Q inv2 rfl (.cons ry .nil) ⟨a, ys, z, j, rfl, rfl, hT, hj, first, q2⟩
  refine ⟨"tuple", "tuple.index", F.plainAttrs_tuple, F.slot_tuple_index, F.type_tuple_index, ⟨ob, there, isT⟩, fun b eb => ?_, Calls.callWith_builtin plain ?_⟩
  · cases eb
    exact ⟨ob, there, bare⟩
  · have asked := one_arg (pos := cpos) (Q := fun us s2 => wpAny (model X.prog X.w) X.A (call (.builtin "tuple.index") ([.ref a] ++ us) []) (EP X pn σ Q) X.xe s2) ha inv1 q found star
    rw [star] at asked ⊢
    exact Calls.evalArgs_plain asked
theorem n_tupIx {K : PySem.W.Frag} {σ : L2.St} {H : Hp} {Q : VK} {a : Addr} {ys : List Str} (hb : Bare H a (ys.map V.str)) (h : te σ H fun y H2 => ∃ z j, y = .str z ∧ SqT K H2 a (ys.map V.str) ∧ ys[j]? = some z ∧ (∀ m, m < j → ys[m]? ≠ some z) ∧ Q (.int (j : Nat)) H2) : TIx K te σ Q (.ref a) H := ⟨a, ys, rfl, hb, h⟩
theorem g_tupNew {K : PySem.W.Frag} {H : Hp} {Q : VK} {p : Addr} {ys : List V} (h1 : SqL K H p ys) (h : ∀ l H', H l = none → Same H H' → Bare H' l ys → Q (.ref l) H') : rTupleNew K [.ref p] H Q := ⟨p, ys, rfl, h1, h⟩
end
end HC
namespace HC
open PyProof.Rows PySem L2 PySem.Spec
local macro_rules | `(tactic| walk_at "sm") => `(tactic| first | assumption | exact Same.refl _ | (refine Same.trans ?_ (by assumption); walk_at "sm"))
local macro_rules | `(tactic| walk_at "hp") => `(tactic| first
  | assumption | exact upd_same
  | ((with_reducible refine same_at (by assumption) ?_); walk_at "hp") | ((with_reducible refine same_t (by assumption) ?_); walk_at "hp") | ((with_reducible refine same_l (by assumption) ?_); walk_at "hp")
  | ((with_reducible refine Same.dp (by assumption) ?_); walk_at "hp") | ((with_reducible refine Same.dpa (by assumption) ?_); walk_at "hp")
  | ((with_reducible refine SqT.of ?_); walk_at "hp") | ((with_reducible refine SqL.of ?_); walk_at "hp"))
local macro_rules | `(tactic| walk_at "go1") => `(tactic| first
  | with_reducible refine g_seq ?_ | with_reducible refine g_asg ?_ | with_reducible refine g_op ?_ | ((with_reducible refine' g_var ?hv ?_); (case hv => exact rfl))
  | with_reducible refine g_c ?_ | with_reducible refine g_cons ?_ | with_reducible refine g_nil ?_ | with_reducible refine g_cb ?_ | with_reducible refine g_callR ?_
  | ((with_reducible refine' g_name ?hv ?_); (case hv => first | (simp only [List.set]; rfl) | (simp only [wipe, List.map, List.set]; rfl)))
  | with_reducible refine g_ret ?_ | with_reducible refine g_drop ?_ | with_reducible refine g_ifS ?_ | with_reducible refine g_test ?_ | with_reducible refine g_tB ?_ | with_reducible refine g_bl ?_
  | with_reducible refine g_add_i ?_ | with_reducible refine g_sub ?_ | with_reducible refine g_lt ?_ | with_reducible refine g_le ?_ | with_reducible refine g_gt ?_ | with_reducible refine g_ge ?_
  | with_reducible refine g_eq_i ?_ | with_reducible refine g_ne_i ?_ | with_reducible refine g_eq_s ?_ | with_reducible refine g_ne_s ?_ | with_reducible refine g_eq_b ?_ | with_reducible refine g_ne_b ?_ | with_reducible refine g_isN ?_ | with_reducible refine g_notN ?_
  | with_reducible refine g_and ?_ | with_reducible refine g_or ?_ | with_reducible refine g_not ?_ | with_reducible refine g_andV ?_ | with_reducible refine g_orV ?_ | with_reducible refine g_notV ?_ | with_reducible refine g_if ?_ | with_reducible refine g_chain ?_
  | with_reducible refine g_tup ?_ | with_reducible refine g_lst ?_ | with_reducible refine g_un ?_ | with_reducible refine g_next ?_
  | with_reducible refine g_bm ?_ | with_reducible refine g_bm0 ?_ | with_reducible refine g_m1 ?_ | with_reducible refine g_m0 ?_ | with_reducible refine g_tyS ?_ | with_reducible refine g_gsub ?_
  | with_reducible refine g_fld ?_ | with_reducible refine g_prop ?_ | with_reducible refine g_meth ?_ | with_reducible refine g_make ?_ | with_reducible refine g_star1 ?_ | with_reducible refine g_star ?_ | with_reducible refine g_sfld ?_
  | with_reducible refine g_forL ?_ | with_reducible refine g_forT ?_ | with_reducible refine g_forS ?_ | with_reducible refine g_forR1 ?_ | with_reducible refine g_forR2 ?_ | with_reducible refine g_forET ?_
  | with_reducible refine g_lcL ?_ | with_reducible refine g_lcT ?_ | with_reducible refine g_lcS ?_ | with_reducible refine g_lcR1 ?_ | with_reducible refine g_yes ?_ | with_reducible refine g_lcIfT ?_ | with_reducible refine g_lcIfF ?_
  | with_reducible refine g_isTT ?_ | with_reducible refine g_mkw ?_ | with_reducible refine g_lenSet ?_ | with_reducible refine g_mskw ?_
  | with_reducible refine g_gcons ?_ | with_reducible refine g_gnil ?_ | with_reducible refine g_sl ?_ | with_reducible refine g_noPart ?_ | with_reducible refine g_part ?_ | with_reducible refine g_partI ?_
  | with_reducible refine g_par ?_ | with_reducible refine g_par3 ?_ | ((with_reducible refine' n_par ?hv ?_); (case hv => (simp only [List.set]; rfl))) | ((with_reducible refine' n_par3 ?hv ?_); (case hv => (simp only [List.set]; rfl)))
  | ((with_reducible refine' g_aug ?hv ?_); (case hv => exact rfl)) | ((with_reducible refine' n_aug ?hv ?_); (case hv => (simp only [List.set]; rfl))) | with_reducible refine g_ipI ?_ | with_reducible refine g_rAdd ?_ | with_reducible refine g_rSub ?_ | with_reducible refine g_fldaug ?_
  | with_reducible refine g_ownIx ?_ | with_reducible refine g_callI ?_ | with_reducible refine g_listM ?_ | with_reducible refine g_fs ?_ | with_reducible refine g_fmt ?_ | with_reducible refine g_fmt8 ?_ | with_reducible refine g_fmt5 ?_ | with_reducible refine g_gthen ?_ | with_reducible refine g_gplain ?_ | with_reducible refine g_gif ?_ | with_reducible refine g_g0 ?_ | with_reducible refine g_gforR2 ?_
  | with_reducible refine g_dget ?_ | with_reducible refine g_dput ?_ | with_reducible refine g_neg ?_ | with_reducible refine g_abs ?_ | with_reducible refine g_min2 ?_ | with_reducible refine g_max2 ?_ | with_reducible refine g_int_i ?_ | with_reducible refine g_int_b ?_ | with_reducible refine g_in_sign ?_
  | ((with_reducible refine' g_mod ?hv ?_); (case hv => first | assumption | omega | decide)) | ((with_reducible refine' g_fdiv ?hv ?hw ?_); (case hv => first | assumption | omega | decide); (case hw => first | assumption | omega | decide))
  | ((with_reducible refine' g_mul ?hv ?_); (case hv => first | assumption | (unfold CMul; omega)))
  | ((with_reducible refine' g_ix_l ?hv ?hw ?_); (case hv => exact SqL.of (by walk_at "hp")); (case hw => first | exact atI_c0 | exact atI_c1 | exact atI_c2 | exact atI_c3))
  | ((with_reducible refine' g_tyL ?hv ?_); (case hv => exact SqL.of (by walk_at "hp")))
  | ((with_reducible refine' g_len_l ?hv ?_); (case hv => exact SqL.of (by walk_at "hp"))))
local macro_rules | `(tactic| walk_at "go") => `(tactic| repeat walk_at "go1")
section
variable {P : Program} {w : World} {K : PySem.W.Frag}
variable {mg : Str → Option Value} {base : Heap}
def top (i : Nat) : Stmt := PySem.Challenge.pw_harvestcarts_k59_whole_charts_of_worked.main.body.getD i (.Pass ⟨0, 0, 0, 0⟩)
structure Md (K : PySem.W.Frag) (mg : Str → Option Value) : Prop where
  b : Bts mg
  g_LETTERS : GStr mg "LETTERS" "abcdefghijklmnopqrstuvwxyz"
  g_DIGITS : GStr mg "DIGITS" "0123456789"
  g_LEAD : GStr mg "LEAD" "lead"
  g_NOBODY : GStr mg "NOBODY" "-"
  g_HARVEST : GStr mg "HARVEST" "harvest"
  g_WAIT : GStr mg "WAIT" "wait"
  g_MAX_LETTERS : GInt mg "MAX_LETTERS" 8
  g_MAX_DAY : GInt mg "MAX_DAY" 1000000000000000000
  g_MAX_DAYS : GInt mg "MAX_DAYS" 5000
  g_MAX_DIGITS : GInt mg "MAX_DIGITS" 4
  g_MAX_LIMIT : GInt mg "MAX_LIMIT" 30
  g_MAX_SHOWN : GInt mg "MAX_SHOWN" 60
  g_MAX_WAIT : GInt mg "MAX_WAIT" 1000
  k_Farm_MAX_FIELDS : GCon K mg "Farm" "MAX_FIELDS" (.int 6)
  k_Farm_MAX_STATES : GCon K mg "Farm" "MAX_STATES" (.int 4000)
abbrev FnD (K : PySem.W.Frag) (x q : Str) (st : Stmt) (f : Addr) (fd : FuncData) : Prop := FunD K x q (defArgs st) (defBody st) (defScope st) [] [] f fd
/-- a def of the module; a method; a property's getter -/
def Gd (K : PySem.W.Frag) (mg : Str → Option Value) (x : Str) (st : Stmt) : Prop := ∃ f fd, mg x = some (.ref f) ∧ FnD K x x st f fd
def Gm (K : PySem.W.Frag) (C : Addr) (m q : Str) (st : Stmt) : Prop := Cls K C ∧ ∃ f fd, Meth K C m f ∧ FnD K m q st f fd
def Gk (K : PySem.W.Frag) (mg : Str → Option Value) (x : Str) (C : Addr) (q : Str) (st : Stmt) : Prop := mg x = some (.ref C) ∧ ∃ f fd, Mk K C f ∧ FnD K "__init__" q st f fd
def Gp (K : PySem.W.Frag) (C : Addr) (f q : Str) (st : Stmt) : Prop := Cls K C ∧ ∃ p g fd, PropOf K C f p g ∧ FnD K f q st g fd
theorem def_mk {x : Str} {st : Stmt} {k : Nat} {sp : Sp} (G : Gd K mg x st) (h : ∀ f fd, FnD K x x st f fd → FnU P w K mg base k f sp) : DefR P w K mg base x k sp := by
  obtain ⟨f, fd, h1, h2⟩ := G
  exact ⟨f, h1, h2.kp, h f fd h2⟩
theorem meth_mk {C : Addr} {m q : Str} {st : Stmt} {k : Nat} {sp : Sp} (G : Gm K C m q st) (h : ∀ f fd, FnD K m q st f fd → FnR P w K mg base (CXW P w) k f sp) : MethR P w K mg base C m k sp := by
  obtain ⟨c, f, fd, h1, h2⟩ := G
  exact ⟨c, f, h1, h f fd h2⟩
theorem make_mk {x : Str} {C : Addr} {q : Str} {st : Stmt} {k : Nat} {sp : Sp} (G : Gk K mg x C q st) (h : ∀ f fd, FnD K "__init__" q st f fd → FnR P w K mg base (CXW P w) k f sp) : MakeR P w K mg base x C k sp := by
  obtain ⟨c, f, fd, h1, h2⟩ := G
  exact ⟨c, f, h1, h f fd h2⟩
theorem prop_mk {C : Addr} {f q : Str} {st : Stmt} {k : Nat} {sp : Sp} (G : Gp K C f q st) (h : ∀ g fd, FnD K f q st g fd → FnU P w K mg base k g sp) : PropR P w K mg base C f k sp := by
  obtain ⟨c, p, g, fd, h1, h2⟩ := G
  exact ⟨c, p, g, h1, h g fd h2⟩
/-- a class made by an __init__ with one keyword-only parameter -/
def GkK (K : PySem.W.Frag) (mg : Str → Option Value) (x : Str) (C : Addr) (q : Str) (st : Stmt) (kws : List (Str × V)) : Prop := mg x = some (.ref C) ∧ ∃ f fd, Mk K C f ∧ FunD K "__init__" q (defArgs st) (defBody st) (defScope st) [] kws f fd
theorem makeK_mk {x : Str} {C : Addr} {q kw : Str} {st : Stmt} {kws : List (Str × V)} {k : Nat} {sp : Sp} (G : GkK K mg x C q st kws) (h : ∀ f fd, FunD K "__init__" q (defArgs st) (defBody st) (defScope st) [] kws f fd → FnRK P w K mg base k f kw sp) : MakeRK P w K mg base x C k kw sp := by
  obtain ⟨c, f, fd, h1, h2⟩ := G
  exact ⟨c, f, h1, h f fd h2⟩
/-- a generator method -/
theorem methG_mk {C : Addr} {m q : Str} {st : Stmt} {k : Nat} {sp : SpG} (G : Gm K C m q st) (h : ∀ f fd, FnD K m q st f fd → ∃ ps, GFn P w K mg base k f fd ps sp ∧ Binds K fd ps []) : MethG P w K mg base C m k sp := by
  obtain ⟨c, f, fd, h1, h2⟩ := G
  obtain ⟨ps, h3, h4⟩ := h f fd h2
  exact ⟨c, f, fd, ps, h1, h3, h4⟩
/-- a def of K is a function there -/
theorem fi_of {C : Addr} {m q : Str} {st : Stmt} (G : Gm K C m q st) : ∀ f, Meth K C m f → PySem.W.fnIn K f = true := by
  obtain ⟨c, f, fd, h1, h2⟩ := G
  intro g hg
  have e : g = f := by
    have := hg.at_.symm.trans h1.at_
    simpa using this
  subst e
  obtain ⟨c1, c2, dv, kv, dc, pm, an, cdv, ct, sl, e, at_, _⟩ := h2.ex
  unfold PySem.W.fnIn
  rw [at_]
/-- tuples stand -/
def TK (K : PySem.W.Frag) (H H' : Hp) : Prop := ∀ a xs, SqT K H a xs → SqT K H' a xs
mutual
theorem dp_tk {H H' : Hp} (e : TK K H H') : ∀ (x : PyData) (v : V), noL x = true → Dp K H v x → Dp K H' v x
  | .none, _, _, .non => .non
  | .bool _, _, _, .bl b => .bl b
  | .int _, _, _, .int i => .int i
  | .str _, _, _, .str x => .str x
  | .list ds, _, n, .lst h a => by simp [noL] at n
  | .tuple ds, _, n, .tup h a => .tup (e _ _ h) (dpa_tk e ds _ (by simpa [noL] using n) a)
theorem dpa_tk {H H' : Hp} (e : TK K H H') : ∀ (xs : List PyData) (vs : List V), noLs xs = true → DpAll K H vs xs → DpAll K H' vs xs
  | [], _, _, .nil => .nil
  | x :: xs, _, n, .cons a b => by
    have n' : noL x = true ∧ noLs xs = true := by simpa [noLs] using n
    exact .cons (dp_tk e x _ n'.1 a) (dpa_tk e xs _ n'.2 b)
end
theorem Same.tk {H H' : Hp} (e : Same H H') : TK K H H' := fun _ _ h => same_t e h
theorem TK.trans {H H1 H2 : Hp} (a : TK K H H1) (b : TK K H1 H2) : TK K H H2 := fun c xs h => b c xs (a c xs h)
theorem keep_tk {H H' : Hp} {l : Addr} {ys : List V} (e : Keep l H H') (h : H l = some (.lst ys)) : TK K H H' := fun _ _ z => sqt_keep e h z
/-- all but the two addresses is as it was -/
def Keep2 (d l : Addr) (H H' : Hp) : Prop := ∀ b o, b ≠ d → b ≠ l → H b = some o → H' b = some o
/-- the source of draws at d, its cells at l -/
structure Src (K : PySem.W.Frag) (H : Hp) (d l : Addr) : Prop where
  ne : d ≠ l
  ex : ∃ (m i : Int) (ns : List Int), H d = some (.lst [.int m, .ref l, .int i]) ∧ H l = some (.lst (ns.map V.int)) ∧ 0 ≤ m ∧ m < 2147483647 ∧ 0 ≤ i ∧ ns.length ≤ 63
theorem Src.same {H H' : Hp} {d l : Addr} (e : Same H H') (h : Src K H d l) : Src K H' d l := by
  obtain ⟨ne, m, i, ns, h1, h2, h⟩ := h
  exact ⟨ne, m, i, ns, e _ _ h1, e _ _ h2, h⟩
/-- an address that was free while the source stood -/
structure Fr2 (d l p : Addr) : Prop where
  nd : p ≠ d
  nl : p ≠ l
theorem Src.fr {H : Hp} {d l p : Addr} (h : Src K H d l) (n : H p = none) : Fr2 d l p := by
  obtain ⟨ne, m, i, ns, h1, h2, h⟩ := h
  exact ⟨(ne_of_none h1 n).symm, (ne_of_none h2 n).symm⟩
theorem Src.keep {H H' : Hp} {d l p : Addr} (h : Src K H d l) (e : Keep p H H') (f : Fr2 d l p) : Src K H' d l := by
  obtain ⟨ne, m, i, ns, h1, h2, h⟩ := h
  exact ⟨ne, m, i, ns, e _ _ f.nd.symm h1, e _ _ f.nl.symm h2, h⟩
theorem Src.tk {H H' : Hp} {d l : Addr} (h : Src K H d l) (e : Keep2 d l H H') : TK K H H' := by
  obtain ⟨ne, m, i, ns, h1, h2, h⟩ := h
  intro a xs z
  refine z.imp (fun y => y.imp (fun q => e a _ (fun ad => ?_) (fun al => ?_) q) (fun ⟨o, q⟩ => ⟨o, e a _ (fun ad => ?_) (fun al => ?_) q⟩)) id
  · rw [ad, h1] at q; cases q
  · rw [al, h2] at q; cases q
  · rw [ad, h1] at q; cases q
  · rw [al, h2] at q; cases q
theorem Keep2.trans {d l : Addr} {H H1 H2 : Hp} (a : Keep2 d l H H1) (b : Keep2 d l H1 H2) : Keep2 d l H H2 := fun c o n1 n2 h => b c o n1 n2 (a c o n1 n2 h)
theorem Same.k2 {d l : Addr} {H H' : Hp} (e : Same H H') : Keep2 d l H H' := fun b o _ _ h => e b o h
theorem Keep2.refl (d l : Addr) (H : Hp) : Keep2 d l H H := fun _ _ _ _ h => h
/-- what stood before p was made stands when p changes -/
theorem Keep2.then {d l p : Addr} {H0 H H' : Hp} (a : Keep2 d l H0 H) (n : H0 p = none) (e : Keep p H H') : Keep2 d l H0 H' := fun b o n1 n2 h => e b o (ne_of_none h n) (a b o n1 n2 h)
theorem Keep2.free {d l p : Addr} {H0 H : Hp} (a : Keep2 d l H0 H) (f : Fr2 d l p) (n : H p = none) : H0 p = none := by
  cases e : H0 p with
  | none => rfl
  | some o =>
    have := a p o f.nd f.nl e
    rw [n] at this
    cases this

end
abbrev s_law_mix : Stmt := top 42
abbrev N_law_mix : List Str := ["_law_script", "_law_seed", "_law_state", "_law_cell"]
theorem sc_law_mix : FnScope N_law_mix ["_law_script", "_law_seed"] (defScope s_law_mix) := ⟨rfl, rfl, rfl, by decide +kernel, rfl, by decide +kernel, by decide +kernel⟩
abbrev s_law_next : Stmt := top 43
abbrev N_law_next : List Str := ["_law_h", "_law_limit", "_law_cell"]
theorem sc_law_next : FnScope N_law_next ["_law_h", "_law_limit"] (defScope s_law_next) := ⟨rfl, rfl, rfl, by decide +kernel, rfl, by decide +kernel, by decide +kernel⟩
section
variable {P : Program} {w : World} {K : PySem.W.Frag}
variable {mg : Str → Option Value} {base : Heap}
def sp_law_mix (K : PySem.W.Frag) : Sp := fun vs H Q _ => ∃ (a : Addr) (ns : List Int) (m : Int), vs = [.ref a, .int m] ∧ SqL K H a (ns.map V.int) ∧ ns.length ≤ 63 ∧ 0 ≤ m ∧ m < 2147483647 ∧ ∀ H' d l, Same H H' → H d = none → Src K H' d l → Q (.ref d) H'
theorem ok_law_mix (M : Md K mg) (G : Gd K mg "_law_mix" s_law_mix) : DefR P w K mg base "_law_mix" 2 (sp_law_mix K) := by
  refine def_mk G fun f fd F => fnr_mk (F.ok sc_law_mix ?_ (fun cdv A outer s H vs Q E hr h => ?_)) (F.bindsN (fun _ _ _ _ _ _ us hl => match us, hl with | [_, _], _ => rfl))
  · rintro vs H Q E ⟨a, ns, m, rfl, _⟩; rfl
  · obtain ⟨a, ns, m, rfl, hS, h63, m0, m1, k⟩ := h; have nd := sc_law_mix.nd
    refine ⟨_, PSs.nox (pss_cons (ps_set (i := 2) nd rfl (by first | exact Or.inl rfl | exact Or.inr rfl) (pv 1))
    (pss_cons (ps_for PassesOwn.never rfl (pi_listK K (pv 0)) (pg_name (i := 3) nd rfl (by first | exact Or.inl rfl | exact Or.inr rfl)) (pss_one (ps_set (i := 2) nd rfl (by first | exact Or.inl rfl | exact Or.inr rfl) (pe_op op_mod (pe_int1 M.b (pe_op (op_addK K) (pe_op (op_addK K) (pe_op op_mul (pv 2) pe_int) (pe_op op_mod (pe_int1 M.b (pv 3)) pe_int)) pe_int)) pe_int))))
    (pss_one (ps_ret (pe_lst (pa_cons (pv 2) (pa_cons (pe_listOf K M.b (pv 0)) (pa_cons pe_int pa_nil)))))))), ?_⟩
    show (_ : TS) _ [some (.ref a), some (.int m), none, none] H
    walk_at "go"
    refine n_forL hS (fun i σ H' => H' = H ∧ ∃ (y : Int) (c : Option V), σ = [some (.ref a), some (.int m), some (.int y), c] ∧ 0 ≤ y ∧ y < 2147483647) ⟨rfl, _, _, rfl, m0, m1⟩ (fun i σ H' ⟨e, _⟩ => e ▸ hS) ?_ ?_
    · rintro i x σ H' hx ⟨rfl, y, c, rfl, y0, y1⟩
      obtain ⟨z, hz, rfl⟩ : ∃ z, ns[i]? = some z ∧ V.int z = x := by simpa using hx
      walk_at "go"
      exact ⟨rfl, _, _, rfl, Int.emod_nonneg _ (by decide), Int.emod_lt_of_pos _ (by decide)⟩
    · rintro σ H' ⟨rfl, y, c, rfl, y0, y1⟩
      walk_at "go"
      refine g_listOf (.inl hS) fun l H1 nl s1 hl1 => ?_
      walk_at "go"
      refine n_lst (by simp [sizeLine_eq]) fun d H2 nd2 s2 hd => ?_
      exact k H2 d l (s1.trans s2) (s1.free nd2) ⟨(ne_of_none hl1 nd2).symm, y, 0, ns, hd, s2 _ _ hl1, y0, y1, by decide, h63⟩
def sp_law_next (K : PySem.W.Frag) : Sp := fun vs H Q _ => ∃ (d l : Addr) (n : Int), vs = [.ref d, .int n] ∧ Src K H d l ∧ 0 < n ∧ n < 1073741824 ∧ ∀ H' r, 0 ≤ r → r < n → Keep2 d l H H' → Src K H' d l → Q (.int r) H'
theorem ok_law_next (M : Md K mg) (G : Gd K mg "_law_next" s_law_next) : DefR P w K mg base "_law_next" 2 (sp_law_next K) := by
  refine def_mk G fun f fd F => fnr_mk (F.ok sc_law_next ?_ (fun cdv A outer s H vs Q E hr h => ?_)) (F.bindsN (fun _ _ _ _ _ _ us hl => match us, hl with | [_, _], _ => rfl))
  · rintro vs H Q E ⟨d, l, n, rfl, _⟩; rfl
  · obtain ⟨d, l, n, rfl, ⟨dl, m, i, ns, hd, hl, m0, m1, i0, h63⟩, n0, n1, k⟩ := h
    have nd := sc_law_next.nd
    refine ⟨_, PSs.nox (pss_cons (ps_set (i := 2) nd rfl (by first | exact Or.inl rfl | exact Or.inr rfl) (pe_ix (ix_K K) (pe_op (op_addK K) (pe_ix (ix_K K) (pv 0) pe_int (fun _ _ => rfl)) (pe_lst (pa_cons pe_int pa_nil))) (pe_op op_mod (pe_int1 M.b (pe_ix (ix_K K) (pv 0) pe_int (fun _ _ => rfl))) (pe_max2 M.b (pa_cons pe_int (pa_cons (pe_len K M.b (pe_ix (ix_K K) (pv 0) pe_int (fun _ _ => rfl))) pa_nil)))) (fun _ _ => rfl)))
    (pss_cons (ps_if (pt_cmpR op_ge (pv 2) (pe_op op_pow pe_int pe_int) (nomark _)) (pss_cons (ps_asg (pe_op op_fdiv (pv 2) (pv 1)) (pg_sub (pe_ix (ix_K K) (pv 0) pe_int (fun _ _ => rfl)) (pe_op op_mod (pe_int1 M.b (pe_ix (ix_K K) (pv 0) pe_int (fun _ _ => rfl))) (pe_len K M.b (pe_ix (ix_K K) (pv 0) pe_int (fun _ _ => rfl)))) set_list))
    (pss_one (ps_ret (pe_op op_mod (pe_int1 M.b (pv 2)) (pv 1))))) pss_nil)
    (pss_cons (ps_asg (pe_op op_mod (pe_int1 M.b (pe_op (op_addK K) (pe_op (op_addK K) (pe_op op_mul (pe_ix (ix_K K) (pv 0) pe_int (fun _ _ => rfl)) pe_int) (pe_op op_mul (pv 2) pe_int)) pe_int)) pe_int) (pg_sub (pv 0) pe_int set_list))
    (pss_cons (ps_asg (pe_op (op_addK K) (pe_ix (ix_K K) (pv 0) pe_int (fun _ _ => rfl)) pe_int) (pg_sub (pv 0) pe_int set_list))
    (pss_one (ps_ret (pe_op op_mod (pe_int1 M.b (pe_op op_fdiv (pe_ix (ix_K K) (pv 0) pe_int (fun _ _ => rfl)) pe_int)) (pv 1)))))))), ?_⟩
    show (_ : TS) _ [some (.ref d), some (.int n), none] H
    walk_at "go"
    refine n_lst (by simp [sizeLine_eq]) fun z H1 nz s1 hz => ?_
    have hd1 := s1 _ _ hd
    have hl1 := s1 _ _ hl
    refine g_add_l hl1 hz (by simp [sizeLine_eq]; omega) fun q H2 nq s2 hq => ?_
    have hd2 := s2 _ _ hd1
    have hl2 := s2 _ _ hl1
    walk_at "go"
    have mx : (0 : Int) < if ((ns.map V.int).length : Int) > 1 then ((ns.map V.int).length : Int) else 1 := by split <;> omega
    generalize hmx : (if ((ns.map V.int).length : Int) > 1 then ((ns.map V.int).length : Int) else 1) = mm at mx ⊢
    have hj0 := Int.emod_nonneg i (by omega : mm ≠ 0)
    have hj1 := Int.emod_lt_of_pos i mx
    have hmle : mm ≤ ns.length + 1 := by
      rw [← hmx, List.length_map]
      split <;> omega
    generalize i % mm = j at hj0 hj1 ⊢
    have hjl : j.toNat < (ns ++ [0]).length := by rw [List.length_append, List.length_singleton]; omega
    refine g_ix_l (v := .int (ns ++ [0])[j.toNat]) (SqL.of hq) (atI_i hj0 ?_) ?_
    · have e : ns.map V.int ++ [V.int 0] = (ns ++ [0]).map V.int := by simp
      rw [e, List.getElem?_map, List.getElem?_eq_getElem hjl]
      rfl
    have hc : j.toNat < ns.length ∨ (ns ++ [0])[j.toNat] = 0 := by
      by_cases z : j.toNat < ns.length
      · exact .inl z
      · refine .inr ?_
        rw [List.getElem_append_right (by omega)]
        simp
    generalize (ns ++ [0])[j.toNat] = cell at hc ⊢
    walk_at "go"
    refine g_pow (by unfold CPow; decide) ?_
    walk_at "go"
    refine if_D (fun e => ?_) (fun e => ?_)
    · have lt : j.toNat < ns.length := hc.resolve_right fun z => by rw [z] at e; exact absurd e (by decide)
      have ln : (0 : Int) < ((ns.map V.int).length : Int) := by rw [List.length_map]; omega
      walk_at "go"
      have r0 := Int.emod_nonneg i (by omega : ((ns.map V.int).length : Int) ≠ 0)
      have r1 := Int.emod_lt_of_pos i ln
      refine g_setL (j := (i % ((ns.map V.int).length : Int)).toNat) hl2 (ixN_i r0 r1) fun H3 k3 hl3 => ?_
      walk_at "go"
      refine k H3 _ (Int.emod_nonneg _ (by omega)) (Int.emod_lt_of_pos _ n0) (fun b o nb nl hb => k3 _ _ nl (s2 _ _ (s1 _ _ hb))) ⟨dl, m, i, ns.set (i % ((ns.map V.int).length : Int)).toNat (cell / n), k3 _ _ dl hd2, ?_, m0, m1, i0, by simpa using h63⟩
      rw [hl3, List.map_set]
    · walk_at "go"
      refine g_setL (j := 0) hd2 (ixN_i (by decide) (by simp)) fun H3 k3 hd3 => ?_
      have hd3' : H3 d = some (.lst [.int ((m * 48271 + cell * 69621 + 11) % 2147483647), .ref l, .int i]) := hd3
      walk_at "go"
      refine g_setL (j := 2) hd3' (ixN_i (by decide) (by simp)) fun H4 k4 hd4 => ?_
      have hd4' : H4 d = some (.lst [.int ((m * 48271 + cell * 69621 + 11) % 2147483647), .ref l, .int (i + 1)]) := hd4
      walk_at "go"
      exact k H4 _ (Int.emod_nonneg _ (by omega)) (Int.emod_lt_of_pos _ n0) (fun b o nb nl hb => k4 _ _ nb (k3 _ _ nb (s2 _ _ (s1 _ _ hb)))) ⟨dl, _, _, ns, hd4', k4 _ _ dl.symm (k3 _ _ dl.symm hl2), Int.emod_nonneg _ (by decide), Int.emod_lt_of_pos _ (by decide), by omega, h63⟩

end
section
variable {P : Program} {w : World} {K : PySem.W.Frag}
variable {mg : Str → Option Value} {base : Heap}
/-! ### plain mathematics of farms -/
abbrev pField (f : Str × Int) : PyData := .tuple [.str f.1, .int f.2]
def NmOk (z : Str) : Prop := 1 ≤ z.cps.toList.length ∧ z.cps.toList.length ≤ 8 ∧ ∀ c ∈ z.cps.toList, 97 ≤ c ∧ c ≤ 122
instance (z : Str) : Decidable (NmOk z) := by unfold NmOk; infer_instance
def prodL (l : List Int) : Int := l.foldl (· * ·) 1
theorem prodL_snoc (l : List Int) (x : Int) : prodL (l ++ [x]) = prodL l * x := by simp [prodL]
structure FOk (fs : List (Str × Int)) : Prop where
  one : 1 ≤ fs.length
  six : fs.length ≤ 6
  nd : (fs.map (·.1)).Nodup
  nm : ∀ f ∈ fs, NmOk f.1
  lo : ∀ f ∈ fs, 1 ≤ f.2 ∧ f.2 ≤ 30
  pr : prodL (fs.map (·.2)) ≤ 4000
theorem NmOk.str {z : Str} (h : NmOk z) : PyData.strOk z = true := by
  unfold PyData.strOk
  rw [← Array.all_toList]
  exact List.all_eq_true.mpr fun c hc => decide_eq_true (by have := (h.2.2 c hc).2; omega)
def six : List Str := ["a", "bo", "carl", "dora", "ella", "hannahhh"]
theorem six_nm : ∀ z ∈ six, NmOk z := by decide +kernel
theorem six_nd : six.Nodup := by decide +kernel
/-- the bytes of a farm -/
def lets (z : Str) : List Int := z.cps.toList.map fun (c : Nat) => ((c - 97 : Nat) : Int)
def encF (f : Str × Int) : List Int := [f.2, (f.1.cps.toList.length : Int)] ++ lets f.1
def bodyOf (fs : List (Str × Int)) : List Int := [72, (fs.length : Int)] ++ fs.flatMap encF
def cks (l : List Int) : Int := l.foldl (fun t v => (3 * t + v) % 233) 5
def bytesOf (fs : List (Str × Int)) : List Int := bodyOf fs ++ [cks (bodyOf fs)]
theorem cks_snoc (l : List Int) (x : Int) : cks (l ++ [x]) = (3 * cks l + x) % 233 := by simp [cks]
theorem cks_lo : ∀ l : List Int, 0 ≤ cks l ∧ cks l < 233 := fun l => by
  rcases List.eq_nil_or_concat l with rfl | ⟨r, x, rfl⟩
  · decide
  · rw [List.concat_eq_append, cks_snoc]; exact ⟨Int.emod_nonneg _ (by decide), Int.emod_lt_of_pos _ (by decide)⟩
def ALPH : Str := "abcdefghijklmnopqrstuvwxyz"
theorem alph_occ : ∀ k : Fin 26, Builtin.Str.occurrences ALPH ⟨#[97 + k.val]⟩ 0 ALPH.length 1 = [k.val] := by decide +kernel
theorem alph_ix {c : Nat} (h1 : 97 ≤ c) (h2 : c ≤ 122) : Builtin.Str.occurrences ALPH ⟨#[c]⟩ 0 ALPH.length 1 = [c - 97] := by
  have := alph_occ ⟨c - 97, by omega⟩
  simpa [show 97 + (c - 97) = c by omega] using this
theorem alph_mem {c : Nat} (h1 : 97 ≤ c) (h2 : c ≤ 122) : c ∈ ALPH.cps.toList := by
  have h : ∀ k : Fin 26, 97 + k.val ∈ ALPH.cps.toList := by decide +kernel
  have := h ⟨c - 97, by omega⟩
  simpa [show 97 + (c - 97) = c by omega] using this
theorem alph_at : ∀ k : Fin 26, ALPH.cps.toList[k.val]? = some (97 + k.val) := by decide +kernel
theorem noL_fields (fs : List (Str × Int)) : noLs (fs.map pField) = true := noLs_of fun d hd => by
  obtain ⟨f, _, rfl⟩ := List.mem_map.mp hd
  simp [pField, noL, noLs]
theorem sh_field {f : Str × Int} (h : NmOk f.1) : Sh 1 (pField f) := sh_t fun d hd => by
  have : d = .str f.1 ∨ d = .int f.2 := by simpa using hd
  rcases this with rfl | rfl
  · exact sh_s h.str
  · exact sh_i _
theorem sh_fields {fs : List (Str × Int)} (h : ∀ f ∈ fs, NmOk f.1) : Sh 2 (.tuple (fs.map pField)) := sh_t fun d hd => by
  obtain ⟨f, hf, rfl⟩ := List.mem_map.mp hd
  exact sh_field (h f hf)

end
abbrev s_is_name : Stmt := top 15
abbrev N_is_name : List Str := ["name", "letter"]
theorem sc_is_name : FnScope N_is_name ["name"] (defScope s_is_name) := ⟨rfl, rfl, rfl, by decide +kernel, rfl, by decide +kernel, by decide +kernel⟩
section
variable {P : Program} {w : World} {K : PySem.W.Frag}
variable {mg : Str → Option Value} {base : Heap}
theorem alph_iff (c : Nat) : c ∈ ALPH.cps.toList ↔ 97 ≤ c ∧ c ≤ 122 := by
  have e : ALPH.cps.toList = (List.range 26).map (fun k => 97 + k) := by decide +kernel
  rw [e, List.mem_map]; simp only [List.mem_range]
  constructor
  · rintro ⟨k, h, rfl⟩; omega
  · intro h; exact ⟨c - 97, by omega, by omega⟩
theorem inV_strs (z : Str) (zs : List Str) : inV (.str z) (zs.map V.str) = decide (z ∈ zs) := by
  unfold inV
  induction zs with
  | nil => rfl
  | cons a r ih =>
    rw [List.map_cons, List.any_cons, ih]
    have h1 : eqV (.str a) (.str z) = decide (a = z) := by
      show (a == z) = decide (a = z)
      exact Bool.beq_eq_decide_eq a z
    rw [h1]
    by_cases h : a = z
    · subst h; simp
    · have h' : ¬ z = a := fun q => h q.symm
      simp [h, h']
theorem flat_strs (zs : List Str) : (zs.map V.str).all flatV = true := by
  rw [List.all_eq_true]; intro x hx; obtain ⟨z, _, rfl⟩ := List.mem_map.mp hx; rfl
def sp_is_name : Sp := fun vs H Q _ => ∃ z : Str, vs = [.str z] ∧ z.length ≤ sizeLine ∧ ∀ H', Same H H' → Q (.bl (decide (NmOk z))) H'
theorem ok_is_name (M : Md K mg) (G : Gd K mg "is_name" s_is_name) : DefR P w K mg base "is_name" 2 sp_is_name := by
  refine def_mk G fun f fd F => fnr_mk (F.ok sc_is_name ?_ (fun cdv A outer s H vs Q E hr h => ?_)) (F.bindsN (fun _ _ _ _ _ _ us hl => match us, hl with | [_], _ => rfl))
  · rintro vs H Q E ⟨z, rfl, _⟩; rfl
  · obtain ⟨z, rfl, hz, k⟩ := h
    have nd := sc_is_name.nd
    have ez : z.length = z.cps.toList.length := by unfold Str.length; simp
    refine ⟨_, PSs.nox (pss_one (ps_ret (pe_and (pe_chain op_le op_le pe_int (pe_len K M.b (pv 0)) (pe_gi M.g_MAX_LETTERS)) (pe_one (pe_all K M.b (pe_lc (own := [("letter", 1)]) (g := (gName 1)) (tt := tYes) rfl nd (pi_str (pv 0)) (blkOk_by (N := N_is_name) (sc := defScope s_is_name) (by decide +kernel)) (fun _ _ _ _ _ => (pg_name (i := 1) nd rfl (by first | exact Or.inl rfl | exact Or.inr rfl))) (fun _ _ _ _ _ => pts_nil) (fun _ _ _ _ _ => (pe_cmpR (op_inK K hr) (pv 1) (pe_gs M.g_LETTERS) rfl)))))))), ?_⟩
    show (_ : TS) _ [some (.str z), none] H
    walk_at "go"
    refine g_len_s hz ?_
    walk_at "go"
    refine g_ch (fun h1 => ?_) (fun h1 => ?_)
    · walk_at "go"
      refine if_D (fun h2 => ?_) (fun h2 => ?_)
      · walk_at "go"
        have h1' : (1 : Int) ≤ z.length := of_decide_eq_true h1
        have b8 : z.cps.size ≤ 8 := by have := ez; simp [Str.length] at h2 this ⊢; omega
        refine n_lcS (lc_map (walk_str (z := z)) (fun j => .bl (decide (z.cps.toList.getD j 0 ∈ ALPH.cps.toList))) (fun _ _ => trivial) ?_ ?_)
        · rintro C j x H5 H6 nC hj s5 hC ⟨e, c, hc, ex⟩
          subst e ex
          walk_at "go"
          refine ⟨rfl, ?_⟩
          walk_at "go"
          exact n_mapK nC s5 hC (by rw [getD_of (cps_get hc)]; rfl) (by omega)
        · intro C H5 nC s5 hC
          have e1 : (List.range z.cps.size).map (fun j => V.bl (decide (z.cps.toList.getD j 0 ∈ ALPH.cps.toList))) = (z.cps.toList.map fun c => decide (c ∈ ALPH.cps.toList)).map V.bl := by
            rw [← Array.length_toList, range_getD z.cps.toList 0 fun c => V.bl (decide (c ∈ ALPH.cps.toList))]
            simp [Function.comp_def]
          rw [e1] at hC
          walk_at "go"
          refine g_all (SqL.of hC) ?_
          have e2 : (z.cps.toList.map fun c => decide (c ∈ ALPH.cps.toList)).all id = decide (NmOk z) := by
            rw [Bool.eq_iff_iff, decide_eq_true_eq, List.all_map, List.all_eq_true]
            unfold NmOk
            constructor
            · intro h
              refine ⟨by rw [← ez]; omega, by rw [← ez]; omega, fun c hc => (alph_iff c).mp ?_⟩
              have := h c hc
              simpa using this
            · intro h c hc
              have := (alph_iff c).mpr (h.2.2 c hc)
              simpa using this
          rw [e2]
          exact k H5 s5
      · have e2 : decide (NmOk z) = false := decide_eq_false fun h => h2 (by rw [ez]; have := h.2.1; omega)
        have := k H (Same.refl H)
        rw [e2] at this
        exact this
    · have h1' : ¬ (1 : Int) ≤ z.length := of_decide_eq_false h1
      have e2 : decide (NmOk z) = false := decide_eq_false fun h => h1' (by rw [ez]; have := h.1; omega)
      walk_at "go"
      refine if_F rfl ?_
      have := k H (Same.refl H)
      rw [e2] at this
      exact this

end
abbrev s_Farm___init__ : Stmt := inClass (top 16) 2
abbrev N_Farm___init__ : List Str := ["self", "fields", "states", "index", "name", "limit", "earlier", "other"]
theorem sc_Farm___init__ : FnScope N_Farm___init__ ["self", "fields"] (defScope s_Farm___init__) := ⟨rfl, rfl, rfl, by decide +kernel, rfl, by decide +kernel, by decide +kernel⟩
abbrev s_Farm_fields : Stmt := inClass (top 16) 4
abbrev N_Farm_fields : List Str := ["self"]
theorem sc_Farm_fields : FnScope N_Farm_fields ["self"] (defScope s_Farm_fields) := ⟨rfl, rfl, rfl, by decide +kernel, rfl, by decide +kernel, by decide +kernel⟩
abbrev s_Farm___len__ : Stmt := inClass (top 16) 8
abbrev N_Farm___len__ : List Str := ["self"]
theorem sc_Farm___len__ : FnScope N_Farm___len__ ["self"] (defScope s_Farm___len__) := ⟨rfl, rfl, rfl, by decide +kernel, rfl, by decide +kernel, by decide +kernel⟩
section
variable {P : Program} {w : World} {K : PySem.W.Frag}
variable {mg : Str → Option Value} {base : Heap}
/-- what the text says of the class Farm -/
structure FarmC (K : PySem.W.Frag) (CF : Addr) : Prop where
  cl : Cls K CF
  rows : NoAttr K CF "rows"
def farmFs (t : Addr) : List (Str × V) := [("rows", .ref t)]
def FarmAt (K : PySem.W.Frag) (CF : Addr) (H : Hp) (p : Addr) (fs : List (Str × Int)) : Prop := ∃ dx t, H p = some (.ins CF dx (farmFs t)) ∧ Dp K H (.ref t) (.tuple (fs.map pField))
variable {CF : Addr}
def sp_farm_init0 (K : PySem.W.Frag) (CF : Addr) : Sp := fun vs H Q _ => ∃ (x dx t : Addr) (fs : List (Str × Int)), vs = [.ref x, .ref t] ∧ H x = some (.ins CF dx []) ∧ Dp K H (.ref t) (.tuple (fs.map pField)) ∧ FOk fs ∧
  ∀ H', Keep x H H' → H' x = some (.ins CF dx (farmFs t)) → Q .non H'
def sp_farm_init (K : PySem.W.Frag) (CF : Addr) : Sp := fun vs H Q E => ∃ w0 rest, vs = w0 :: rest ∧ rest.length ≤ sizeLine ∧ ∀ p, H p = none → sp_farm_init0 K CF [w0, V.ref p] (upd H p (.tup rest)) Q E
theorem nodup_take {fs : List (Str × Int)} {i : Nat} {f : Str × Int} (h : (fs.map (·.1)).Nodup) (hf : fs[i]? = some f) : f.1 ∉ (fs.take i).map (·.1) := by
  intro hm
  rw [List.map_take] at hm
  obtain ⟨j, hj, e⟩ := List.mem_iff_getElem.mp hm
  simp at hj
  have h1 : (fs.map (·.1))[j]? = some f.1 := by
    rw [List.getElem?_eq_getElem (by simp; omega)]
    congr 1
    simpa using e
  have h2 : (fs.map (·.1))[i]? = some f.1 := by rw [List.getElem?_map, hf]; rfl
  have := nd_ix h h1 h2
  omega
theorem prod_take {fs : List (Str × Int)} (lo : ∀ f ∈ fs, 1 ≤ f.2 ∧ f.2 ≤ 30) : ∀ i, 1 ≤ prodL ((fs.take i).map (·.2)) ∧ prodL ((fs.take i).map (·.2)) ≤ 30 ^ i
  | 0 => by simp [prodL]
  | i + 1 => by
    have ih := prod_take lo i
    cases h : fs[i]? with
    | none =>
      have hl : fs.length ≤ i := List.getElem?_eq_none_iff.mp h
      rw [List.take_of_length_le (by omega)]
      rw [List.take_of_length_le hl] at ih
      refine ⟨ih.1, Int.le_trans ih.2 ?_⟩
      rw [Int.pow_succ]
      have : (0 : Int) ≤ 30 ^ i := Int.pow_nonneg (by decide)
      omega
    | some f =>
      have hf := lo f (List.mem_of_getElem? h)
      rw [List.take_add_one, h]
      simp only [Option.toList_some, List.map_append, List.map_cons, List.map_nil, prodL_snoc]
      constructor
      · have : 1 * 1 ≤ prodL ((fs.take i).map (·.2)) * f.2 := Int.mul_le_mul ih.1 hf.1 (by decide) (by omega)
        omega
      · rw [Int.pow_succ]
        exact Int.mul_le_mul ih.2 hf.2 (by omega) (Int.pow_nonneg (by decide))
theorem ok_farm_init (M : Md K mg) (C : FarmC K CF) (G : Gk K mg "Farm" CF "Farm.__init__" s_Farm___init__) (D_is_name : DefR P w K mg base "is_name" 2 sp_is_name) : MakeR P w K mg base "Farm" CF 4 (sp_farm_init K CF) := by
  refine make_mk G fun f fd F => fnr_star1 F sc_Farm___init__ (fun _ _ _ _ _ _ _ => rfl) (fun _ _ _ _ _ _ _ _ _ => rfl) (fun cdv A outer s H vs Q E hr h => ?_)
  obtain ⟨x, dx, t, fs, rfl, hx, hv, ok, k⟩ := h
  obtain ⟨t', xs, e, hS, hX⟩ := hv.inv_t
  cases e
  have hxl : xs.length = fs.length := by rw [hX.length]; simp
  have nd := sc_Farm___init__.nd
  refine ⟨_, PSs.nox (pss_cons (ps_if (pt_cmpR (op_eqK K hr) (pv 1) (pe_tup pa_nil) (nomark _)) (pss_one ps_never) pss_nil)
    (pss_cons (ps_set (i := 2) nd rfl (by first | exact Or.inl rfl | exact Or.inr rfl) pe_int)
    (pss_cons (ps_for PassesOwn.never rfl (pi_enumTK K rfl M.b.enumerate (pa_cons (pv 1) pa_nil)) (pg_tupK K rfl (pgs_cons (pg_name (i := 3) nd rfl (by first | exact Or.inl rfl | exact Or.inr rfl)) (pgs_cons (pg_tupK K rfl (pgs_cons (pg_name (i := 4) nd rfl (by first | exact Or.inl rfl | exact Or.inr rfl)) (pgs_cons (pg_name (i := 5) nd rfl (by first | exact Or.inl rfl | exact Or.inr rfl)) pgs_nil))) pgs_nil))) (pss_cons (ps_setLc (i := 6) (own := [("other", 7)]) (g := (gName 7)) (tt := tYes) rfl nd rfl rfl (sw_true rfl rfl rfl (by decide +kernel)) (pi_tupK K (pe_slice (sl_tupK K) (pv 1) po_none (po_some (pv 3)))) (blkOk_by (N := N_Farm___init__) (sc := defScope s_Farm___init__) (by decide +kernel)) (fun _ _ _ _ _ => (pg_name (i := 7) nd rfl (by first | exact Or.inl rfl | exact Or.inr rfl))) (fun _ _ _ _ _ => pts_nil) (fun _ _ _ _ _ => (pe_ix (ix_K K) (pv 7) pe_int (fun _ _ => rfl))))
    (pss_cons (ps_if (PW.pt (pw_or (pt_cmpR (op_eqK K hr) (pv 3) (pe_gcon M.k_Farm_MAX_FIELDS) (nomark _)) (pw_or (pt_not (pt_val (pe_callR D_is_name (hr.mono (by first | decide | omega)) passN (pa_cons (pv 4) pa_nil)))) (pw_or (pt_not (pt_chain op_le op_le pe_int (pv 5) (pe_gi M.g_MAX_LIMIT))) (pw_or1 (pt_cmpR (op_inK K hr) (pv 4) (pv 6) rfl)))))) (pss_one ps_never) pss_nil)
    (pss_one (ps_set (i := 2) nd rfl (by first | exact Or.inl rfl | exact Or.inr rfl) (pe_op op_mul (pv 2) (pv 5)))))))
    (pss_cons (ps_if (pt_cmpR op_gt (pv 2) (pe_gcon M.k_Farm_MAX_STATES) (nomark _)) (pss_one ps_never) pss_nil) (pss_one (ps_fldK K (pv 0) (pv 1))))))), ?_⟩
  show (_ : TS) _ [some (.ref x), some (.ref t), none, none, none, none, none, none] H
  walk_at "go"
  refine n_tup (by simp) fun e H1 ne s1 he => ?_
  refine g_eq_d (.tuple (fs.map pField)) (.tuple []) (s1.dp hv) (dp_tup he .nil) ((sh_fields ok.nm).ok (by decide)) (Sh.ok (n := 1) (sh_t fun x hx => by cases hx) (by decide)) ?_
  rw [eqv_nilT]
  have en : (fs.map pField).isEmpty = false := by
    cases fs with
    | nil => have := ok.one; simp at this
    | cons f r => rfl
  rw [en]
  walk_at "go"
  refine if_F rfl ?_
  walk_at "go"
  refine n_forET (same_t s1 hS) (fun i σ H' => ∃ u1 u2 u3 u4 u5 : Option V, σ = [some (.ref x), some (.ref t), some (.int (prodL ((fs.take i).map (·.2)))), u1, u2, u3, u4, u5] ∧ Same H H') ⟨_, _, _, _, _, rfl, s1⟩ (fun i σ H' ⟨_, _, _, _, _, _, s2⟩ => same_t s2 hS) ?_ ?_
  · rintro i y T σ H2 H3 hy ⟨u1, u2, u3, u4, u5, rfl, s2⟩ nT s3 hT
    have hi6 : i < 6 := by
      have := (List.getElem?_eq_some_iff.mp hy).1
      have := ok.six
      omega
    obtain ⟨dd, hd, hDx⟩ := hX.get hy
    obtain ⟨fi, hfi, rfl⟩ : ∃ fi, fs[i]? = some fi ∧ pField fi = dd := by simpa using hd
    have fm : fi ∈ fs := List.mem_of_getElem? hfi
    obtain ⟨t2, ys, rfl, hT2, hY⟩ := ((s2.trans s3).dp hDx).inv_t
    obtain ⟨v1, v2, rfl, hv1, hv2⟩ := hY.inv2
    obtain rfl := hv1.inv_s
    obtain rfl := hv2.inv_i
    refine g_gtup (SqT.of hT) rfl ?_
    walk_at "go"
    refine g_gtup hT2 rfl ?_
    walk_at "go"
    have sA := s2.trans s3
    refine g_slT (same_t sA hS) fun p4 H4 s4 hp4 => ?_
    rw [cutV_to] at hp4
    walk_at "go"
    have hXt : DpAll K H4 (xs.take i) ((fs.take i).map pField) := by
      rw [List.map_take]
      exact dpa_take i ((sA.trans s4).dpa hX)
    refine n_lcT hp4 (lc_map (walk_tup (xs := xs.take i)) (fun j => .str ((fs.getD j ("", 0)).1)) (fun H5 s5 => same_t s5 hp4) ?_ ?_)
    · rintro C j y H5 H6 nC hj s5 hC ⟨e, hyj⟩
      subst e
      obtain ⟨dj, hdj, hDj⟩ := (s5.dpa hXt).get hyj
      obtain ⟨fj, hfj, rfl⟩ := getm hdj
      obtain ⟨t3, zs, rfl, hT3, hZ⟩ := hDj.inv_t
      obtain ⟨w1, w2, rfl, hw1, hw2⟩ := hZ.inv2
      obtain rfl := hw1.inv_s
      have hjl : j < xs.length := by simp at hj; omega
      have hfj' : fs[j]? = some fj := by
        rw [List.getElem?_take] at hfj
        split at hfj
        · exact hfj
        · cases hfj
      walk_at "go"
      refine ⟨rfl, ?_⟩
      walk_at "go"
      refine g_ix_t hT3 atI_c0 ?_
      have := ok.six
      exact n_mapK nC s5 hC (by rw [getD_of hfj'])
    · intro C5 H5 nC s5 hC
      have e1 : (List.range (xs.take i).length).map (fun j => V.str ((fs.getD j ("", 0)).1)) = ((fs.take i).map (·.1)).map V.str := by
        have el : (xs.take i).length = (fs.take i).length := by simp [hxl]
        rw [el, List.map_map]
        refine Eq.trans ?_ (range_getD (fs.take i) ("", 0) fun f : Str × Int => V.str f.1)
        apply List.map_congr_left
        intro j hj
        have hj' : j < i ∧ j < fs.length := by simp at hj; omega
        simp [List.getD, List.getElem?_take, hj'.1]
      rw [e1] at hC
      walk_at "go"
      refine if_D (fun e => absurd e (by omega)) (fun _ => ?_)
      walk_at "go"
      refine ⟨fi.1, rfl, ?_, fun H6 s6 => ?_⟩
      · have := (ok.nm fi fm).2.1
        rw [Str.length, ← Array.length_toList, sizeLine_eq]; omega
      rw [decide_eq_true (ok.nm fi fm)]
      walk_at "go"
      refine if_F rfl ?_
      walk_at "go"
      have hb := ok.lo fi fm
      refine g_ch (fun _ => ?_) (fun e => absurd hb.1 (of_decide_eq_false e))
      walk_at "go"
      refine if_F (by rw [decide_eq_true hb.2]; rfl) ?_
      walk_at "go"
      refine g_in_seq (.inl (SqL.of (s6 _ _ hC))) rfl (flat_strs _) ?_
      rw [inV_strs, decide_eq_false (nodup_take ok.nd hfi)]
      walk_at "go"
      refine if_F rfl ?_
      have hp := prod_take ok.lo i
      walk_at "go"
      have ep : prodL ((fs.take i).map (·.2)) * fi.2 = prodL ((fs.take (i + 1)).map (·.2)) := by
        rw [List.take_add_one, hfi]
        simp only [Option.toList_some, List.map_append, List.map_cons, List.map_nil, prodL_snoc]
      rw [ep]
      exact ⟨_, _, _, _, _, rfl, sA.trans (s4.trans (s5.trans s6))⟩
  · rintro σ H2 ⟨u1, u2, u3, u4, u5, rfl, s2⟩
    rw [hxl, List.take_length]
    walk_at "go"
    refine if_D (fun e => absurd e (by have := ok.pr; omega)) (fun _ => ?_)
    walk_at "go"
    refine n_sfld (s2 _ _ hx) C.cl C.rows (by show 0 < 1000; decide) fun H3 k3 h3 => ?_
    exact k H3 (fun b o nb hb => k3 _ _ nb (s2 _ _ hb)) h3
def sp_farm_fields (K : PySem.W.Frag) (CF : Addr) : Sp := fun vs H Q _ => ∃ (p dx t : Addr), vs = [.ref p] ∧ H p = some (.ins CF dx (farmFs t)) ∧ Q (.ref t) H
theorem ok_farm_fields (C : FarmC K CF) (G : Gp K CF "fields" "Farm.fields" s_Farm_fields) : PropR P w K mg base CF "fields" 2 (sp_farm_fields K CF) := by
  refine prop_mk G fun f fd F => fnr_mk (F.ok sc_Farm_fields ?_ (fun cdv A outer s H vs Q E hr h => ?_)) (F.bindsN (fun _ _ _ _ _ _ us hl => match us, hl with | [_], _ => rfl))
  · rintro vs H Q E ⟨z, _, _, rfl, _⟩; rfl
  · obtain ⟨p, dx, t, rfl, hp, k⟩ := h
    have nd := sc_Farm_fields.nd
    refine ⟨_, PSs.nox (pss_one (ps_ret (pe_fldK K (pv 0)))), ?_⟩
    show (_ : TS) _ [some (.ref p)] H
    walk_at "go"
    exact n_fld hp C.cl C.rows rfl k
def sp_farm_len (K : PySem.W.Frag) (CF : Addr) : Sp := fun vs H Q _ => ∃ (p dx t : Addr) (xs : List V), vs = [.ref p] ∧ H p = some (.ins CF dx (farmFs t)) ∧ SqT K H t xs ∧ Q (.int xs.length) H
theorem ok_farm_len (M : Md K mg) (C : FarmC K CF) (G : Gm K CF "__len__" "Farm.__len__" s_Farm___len__) : MethR P w K mg base CF "__len__" 2 (sp_farm_len K CF) := by
  refine meth_mk G fun f fd F => FnU.raw <| fnr_mk (F.ok sc_Farm___len__ ?_ (fun cdv A outer s H vs Q E hr h => ?_)) (F.bindsN (fun _ _ _ _ _ _ us hl => match us, hl with | [_], _ => rfl))
  · rintro vs H Q E ⟨z, _, _, _, rfl, _⟩; rfl
  · obtain ⟨p, dx, t, xs, rfl, hp, hS, k⟩ := h
    have nd := sc_Farm___len__.nd
    refine ⟨_, PSs.nox (pss_one (ps_ret (pe_len K M.b (pe_fldK K (pv 0))))), ?_⟩
    show (_ : TS) _ [some (.ref p)] H
    walk_at "go"
    refine n_fld hp C.cl C.rows rfl ?_
    walk_at "go"
    exact g_len_t hS k

end
abbrev s_Farm_names : Stmt := inClass (top 16) 5
abbrev N_Farm_names : List Str := ["self", "name", "limit"]
theorem sc_Farm_names : FnScope N_Farm_names ["self"] (defScope s_Farm_names) := ⟨rfl, rfl, rfl, by decide +kernel, rfl, by decide +kernel, by decide +kernel⟩
abbrev s_Farm_limits : Stmt := inClass (top 16) 6
abbrev N_Farm_limits : List Str := ["self", "name", "limit"]
theorem sc_Farm_limits : FnScope N_Farm_limits ["self"] (defScope s_Farm_limits) := ⟨rfl, rfl, rfl, by decide +kernel, rfl, by decide +kernel, by decide +kernel⟩
abbrev s_Farm___add__ : Stmt := inClass (top 16) 13
abbrev N_Farm___add__ : List Str := ["self", "other", "fields"]
theorem sc_Farm___add__ : FnScope N_Farm___add__ ["self", "other"] (defScope s_Farm___add__) := ⟨rfl, rfl, rfl, by decide +kernel, rfl, by decide +kernel, by decide +kernel⟩
abbrev s_require_field : Stmt := top 17
abbrev N_require_field : List Str := ["farm", "name"]
theorem sc_require_field : FnScope N_require_field ["farm", "name"] (defScope s_require_field) := ⟨rfl, rfl, rfl, by decide +kernel, rfl, by decide +kernel, by decide +kernel⟩
abbrev s_law_farm : Stmt := top 45
abbrev N_law_farm : List Str := ["_law_fields_here", "_law_found", "_law_field"]
theorem sc_law_farm : FnScope N_law_farm ["_law_fields_here"] (defScope s_law_farm) := ⟨rfl, rfl, rfl, by decide +kernel, rfl, by decide +kernel, by decide +kernel⟩
section
variable {P : Program} {w : World} {K : PySem.W.Frag}
variable {mg : Str → Option Value} {base : Heap}
theorem FarmAt.same {H H' : Hp} {p : Addr} {fs : List (Str × Int)} (e : Same H H') (h : FarmAt K CF H p fs) : FarmAt K CF H' p fs := let ⟨dx, t, h1, h2⟩ := h; ⟨dx, t, e _ _ h1, e.dp h2⟩
def sp_farm_names (K : PySem.W.Frag) (CF : Addr) : Sp := fun vs H Q _ => ∃ (p : Addr) (fs : List (Str × Int)), vs = [.ref p] ∧ FarmAt K CF H p fs ∧ fs.length ≤ 6 ∧ ∀ H' t, Same H H' → SqT K H' t (fs.map fun f => V.str f.1) → Q (.ref t) H'
theorem ok_farm_names (M : Md K mg) (C : FarmC K CF) (G : Gp K CF "names" "Farm.names" s_Farm_names) : PropR P w K mg base CF "names" 2 (sp_farm_names K CF) := by
  refine prop_mk G fun f fd F => fnr_mk (F.ok sc_Farm_names ?_ (fun cdv A outer s H vs Q E hr h => ?_)) (F.bindsN (fun _ _ _ _ _ _ us hl => match us, hl with | [_], _ => rfl))
  · rintro vs H Q E ⟨p, fs, rfl, _⟩; rfl
  · obtain ⟨p, fs, rfl, ⟨dx, t, hp, hv⟩, six, k⟩ := h
    have nd := sc_Farm_names.nd
    obtain ⟨t', xs, e, hS, hX⟩ := hv.inv_t
    cases e
    have hxl : xs.length = fs.length := by rw [hX.length]; simp
    refine ⟨_, PSs.nox (pss_one (ps_ret (pe_tupOf K M.b (pe_lc (own := [("name", 1), ("limit", 2)]) (g := (gTup K 2 (gCons (gName 1) (gCons (gName 2) gNil)))) (tt := tYes) rfl nd (pi_tupK K (pe_fldK K (pv 0))) (blkOk_by (N := N_Farm_names) (sc := defScope s_Farm_names) (by decide +kernel)) (fun _ _ _ _ _ => (pg_tupK K rfl (pgs_cons (pg_name (i := 1) nd rfl (by first | exact Or.inl rfl | exact Or.inr rfl)) (pgs_cons (pg_name (i := 2) nd rfl (by first | exact Or.inl rfl | exact Or.inr rfl)) pgs_nil)))) (fun _ _ _ _ _ => pts_nil) (fun _ _ _ _ _ => (pv 1)))))), ?_⟩
    show (_ : TS) _ [some (.ref p), none, none] H
    walk_at "go"
    refine n_fld hp C.cl C.rows rfl ?_
    refine n_lcT hS (lc_map (walk_tup (xs := xs)) (fun j => .str ((fs.getD j ("", 0)).1)) (fun H5 s5 => same_t s5 hS) ?_ ?_)
    · rintro L j y H5 H6 nC hj s5 hC ⟨e, hyj⟩
      subst e
      obtain ⟨dj, hdj, hDj⟩ := (s5.dpa hX).get hyj
      obtain ⟨fj, hfj, rfl⟩ := getm hdj
      obtain ⟨t3, zs, rfl, hT3, hZ⟩ := hDj.inv_t
      obtain ⟨w1, w2, rfl, hw1, hw2⟩ := hZ.inv2
      obtain rfl := hw1.inv_s
      walk_at "go"
      refine g_gtup hT3 rfl ?_
      walk_at "go"
      refine ⟨rfl, ?_⟩
      walk_at "go"
      exact n_mapK nC s5 hC (by rw [getD_of hfj])
    · intro L H5 nC s5 hC
      have e1 : (List.range xs.length).map (fun j => V.str ((fs.getD j ("", 0)).1)) = fs.map fun f => V.str f.1 := by
        rw [hxl]
        exact range_getD fs ("", 0) fun f : Str × Int => V.str f.1
      rw [e1] at hC
      refine g_tupOf_l (SqL.of hC) fun l H6 nl s6 hl => ?_
      walk_at "go"
      exact k H6 l (s5.trans s6) (SqT.of hl)
def sp_farm_limits (K : PySem.W.Frag) (CF : Addr) : Sp := fun vs H Q _ => ∃ (p : Addr) (fs : List (Str × Int)), vs = [.ref p] ∧ FarmAt K CF H p fs ∧ fs.length ≤ 6 ∧ ∀ H' t, Same H H' → SqT K H' t (fs.map fun f => V.int f.2) → Q (.ref t) H'
theorem ok_farm_limits (M : Md K mg) (C : FarmC K CF) (G : Gp K CF "limits" "Farm.limits" s_Farm_limits) : PropR P w K mg base CF "limits" 2 (sp_farm_limits K CF) := by
  refine prop_mk G fun f fd F => fnr_mk (F.ok sc_Farm_limits ?_ (fun cdv A outer s H vs Q E hr h => ?_)) (F.bindsN (fun _ _ _ _ _ _ us hl => match us, hl with | [_], _ => rfl))
  · rintro vs H Q E ⟨p, fs, rfl, _⟩; rfl
  · obtain ⟨p, fs, rfl, ⟨dx, t, hp, hv⟩, six, k⟩ := h
    have nd := sc_Farm_limits.nd
    obtain ⟨t', xs, e, hS, hX⟩ := hv.inv_t
    cases e
    have hxl : xs.length = fs.length := by rw [hX.length]; simp
    refine ⟨_, PSs.nox (pss_one (ps_ret (pe_tupOf K M.b (pe_lc (own := [("name", 1), ("limit", 2)]) (g := (gTup K 2 (gCons (gName 1) (gCons (gName 2) gNil)))) (tt := tYes) rfl nd (pi_tupK K (pe_fldK K (pv 0))) (blkOk_by (N := N_Farm_limits) (sc := defScope s_Farm_limits) (by decide +kernel)) (fun _ _ _ _ _ => (pg_tupK K rfl (pgs_cons (pg_name (i := 1) nd rfl (by first | exact Or.inl rfl | exact Or.inr rfl)) (pgs_cons (pg_name (i := 2) nd rfl (by first | exact Or.inl rfl | exact Or.inr rfl)) pgs_nil)))) (fun _ _ _ _ _ => pts_nil) (fun _ _ _ _ _ => (pv 2)))))), ?_⟩
    show (_ : TS) _ [some (.ref p), none, none] H
    walk_at "go"
    refine n_fld hp C.cl C.rows rfl ?_
    refine n_lcT hS (lc_map (walk_tup (xs := xs)) (fun j => .int ((fs.getD j ("", 0)).2)) (fun H5 s5 => same_t s5 hS) ?_ ?_)
    · rintro L j y H5 H6 nC hj s5 hC ⟨e, hyj⟩
      subst e
      obtain ⟨dj, hdj, hDj⟩ := (s5.dpa hX).get hyj
      obtain ⟨fj, hfj, rfl⟩ := getm hdj
      obtain ⟨t3, zs, rfl, hT3, hZ⟩ := hDj.inv_t
      obtain ⟨w1, w2, rfl, hw1, hw2⟩ := hZ.inv2
      obtain rfl := hw2.inv_i
      walk_at "go"
      refine g_gtup hT3 rfl ?_
      walk_at "go"
      refine ⟨rfl, ?_⟩
      walk_at "go"
      exact n_mapK nC s5 hC (by rw [getD_of hfj])
    · intro L H5 nC s5 hC
      have e1 : (List.range xs.length).map (fun j => V.int ((fs.getD j ("", 0)).2)) = fs.map fun f => V.int f.2 := by
        rw [hxl]
        exact range_getD fs ("", 0) fun f : Str × Int => V.int f.2
      rw [e1] at hC
      refine g_tupOf_l (SqL.of hC) fun l H6 nl s6 hl => ?_
      walk_at "go"
      exact k H6 l (s5.trans s6) (SqT.of hl)
theorem FOk.single {fs : List (Str × Int)} (ok : FOk fs) {f : Str × Int} (hf : f ∈ fs) : FOk [f] := by
  have := ok.lo f hf
  exact ⟨by simp, by simp, by simp, fun g hg => by simp at hg; subst hg; exact ok.nm _ hf, fun g hg => by simp at hg; subst hg; exact this, by simp [prodL]; omega⟩
theorem prodL_cons (x : Int) (l : List Int) : prodL (x :: l) = x * prodL l := by
  have h : ∀ (l : List Int) (a b : Int), l.foldl (· * ·) (a * b) = a * l.foldl (· * ·) b := by
    intro l
    induction l with
    | nil => intro a b; rfl
    | cons y r ih => intro a b; simp only [List.foldl_cons, Int.mul_assoc]; exact ih a (b * y)
  have := h l x 1
  simpa [prodL, Int.mul_comm] using this
theorem prodL_pos {l : List Int} (h : ∀ x ∈ l, 1 ≤ x) : 1 ≤ prodL l := by
  induction l with
  | nil => simp [prodL]
  | cons x r ih =>
    rw [prodL_cons]
    have h1 := h x (by simp)
    have h2 := ih fun y hy => h y (by simp [hy])
    exact Int.le_trans h1 (by have := Int.mul_le_mul_of_nonneg_left h2 (by omega : 0 ≤ x); omega)
theorem prodL_app (a b : List Int) : prodL (a ++ b) = prodL a * prodL b := by
  induction a with
  | nil => simp [prodL]
  | cons x r ih => rw [List.cons_append, prodL_cons, prodL_cons, ih, Int.mul_assoc]
theorem FOk.take {fs : List (Str × Int)} (ok : FOk fs) (i : Nat) : FOk (fs.take (i + 1)) := by
  have hm : ∀ f ∈ fs.take (i + 1), f ∈ fs := fun f hf => List.mem_of_mem_take hf
  refine ⟨?_, ?_, ?_, fun f hf => ok.nm f (hm f hf), fun f hf => ok.lo f (hm f hf), ?_⟩
  · have := ok.one
    simp; omega
  · have := ok.six
    simp; omega
  · rw [List.map_take]
    exact ok.nd.sublist (List.take_sublist _ _)
  · have e : fs.map (·.2) = (fs.take (i + 1)).map (·.2) ++ (fs.drop (i + 1)).map (·.2) := by rw [← List.map_append, List.take_append_drop]
    have h1 := ok.pr
    rw [e, prodL_app] at h1
    have h2 : 1 ≤ prodL ((fs.take (i + 1)).map (·.2)) := prodL_pos fun x hx => by
      obtain ⟨f, hf, rfl⟩ := List.mem_map.mp hx
      exact (ok.lo f (hm f hf)).1
    have h3 : 1 ≤ prodL ((fs.drop (i + 1)).map (·.2)) := prodL_pos fun x hx => by
      obtain ⟨f, hf, rfl⟩ := List.mem_map.mp hx
      exact (ok.lo f (List.mem_of_mem_drop hf)).1
    have := Int.mul_le_mul_of_nonneg_left h3 (by omega : 0 ≤ prodL ((fs.take (i + 1)).map (·.2)))
    omega
/-- Farm( .. ): a new farm of these fields -/
theorem n_farm {H : Hp} {Q : VK} {E : XK} {xs : List V} {fs : List (Str × Int)} (hX : DpAll K H xs (fs.map pField)) (ok : FOk fs) (h : ∀ H' p, Same H H' → H p = none → FarmAt K CF H' p fs → Q (.ref p) H') : MkK CF (sp_farm_init K CF) E Q xs H := by
  have hl : xs.length ≤ 6 := by rw [hX.length]; simpa using ok.six
  refine n_make fun fx fdx H8 nfx nfdx nefx s8 hfx hfdx => ?_
  refine ⟨.ref fx, xs, rfl, by rw [sizeLine_eq]; omega, fun t ht => ?_⟩
  have st := same_new (o := .tup xs) ht
  have hT : Dp K (upd H8 t (.tup xs)) (.ref t) (.tuple (fs.map pField)) := dp_tup upd_same (st.dpa (s8.dpa hX))
  refine ⟨fx, fdx, t, fs, rfl, st _ _ hfx, hT, ok, fun H9 k9 h9 => ⟨rfl, ?_⟩⟩
  exact h H9 fx (fun b o hb => k9 _ _ (ne_of_none hb nfx) (st _ _ (s8 _ _ hb))) nfx ⟨fdx, t, h9, dp_keep k9 (notT_i (st _ _ hfx)) _ _ (by show noLs _ = true; exact noL_fields fs) hT⟩
def sp_farm_add (K : PySem.W.Frag) (CF : Addr) : Sp := fun vs H Q _ => ∃ (p q : Addr) (fs gs : List (Str × Int)), vs = [.ref p, .ref q] ∧ FarmAt K CF H p fs ∧ FarmAt K CF H q gs ∧ FOk (fs ++ gs) ∧ ∀ H' r, Same H H' → FarmAt K CF H' r (fs ++ gs) → Q (.ref r) H'
theorem ok_farm_add (M : Md K mg) (C : FarmC K CF) (G : Gm K CF "__add__" "Farm.__add__" s_Farm___add__) (K_Farm : MakeR P w K mg base "Farm" CF 4 (sp_farm_init K CF)) : MethR P w K mg base CF "__add__" 7 (sp_farm_add K CF) := by
  refine meth_mk G fun f fd F => FnU.raw <| fnr_mk (F.ok sc_Farm___add__ ?_ (fun cdv A outer s H vs Q E hr h => ?_)) (F.bindsN (fun _ _ _ _ _ _ us hl => match us, hl with | [_, _], _ => rfl))
  · rintro vs H Q E ⟨p, q, fs, gs, rfl, _⟩; rfl
  · obtain ⟨p, q, fs, gs, rfl, ⟨dx, t, hp, hv⟩, ⟨dy, u, hq, hw⟩, ok, k⟩ := h
    have nd := sc_Farm___add__.nd
    obtain ⟨t', xs, e, hS, hX⟩ := hv.inv_t
    cases e
    obtain ⟨u', ys, e, hR, hY⟩ := hw.inv_t
    cases e
    refine ⟨_, PSs.nox (pss_cons (ps_set (i := 2) nd rfl (by first | exact Or.inl rfl | exact Or.inr rfl) (pe_op (op_addK K) (pe_fldK K (pv 0)) (pe_fldK K (pv 1))))
    (pss_one (ps_ret (pe_makeSK K K_Farm (hr.mono (by first | decide | omega)) passN (pv 2))))), ?_⟩
    show (_ : TS) _ [some (.ref p), some (.ref q), none] H
    walk_at "go"
    refine n_fld hp C.cl C.rows rfl ?_
    walk_at "go"
    refine n_fld hq C.cl C.rows rfl ?_
    have hl : xs.length + ys.length ≤ 6 := by
      rw [hX.length, hY.length]
      have := ok.six
      simpa using this
    refine g_add_t hS hR (by rw [sizeLine_eq]; omega) fun r H1 s1 hr1 => ?_
    walk_at "go"
    refine n_star1 (.inl hr1) ?_
    refine n_farm (fs := fs ++ gs) ?_ ok fun H2 z s2 _ hz => k H2 z (s1.trans s2) hz
    rw [List.map_append]
    exact dpa_app (s1.dpa hX) (s1.dpa hY)
def sp_require_field (K : PySem.W.Frag) (CF : Addr) : Sp := fun vs H Q _ => ∃ (p : Addr) (z : Str) (fs : List (Str × Int)), vs = [.ref p, .str z] ∧ FarmAt K CF H p fs ∧ fs.length ≤ 6 ∧ z ∈ fs.map (·.1) ∧ ∀ H', Same H H' → Q .non H'
theorem ok_require_field (M : Md K mg) (G : Gd K mg "require_field" s_require_field) (P_Farm_names : PropR P w K mg base CF "names" 2 (sp_farm_names K CF)) : DefR P w K mg base "require_field" 5 (sp_require_field K CF) := by
  refine def_mk G fun f fd F => fnr_mk (F.ok sc_require_field ?_ (fun cdv A outer s H vs Q E hr h => ?_)) (F.bindsN (fun _ _ _ _ _ _ us hl => match us, hl with | [_, _], _ => rfl))
  · rintro vs H Q E ⟨p, z, fs, rfl, _⟩; rfl
  · obtain ⟨p, z, fs, rfl, hF, six, hz, k⟩ := h
    have nd := sc_require_field.nd
    have hF' := hF
    obtain ⟨dx, t, hp, hv⟩ := hF'
    refine ⟨_, PSs.nox (pss_one (ps_if (pt_cmpR (op_notInK K hr) (pv 1) (pe_propR P_Farm_names (hr.mono (by first | decide | omega)) (pv 0)) rfl) (pss_one ps_never) pss_nil)), ?_⟩
    show (_ : TS) _ [some (.ref p), some (.str z)] H
    walk_at "go"
    refine n_prop hp ⟨p, fs, rfl, hF, six, fun H1 r s1 hr1 => ?_⟩
    have e : (fs.map fun f => V.str f.1) = (fs.map (·.1)).map V.str := by simp
    rw [e] at hr1
    refine g_notIn_seq (.inr hr1) rfl (flat_strs _) ?_
    rw [inV_strs, decide_eq_true hz]
    walk_at "go"
    refine if_F rfl ?_
    walk_at "go"
    exact k H1 s1
def sp_law_farm (K : PySem.W.Frag) (CF : Addr) : Sp := fun vs H Q _ => ∃ (v : V) (fs : List (Str × Int)), vs = [v] ∧ Dp K H v (.list (fs.map pField)) ∧ FOk fs ∧ ∀ H' p, Same H H' → FarmAt K CF H' p fs → Q (.ref p) H'
theorem ok_law_farm (M : Md K mg) (G : Gd K mg "_law_farm" s_law_farm) (SF : PySem.W.selfFirst K CF = true) (K_Farm : MakeR P w K mg base "Farm" CF 4 (sp_farm_init K CF)) (M_Farm___add__ : MethR P w K mg base CF "__add__" 7 (sp_farm_add K CF)) : DefR P w K mg base "_law_farm" 9 (sp_law_farm K CF) := by
  refine def_mk G fun f fd F => fnr_mk (F.ok sc_law_farm ?_ (fun cdv A outer s H vs Q E hr h => ?_)) (F.bindsN (fun _ _ _ _ _ _ us hl => match us, hl with | [_], _ => rfl))
  · rintro vs H Q E ⟨v, fs, rfl, _⟩; rfl
  · obtain ⟨v, fs, rfl, hv, ok, k⟩ := h
    have nd := sc_law_farm.nd
    obtain ⟨l, xs, rfl, hS, hX⟩ := hv.inv_l
    have hxl : xs.length = fs.length := by rw [hX.length]; simp
    refine ⟨_, PSs.nox (pss_cons (ps_set (i := 1) nd rfl (by first | exact Or.inl rfl | exact Or.inr rfl) (pe_makeP K_Farm (hr.mono (by first | decide | omega)) passN (pa_cons (pe_ix (ix_K K) (pv 0) pe_int (fun _ _ => rfl)) pa_nil)))
    (pss_cons (ps_for PassesOwn.never rfl (pi_listK K (pe_slice (sl_listK K) (pv 0) (po_some pe_int) po_none)) (pg_name (i := 2) nd rfl (by first | exact Or.inl rfl | exact Or.inr rfl)) (pss_one (ps_set (i := 1) nd rfl (by first | exact Or.inl rfl | exact Or.inr rfl) (pe_op (op_own2 M_Farm___add__ SF (hr.mono (by first | decide | omega))) (pv 1) (pe_makeP K_Farm (hr.mono (by first | decide | omega)) passN (pa_cons (pv 2) pa_nil)))))) (pss_one (ps_ret (pv 1))))), ?_⟩
    show (_ : TS) _ [some (.ref l), none, none] H
    walk_at "go"
    have h0 : 0 < xs.length := by have := ok.one; omega
    refine g_ix_l hS (v := xs[0]) (atI_nat (j := 0) (by simp [h0])) ?_
    walk_at "go"
    refine n_farm (fs := fs.take 1) ?_ (ok.take 0) fun H1 p s1 np hp => ?_
    · have e : [xs[0]] = xs.take 1 := by
        cases xs with
        | nil => simp at h0
        | cons a r => rfl
      rw [e, List.map_take]
      exact dpa_take 1 hX
    walk_at "go"
    refine g_slL (same_l s1 hS) fun l2 H2 nl2 s2 hl2 => ?_
    rw [show cutV xs (some 1) none = xs.drop 1 from cutV_from xs 1] at hl2
    have hS2 : ∀ H', Same H2 H' → SqL K H' l2 (xs.drop 1) := fun H' e => SqL.of (e _ _ hl2)
    refine n_forL (hS2 _ (Same.refl _)) (fun i σ H' => ∃ (r : Addr) (c : Option V), σ = [some (.ref l), some (.ref r), c] ∧ Same H2 H' ∧ FarmAt K CF H' r (fs.take (i + 1))) ⟨p, none, rfl, Same.refl _, FarmAt.same s2 hp⟩ (fun i σ H' ⟨_, _, _, e, _⟩ => hS2 _ e) ?_ ?_
    · rintro i x σ H3 hx ⟨r, c, rfl, s3, hr3⟩
      have sA := s1.trans (s2.trans s3)
      rw [List.getElem?_drop] at hx
      obtain ⟨d, hd, hDx⟩ := hX.get hx
      obtain ⟨g, hg, rfl⟩ := getm hd
      walk_at "go"
      refine n_farm (fs := [g]) (.cons (sA.dp hDx) .nil) (ok.single (List.mem_of_getElem? hg)) fun H4 q s4 _ hq => ?_
      obtain ⟨dx, t, hrr, hvv⟩ := hr3
      obtain ⟨dy, u, hqq, hww⟩ := hq
      have e2 : fs.take (i + 1) ++ [g] = fs.take (i + 1 + 1) := by
        rw [Nat.add_comm 1 i] at hg
        rw [List.take_add_one (i := i + 1), hg]
        rfl
      refine n_own2 (s4 _ _ hrr) hqq ⟨r, q, fs.take (i + 1), [g], rfl, ⟨dx, t, s4 _ _ hrr, s4.dp hvv⟩, ⟨dy, u, hqq, hww⟩, by rw [e2]; exact ok.take (i + 1), fun H5 z s5 hz => ?_⟩
      walk_at "go"
      rw [e2] at hz
      exact ⟨z, _, rfl, s3.trans (s4.trans s5), hz⟩
    · rintro σ H3 ⟨r, c, rfl, s3, hr3⟩
      walk_at "go"
      have e : fs.take ((xs.drop 1).length + 1) = fs := List.take_of_length_le (by simp; omega)
      rw [e] at hr3
      exact k H3 r (s1.trans (s2.trans s3)) hr3

end
abbrev s_Plan___init__ : Stmt := inClass (top 20) 0
abbrev N_Plan___init__ : List Str := ["self", "lead", "days", "index", "day"]
theorem sc_Plan___init__ : FnScope N_Plan___init__ ["self", "lead", "days"] (defScope s_Plan___init__) := ⟨rfl, rfl, rfl, by decide +kernel, rfl, by decide +kernel, by decide +kernel⟩
abbrev s_Plan_days : Stmt := inClass (top 20) 1
abbrev N_Plan_days : List Str := ["self"]
theorem sc_Plan_days : FnScope N_Plan_days ["self"] (defScope s_Plan_days) := ⟨rfl, rfl, rfl, by decide +kernel, rfl, by decide +kernel, by decide +kernel⟩
abbrev s_Plan_lead : Stmt := inClass (top 20) 2
abbrev N_Plan_lead : List Str := ["self"]
theorem sc_Plan_lead : FnScope N_Plan_lead ["self"] (defScope s_Plan_lead) := ⟨rfl, rfl, rfl, by decide +kernel, rfl, by decide +kernel, by decide +kernel⟩
abbrev s_Plan___len__ : Stmt := inClass (top 20) 4
abbrev N_Plan___len__ : List Str := ["self"]
theorem sc_Plan___len__ : FnScope N_Plan___len__ ["self"] (defScope s_Plan___len__) := ⟨rfl, rfl, rfl, by decide +kernel, rfl, by decide +kernel, by decide +kernel⟩
abbrev s_place_of : Stmt := top 21
abbrev N_place_of : List Str := ["days", "lead", "day"]
theorem sc_place_of : FnScope N_place_of ["days", "lead", "day"] (defScope s_place_of) := ⟨rfl, rfl, rfl, by decide +kernel, rfl, by decide +kernel, by decide +kernel⟩
section
variable {P : Program} {w : World} {K : PySem.W.Frag}
variable {mg : Str → Option Value} {base : Heap}
structure PlanC (K : PySem.W.Frag) (CP : Addr) : Prop where
  cl : Cls K CP
  parts : NoAttr K CP "parts"
  begin_ : NoAttr K CP "begin"
abbrev pDay (zs : List Str) : PyData := .tuple (zs.map .str)
def planFs (t : Addr) (b : Int) : List (Str × V) := [("parts", .ref t), ("begin", .int b)]
def PlanAt (K : PySem.W.Frag) (CP : Addr) (H : Hp) (p : Addr) (ds : List (List Str)) (b : Int) : Prop := ∃ dx t, H p = some (.ins CP dx (planFs t b)) ∧ Dp K H (.ref t) (.tuple (ds.map pDay))
/-- days that a plan takes -/
structure DOk (ds : List (List Str)) (b : Int) : Prop where
  one : 1 ≤ ds.length
  few : ds.length ≤ 100
  nd : ∀ d ∈ ds, d.Nodup
  le : ∀ d ∈ ds, d.length ≤ 8
  b0 : 0 ≤ b
  b1 : b < ds.length
theorem strs_of {H : Hp} : ∀ {ys : List V} {zs : List Str}, DpAll K H ys (zs.map PyData.str) → ys = zs.map V.str
  | _, [], h => h.inv0
  | _, z :: zs, h => by
    obtain ⟨v, r, rfl, h1, h2⟩ := h.inv1
    rw [h1.inv_s, strs_of h2]
    rfl
theorem plan_ne : (("parts" : Str) = ("begin" : Str)) = False := by
  apply eq_false
  decide +kernel
theorem plan_put (t : Addr) (b : Int) : putF "begin" (.int b) [(("parts" : Str), V.ref t)] = planFs t b := by
  show (if ("parts" : Str) = "begin" then _ else (("parts" : Str), V.ref t) :: putF "begin" (.int b) []) = planFs t b
  rw [if_neg (by rw [plan_ne]; exact id)]
  rfl
theorem plan_parts (t : Addr) (b : Int) : (planFs t b).lookup ("parts" : Str) = some (V.ref t) := rfl
theorem plan_begin (t : Addr) (b : Int) : (planFs t b).lookup ("begin" : Str) = some (V.int b) := by
  have h : (("begin" : Str) == ("parts" : Str)) = false := by decide +kernel
  simp [planFs, List.lookup, h]
def sp_plan_init0 (K : PySem.W.Frag) (CP : Addr) : Sp := fun vs H Q _ => ∃ (x dx t : Addr) (ds : List (List Str)) (b : Int), vs = [.ref x, .int b, .ref t] ∧ H x = some (.ins CP dx []) ∧ Dp K H (.ref t) (.tuple (ds.map pDay)) ∧ DOk ds b ∧
  ∀ H', Keep x H H' → H' x = some (.ins CP dx (planFs t b)) → Q .non H'
def sp_plan_init (K : PySem.W.Frag) (CP : Addr) : Sp := fun vs H Q E => ∃ z w0 rest, vs = z :: w0 :: rest ∧ rest.length ≤ sizeLine ∧ ∀ p, H p = none → sp_plan_init0 K CP [w0, z, V.ref p] (upd H p (.tup rest)) Q E
theorem plan_owes {f : Addr} (M : Md K mg) (C : PlanC K CP) (cdv : Value) : Owes P w K mg base N_Plan___init__ "Plan.__init__" (defScope s_Plan___init__) (defBody s_Plan___init__) 3 f (sp_plan_init0 K CP) cdv := by
  intro A outer s H vs Q E hr h
  obtain ⟨x, dx, t, ds, b, rfl, hx, hv, ok, k⟩ := h
  obtain ⟨t', xs, e, hS, hX⟩ := hv.inv_t
  cases e
  have hxl : xs.length = ds.length := by rw [hX.length]; simp
  have nd := sc_Plan___init__.nd
  refine ⟨_, PSs.nox (pss_cons (ps_for PassesOwn.never rfl (pi_enumTK K rfl M.b.enumerate (pa_cons (pv 2) pa_nil)) (pg_tupK K rfl (pgs_cons (pg_name (i := 3) nd rfl (by first | exact Or.inl rfl | exact Or.inr rfl)) (pgs_cons (pg_name (i := 4) nd rfl (by first | exact Or.inl rfl | exact Or.inr rfl)) pgs_nil))) (pss_one (ps_if (PW.pt (pw_or (pt_cmpR (op_eqK K hr) (pv 3) (pe_gi M.g_MAX_DAYS) (nomark _)) (pw_or1 (pt_cmpR op_lt (as_lenSet K (pe_lenSet rfl rfl M.b.len rfl M.b.set (pv 4))) (pe_len K M.b (pv 4)) (nomark _))))) (pss_one ps_never) pss_nil)))
    (pss_cons (ps_if (pt_not (pt_chain op_le op_lt pe_int (pv 1) (pe_len K M.b (pv 2)))) (pss_one ps_never) pss_nil)
    (pss_cons (ps_fldK K (pv 0) (pv 2)) (pss_one (ps_fldK K (pv 0) (pv 1)))))), ?_⟩
  show (_ : TS) _ [some (.ref x), some (.int b), some (.ref t), none, none] H
  walk_at "go"
  refine n_forET hS (fun i σ H' => ∃ u1 u2 : Option V, σ = [some (.ref x), some (.int b), some (.ref t), u1, u2] ∧ Same H H') ⟨_, _, rfl, Same.refl _⟩ (fun i σ H' ⟨_, _, _, s2⟩ => same_t s2 hS) ?_ ?_
  · rintro i y T σ H2 H3 hy ⟨u1, u2, rfl, s2⟩ nT s3 hT
    obtain ⟨dd, hd, hDx⟩ := hX.get hy
    obtain ⟨zs, hzs, rfl⟩ := getm hd
    have zm : zs ∈ ds := List.mem_of_getElem? hzs
    have sA := s2.trans s3
    obtain ⟨t2, ys, rfl, hT2, hY⟩ := (sA.dp hDx).inv_t
    have ey : ys = zs.map V.str := strs_of hY
    subst ey
    refine g_gtup (SqT.of hT) rfl ?_
    walk_at "go"
    refine if_D (fun e => absurd e (by have := (List.getElem?_eq_some_iff.mp hy).1; have := ok.few; omega)) (fun _ => ?_)
    walk_at "go"
    refine n_lenSet hT2 (ok.nd zs zm) (Nat.le_trans (ok.le zs zm) (by decide)) ?_
    walk_at "go"
    refine g_len_t hT2 ?_
    walk_at "go"
    refine if_F (by simp) ?_
    walk_at "go"
    exact ⟨_, _, rfl, sA⟩
  · rintro σ H2 ⟨u1, u2, rfl, s2⟩
    walk_at "go"
    refine g_ch (fun _ => ?_) (fun e => absurd ok.b0 (of_decide_eq_false e))
    walk_at "go"
    refine g_len_t (same_t s2 hS) ?_
    walk_at "go"
    refine if_F (by rw [hxl, decide_eq_true ok.b1]; rfl) ?_
    walk_at "go"
    refine n_sfld (s2 _ _ hx) C.cl C.parts (by show 0 < 1000; decide) fun H3 k3 h3 => ?_
    walk_at "go"
    refine n_sfld h3 C.cl C.begin_ (by show 1 < 1000; decide) fun H4 k4 h4 => ?_
    refine k H4 (fun c o nb hb => k4 _ _ nb (k3 _ _ nb (s2 _ _ hb))) ?_
    rw [h4]; exact congrArg (fun z => some (HO.ins CP dx z)) (plan_put t b)
theorem ok_plan_init (M : Md K mg) (C : PlanC K CP) (G : GkK K mg "Plan" CP "Plan.__init__" s_Plan___init__ kws) : MakeRK P w K mg base "Plan" CP 4 "lead" (sp_plan_init K CP) :=
  makeK_mk G fun f fd F => fnk_star1 F sc_Plan___init__ (fun _ _ _ _ _ _ _ _ => rfl) (fun _ _ _ _ _ _ _ _ _ _ => rfl) fun cdv => plan_owes M C cdv
def sp_plan_days (CP : Addr) : Sp := fun vs H Q _ => ∃ (p dx t : Addr) (b : Int), vs = [.ref p] ∧ H p = some (.ins CP dx (planFs t b)) ∧ Q (.ref t) H
theorem ok_plan_days (C : PlanC K CP) (G : Gp K CP "days" "Plan.days" s_Plan_days) : PropR P w K mg base CP "days" 2 (sp_plan_days CP) := by
  refine prop_mk G fun f fd F => fnr_mk (F.ok sc_Plan_days ?_ (fun cdv A outer s H vs Q E hr h => ?_)) (F.bindsN (fun _ _ _ _ _ _ us hl => match us, hl with | [_], _ => rfl))
  · rintro vs H Q E ⟨z, _, _, _, rfl, _⟩; rfl
  · obtain ⟨p, dx, t, b, rfl, hp, k⟩ := h
    have nd := sc_Plan_days.nd
    refine ⟨_, PSs.nox (pss_one (ps_ret (pe_fldK K (pv 0)))), ?_⟩
    show (_ : TS) _ [some (.ref p)] H
    walk_at "go"
    exact n_fld hp C.cl C.parts (plan_parts t b) k
def sp_plan_lead (CP : Addr) : Sp := fun vs H Q _ => ∃ (p dx t : Addr) (b : Int), vs = [.ref p] ∧ H p = some (.ins CP dx (planFs t b)) ∧ Q (.int b) H
theorem ok_plan_lead (C : PlanC K CP) (G : Gp K CP "lead" "Plan.lead" s_Plan_lead) : PropR P w K mg base CP "lead" 2 (sp_plan_lead CP) := by
  refine prop_mk G fun f fd F => fnr_mk (F.ok sc_Plan_lead ?_ (fun cdv A outer s H vs Q E hr h => ?_)) (F.bindsN (fun _ _ _ _ _ _ us hl => match us, hl with | [_], _ => rfl))
  · rintro vs H Q E ⟨z, _, _, _, rfl, _⟩; rfl
  · obtain ⟨p, dx, t, b, rfl, hp, k⟩ := h
    have nd := sc_Plan_lead.nd
    refine ⟨_, PSs.nox (pss_one (ps_ret (pe_fldK K (pv 0)))), ?_⟩
    show (_ : TS) _ [some (.ref p)] H
    walk_at "go"
    exact n_fld hp C.cl C.begin_ (plan_begin t b) k
def sp_plan_len (K : PySem.W.Frag) (CP : Addr) : Sp := fun vs H Q _ => ∃ (p : Addr) (ds : List (List Str)) (b : Int), vs = [.ref p] ∧ PlanAt K CP H p ds b ∧ Q (.int ds.length) H
theorem ok_plan_len (M : Md K mg) (C : PlanC K CP) (G : Gm K CP "__len__" "Plan.__len__" s_Plan___len__) : MethR P w K mg base CP "__len__" 2 (sp_plan_len K CP) := by
  refine meth_mk G fun f fd F => FnU.raw <| fnr_mk (F.ok sc_Plan___len__ ?_ (fun cdv A outer s H vs Q E hr h => ?_)) (F.bindsN (fun _ _ _ _ _ _ us hl => match us, hl with | [_], _ => rfl))
  · rintro vs H Q E ⟨z, _, _, rfl, _⟩; rfl
  · obtain ⟨p, ds, b, rfl, ⟨dx, t, hp, hv⟩, k⟩ := h
    have nd := sc_Plan___len__.nd
    obtain ⟨t', xs, e, hS, hX⟩ := hv.inv_t
    cases e
    have hxl : xs.length = ds.length := by rw [hX.length]; simp
    refine ⟨_, PSs.nox (pss_one (ps_ret (pe_len K M.b (pe_fldK K (pv 0))))), ?_⟩
    show (_ : TS) _ [some (.ref p)] H
    walk_at "go"
    refine n_fld hp C.cl C.parts (plan_parts t b) ?_
    refine g_len_t hS ?_
    rw [hxl]
    exact k
/-- the place of a day -/
def plc (n : Nat) (b d : Int) : Int := if d < n then d else b + (d - b) % (n - b)
def sp_place_of (K : PySem.W.Frag) : Sp := fun vs H Q _ => ∃ (t : Addr) (xs : List V) (b d : Int), vs = [.ref t, .int b, .int d] ∧ SqT K H t xs ∧ b < xs.length ∧ Q (.int (plc xs.length b d)) H
theorem ok_place_of (M : Md K mg) (G : Gd K mg "place_of" s_place_of) : DefR P w K mg base "place_of" 2 (sp_place_of K) := by
  refine def_mk G fun f fd F => fnr_mk (F.ok sc_place_of ?_ (fun cdv A outer s H vs Q E hr h => ?_)) (F.bindsN (fun _ _ _ _ _ _ us hl => match us, hl with | [_, _, _], _ => rfl))
  · rintro vs H Q E ⟨t, xs, b, d, rfl, _⟩; rfl
  · obtain ⟨t, xs, b, d, rfl, hS, hb, k⟩ := h
    have nd := sc_place_of.nd
    refine ⟨_, PSs.nox (pss_cons (ps_if (pt_cmpR op_lt (pv 2) (pe_len K M.b (pv 0)) (nomark _)) (pss_one (ps_ret (pv 2))) pss_nil)
    (pss_one (ps_ret (pe_op (op_addK K) (pv 1) (pe_op op_mod (pe_int1 M.b (pe_op op_sub (pv 2) (pv 1))) (pe_op op_sub (pe_len K M.b (pv 0)) (pv 1))))))), ?_⟩
    show (_ : TS) _ [some (.ref t), some (.int b), some (.int d)] H
    walk_at "go"
    refine g_len_t hS ?_
    walk_at "go"
    refine if_D (fun e => ?_) (fun e => ?_)
    · walk_at "go"
      rw [plc, if_pos e] at k
      exact k
    · walk_at "go"
      refine g_len_t hS ?_
      walk_at "go"
      rw [plc, if_neg e] at k
      exact k

end
section
variable {P : Program} {w : World} {K : PySem.W.Frag}
variable {mg : Str → Option Value} {base : Heap}
/-! ### days of a plan, by their places -/
def dayOf (ds : List (List Str)) (b : Int) (d : Nat) : List Str := ds.getD (plc ds.length b d).toNat []
theorem plc_lt {n : Nat} {b : Int} (d : Nat) (b0 : 0 ≤ b) (b1 : b < n) : 0 ≤ plc n b d ∧ plc n b d < n := by
  unfold plc
  split
  · omega
  · have h1 := Int.emod_nonneg (d - b) (by omega : (n : Int) - b ≠ 0)
    have h2 := Int.emod_lt_of_pos (d - b) (by omega : (0 : Int) < n - b)
    omega
theorem plc_next {n : Nat} {b : Int} (d : Nat) (b0 : 0 ≤ b) (b1 : b < n) : plc n b ((d + 1 : Nat) : Int) = if plc n b d + 1 < n then plc n b d + 1 else b := by
  unfold plc
  by_cases h : ((d + 1 : Nat) : Int) < n
  · rw [if_pos h, if_pos (by omega : (d : Int) < n), if_pos (by omega)]
    omega
  · rw [if_neg h]
    have hp : (0 : Int) < n - b := by omega
    by_cases h2 : (d : Int) < n
    · rw [if_pos h2, if_neg (by omega)]
      have e : ((d + 1 : Nat) : Int) - b = n - b := by omega
      rw [e, Int.emod_self]
      omega
    · rw [if_neg h2]
      have e : ((d + 1 : Nat) : Int) - b = (d - b) + 1 := by omega
      rw [e, Int.add_emod]
      have h3 := Int.emod_nonneg (d - b) (by omega : (n : Int) - b ≠ 0)
      have h4 := Int.emod_lt_of_pos (d - b) hp
      generalize (d - b) % (n - b) = r at *
      by_cases h5 : (n : Int) - b = 1
      · have r0 : r = 0 := by omega
        rw [h5, Int.emod_one, if_neg (by omega), Int.add_zero]
      · have e1 : (1 : Int) % (n - b) = 1 := Int.emod_eq_of_lt (by omega) (by omega)
        rw [e1]
        by_cases h6 : r + 1 < n - b
        · rw [Int.emod_eq_of_lt (by omega) h6, if_pos (by omega)]
          omega
        · have : r + 1 = n - b := by omega
          rw [this, Int.emod_self, if_neg (by omega)]
          omega
section
variable {ds : List (List Str)} {b : Int}
theorem plc_per {n : Nat} {p d : Nat} (b0 : 0 ≤ b) (b1 : b < n) (hp : (p : Int) = n - b) (hd : (n : Int) ≤ d) : plc n b ((d + p : Nat) : Int) = plc n b d := by
  unfold plc
  rw [if_neg (by omega : ¬ ((d + p : Nat) : Int) < n), if_neg (by omega : ¬ (d : Int) < n)]
  have e : ((d + p : Nat) : Int) - b = (d - b) + (n - b) := by omega
  rw [e, Int.add_emod_right]
theorem day_per {p d : Nat} (b0 : 0 ≤ b) (b1 : b < ds.length) (hp : (p : Int) = ds.length - b) (hd : ds.length ≤ d) : dayOf ds b (d + p) = dayOf ds b d := by
  unfold dayOf
  rw [plc_per b0 b1 hp (by omega)]
end

end
section
variable {P : Program} {w : World} {K : PySem.W.Frag}
variable {mg : Str → Option Value} {base : Heap}
theorem PlanAt.same {H H' : Hp} {p : Addr} {ds : List (List Str)} {b : Int} (e : Same H H') (h : PlanAt K CP H p ds b) : PlanAt K CP H' p ds b := let ⟨dx, t, h1, h2⟩ := h; ⟨dx, t, e _ _ h1, e.dp h2⟩
theorem noL_days (ds : List (List Str)) : noLs (ds.map pDay) = true := noLs_of fun d hd => by
  obtain ⟨zs, _, rfl⟩ := List.mem_map.mp hd
  show noLs (zs.map PyData.str) = true
  exact noLs_of fun e he => by
    obtain ⟨z, _, rfl⟩ := List.mem_map.mp he
    rfl
/-- Plan( .., lead=b): a new plan of these days -/
theorem n_plan {H : Hp} {Q : VK} {E : XK} {xs : List V} {ds : List (List Str)} {b : Int} (hX : DpAll K H xs (ds.map pDay)) (ok : DOk ds b) (h : ∀ H' p, Same H H' → H p = none → PlanAt K CP H' p ds b → Q (.ref p) H') : KwMk CP (sp_plan_init K CP) E Q xs [.int b] H := by
  have hl : xs.length ≤ 100 := by rw [hX.length]; simpa using ok.few
  refine n_kwmk fun fx fdx H8 nfx nfdx nefx s8 hfx hfdx => ?_
  refine ⟨.int b, .ref fx, xs, rfl, by rw [sizeLine_eq]; omega, fun t ht => ?_⟩
  have st := same_new (o := .tup xs) ht
  have hT : Dp K (upd H8 t (.tup xs)) (.ref t) (.tuple (ds.map pDay)) := dp_tup upd_same (st.dpa (s8.dpa hX))
  refine ⟨fx, fdx, t, ds, b, rfl, st _ _ hfx, hT, ok, fun H9 k9 h9 => ⟨rfl, ?_⟩⟩
  exact h H9 fx (fun c o hb => k9 _ _ (ne_of_none hb nfx) (st _ _ (s8 _ _ hb))) nfx ⟨fdx, t, h9, dp_keep k9 (notT_i (st _ _ hfx)) _ _ (by show noLs _ = true; exact noL_days ds) hT⟩
theorem sh_days {ds : List (List Str)} (h : ∀ d ∈ ds, ∀ z ∈ d, NmOk z) : Sh 2 (.tuple (ds.map pDay)) := sh_t fun d hd => by
  obtain ⟨zs, hz, rfl⟩ := List.mem_map.mp hd
  exact sh_t fun e he => by
    obtain ⟨z, hz', rfl⟩ := List.mem_map.mp he
    exact sh_s (h zs hz z hz').str

end
abbrev s_validate_number : Stmt := top 14
abbrev N_validate_number : List Str := ["number", "smallest", "largest"]
theorem sc_validate_number : FnScope N_validate_number ["number", "smallest", "largest"] (defScope s_validate_number) := ⟨rfl, rfl, rfl, by decide +kernel, rfl, by decide +kernel, by decide +kernel⟩
section
variable {P : Program} {w : World} {K : PySem.W.Frag}
variable {mg : Str → Option Value} {base : Heap}
def sp_valid : Sp := fun vs H Q _ => ∃ n a b : Int, vs = [.int n, .int a, .int b] ∧ a ≤ n ∧ n ≤ b ∧ Q .non H
theorem ok_valid (M : Md K mg) (G : Gd K mg "validate_number" s_validate_number) : DefR P w K mg base "validate_number" 2 sp_valid := by
  refine def_mk G fun f fd F => fnr_mk (F.ok sc_validate_number ?_ (fun cdv A outer s H vs Q E hr h => ?_)) (F.bindsN (fun _ _ _ _ _ _ us hl => match us, hl with | [_, _, _], _ => rfl))
  · rintro vs H Q E ⟨n, a, b, rfl, _⟩; rfl
  · obtain ⟨n, a, b, rfl, h1, h2, k⟩ := h
    have nd := sc_validate_number.nd
    refine ⟨_, PSs.nox (pss_one (ps_if (pt_not (pt_chain op_le op_le (pv 1) (pv 0) (pv 2))) (pss_one ps_never) pss_nil)), ?_⟩
    show (_ : TS) _ [some (.int n), some (.int a), some (.int b)] H
    walk_at "go"
    refine g_ch (fun _ => ?_) (fun e => absurd h1 (of_decide_eq_false e))
    walk_at "go"
    refine if_F (by rw [decide_eq_true h2]; rfl) ?_
    exact k

end
abbrev s_Plan___getitem__ : Stmt := inClass (top 20) 5
abbrev N_Plan___getitem__ : List Str := ["self", "day"]
theorem sc_Plan___getitem__ : FnScope N_Plan___getitem__ ["self", "day"] (defScope s_Plan___getitem__) := ⟨rfl, rfl, rfl, by decide +kernel, rfl, by decide +kernel, by decide +kernel⟩
section
variable {P : Program} {w : World} {K : PySem.W.Frag}
variable {mg : Str → Option Value} {base : Heap}
abbrev BIG : Int := 1000000000000000000
def inDay (ds : List (List Str)) (b : Int) (z : Str) (d : Nat) : Bool := decide (z ∈ dayOf ds b d)
theorem plan_day {H : Hp} {t : Addr} {ys : List V} {ds : List (List Str)} {b : Int} (d : Nat) (dok : DOk ds b) (hU : SqT K H t ys) (hY : DpAll K H ys (ds.map pDay)) : ∃ y t2, ys[(plc ds.length b d).toNat]? = some y ∧ y = .ref t2 ∧ SqT K H t2 ((dayOf ds b d).map V.str) := by
  have pb := plc_lt (n := ds.length) d dok.b0 dok.b1
  have hyl : ys.length = ds.length := by rw [hY.length]; simp
  obtain ⟨y, hy⟩ : ∃ y, ys[(plc ds.length b d).toNat]? = some y := ⟨_, List.getElem?_eq_getElem (by omega)⟩
  obtain ⟨dd, hdd, hDy⟩ := hY.get hy
  obtain ⟨zs, hzs, rfl⟩ := getm hdd
  have hz : dayOf ds b d = zs := by simp [dayOf, List.getD, hzs]
  obtain ⟨t2, ws, rfl, hT2, hW⟩ := hDy.inv_t
  have ew : ws = zs.map V.str := strs_of hW
  subst ew
  exact ⟨_, t2, hy, rfl, by rw [hz]; exact hT2⟩
def sp_plan_getitem (K : PySem.W.Frag) (CP : Addr) : Sp := fun vs H Q _ => ∃ (p : Addr) (ds : List (List Str)) (b : Int) (d : Nat), vs = [.ref p, .int d] ∧ PlanAt K CP H p ds b ∧ DOk ds b ∧ (d : Int) ≤ BIG ∧ ∀ t, SqT K H t ((dayOf ds b d).map V.str) → Q (.ref t) H
theorem ok_plan_getitem (M : Md K mg) (C : PlanC K CP) (G : Gm K CP "__getitem__" "Plan.__getitem__" s_Plan___getitem__) (D_validate_number : DefR P w K mg base "validate_number" 2 sp_valid) (D_place_of : DefR P w K mg base "place_of" 2 (sp_place_of K)) : MethR P w K mg base CP "__getitem__" 4 (sp_plan_getitem K CP) := by
  refine meth_mk G fun f fd F => FnU.raw (fnr_mk (F.ok sc_Plan___getitem__ ?_ (fun cdv A outer s H vs Q E hr h => ?_)) (F.bindsN (fun _ _ _ _ _ _ us hl => match us, hl with | [_, _], _ => rfl)))
  · rintro vs H Q E ⟨p, ds, b, d, rfl, _⟩; rfl
  · obtain ⟨p, ds, b, d, rfl, ⟨dx, t, hp, hv⟩, dok, dle, k⟩ := h
    have nd := sc_Plan___getitem__.nd
    obtain ⟨t', ys, e, hU, hY⟩ := hv.inv_t
    cases e
    have hyl : ys.length = ds.length := by rw [hY.length]; simp
    obtain ⟨y, t2, hy, rfl, hT2⟩ := plan_day d dok hU hY
    have pb := plc_lt (n := ds.length) d dok.b0 dok.b1
    refine ⟨_, PSs.nox (pss_cons (ps_expr (pe_callR D_validate_number (hr.mono (by first | decide | omega)) passN (pa_cons (pv 1) (pa_cons pe_int (pa_cons (pe_gi M.g_MAX_DAY) pa_nil)))))
    (pss_one (ps_ret (pe_ix (ix_K K) (pe_fldK K (pv 0)) (pe_callR D_place_of (hr.mono (by first | decide | omega)) passN (pa_cons (pe_fldK K (pv 0)) (pa_cons (pe_fldK K (pv 0)) (pa_cons (pv 1) pa_nil)))) (fun _ _ => rfl))))), ?_⟩
    show (_ : TS) _ [some (.ref p), some (.int d)] H
    walk_at "go"
    refine ⟨d, 0, BIG, rfl, by omega, dle, ?_⟩
    walk_at "go"
    refine n_fld hp C.cl C.parts (plan_parts t b) ?_
    walk_at "go"
    refine n_fld hp C.cl C.parts (plan_parts t b) ?_
    walk_at "go"
    refine n_fld hp C.cl C.begin_ (plan_begin t b) ?_
    walk_at "go"
    refine ⟨t, ys, b, d, rfl, hU, by rw [hyl]; exact dok.b1, ?_⟩
    rw [hyl]
    exact g_ix_t hU (atI_i pb.1 hy) (k t2 hT2)

end
abbrev s_require_known : Stmt := top 22
abbrev N_require_known : List Str := ["farm", "plan", "day", "name"]
theorem sc_require_known : FnScope N_require_known ["farm", "plan"] (defScope s_require_known) := ⟨rfl, rfl, rfl, by decide +kernel, rfl, by decide +kernel, by decide +kernel⟩
section
variable {P : Program} {w : World} {K : PySem.W.Frag}
variable {mg : Str → Option Value} {base : Heap}
def sp_require_known (K : PySem.W.Frag) (CF CP : Addr) : Sp := fun vs H Q _ => ∃ (p q : Addr) (fs : List (Str × Int)) (ds : List (List Str)) (b : Int), vs = [.ref p, .ref q] ∧ FarmAt K CF H p fs ∧ fs.length ≤ 6 ∧ PlanAt K CP H q ds b ∧ (∀ d ∈ ds, ∀ z ∈ d, z ∈ fs.map (·.1)) ∧ ∀ H', Same H H' → Q .non H'
theorem ok_require_known (M : Md K mg) (G : Gd K mg "require_known" s_require_known) (P_Plan_days : PropR P w K mg base CP "days" 2 (sp_plan_days CP)) (D_require_field : DefR P w K mg base "require_field" 5 (sp_require_field K CF)) : DefR P w K mg base "require_known" 8 (sp_require_known K CF CP) := by
  refine def_mk G fun f fd F => fnr_mk (F.ok sc_require_known ?_ (fun cdv A outer s H vs Q E hr h => ?_)) (F.bindsN (fun _ _ _ _ _ _ us hl => match us, hl with | [_, _], _ => rfl))
  · rintro vs H Q E ⟨p, q, fs, ds, b, rfl, _⟩; rfl
  · obtain ⟨p, q, fs, ds, b, rfl, hF, six, ⟨dx, t, hq, hv⟩, known, k⟩ := h
    have nd := sc_require_known.nd
    obtain ⟨t', xs, e, hS, hX⟩ := hv.inv_t
    cases e
    refine ⟨_, PSs.nox (pss_one (ps_for PassesOwn.never rfl (pi_tupK K (pe_propR P_Plan_days (hr.mono (by first | decide | omega)) (pv 1))) (pg_name (i := 2) nd rfl (by first | exact Or.inl rfl | exact Or.inr rfl)) (pss_one (ps_for PassesOwn.never rfl (pi_tupK K (pv 2)) (pg_name (i := 3) nd rfl (by first | exact Or.inl rfl | exact Or.inr rfl)) (pss_one (ps_expr (pe_callR D_require_field (hr.mono (by first | decide | omega)) passN (pa_cons (pv 0) (pa_cons (pv 3) pa_nil))))))))), ?_⟩
    show (_ : TS) _ [some (.ref p), some (.ref q), none, none] H
    walk_at "go"
    refine n_prop hq ⟨q, dx, t, b, rfl, hq, ?_⟩
    refine n_forT hS (fun i σ H' => ∃ u1 u2 : Option V, σ = [some (.ref p), some (.ref q), u1, u2] ∧ Same H H') ⟨_, _, rfl, Same.refl _⟩ (fun i σ H' ⟨_, _, _, s2⟩ => same_t s2 hS) ?_ ?_
    · rintro i y σ H2 hy ⟨u1, u2, rfl, s2⟩
      obtain ⟨dd, hd, hDx⟩ := hX.get hy
      obtain ⟨zs, hzs, rfl⟩ := getm hd
      have zm : zs ∈ ds := List.mem_of_getElem? hzs
      obtain ⟨t2, ys, rfl, hT2, hY⟩ := (s2.dp hDx).inv_t
      have ey : ys = zs.map V.str := strs_of hY
      subst ey
      walk_at "go"
      refine n_forT hT2 (fun j σ H' => ∃ v1 : Option V, σ = [some (.ref p), some (.ref q), some (.ref t2), v1] ∧ Same H2 H') ⟨_, rfl, Same.refl _⟩ (fun j σ H' ⟨_, _, s3⟩ => same_t s3 hT2) ?_ ?_
      · rintro j z σ H3 hz ⟨v1, rfl, s3⟩
        obtain ⟨z', hz', rfl⟩ := getm hz
        walk_at "go"
        refine ⟨p, z', fs, rfl, FarmAt.same (s2.trans s3) hF, six, known zs zm z' (List.mem_of_getElem? hz'), fun H4 s4 => ?_⟩
        walk_at "go"
        exact ⟨_, rfl, s3.trans s4⟩
      · rintro σ H3 ⟨v1, rfl, s3⟩
        walk_at "go"
        exact ⟨_, _, rfl, s2.trans s3⟩
    · rintro σ H2 ⟨u1, u2, rfl, s2⟩
      walk_at "go"
      exact k H2 s2

end
abbrev s_left_after : Stmt := top 23
abbrev N_left_after : List Str := ["farm", "left", "harvested", "found", "name", "limit", "days"]
theorem sc_left_after : FnScope N_left_after ["farm", "left", "harvested"] (defScope s_left_after) := ⟨rfl, rfl, rfl, by decide +kernel, rfl, by decide +kernel, by decide +kernel⟩
section
variable {P : Program} {w : World} {K : PySem.W.Frag}
variable {mg : Str → Option Value} {base : Heap}
def ItZ (K : PySem.W.Frag) (g : TG) (tb : TS) (D : Ends) (σ : L2.St) (vs : List V) (H1 : Hp) : Prop := ∃ a b xs ys, vs = [.ref a, .ref b] ∧ ((SqL K H1 a xs ∧ SqL K H1 b ys ∧ LoopJ (Itz K a b) g tb D σ H1) ∨ (SqT K H1 a xs ∧ SqT K H1 b ys ∧ LoopJ (RZ.ItzT K a b) g tb D σ H1))
theorem g_forZ {ts : TA} {g : TG} {tbs : TS} {D : Ends} {σ : L2.St} {H : Hp} (h : ts σ H (ItZ K g tbs D σ)) : tFor (RZ.iZipA K ts) g tbs D σ H := h
theorem n_forZT {g : TG} {tbs : TS} {D : Ends} {σ : L2.St} {H : Hp} {a b : Addr} {xs ys : List V} (h1 : SqT K H a xs) (h2 : SqT K H b ys) (hl : xs.length = ys.length) (Pv : Nat → L2.St → Hp → Prop) (h0 : Pv 0 σ H) (hq : ∀ i σ H, Pv i σ H → SqT K H a xs ∧ SqT K H b ys)
    (hs : ∀ (i : Nat) x y T σ H H', xs[i]? = some x → ys[i]? = some y → Pv i σ H → H T = none → Same H H' → H' T = some (.tup [x, y]) → g (.ref T) σ H' fun σ2 H2 => tbs { D with nx := Pv (i + 1), ct := Pv (i + 1), bk := D.nx } σ2 H2) (hd : ∀ σ H, Pv xs.length σ H → D.nx σ H) : ItZ K g tbs D σ [.ref a, .ref b] H :=
  ⟨a, b, xs, ys, rfl, .inr ⟨h1, h2, RZ.for_zipT hl Pv h0 hq (fun i x y T σ H e1 e2 p hn => hs i x y T σ H _ e1 e2 p hn (same_new hn) upd_same) hd⟩⟩
/-- a field rots: it waits its last day and is not harvested; else what is left tomorrow -/
def rotB (zs : List Str) (q : (Str × Int) × Int) : Bool := !decide (q.1.1 ∈ zs) && decide (q.2 = 1)
def nxtL (zs : List Str) (q : (Str × Int) × Int) : Int := if q.1.1 ∈ zs then q.1.2 else q.2 - 1
def sp_left_after (K : PySem.W.Frag) (CF : Addr) : Sp := fun vs H Q _ => ∃ (p t u : Addr) (fs : List (Str × Int)) (ls : List Int) (zs : List Str), vs = [.ref p, .ref t, .ref u] ∧ FarmAt K CF H p fs ∧ fs.length ≤ 6 ∧ SqT K H t (ls.map V.int) ∧ ls.length = fs.length ∧ SqT K H u (zs.map V.str) ∧
  ((fs.zip ls).any (rotB zs) = true → ∀ H', Same H H' → Q .non H') ∧ ((fs.zip ls).any (rotB zs) = false → ∀ H' r, Same H H' → SqT K H' r (((fs.zip ls).map (nxtL zs)).map V.int) → Q (.ref r) H')
theorem ok_left_after (M : Md K mg) (G : Gd K mg "left_after" s_left_after) (P_Farm_fields : PropR P w K mg base CF "fields" 2 (sp_farm_fields K CF)) : DefR P w K mg base "left_after" 5 (sp_left_after K CF) := by
  refine def_mk G fun f fd F => fnr_mk (F.ok sc_left_after ?_ (fun cdv A outer s H vs Q E hr h => ?_)) (F.bindsN (fun _ _ _ _ _ _ us hl => match us, hl with | [_, _, _], _ => rfl))
  · rintro vs H Q E ⟨p, t, u, fs, ls, zs, rfl, _⟩; rfl
  · obtain ⟨p, t, u, fs, ls, zs, rfl, ⟨dx, r, hp, hv⟩, six, hL, hll, hZ, kn, ks⟩ := h
    have nd := sc_left_after.nd
    obtain ⟨r', xs, e, hS, hX⟩ := hv.inv_t
    cases e
    have hxl : xs.length = fs.length := by rw [hX.length]; simp
    refine ⟨_, PSs.nox (pss_cons (ps_set (i := 3) nd rfl (by first | exact Or.inl rfl | exact Or.inr rfl) (pe_lst pa_nil))
    (pss_cons (ps_for PassesOwn.never rfl (pi_zipK K rfl M.b.zip (pa_cons (pe_propR P_Farm_fields (hr.mono (by first | decide | omega)) (pv 0)) (pa_cons (pv 1) pa_nil))) (pg_tupK K rfl (pgs_cons (pg_tupK K rfl (pgs_cons (pg_name (i := 4) nd rfl (by first | exact Or.inl rfl | exact Or.inr rfl)) (pgs_cons (pg_name (i := 5) nd rfl (by first | exact Or.inl rfl | exact Or.inr rfl)) pgs_nil))) (pgs_cons (pg_name (i := 6) nd rfl (by first | exact Or.inl rfl | exact Or.inr rfl)) pgs_nil))) (pss_cons (ps_if (PW.pt (pw_and (pt_cmpR (op_notInK K hr) (pv 4) (pv 2) rfl) (pw_and1 (pt_cmpR (op_eqK K hr) (pv 6) pe_int (nomark _))))) (pss_one (ps_ret pe_non)) pss_nil)
    (pss_one (ps_expr (as_bm K (pe_bm PySem.F.plainAttrs_list PySem.F.slot_list_append PySem.F.type_list_append mt_append (pv 3) (pa_cons (pe_ifExp (pt_cmpR (op_inK K hr) (pv 4) (pv 2) rfl) (pv 5) (pe_op op_sub (pv 6) pe_int)) pa_nil))))))) (pss_one (ps_ret (pe_tupOf K M.b (pv 3)))))), ?_⟩
    show (_ : TS) _ [some (.ref p), some (.ref t), some (.ref u), none, none, none, none] H
    walk_at "go"
    refine n_lst (by simp) fun l H1 nl s1 hl1 => ?_
    walk_at "go"
    refine g_forZ ?_
    walk_at "go"
    refine n_prop (s1 _ _ hp) ⟨p, dx, r, rfl, s1 _ _ hp, ?_⟩
    walk_at "go"
    refine n_forZT (same_t s1 hS) (same_t s1 hL) (by simp [hxl, hll]) (fun i σ H' => ∃ u1 u2 u3 : Option V, σ = [some (.ref p), some (.ref t), some (.ref u), some (.ref l), u1, u2, u3] ∧ Same H H' ∧ H' l = some (.lst ((((fs.zip ls).take i).map (nxtL zs)).map V.int)) ∧ ((fs.zip ls).take i).any (rotB zs) = false)
      ⟨_, _, _, rfl, s1, by simpa using hl1, by simp⟩ (fun i σ H' ⟨_, _, _, _, s2, _⟩ => ⟨same_t s2 hS, same_t s2 hL⟩) ?_ ?_
    · rintro i x y T σ H2 H3 hx hy ⟨u1, u2, u3, rfl, s2, hl2, no⟩ nT s3 hT
      obtain ⟨dd, hd, hDx⟩ := hX.get hx
      obtain ⟨fi, hfi, rfl⟩ := getm hd
      obtain ⟨li, hli, rfl⟩ := getm hy
      have sA := s2.trans s3
      obtain ⟨t2, ys, rfl, hT2, hY⟩ := (sA.dp hDx).inv_t
      obtain ⟨v1, v2, rfl, hv1, hv2⟩ := hY.inv2
      obtain rfl := hv1.inv_s
      obtain rfl := hv2.inv_i
      have hzip : (fs.zip ls)[i]? = some (fi, li) := by
        rw [List.getElem?_zip_eq_some]
        exact ⟨hfi, hli⟩
      refine g_gtup (SqT.of hT) rfl ?_
      walk_at "go"
      refine g_gtup hT2 rfl ?_
      walk_at "go"
      refine g_notIn_seq (.inr (same_t sA hZ)) rfl (flat_strs _) ?_
      rw [inV_strs]
      have hil : i < 6 := by
        have := (List.getElem?_eq_some_iff.mp hx).1
        omega
      have et : (fs.zip ls).take (i + 1) = (fs.zip ls).take i ++ [(fi, li)] := by rw [List.take_add_one, hzip]; rfl
      have fin : ∀ H4, Keep l H3 H4 → rotB zs (fi, li) = false → H4 l = some (.lst ((((fs.zip ls).take i).map (nxtL zs)).map V.int ++ [V.int (nxtL zs (fi, li))])) →
          ∃ u1 u2 u3 : Option V, [some (V.ref p), some (.ref t), some (.ref u), some (.ref l), some (.str fi.1), some (.int fi.2), some (.int li)] = [some (.ref p), some (.ref t), some (.ref u), some (.ref l), u1, u2, u3] ∧ Same H H4 ∧ H4 l = some (.lst ((((fs.zip ls).take (i + 1)).map (nxtL zs)).map V.int)) ∧ ((fs.zip ls).take (i + 1)).any (rotB zs) = false := fun H4 k4 nr h4 =>
        ⟨_, _, _, rfl, fun b o hb => k4 b o (ne_of_none hb nl) (sA b o hb), by rw [et, h4]; simp, by rw [et]; simp only [List.any_append, no, Bool.false_or, List.any_cons, List.any_nil, Bool.or_false, nr]⟩
      have hl3 := s3 _ _ hl2
      by_cases hz : fi.1 ∈ zs
      · rw [decide_eq_true hz]
        walk_at "go"
        refine if_F rfl ?_
        refine if_F rfl ?_
        walk_at "go"
        refine g_in_seq (.inr (same_t sA hZ)) rfl (flat_strs _) ?_
        rw [inV_strs, decide_eq_true hz]
        walk_at "go"
        refine if_T rfl ?_
        walk_at "go"
        refine g_append hl3 (by simp [sizeLine_eq]; omega) fun H4 k4 h4 => ?_
        walk_at "go"
        exact fin H4 k4 (by simp [rotB, hz]) (by rw [h4, nxtL, if_pos hz])
      · rw [decide_eq_false hz]
        walk_at "go"
        refine if_T rfl ?_
        walk_at "go"
        refine if_D (fun e1 => ?_) (fun e1 => ?_)
        · walk_at "go"
          refine kn ?_ H3 sA
          rw [List.any_eq_true]
          exact ⟨(fi, li), List.mem_of_getElem? hzip, by simp [rotB, hz, e1]⟩
        · walk_at "go"
          refine g_in_seq (.inr (same_t sA hZ)) rfl (flat_strs _) ?_
          rw [inV_strs, decide_eq_false hz]
          walk_at "go"
          refine if_F rfl ?_
          walk_at "go"
          refine g_append hl3 (by simp [sizeLine_eq]; omega) fun H4 k4 h4 => ?_
          walk_at "go"
          exact fin H4 k4 (by simp [rotB, e1]) (by rw [h4, nxtL, if_neg hz])
    · rintro σ H2 ⟨u1, u2, u3, rfl, s2, hl2, no⟩
      have el : (fs.zip ls).take xs.length = fs.zip ls := List.take_of_length_le (by simp; omega)
      rw [el] at hl2 no
      walk_at "go"
      refine g_tupOf_l (SqL.of hl2) fun q H3 nq s3 hq3 => ?_
      walk_at "go"
      exact ks no H3 q (s2.trans s3) (SqT.of hq3)

end
section
variable {P : Program} {w : World} {K : PySem.W.Frag}
variable {mg : Str → Option Value} {base : Heap}
/-! ### plain mathematics of plans -/
/-- what is left of each field's days on day d, if nothing rots -/
def stL (fs : List (Str × Int)) (ds : List (List Str)) (b : Int) : Nat → List Int
  | 0 => fs.map (·.2)
  | d + 1 => (fs.zip (stL fs ds b d)).map (nxtL (dayOf ds b d))
def rotAt (fs : List (Str × Int)) (ds : List (List Str)) (b : Int) (d : Nat) : Option Str := ((fs.zip (stL fs ds b d)).find? (rotB (dayOf ds b d))).map (·.1.1)
theorem stL_len (fs : List (Str × Int)) (ds : List (List Str)) (b : Int) (d : Nat) : (stL fs ds b d).length = fs.length := by
  induction d with
  | zero => simp [stL]
  | succ d ih => simp [stL, ih]
/-- place and days left -/
def stt (fs : List (Str × Int)) (ds : List (List Str)) (b : Int) (d : Nat) : Int × List Int := (plc ds.length b d, stL fs ds b d)
section
variable {fs : List (Str × Int)} {ds : List (List Str)} {b : Int}
theorem stt_next (b0 : 0 ≤ b) (b1 : b < ds.length) {i j : Nat} (h : stt fs ds b i = stt fs ds b j) : stt fs ds b (i + 1) = stt fs ds b (j + 1) := by
  have h1 : plc ds.length b i = plc ds.length b j := congrArg Prod.fst h
  have h2 : stL fs ds b i = stL fs ds b j := congrArg Prod.snd h
  unfold stt
  rw [plc_next i b0 b1, plc_next j b0 b1, h1]
  simp only [stL, dayOf, h1, h2]
theorem rot_same {i j : Nat} (h : stt fs ds b i = stt fs ds b j) : rotAt fs ds b i = rotAt fs ds b j := by
  have h1 : plc ds.length b i = plc ds.length b j := congrArg Prod.fst h
  have h2 : stL fs ds b i = stL fs ds b j := congrArg Prod.snd h
  simp only [rotAt, dayOf, h1, h2]
theorem stt_add (b0 : 0 ≤ b) (b1 : b < ds.length) {i j : Nat} (h : stt fs ds b i = stt fs ds b j) (k : Nat) : stt fs ds b (i + k) = stt fs ds b (j + k) := by
  induction k with
  | zero => exact h
  | succ k ih => exact stt_next b0 b1 ih
/-- a state that comes again: nothing rots ever -/
theorem never (b0 : 0 ≤ b) (b1 : b < ds.length) {i j : Nat} (lt : i < j) (h : stt fs ds b i = stt fs ds b j) (no : ∀ d, d < j → rotAt fs ds b d = none) (d : Nat) : rotAt fs ds b d = none := by
  induction d using Nat.strongRecOn with
  | ind d ih =>
    by_cases hd : d < j
    · exact no d hd
    · have e : stt fs ds b (i + (d - j)) = stt fs ds b (j + (d - j)) := stt_add b0 b1 h _
      have e2 : j + (d - j) = d := by omega
      rw [e2] at e
      rw [← rot_same e]
      exact ih _ (by omega)
end
/-- the last harvest of z before day d, -1 if there was none -/
def lastH (ds : List (List Str)) (b : Int) (z : Str) : Nat → Int
  | 0 => -1
  | d + 1 => if z ∈ dayOf ds b d then (d : Int) else lastH ds b z d
theorem lastH_lt (ds : List (List Str)) (b : Int) (z : Str) (d : Nat) : -1 ≤ lastH ds b z d ∧ lastH ds b z d < d := by
  induction d with
  | zero => simp [lastH]
  | succ d ih =>
    unfold lastH
    split <;> omega
theorem stL_at {fs : List (Str × Int)} {ds : List (List Str)} {b : Int} {k : Nat} {f : Str × Int} (hf : fs[k]? = some f) (d : Nat) : (stL fs ds b d)[k]? = some (f.2 - (d - 1 - lastH ds b f.1 d)) := by
  induction d with
  | zero =>
    simp only [stL, List.getElem?_map, hf, lastH]
    simp
  | succ d ih =>
    have hz : (fs.zip (stL fs ds b d))[k]? = some (f, f.2 - (d - 1 - lastH ds b f.1 d)) := by
      rw [List.getElem?_zip_eq_some]
      exact ⟨hf, ih⟩
    simp only [stL, List.getElem?_map, hz, Option.map_some, nxtL, lastH]
    split <;> (congr 1; omega)
/-- nothing has rotted before d: no field has waited longer than its limit -/
theorem waits {fs : List (Str × Int)} {ds : List (List Str)} {b : Int} (lo : ∀ f ∈ fs, 1 ≤ f.2) {d : Nat} (no : ∀ e, e < d → rotAt fs ds b e = none) {f : Str × Int} (hf : f ∈ fs) : d - lastH ds b f.1 d ≤ f.2 := by
  induction d with
  | zero =>
    have := lo f hf
    simp [lastH]; omega
  | succ d ih =>
    have h1 := ih fun e he => no e (by omega)
    obtain ⟨k, hk⟩ := List.getElem?_of_mem hf
    have h2 := no d (by omega)
    unfold lastH
    split
    · have := lo f hf
      omega
    · rename_i hz
      have hne : (d : Int) - lastH ds b f.1 d ≠ f.2 := by
        intro e
        unfold rotAt at h2
        rw [Option.map_eq_none_iff, List.find?_eq_none] at h2
        have hq : (fs.zip (stL fs ds b d))[k]? = some (f, f.2 - (d - 1 - lastH ds b f.1 d)) := by
          rw [List.getElem?_zip_eq_some]
          exact ⟨hk, stL_at hk d⟩
        have := h2 _ (List.mem_of_getElem? hq)
        apply this
        simp only [rotB, hz, decide_false, Bool.not_false, Bool.true_and, decide_eq_true_eq]
        omega
      omega

end
section
variable {P : Program} {w : World} {K : PySem.W.Frag}
variable {mg : Str → Option Value} {base : Heap}
section
variable {fs : List (Str × Int)} {ds : List (List Str)} {b : Int} {z : Str}
theorem lastH_in {d : Nat} (h : 0 ≤ lastH ds b z d) : z ∈ dayOf ds b (lastH ds b z d).toNat := by
  induction d with
  | zero => simp [lastH] at h
  | succ d ih =>
    unfold lastH at h ⊢
    split at h
    · rename_i hz
      rw [if_pos hz]
      simpa using hz
    · rename_i hz
      rw [if_neg hz]
      exact ih h
theorem lastH_no {d x : Nat} (h1 : lastH ds b z d < x) (h2 : x < d) : z ∉ dayOf ds b x := by
  induction d with
  | zero => omega
  | succ d ih =>
    unfold lastH at h1
    split at h1
    · omega
    · rename_i hz
      by_cases e : x = d
      · rw [e]; exact hz
      · exact ih h1 (by omega)
theorem lastH_eq {d e : Nat} (lt : e < d) (h1 : z ∈ dayOf ds b e) (h2 : ∀ x, e < x → x < d → z ∉ dayOf ds b x) : lastH ds b z d = e := by
  have hl := lastH_lt ds b z d
  by_cases h : lastH ds b z d < e
  · exact absurd h1 (lastH_no h lt)
  · by_cases h' : (e : Int) < lastH ds b z d
    · have := lastH_in (ds := ds) (b := b) (z := z) (d := d) (by omega)
      exact absurd this (h2 _ (by omega) (by omega))
    · omega
/-- behind the first days a last harvest comes again a period later -/
theorem lastH_per {p d : Nat} (b0 : 0 ≤ b) (b1 : b < ds.length) (hp : (p : Int) = ds.length - b) (h : (ds.length : Int) ≤ lastH ds b z d) : lastH ds b z (d + p) = lastH ds b z d + p := by
  have hl := lastH_lt ds b z d
  have hin := lastH_in (ds := ds) (b := b) (z := z) (d := d) (by omega)
  have e := lastH_eq (ds := ds) (b := b) (z := z) (d := d + p) (e := (lastH ds b z d).toNat + p) (by omega) (by rw [day_per b0 b1 hp (by omega)]; exact hin) (fun x hx1 hx2 => by
    have e2 : x = (x - p) + p := by omega
    rw [e2, day_per b0 b1 hp (by omega)]
    exact lastH_no (d := d) (by omega) (by omega))
  rw [e]; omega
/-- where nothing rots for long enough, a state comes again -/
theorem again (b0 : 0 ≤ b) (b1 : b < ds.length) {m d : Nat} (lo : ∀ f ∈ fs, 1 ≤ f.2) (hi : ∀ f ∈ fs, f.2 ≤ m) (hd : ds.length + m ≤ d) (no : ∀ e, e < d → rotAt fs ds b e = none) : stt fs ds b d = stt fs ds b (d + (ds.length - b).toNat) := by
  have hp : (((ds.length - b).toNat : Nat) : Int) = ds.length - b := by omega
  unfold stt
  rw [plc_per b0 b1 hp (by omega)]
  congr 1
  apply List.ext_getElem?
  intro k
  cases hf : fs[k]? with
  | none =>
    have h1 : fs.length ≤ k := List.getElem?_eq_none_iff.mp hf
    rw [List.getElem?_eq_none_iff.mpr (by rw [stL_len]; exact h1), List.getElem?_eq_none_iff.mpr (by rw [stL_len]; exact h1)]
  | some f =>
    have fm := List.mem_of_getElem? hf
    have hw := waits lo no fm
    have hm := hi f fm
    rw [stL_at hf, stL_at hf, lastH_per b0 b1 hp (by omega)]
    congr 1
    omega
end

end
abbrev s_first_rot : Stmt := top 24
abbrev N_first_rot : List Str := ["farm", "plan", "left", "seen", "day", "harvested", "name", "days"]
theorem sc_first_rot : FnScope N_first_rot ["farm", "plan"] (defScope s_first_rot) := ⟨rfl, rfl, rfl, by decide +kernel, rfl, by decide +kernel, by decide +kernel⟩
section
variable {P : Program} {w : World} {K : PySem.W.Frag}
variable {mg : Str → Option Value} {base : Heap}
abbrev pSt (q : Int × List Int) : PyData := .tuple [.int q.1, .tuple (q.2.map .int)]
theorem eqv_ints : ∀ a b : List Int, PyData.eqvAll (a.map .int) (b.map .int) = decide (a = b)
  | [], m => by cases m <;> simp [PyData.eqvAll]
  | x :: a, [] => by simp [PyData.eqvAll]
  | x :: a, y :: b => by
    simp only [List.map_cons, PyData.eqvAll, PyData.eqv, eqv_ints a b]
    by_cases h : x = y <;> simp [h]
theorem eqv_pSt (a b : Int × List Int) : PyData.eqv (pSt a) (pSt b) = decide (a = b) := by
  obtain ⟨i, l⟩ := a
  obtain ⟨j, m⟩ := b
  simp only [pSt, PyData.eqv, PyData.eqvAll, eqv_ints]
  by_cases h : i = j <;> simp [h]
theorem sh_st (a : Int × List Int) : Sh 2 (pSt a) := sh_t fun d hd => by
  have : d = .int a.1 ∨ d = .tuple (a.2.map .int) := by simpa using hd
  rcases this with rfl | rfl
  · exact (sh_i _).mono (by decide)
  · exact sh_t fun e he => by
      obtain ⟨i, _, rfl⟩ := List.mem_map.mp he
      exact sh_i _
theorem noL_st (a : Int × List Int) : noL (pSt a) = true := by
  show noLs _ = true
  refine noLs_of fun d hd => ?_
  have : d = .int a.1 ∨ d = .tuple (a.2.map .int) := by simpa using hd
  rcases this with rfl | rfl
  · rfl
  · show noLs _ = true
    exact noLs_of fun e he => by
      obtain ⟨i, _, rfl⟩ := List.mem_map.mp he
      rfl
theorem find_first {α : Type} {f : α → Bool} : ∀ {l : List α} {i : Nat} {x : α}, l[i]? = some x → (l.take i).any f = false → f x = true → l.find? f = some x
  | [], i, x, h, _, _ => by simp at h
  | a :: l, 0, x, h, _, hx => by
    have : a = x := by simpa using h
    subst this
    simp [List.find?, hx]
  | a :: l, i + 1, x, h, hn, hx => by
    have h1 : f a = false ∧ (l.take i).any f = false := by simpa using hn
    simp only [List.find?, h1.1]
    exact find_first (by simpa using h) h1.2 hx
theorem find_none {α : Type} {f : α → Bool} {l : List α} (h : l.any f = false) : l.find? f = none := by
  rw [List.find?_eq_none]
  intro x hx hf
  rw [List.any_eq_false] at h
  exact h x hx hf
def sp_first_rot (K : PySem.W.Frag) (CF CP : Addr) : Sp := fun vs H Q _ => ∃ (p q : Addr) (fs : List (Str × Int)) (ds : List (List Str)) (b : Int), vs = [.ref p, .ref q] ∧ FarmAt K CF H p fs ∧ FOk fs ∧ PlanAt K CP H q ds b ∧ DOk ds b ∧ (∀ d ∈ ds, ∀ z ∈ d, z ∈ fs.map (·.1)) ∧
  (∀ (D : Nat) z, (∀ e, e < D → rotAt fs ds b e = none) → rotAt fs ds b D = some z → ∀ H' r, Same H H' → SqT K H' r [.int D, .str z] → Q (.ref r) H') ∧ ((∀ d, rotAt fs ds b d = none) → ∀ H', Same H H' → Q .non H')
theorem ok_first_rot (M : Md K mg) (G : Gd K mg "first_rot" s_first_rot) (D_require_known : DefR P w K mg base "require_known" 8 (sp_require_known K CF CP)) (D_place_of : DefR P w K mg base "place_of" 2 (sp_place_of K)) (D_left_after : DefR P w K mg base "left_after" 5 (sp_left_after K CF))
    (P_Farm_names : PropR P w K mg base CF "names" 2 (sp_farm_names K CF)) (P_Farm_limits : PropR P w K mg base CF "limits" 2 (sp_farm_limits K CF)) (P_Plan_days : PropR P w K mg base CP "days" 2 (sp_plan_days CP)) (P_Plan_lead : PropR P w K mg base CP "lead" 2 (sp_plan_lead CP)) : DefR P w K mg base "first_rot" 10 (sp_first_rot K CF CP) := by
  refine def_mk G fun f fd F => fnr_mk (F.ok sc_first_rot ?_ (fun cdv A outer s H vs Q E hr h => ?_)) (F.bindsN (fun _ _ _ _ _ _ us hl => match us, hl with | [_, _], _ => rfl))
  · rintro vs H Q E ⟨p, q, fs, ds, b, rfl, _⟩; rfl
  · obtain ⟨p, q, fs, ds, b, rfl, hF, fok, hP, dok, known, kr, kn⟩ := h
    have nd := sc_first_rot.nd
    have hF' := hF
    obtain ⟨dx, t, hp, hv⟩ := hF'
    have hP' := hP
    obtain ⟨dy, u, hq, hw⟩ := hP'
    refine ⟨_, PSs.nox (pss_cons (ps_expr (pe_callR D_require_known (hr.mono (by first | decide | omega)) passN (pa_cons (pv 0) (pa_cons (pv 1) pa_nil))))
    (pss_cons (ps_par3 (i := 2) (j := 3) (l := 4) rfl nd rfl rfl rfl (by decide) (by decide) (by decide) rfl rfl rfl (pa_cons (pe_propR P_Farm_limits (hr.mono (by first | decide | omega)) (pv 0)) (pa_cons (pe_lst pa_nil) (pa_cons pe_int pa_nil))) (by rfl))
    (pss_cons (ps_while PassesOwn.never (pt_cmpR (op_notInK K hr) (pe_tup (pa_cons (pe_callR D_place_of (hr.mono (by first | decide | omega)) passN (pa_cons (pe_propR P_Plan_days (hr.mono (by first | decide | omega)) (pv 1)) (pa_cons (pe_propR P_Plan_lead (hr.mono (by first | decide | omega)) (pv 1)) (pa_cons (pv 4) pa_nil)))) (pa_cons (pv 2) pa_nil))) (pv 3) rfl) (pss_cons (ps_expr (as_bm K (pe_bm PySem.F.plainAttrs_list PySem.F.slot_list_append PySem.F.type_list_append mt_append (pv 3) (pa_cons (pe_tup (pa_cons (pe_callR D_place_of (hr.mono (by first | decide | omega)) passN (pa_cons (pe_propR P_Plan_days (hr.mono (by first | decide | omega)) (pv 1)) (pa_cons (pe_propR P_Plan_lead (hr.mono (by first | decide | omega)) (pv 1)) (pa_cons (pv 4) pa_nil)))) (pa_cons (pv 2) pa_nil))) pa_nil))))
    (pss_cons (ps_set (i := 5) nd rfl (by first | exact Or.inl rfl | exact Or.inr rfl) (pe_ix (ix_K K) (pe_propR P_Plan_days (hr.mono (by first | decide | omega)) (pv 1)) (pe_callR D_place_of (hr.mono (by first | decide | omega)) passN (pa_cons (pe_propR P_Plan_days (hr.mono (by first | decide | omega)) (pv 1)) (pa_cons (pe_propR P_Plan_lead (hr.mono (by first | decide | omega)) (pv 1)) (pa_cons (pv 4) pa_nil)))) (fun _ _ => rfl)))
    (pss_cons (ps_for PassesOwn.never rfl (pi_zipK K rfl M.b.zip (pa_cons (pe_propR P_Farm_names (hr.mono (by first | decide | omega)) (pv 0)) (pa_cons (pv 2) pa_nil))) (pg_tupK K rfl (pgs_cons (pg_name (i := 6) nd rfl (by first | exact Or.inl rfl | exact Or.inr rfl)) (pgs_cons (pg_name (i := 7) nd rfl (by first | exact Or.inl rfl | exact Or.inr rfl)) pgs_nil))) (pss_one (ps_if (PW.pt (pw_and (pt_cmpR (op_eqK K hr) (pv 7) pe_int (nomark _)) (pw_and1 (pt_cmpR (op_notInK K hr) (pv 6) (pv 5) rfl)))) (pss_one (ps_ret (pe_tup (pa_cons (pv 4) (pa_cons (pv 6) pa_nil))))) pss_nil)))
    (pss_one (ps_par (i := 2) (j := 4) rfl nd rfl rfl (by decide) rfl rfl (pa_cons (pe_callR D_left_after (hr.mono (by first | decide | omega)) passN (pa_cons (pv 0) (pa_cons (pv 2) (pa_cons (pv 5) pa_nil)))) (pa_cons (pe_op (op_addK K) (pv 4) pe_int) pa_nil)) (by rfl))))))) (pss_one (ps_ret pe_non))))), ?_⟩
    show (_ : TS) _ [some (.ref p), some (.ref q), none, none, none, none, none, none] H
    walk_at "go"
    refine ⟨p, q, fs, ds, b, rfl, hF, fok.six, hP, known, fun H1 s1 => ?_⟩
    walk_at "go"
    refine n_prop (s1 _ _ hp) ⟨p, fs, rfl, FarmAt.same s1 hF, fok.six, fun H2 lt s2 hlt => ?_⟩
    walk_at "go"
    refine n_lst (by simp) fun sn H3 nsn s3 hsn => ?_
    walk_at "go"
    obtain ⟨u', ys, e, hU, hY⟩ := hw.inv_t
    cases e
    have hyl : ys.length = ds.length := by rw [hY.length]; simp
    have s13 := s1.trans (s2.trans s3)
    refine n_while (fun m σ H' => ∃ (d : Nat) (lt : Addr) (u5 u6 u7 : Option V) (vs : List V), m + d = 400 ∧ d ≤ 300 ∧ σ = [some (.ref p), some (.ref q), some (.ref lt), some (.ref sn), some (.int d), u5, u6, u7] ∧ Same H H' ∧ SqT K H' lt ((stL fs ds b d).map V.int) ∧ H' sn = some (.lst vs) ∧ DpAll K H' vs ((List.range d).map fun e => pSt (stt fs ds b e)) ∧ ∀ e, e < d → rotAt fs ds b e = none) 400
      ⟨0, lt, none, none, none, [], rfl, by decide, rfl, s13, ?_, hsn, .nil, fun e he => absurd he (Nat.not_lt_zero e)⟩ ?_
    · have e : (stL fs ds b 0).map V.int = fs.map fun f => V.int f.2 := by simp [stL]
      rw [e]
      exact same_t s3 hlt
    rintro m σ H4 ⟨d, lt, u5, u6, u7, vs, hm, hd, rfl, s4, hlt4, hsn4, hvs, no⟩
    have pl : plc ds.length b d = (stt fs ds b d).1 := rfl
    walk_at "go"
    refine n_prop (s4 _ _ hq) ⟨q, dy, u, b, rfl, s4 _ _ hq, ?_⟩
    walk_at "go"
    refine n_prop (s4 _ _ hq) ⟨q, dy, u, b, rfl, s4 _ _ hq, ?_⟩
    walk_at "go"
    refine ⟨u, ys, b, d, rfl, same_t s4 hU, by rw [hyl]; exact dok.b1, ?_⟩
    rw [hyl]
    walk_at "go"
    refine n_tup (by simp [sizeLine_eq]) fun T H5 nT s5 hT => ?_
    walk_at "go"
    have hDT : Dp K H5 (.ref T) (pSt (stt fs ds b d)) := dp_tup hT (.cons (.int _) (.cons (.tup (same_t s5 hlt4) (dpa_ints _)) .nil))
    have hDS : Dp K H5 (.ref sn) (.list ((List.range d).map fun e => pSt (stt fs ds b e))) := dp_lst (s5 _ _ hsn4) (s5.dpa hvs)
    refine .inr (.inr ⟨_, _, hDT, hDS, (sh_st _).ok (by decide), Sh.ok (n := 3) (sh_l fun x hx => ?_) (by decide), ?_⟩)
    · obtain ⟨e, _, rfl⟩ := List.mem_map.mp hx
      exact sh_st _
    have ea : ((List.range d).map fun e => pSt (stt fs ds b e)).any (fun z => PyData.eqv z (pSt (stt fs ds b d))) = decide (∃ e, e < d ∧ stt fs ds b e = stt fs ds b d) := by
      rw [List.any_map, Bool.eq_iff_iff, decide_eq_true_eq, List.any_eq_true]
      constructor
      · rintro ⟨e, he, hq⟩
        exact ⟨e, List.mem_range.mp he, by simpa [Function.comp, eqv_pSt] using hq⟩
      · rintro ⟨e, he, hq⟩
        exact ⟨e, List.mem_range.mpr he, by simp [Function.comp, eqv_pSt, hq]⟩
    rw [ea]
    by_cases rep : ∃ e, e < d ∧ stt fs ds b e = stt fs ds b d
    · rw [decide_eq_true rep]
      obtain ⟨e, he, hq⟩ := rep
      walk_at "go"
      refine n_whF ?_
      walk_at "go"
      exact kn (never dok.b0 dok.b1 he hq no) H5 (s4.trans s5)
    · rw [decide_eq_false rep]
      walk_at "go"
      refine n_whT ?_
      have hsn5 := s5 _ _ hsn4
      have s45 := s4.trans s5
      walk_at "go"
      refine n_prop (s45 _ _ hq) ⟨q, dy, u, b, rfl, s45 _ _ hq, ?_⟩
      walk_at "go"
      refine n_prop (s45 _ _ hq) ⟨q, dy, u, b, rfl, s45 _ _ hq, ?_⟩
      walk_at "go"
      refine ⟨u, ys, b, d, rfl, same_t s45 hU, by rw [hyl]; exact dok.b1, ?_⟩
      rw [hyl]
      walk_at "go"
      refine n_tup (by simp [sizeLine_eq]) fun T2 H6 nT2 s6 hT2_ => ?_
      have hvl : vs.length = d := by rw [hvs.length]; simp
      walk_at "go"
      refine g_append (s6 _ _ hsn5) (by rw [sizeLine_eq]; omega) fun H7 k7 hsn7 => ?_
      have sn0 : H sn = none := (s1.trans s2).free nsn
      have s67 := s5.trans s6
      have s7 : Same H H7 := fun c o hc => k7 c o (ne_of_none hc sn0) (s67 _ _ (s4 _ _ hc))
      walk_at "go"
      refine n_prop (s7 _ _ hq) ⟨q, dy, u, b, rfl, s7 _ _ hq, ?_⟩
      walk_at "go"
      refine n_prop (s7 _ _ hq) ⟨q, dy, u, b, rfl, s7 _ _ hq, ?_⟩
      walk_at "go"
      refine n_prop (s7 _ _ hq) ⟨q, dy, u, b, rfl, s7 _ _ hq, ?_⟩
      walk_at "go"
      refine ⟨u, ys, b, d, rfl, same_t s7 hU, by rw [hyl]; exact dok.b1, ?_⟩
      rw [hyl]
      have pb := plc_lt (n := ds.length) d dok.b0 dok.b1
      obtain ⟨y, hy⟩ : ∃ y, ys[(plc ds.length b d).toNat]? = some y := ⟨_, List.getElem?_eq_getElem (by omega)⟩
      refine g_ix_t (same_t s7 hU) (atI_i pb.1 hy) ?_
      obtain ⟨dd, hdd, hDy⟩ := hY.get hy
      obtain ⟨zs, hzs, rfl⟩ := getm hdd
      have hz : dayOf ds b d = zs := by simp [dayOf, List.getD, hzs]
      obtain ⟨t2, ws, rfl, hT2, hW⟩ := hDy.inv_t
      have ew : ws = zs.map V.str := strs_of hW
      subst ew
      have hlt7 : SqT K H7 lt ((stL fs ds b d).map V.int) := sqt_keep k7 (s6 _ _ hsn5) (by walk_at "hp")
      walk_at "go"
      refine g_forZ ?_
      walk_at "go"
      refine n_prop (s7 _ _ hp) ⟨p, fs, rfl, FarmAt.same s7 hF, fok.six, fun H8 nm s8 hnm => ?_⟩
      walk_at "go"
      have hsl := stL_len fs ds b d
      have rotEq : rotAt fs ds b d = ((fs.zip (stL fs ds b d)).find? (rotB zs)).map (·.1.1) := by rw [rotAt, hz]
      refine n_forZT hnm (same_t s8 hlt7) (by simp [hsl]) (fun i σ H' => ∃ u6 u7 : Option V, σ = [some (.ref p), some (.ref q), some (.ref lt), some (.ref sn), some (.int d), some (.ref t2), u6, u7] ∧ Same H8 H' ∧ ((fs.zip (stL fs ds b d)).take i).any (rotB zs) = false)
        ⟨_, _, rfl, Same.refl _, by simp⟩ (fun i σ H' ⟨_, _, _, s9, _⟩ => ⟨same_t s9 hnm, same_t s9 (same_t s8 hlt7)⟩) ?_ ?_
      · rintro i x y T σ H9 H10 hx hy ⟨u6, u7, rfl, s9, nor⟩ nT s10 hT
        obtain ⟨fi, hfi, rfl⟩ := getm hx
        obtain ⟨li, hli, rfl⟩ := getm hy
        have hzip : (fs.zip (stL fs ds b d))[i]? = some (fi, li) := by
          rw [List.getElem?_zip_eq_some]
          exact ⟨hfi, hli⟩
        have et := app_tail _ _ hzip
        refine g_gtup (SqT.of hT) rfl ?_
        walk_at "go"
        have sB : Same H H10 := s7.trans (s8.trans (s9.trans s10))
        refine if_D (fun e1 => ?_) (fun e1 => ?_)
        · walk_at "go"
          refine g_notIn_seq (.inr (same_t sB hT2)) rfl (flat_strs _) ?_
          rw [inV_strs]
          walk_at "go"
          refine if_ND (fun e2 => ?_) (fun e2 => ?_)
          · walk_at "go"
            refine n_tup (by simp [sizeLine_eq]) fun T3 H11 nT3 s11 hT3 => ?_
            refine kr d fi.1 no ?_ H11 T3 (sB.trans s11) (SqT.of hT3)
            rw [rotEq, find_first hzip nor (by simp [rotB, e1, e2])]
            rfl
          · walk_at "go"
            exact ⟨_, _, rfl, s9.trans s10, by rw [et]; simp only [List.any_append, nor, Bool.false_or, List.any_cons, List.any_nil, Bool.or_false]; simp [rotB, e2]⟩
        · refine if_F rfl ?_
          walk_at "go"
          exact ⟨_, _, rfl, s9.trans s10, by rw [et]; simp only [List.any_append, nor, Bool.false_or, List.any_cons, List.any_nil, Bool.or_false]; simp [rotB, e1]⟩
      · rintro σ H9 ⟨u6, u7, rfl, s9, nor⟩
        have el : (fs.zip (stL fs ds b d)).take (fs.map fun f => V.str f.1).length = fs.zip (stL fs ds b d) := List.take_of_length_le (by simp; omega)
        rw [el] at nor
        have sB : Same H H9 := s7.trans (s8.trans s9)
        have sC : Same H7 H9 := s8.trans s9
        walk_at "go"
        refine ⟨p, lt, t2, fs, stL fs ds b d, zs, rfl, FarmAt.same sB hF, fok.six, same_t sC hlt7, hsl, same_t sB hT2, fun e => absurd nor (by rw [e]; decide), fun _ H10 r s10 hr10 => ?_⟩
        walk_at "go"
        have none_d : rotAt fs ds b d = none := by
          rw [rotEq, find_none nor]
          rfl
        have hd3 : d < 300 := by
          by_cases h300 : d < 300
          · exact h300
          · exfalso
            have hb0 := dok.b0
            have hb1 := dok.b1
            have hfew := dok.few
            have hg := again dok.b0 dok.b1 (m := 30) (d := d - (ds.length - b).toNat) (fun f hf => (fok.lo f hf).1) (fun f hf => (fok.lo f hf).2) (by omega) (fun e he => no e (by omega))
            have e2 : d - (ds.length - b).toNat + (ds.length - b).toNat = d := by omega
            rw [e2] at hg
            exact rep ⟨_, by omega, hg⟩
        refine ⟨m - 1, by omega, d + 1, r, _, _, _, vs ++ [.ref T2], by omega, by omega, rfl, sB.trans s10, ?_, s10 _ _ (sC _ _ hsn7), ?_, ?_⟩
        · have e : stL fs ds b (d + 1) = (fs.zip (stL fs ds b d)).map (nxtL zs) := by rw [stL, hz]
          rw [e]
          exact hr10
        · rw [List.range_succ, List.map_append]
          have hT2' : Dp K H6 (.ref T2) (pSt (stt fs ds b d)) := dp_tup hT2_ (.cons (.int _) (.cons (.tup (same_t s6 (same_t s5 hlt4)) (dpa_ints _)) .nil))
          have nL : noLs ((List.range d).map (fun e => pSt (stt fs ds b e)) ++ [pSt (stt fs ds b d)]) = true := noLs_of fun z hz => by
            have : ∃ e, pSt (stt fs ds b e) = z := by
              rcases List.mem_append.mp hz with h | h
              · obtain ⟨e, _, rfl⟩ := List.mem_map.mp h
                exact ⟨e, rfl⟩
              · exact ⟨d, (List.mem_singleton.mp h).symm⟩
            obtain ⟨e, rfl⟩ := this
            exact noL_st _
          exact (s10.dpa (sC.dpa (dp_keepAll k7 (notT_l (s6 _ _ hsn5)) _ _ nL (dpa_app (s67.dpa hvs) (.cons hT2' .nil)))))
        · intro e he
          by_cases h : e = d
          · rw [h]; exact none_d
          · exact no e (by omega)

end
section
variable {P : Program} {w : World} {K : PySem.W.Frag}
variable {mg : Str → Option Value} {base : Heap}
/-! ### texts of plans -/
theorem joinL_len (S : List Nat) : ∀ ps : List (List Nat), (TL.joinL S ps).length ≤ (ps.map (·.length)).sum + ps.length * S.length
  | [] => by simp [TL.joinL]
  | [p] => by simp [TL.joinL]
  | p :: q :: r => by
    have ih := joinL_len S (q :: r)
    show (p ++ (S ++ TL.joinL S (q :: r))).length ≤ _
    simp only [List.length_append, List.map_cons, List.sum_cons, List.length_cons] at ih ⊢
    have e : (r.length + 1 + 1) * S.length = (r.length + 1) * S.length + S.length := by rw [Nat.add_mul (r.length + 1) 1, Nat.one_mul]
    omega
theorem sum_le {B : Nat} : ∀ {l : List Nat}, (∀ x ∈ l, x ≤ B) → l.sum ≤ l.length * B
  | [], _ => by simp
  | a :: l, h => by
    have h1 := h a (by simp)
    have h2 := sum_le (l := l) fun x hx => h x (by simp [hx])
    rw [List.sum_cons, List.length_cons, Nat.add_mul, Nat.one_mul]; omega
theorem len_tl (z : Str) : z.length = (TL.tl z).length := by simp [Str.length, TL.tl]
theorem join_len {y : Str} {ps : List Str} {B : Nat} (h : ∀ p ∈ ps, p.length ≤ B) : (Txt.join y ps).length ≤ ps.length * B + ps.length * y.length := by
  rw [len_tl, TL.join_eq, TL.tl_join]
  have h1 := joinL_len (TL.tl y) (ps.map TL.tl)
  have h2 := sum_le (B := B) (l := (ps.map TL.tl).map (·.length)) fun x hx => by
    obtain ⟨q, hq, rfl⟩ := List.mem_map.mp hx
    obtain ⟨z, hz, rfl⟩ := List.mem_map.mp hq
    rw [← len_tl]; exact h z hz
  simp only [List.length_map] at h1 h2
  rw [len_tl y]; omega
theorem joinL_free {c : Nat} {S : List Nat} (hS : c ∉ S) : ∀ {ps : List (List Nat)}, (∀ p ∈ ps, c ∉ p) → c ∉ TL.joinL S ps
  | [], _ => by simp [TL.joinL]
  | [p], h => by simpa [TL.joinL] using h p (by simp)
  | p :: q :: r, h => by
    show c ∉ p ++ (S ++ TL.joinL S (q :: r))
    simp only [List.mem_append, not_or]
    exact ⟨h p (by simp), hS, joinL_free hS fun x hx => h x (by simp [List.mem_cons.mp hx])⟩
theorem join_free {c : Nat} {y : Str} (hy : c ∉ TL.tl y) {ps : List Str} (h : ∀ p ∈ ps, c ∉ TL.tl p) : c ∉ TL.tl (Txt.join y ps) := by
  rw [TL.join_eq, TL.tl_join]
  exact joinL_free hy fun p hp => by
    obtain ⟨z, hz, rfl⟩ := List.mem_map.mp hp
    exact h z hz
/-- a word of a plan's text -/
structure WdOk (z : Str) : Prop where
  le : z.length ≤ 8
  nl : 10 ∉ TL.tl z
  sp : 32 ∉ TL.tl z
theorem NmOk.wd {z : Str} (h : NmOk z) : WdOk z := ⟨by rw [len_tl]; exact h.2.1, fun m => by have := h.2.2 _ m; omega, fun m => by have := h.2.2 _ m; omega⟩
theorem wd_no : WdOk "-" := ⟨by decide +kernel, by decide +kernel, by decide +kernel⟩
theorem wd_lead : WdOk "lead" := ⟨by decide +kernel, by decide +kernel, by decide +kernel⟩
theorem tl_numS {b : Int} (b0 : 0 ≤ b) : TL.tl (numS b) = TL.numL b.toNat := by
  have e : numS b = Str.ofString (toString ((b.toNat : Nat) : Int)) := by rw [numS, Int.toNat_of_nonneg b0]
  rw [e]; exact TL.tl_num _
theorem num_len {b : Int} (b0 : 0 ≤ b) (b1 : b < 10000) : (numS b).length ≤ 4 := by
  rw [len_tl, tl_numS b0]
  exact TL.numL_len (by decide) (by omega)
theorem wd_num {b : Int} (b0 : 0 ≤ b) (b1 : b < 10000) : WdOk (numS b) := ⟨Nat.le_trans (num_len b0 b1) (by decide), by rw [tl_numS b0]; exact TL.numL_free (by decide), by rw [tl_numS b0]; exact TL.numL_free (by decide)⟩
def wordsOf (d : List Str) : List Str := if d = [] then ["-"] else d
def rowOf (d : List Str) : Str := Txt.join " " (wordsOf d)
def headOf (b : Int) : List Str := ["lead", numS b]
def rowsOf (ds : List (List Str)) (b : Int) : List (List Str) := headOf b :: ds.map wordsOf
def textOf (ds : List (List Str)) (b : Int) : Str := Txt.join "\n" ((rowsOf ds b).map (Txt.join " "))
/-- days and a lead whose text goes round -/
structure TxOk (ds : List (List Str)) (b : Int) : Prop where
  dok : DOk ds b
  nm : ∀ d ∈ ds, ∀ z ∈ d, NmOk z
section
variable {ds : List (List Str)} {b : Int}
theorem words_ok {d : List Str} (h : ∀ z ∈ d, NmOk z) : wordsOf d ≠ [] ∧ ∀ z ∈ wordsOf d, WdOk z := by
  unfold wordsOf
  split
  · exact ⟨by simp, fun z hz => by rw [List.mem_singleton.mp hz]; exact wd_no⟩
  · rename_i e
    exact ⟨e, fun z hz => (h z hz).wd⟩
theorem TxOk.b4 (t : TxOk ds b) : b < 10000 := by have := t.dok.b1; have := t.dok.few; omega
theorem TxOk.rows (t : TxOk ds b) : ∀ ws ∈ rowsOf ds b, ws ≠ [] ∧ (∀ z ∈ ws, WdOk z) ∧ ws.length ≤ 8 := by
  intro ws h
  rcases List.mem_cons.mp h with rfl | hm
  · refine ⟨by simp [headOf], fun z hz => ?_, by simp [headOf]⟩
    have : z = "lead" ∨ z = numS b := by simpa [headOf] using hz
    rcases this with rfl | rfl
    · exact wd_lead
    · exact wd_num t.dok.b0 t.b4
  · obtain ⟨d, hd, rfl⟩ := List.mem_map.mp hm
    have w := words_ok (t.nm d hd)
    refine ⟨w.1, w.2, ?_⟩
    have := t.dok.le d hd
    unfold wordsOf
    split <;> simp <;> omega
theorem row_len {ws : List Str} (h : ∀ z ∈ ws, WdOk z) (h8 : ws.length ≤ 8) : (Txt.join " " ws).length ≤ 72 := by
  have e : (" " : Str).length = 1 := by decide +kernel
  have := join_len (y := " ") (B := 8) fun p hp => (h p hp).le
  rw [e] at this
  omega
theorem TxOk.lens (t : TxOk ds b) : ∀ r ∈ (rowsOf ds b).map (Txt.join " "), r.length ≤ 72 := fun r hr => by
  obtain ⟨ws, hw, rfl⟩ := List.mem_map.mp hr
  obtain ⟨_, h1, h2⟩ := t.rows ws hw
  exact row_len h1 h2
theorem TxOk.rlen (t : TxOk ds b) : (rowsOf ds b).length ≤ 101 := by
  have := t.dok.few
  simp [rowsOf]; omega
theorem TxOk.len (t : TxOk ds b) : (textOf ds b).length ≤ 8000 := by
  have e : ("\n" : Str).length = 1 := by decide +kernel
  have h1 := join_len (y := "\n") (B := 72) t.lens
  rw [e, List.length_map] at h1
  have h2 := t.rlen
  unfold textOf
  omega
theorem TxOk.split (t : TxOk ds b) : Txt.split (textOf ds b) "\n" = (rowsOf ds b).map (Txt.join " ") := by
  refine TL.split_join (s := 10) (S := []) (by decide +kernel) (by decide +kernel) (by simp [rowsOf]) fun p hp => ?_
  obtain ⟨ws, hw, rfl⟩ := List.mem_map.mp hp
  exact join_free (by decide +kernel) fun z hz => ((t.rows ws hw).2.1 z hz).nl
theorem split_row {ws : List Str} (h0 : ws ≠ []) (h : ∀ z ∈ ws, WdOk z) : Txt.split (Txt.join " " ws) " " = ws :=
  TL.split_join (s := 32) (S := []) (by decide +kernel) (by decide +kernel) h0 fun p hp => (h p hp).sp
theorem num_head (n : Nat) (h : 1 ≤ n) : ∀ c, (TL.numL n)[0]? = some c → c ≠ 48 := by
  induction n using Nat.strongRecOn with | ind n ih =>
    intro c hc
    by_cases h10 : n < 10
    · rw [TL.numL_lt h10] at hc
      have : 48 + n = c := by simpa using hc
      omega
    · rw [TL.numL_step (by omega)] at hc
      have hne := TL.numL_ne (n / 10)
      rw [List.getElem?_append_left (List.length_pos_iff.mpr hne)] at hc
      exact ih (n / 10) (by omega) (by omega) c hc
end
theorem eqv_strs : ∀ a b : List Str, PyData.eqvAll (a.map .str) (b.map .str) = decide (a = b)
  | [], m => by cases m <;> simp [PyData.eqvAll]
  | x :: a, [] => by simp [PyData.eqvAll]
  | x :: a, y :: b => by
    simp only [List.map_cons, PyData.eqvAll, PyData.eqv, eqv_strs a b]
    by_cases h : x = y <;> simp [h]
theorem eqv_strL (a b : List Str) : PyData.eqv (.list (a.map .str)) (.list (b.map .str)) = decide (a = b) := by simp only [PyData.eqv, eqv_strs]
theorem eqv_strT (a b : List Str) : PyData.eqv (.tuple (a.map .str)) (.tuple (b.map .str)) = decide (a = b) := by simp only [PyData.eqv, eqv_strs]
theorem sh_strL {a : List Str} (h : ∀ z ∈ a, PyData.strOk z = true) : Sh 1 (.list (a.map .str)) := sh_l fun d hd => by
  obtain ⟨z, hz, rfl⟩ := List.mem_map.mp hd
  exact sh_s (h z hz)
theorem sh_strT {a : List Str} (h : ∀ z ∈ a, PyData.strOk z = true) : Sh 1 (.tuple (a.map .str)) := sh_t fun d hd => by
  obtain ⟨z, hz, rfl⟩ := List.mem_map.mp hd
  exact sh_s (h z hz)
theorem g_notIn_sign {K : PySem.W.Frag} {H : Hp} {Q : VK} {c : Nat} {z : Str} (h : Q (.bl (!decide (c ∈ z.cps.toList))) H) : uNotIn K (.str ⟨#[c]⟩) (.str z) H Q := .inr (.inl ⟨c, z, rfl, rfl, h⟩)
theorem g_join {K : PySem.W.Frag} {H : Hp} {Q : VK} {a : Str} {p : Addr} {ys : List Str} (h1 : SqL K H p (ys.map V.str) ∨ SqT K H p (ys.map V.str)) (h2 : (ys.map (·.length)).sum + ys.length * a.length ≤ 16777216) (h : Q (.str (Txt.join a ys)) H) : rJoin K (.str a) [.ref p] H Q := ⟨a, p, ys, rfl, rfl, h1, h2, h⟩
theorem join_fits {ys : List Str} {a : Str} {B n : Nat} (hB : ∀ y ∈ ys, y.length ≤ B) (hn : ys.length ≤ n) (ha : a.length = 1) (h : n * B + n ≤ 16777216) : (ys.map (·.length)).sum + ys.length * a.length ≤ 16777216 := by
  have := sum_le (B := B) (l := ys.map (·.length)) fun x hx => by
    obtain ⟨z, hz, rfl⟩ := List.mem_map.mp hx
    exact hB z hz
  rw [List.length_map] at this
  have h2 : ys.length * B ≤ n * B := Nat.mul_le_mul_right B hn
  rw [ha]; omega
/-! enumerate over a list -/
def ItEL (K : PySem.W.Frag) (g : TG) (tb : TS) (D : Ends) (σ : L2.St) (vs : List V) (H1 : Hp) : Prop := ∃ a xs, vs = [.ref a] ∧ SqL K H1 a xs ∧ LoopJ (Ite K a) g tb D σ H1
theorem g_forEL {K : PySem.W.Frag} {ts : TA} {g : TG} {tbs : TS} {D : Ends} {σ : L2.St} {H : Hp} (h : ts σ H (ItEL K g tbs D σ)) : tFor (iEnum K ts) g tbs D σ H := h
theorem n_forEL {K : PySem.W.Frag} {g : TG} {tbs : TS} {D : Ends} {σ : L2.St} {H : Hp} {a : Addr} {xs : List V} (h1 : SqL K H a xs) (Pv : Nat → L2.St → Hp → Prop) (h0 : Pv 0 σ H) (hl : ∀ i σ H, Pv i σ H → SqL K H a xs)
    (hs : ∀ (i : Nat) x T σ H H', xs[i]? = some x → Pv i σ H → H T = none → Same H H' → H' T = some (.tup [.int i, x]) → g (.ref T) σ H' fun σ2 H2 => tbs { D with nx := Pv (i + 1), ct := Pv (i + 1), bk := D.nx } σ2 H2) (hd : ∀ σ H, Pv xs.length σ H → D.nx σ H) : ItEL K g tbs D σ [.ref a] H :=
  ⟨a, xs, rfl, h1, for_it (walk_enum (K := K) (a := a) (xs := xs)) Pv h0 (fun i σ H _ p => hl i σ H p) (fun i x σ H H' hi p ⟨T, u, y, ex, hn, eH, e1, e2⟩ => by
    have eu := Option.some.inj e1
    subst ex eH eu
    exact hs i y T σ H _ e2 p hn (same_new hn) upd_same) hd⟩

end
abbrev s_is_number : Stmt := top 31
abbrev N_is_number : List Str := ["word", "digit"]
theorem sc_is_number : FnScope N_is_number ["word"] (defScope s_is_number) := ⟨rfl, rfl, rfl, by decide +kernel, rfl, by decide +kernel, by decide +kernel⟩
abbrev s_parse_plan : Stmt := top 32
abbrev N_parse_plan : List Str := ["text", "head", "rows", "line", "days", "row", "words", "place", "word", "lead"]
theorem sc_parse_plan : FnScope N_parse_plan ["text"] (defScope s_parse_plan) := ⟨rfl, rfl, rfl, by decide +kernel, rfl, by decide +kernel, by decide +kernel⟩
section
variable {P : Program} {w : World} {K : PySem.W.Frag}
variable {mg : Str → Option Value} {base : Heap}
def sp_is_number : Sp := fun vs H Q _ => ∃ b : Int, vs = [.str (numS b)] ∧ 0 ≤ b ∧ b < 10000 ∧ ∀ H', Same H H' → Q (.bl true) H'
def DIGS : Str := "0123456789"
theorem digs_mem {c : Nat} (h1 : 48 ≤ c) (h2 : c ≤ 57) : c ∈ DIGS.cps.toList := by
  have h : ∀ k : Fin 10, 48 + k.val ∈ DIGS.cps.toList := by decide +kernel
  have := h ⟨c - 48, by omega⟩
  simpa [show 48 + (c - 48) = c by omega] using this
theorem ok_is_number (M : Md K mg) (G : Gd K mg "is_number" s_is_number) : DefR P w K mg base "is_number" 2 sp_is_number := by
  refine def_mk G fun f fd F => fnr_mk (F.ok sc_is_number ?_ (fun cdv A outer s H vs Q E hr h => ?_)) (F.bindsN (fun _ _ _ _ _ _ us hl => match us, hl with | [_], _ => rfl))
  · rintro vs H Q E ⟨b, rfl, _⟩; rfl
  · obtain ⟨b, rfl, b0, b1, k⟩ := h
    have nd := sc_is_number.nd
    have l4 := num_len b0 b1
    have tn := tl_numS b0
    have ne : 1 ≤ (numS b).length := by
      rw [len_tl, tn]
      exact List.length_pos_iff.mpr (TL.numL_ne _)
    have hsz : (numS b).cps.size = (numS b).length := rfl
    refine ⟨_, PSs.nox (pss_cons (ps_if (PW.pt (pw_or (pt_not (pt_chain op_le op_le pe_int (pe_len K M.b (pv 0)) (pe_gi M.g_MAX_DIGITS))) (pw_or1 (pt_val (pe_any K M.b (pe_lc (own := [("digit", 1)]) (g := (gName 1)) (tt := tYes) rfl nd (pi_str (pv 0)) (blkOk_by (N := N_is_number) (sc := defScope s_is_number) (by decide +kernel)) (fun _ _ _ _ _ => (pg_name (i := 1) nd rfl (by first | exact Or.inl rfl | exact Or.inr rfl))) (fun _ _ _ _ _ => pts_nil) (fun _ _ _ _ _ => (pe_cmpR (op_notInK K hr) (pv 1) (pe_gs M.g_DIGITS) rfl)))))))) (pss_one (ps_ret pe_bl)) pss_nil)
    (pss_one (ps_ret (pe_or (pe_cmpR (op_eqK K hr) (pe_len K M.b (pv 0)) pe_int (nomark _)) (pe_one (pe_cmpR (op_neK K hr) (pe_ix (ix_K K) (pv 0) pe_int (fun _ _ => rfl)) pe_str (nomark _))))))), ?_⟩
    show (_ : TS) _ [some (.str (numS b)), none] H
    walk_at "go"
    refine g_len_s (by rw [sizeLine_eq]; omega) ?_
    walk_at "go"
    refine g_ch (fun _ => ?_) (fun e => absurd (by omega) (of_decide_eq_false e))
    walk_at "go"
    refine if_F (by rw [decide_eq_true (by omega : ((numS b).length : Int) ≤ 4)]; rfl) ?_
    walk_at "go"
    refine n_lcS (lc_map (walk_str (z := numS b)) (fun _ => .bl false) (fun _ _ => trivial) ?_ ?_)
    · rintro C j x H5 H6 nC hj s5 hC ⟨e, c, hc, ex⟩
      subst e ex
      walk_at "go"
      refine ⟨rfl, ?_⟩
      walk_at "go"
      refine g_notIn_sign ?_
      have hm : c ∈ TL.tl (numS b) := List.mem_of_getElem? (cps_get hc)
      rw [tn] at hm
      have hd := TL.numL_digits _ c hm
      have hin : decide (c ∈ (("0123456789" : Str)).cps.toList) = true := decide_eq_true (digs_mem (by omega) (by omega))
      rw [hin]
      exact n_mapK nC s5 hC rfl (by omega)
    · intro C H5 nC s5 hC
      have e1 : (List.range (numS b).cps.size).map (fun _ => V.bl false) = (List.replicate (numS b).cps.size false).map V.bl := by
        rw [List.map_replicate]
        apply List.ext_getElem?
        intro i
        by_cases hi : i < (numS b).cps.size
        · simp [hi]
        · simp [hi]
      rw [e1] at hC
      walk_at "go"
      refine g_any (SqL.of hC) ?_
      have e2 : ((List.replicate (numS b).cps.size false).any id) = false := by
        rw [List.any_eq_false]
        intro x hx
        simp [(List.mem_replicate.mp hx).2]
      rw [e2]
      walk_at "go"
      refine if_F rfl ?_
      walk_at "go"
      refine g_len_s (by rw [sizeLine_eq]; omega) ?_
      walk_at "go"
      refine if_D (fun e => ?_) (fun e => ?_)
      · walk_at "go"
        exact k H5 s5
      · walk_at "go"
        obtain ⟨c, hc⟩ : ∃ c, (TL.tl (numS b))[0]? = some c := ⟨_, List.getElem?_eq_getElem (by rw [← len_tl]; omega)⟩
        refine g_ix_s (c := c) (by rw [sizeLine_eq]; omega) (atI_i (by decide) hc) ?_
        walk_at "go"
        have n1 : 1 ≤ b.toNat := by
          rcases Nat.eq_zero_or_pos b.toNat with z | z
          · exfalso
            apply e
            have : (numS b).length = 1 := by rw [len_tl, tn, z, TL.numL_lt (by decide)]; rfl
            omega
          · exact z
        rw [tn] at hc
        have hne := num_head _ n1 c hc
        have hne' : ¬ ((⟨#[c]⟩ : Str) = ("0" : Str)) := fun q => hne (by
          have := congrArg (fun z : Str => z.cps.toList) q
          have e0 : (("0" : Str)).cps.toList = [48] := by decide +kernel
          simp only [e0] at this
          simpa using this)
        rw [decide_eq_false hne']
        exact k H5 s5
theorem str_ext {a b : Str} (h : TL.tl a = TL.tl b) : a = b := TL.ext_tl h
theorem head_text (b : Int) : Txt.join " " (headOf b) = "lead" ++ " " ++ numS b := by
  rw [TL.join_eq]; rfl
theorem space1 : (" " : Str).length = 1 := by decide +kernel
theorem line1 : ("\n" : Str).length = 1 := by decide +kernel
/-- the row of a day, as the program puts it -/
theorem row_day (d : List Str) : (if d = [] then ("-" : Str) else Txt.join " " d) = rowOf d := by
  unfold rowOf wordsOf
  split
  · exact str_ext (by rw [TL.join_eq]; rfl)
  · rfl
/-- rows of words, each a list of its own -/
def RowsAt (H : Hp) (as : List Addr) (rows : List (List Str)) : Prop := Paired (fun a ws => H a = some (.lst (ws.map V.str))) as rows
theorem RowsAt.same {H H' : Hp} {as : List Addr} {rows : List (List Str)} (e : Same H H') (h : RowsAt H as rows) : RowsAt H' as rows := by
  induction h with
  | nil => exact .nil
  | cons a _ ih => exact .cons (e _ _ a) ih
theorem RowsAt.keep {H H' : Hp} {as : List Addr} {rows : List (List Str)} {l : Addr} {xs : List V} (e : Keep l H H') (hl : H l = some (.lst xs)) (hx : ∀ x ∈ xs, ∃ a, x = V.ref a) (hr : ∀ ws ∈ rows, ws ≠ []) (h : RowsAt H as rows) : RowsAt H' as rows := by
  induction h with
  | nil => exact .nil
  | @cons a ws as rows at_ _ ih =>
    refine .cons (e a _ (fun q => ?_) at_) (ih fun w hw => hr w (by simp [hw]))
    rw [q, hl] at at_
    have e2 : xs = ws.map V.str := by injection at_ with z; injection z
    cases ws with
    | nil => exact hr [] (by simp) rfl
    | cons w ws =>
      obtain ⟨b, hb⟩ := hx (V.str w) (by rw [e2]; simp)
      cases hb
theorem RowsAt.get {H : Hp} : ∀ {as : List Addr} {rows : List (List Str)} {i : Nat} {a : Addr}, RowsAt H as rows → as[i]? = some a → ∃ ws, rows[i]? = some ws ∧ H a = some (.lst (ws.map V.str))
  | _, _, _, _, .nil, h => by simp at h
  | _, _, 0, _, .cons a _, h => by simp at h; subst h; exact ⟨_, rfl, a⟩
  | _, _, i + 1, _, .cons _ t, h => by
    obtain ⟨ws, h1, h2⟩ := RowsAt.get t (i := i) (by simpa using h)
    exact ⟨ws, by simpa using h1, h2⟩
theorem RowsAt.len {H : Hp} {as : List Addr} {rows : List (List Str)} (h : RowsAt H as rows) : as.length = rows.length := Paired.length h
def sp_parse (K : PySem.W.Frag) (CP : Addr) : Sp := fun vs H Q _ => ∃ (ds : List (List Str)) (b : Int), vs = [.str (textOf ds b)] ∧ TxOk ds b ∧ ∀ H' p, Same H H' → H p = none → PlanAt K CP H' p ds b → Q (.ref p) H'
theorem wd_str {z : Str} (h : NmOk z ∨ z = "-" ∨ z = "lead") : PyData.strOk z = true := by
  rcases h with h | rfl | rfl
  · exact h.str
  · decide +kernel
  · decide +kernel
theorem nm_no : decide (NmOk "-") = false := by decide +kernel
theorem ok_parse (M : Md K mg) (G : Gd K mg "parse_plan" s_parse_plan) (D_is_name : DefR P w K mg base "is_name" 2 sp_is_name) (D_is_number : DefR P w K mg base "is_number" 2 sp_is_number) (KK_Plan : MakeRK P w K mg base "Plan" CP 4 "lead" (sp_plan_init K CP)) : DefR P w K mg base "parse_plan" 6 (sp_parse K CP) := by
  refine def_mk G fun f fd F => fnr_mk (F.ok sc_parse_plan ?_ (fun cdv A outer s H vs Q E hr h => ?_)) (F.bindsN (fun _ _ _ _ _ _ us hl => match us, hl with | [_], _ => rfl))
  · rintro vs H Q E ⟨ds, b, rfl, _⟩; rfl
  · obtain ⟨ds, b, rfl, tx, k⟩ := h
    have nd := sc_parse_plan.nd
    have dok := tx.dok
    have tlen := tx.len
    have rlen := tx.rlen
    refine ⟨_, PSs.nox (pss_cons (ps_asg (pe_lc (own := [("line", 3)]) (g := (gName 3)) (tt := tYes) rfl nd (pi_listK K (pe_splitH (pv 0) pe_str)) (blkOk_by (N := N_parse_plan) (sc := defScope s_parse_plan) (by decide +kernel)) (fun _ _ _ _ _ => (pg_name (i := 3) nd rfl (by first | exact Or.inl rfl | exact Or.inr rfl))) (fun _ _ _ _ _ => pts_nil) (fun _ _ _ _ _ => (pe_splitH (pv 3) pe_str))) (pg_star1 K rfl (pgs_cons (pg_name (i := 1) nd rfl (by first | exact Or.inl rfl | exact Or.inr rfl)) (pgs_cons (pg_name (i := 2) nd rfl (by first | exact Or.inl rfl | exact Or.inr rfl)) pgs_nil))))
    (pss_cons (ps_if (pt_cmpR (op_neK K hr) (pe_ix (ix_K K) (pv 1) pe_int (fun _ _ => rfl)) (pe_gs M.g_LEAD) (nomark _)) (pss_one ps_never) pss_nil)
    (pss_cons (ps_if (PW.pt (pw_or (pt_cmpR (op_eqK K hr) (pe_len K M.b (pv 1)) pe_int (nomark _)) (pw_or1 (pt_not (pt_val (pe_callR D_is_number (hr.mono (by first | decide | omega)) passN (pa_cons (pe_ix (ix_K K) (pv 1) pe_int (fun _ _ => rfl)) pa_nil))))))) (pss_one ps_never) pss_nil)
    (pss_cons (ps_if (pt_cmpR op_gt (pe_len K M.b (pv 1)) pe_int (nomark _)) (pss_one ps_never) pss_nil)
    (pss_cons (ps_set (i := 4) nd rfl (by first | exact Or.inl rfl | exact Or.inr rfl) (pe_lst pa_nil))
    (pss_cons (ps_for PassesOwn.never rfl (pi_enumLK K rfl M.b.enumerate (pa_cons (pv 2) pa_nil)) (pg_tupK K rfl (pgs_cons (pg_name (i := 5) nd rfl (by first | exact Or.inl rfl | exact Or.inr rfl)) (pgs_cons (pg_name (i := 6) nd rfl (by first | exact Or.inl rfl | exact Or.inr rfl)) pgs_nil))) (pss_cons (ps_for PassesOwn.never rfl (pi_enumLK K rfl M.b.enumerate (pa_cons (pv 6) pa_nil)) (pg_tupK K rfl (pgs_cons (pg_name (i := 7) nd rfl (by first | exact Or.inl rfl | exact Or.inr rfl)) (pgs_cons (pg_name (i := 8) nd rfl (by first | exact Or.inl rfl | exact Or.inr rfl)) pgs_nil))) (pss_one (ps_if (PW.pt (pw_and (pt_not (pt_val (pe_callR D_is_name (hr.mono (by first | decide | omega)) passN (pa_cons (pv 8) pa_nil)))) (pw_and1 (PW.pt (pw_or (pt_cmpR (op_neK K hr) (pv 8) (pe_gs M.g_NOBODY) (nomark _)) (pw_or1 (pt_cmpR op_gt (pe_len K M.b (pv 6)) pe_int (nomark _)))))))) (pss_one ps_never) pss_nil)))
    (pss_one (ps_expr (as_bm K (pe_bm PySem.F.plainAttrs_list PySem.F.slot_list_append PySem.F.type_list_append mt_append (pv 4) (pa_cons (pe_cut (pe_ifExp (pt_cmpR (op_eqK K hr) (pv 6) (pe_lst (pa_cons (pe_gs M.g_NOBODY) pa_nil)) (nomark _)) (pe_tup pa_nil) (pe_tupOf K M.b (pv 6)))) pa_nil)))))))
    (pss_cons (ps_set (i := 9) nd rfl (by first | exact Or.inl rfl | exact Or.inr rfl) (pe_intS M.b (pe_ix (ix_K K) (pv 1) pe_int (fun _ _ => rfl))))
    (pss_one (ps_ret (as_skw K (pe_makeSKW KK_Plan (hr.mono (by first | decide | omega)) passN (pv 4) (pk_cons (pv 9) pk_nil)))))))))))), ?_⟩
    show (_ : TS) _ [some (.str (textOf ds b)), none, none, none, none, none, none, none, none, none] H
    walk_at "go"
    refine g_split (by decide +kernel) (by rw [sizeLine_eq]; omega) fun sl H1 nsl s1 hsl => ?_
    rw [tx.split] at hsl
    have rl : ((rowsOf ds b).map (Txt.join " ")).length = (rowsOf ds b).length := List.length_map ..
    refine n_lcL (SqL.of hsl) (lc_run (walk_list (xs := ((rowsOf ds b).map (Txt.join " ")).map V.str)) (fun i acc H' => Same H1 H' ∧ ∃ as : List Addr, acc = as.map V.ref ∧ RowsAt H' as ((rowsOf ds b).take i)) (fun C H' _ s' _ => ⟨s', [], rfl, .nil⟩) (fun i acc H' C _ _ ⟨s', _⟩ => SqL.of (s' _ _ hsl)) ?_ ?_)
    · rintro C j acc y H2 H3 nC hj hl hC ⟨s2, as, rfl, hR⟩ ⟨e, hyj⟩
      subst e
      obtain ⟨r, hr1, rfl⟩ := getm hyj
      obtain ⟨ws, hws, rfl⟩ := getm hr1
      have wm := tx.rows ws (List.mem_of_getElem? hws)
      have r72 := row_len wm.2.1 wm.2.2
      walk_at "go"
      refine ⟨rfl, ?_⟩
      walk_at "go"
      refine g_split (by decide +kernel) (by rw [sizeLine_eq]; omega) fun a H4 na s4 ha => ?_
      rw [split_row wm.1 wm.2.1] at ha
      have hC4 := s4 _ _ hC
      have jl : j < (rowsOf ds b).length := (List.getElem?_eq_some_iff.mp hws).1
      refine n_lcK hC4 (by omega) (by omega) fun H5 k5 hC5 => ⟨same_keep (s2.trans s4) nC k5, as ++ [a], by simp, ?_⟩
      rw [app_tail _ _ hws]
      refine Paired.snoc (RowsAt.keep k5 hC4 (by simp) (fun w hw => (tx.rows w (List.mem_of_mem_take hw)).1) (hR.same s4)) ?_
      exact k5 _ _ (ne_of_none hC na).symm ha
    · rintro C acc H2 nC hC ⟨s2, as, rfl, hR⟩
      have et : (rowsOf ds b).take (((rowsOf ds b).map (Txt.join " ")).map V.str).length = rowsOf ds b := List.take_of_length_le (by simp)
      rw [et] at hR
      have s12 := s1.trans s2
      cases hR with
      | @cons a0 _ as _ h0 hR =>
        walk_at "go"
        refine n_star1P (SqL.of hC) fun rw_ H3 nrw s3 hrw => ?_
        have h03 := s3 _ _ h0
        have hR3 := RowsAt.same s3 hR
        have s13 := s12.trans s3
        walk_at "go"
        try refine g_ix_l (SqL.of h03) (atI_nat (j := 0) rfl) ?_
        walk_at "go"
        refine if_F (by decide +kernel) ?_
        walk_at "go"
        try refine g_len_l (SqL.of h03) ?_
        walk_at "go"
        refine if_F (by simp [headOf]) ?_
        walk_at "go"
        try refine g_ix_l (SqL.of h03) (atI_nat (j := 1) rfl) ?_
        walk_at "go"
        refine ⟨b, rfl, dok.b0, tx.b4, fun H4 s4 => ?_⟩
        walk_at "go"
        refine if_F rfl ?_
        have h04 := s4 _ _ h03
        walk_at "go"
        try refine g_len_l (SqL.of h04) ?_
        walk_at "go"
        refine if_F (by simp [headOf]) ?_
        walk_at "go"
        refine n_lst (by simp) fun dl H5 ndl s5 hdl => ?_
        have h05 := s5 _ _ h04
        have hR5 := (hR3.same s4).same s5
        have hrw5 := s5 _ _ (s4 _ _ hrw)
        have s15 := s13.trans (s4.trans s5)
        have ndl0 : H dl = none := (s13.trans s4).free ndl
        have asl : as.length = ds.length := by rw [RowsAt.len hR]; simp
        have hfew := dok.few
        walk_at "go"
        refine g_forEL ?_
        walk_at "go"
        refine n_forEL (SqL.of hrw5) (fun i σ H' => ∃ (xs : List V) (u5 u6 u7 u8 u9 : Option V), σ = [some (.str (textOf ds b)), some (.ref a0), some (.ref rw_), u5, some (.ref dl), u6, u7, u8, u9, none] ∧ Same H H' ∧ Same H4 H' ∧ H' dl = some (.lst xs) ∧ DpAll K H' xs ((ds.take i).map pDay))
          ⟨[], _, _, _, _, _, rfl, s15, s5, hdl, .nil⟩ (fun i σ H' ⟨_, _, _, _, _, _, _, _, s6, _⟩ => SqL.of (s6 _ _ (s4 _ _ hrw))) ?_ ?_
        · rintro i y T σ H6 H7 hy ⟨xs, u5, u6, u7, u8, u9, rfl, sH6, s46, hdl6, hX6⟩ nT s7 hT
          obtain ⟨ai, hai, rfl⟩ := getm hy
          obtain ⟨ws, hws, hai4⟩ := RowsAt.get (hR3.same s4) hai
          obtain ⟨d, hd, rfl⟩ := getm hws
          have dm : d ∈ ds := List.mem_of_getElem? hd
          have nmd := tx.nm d dm
          have il : i < ds.length := (List.getElem?_eq_some_iff.mp hd).1
          have hxl : xs.length = i := by rw [hX6.length]; simp; omega
          have s47 := s46.trans s7
          have hai7 := s47 _ _ hai4
          have d8 := dok.le d dm
          refine g_gtup (SqT.of hT) rfl ?_
          walk_at "go"
          refine g_forEL ?_
          walk_at "go"
          refine n_forEL (SqL.of hai7) (fun j σ H' => ∃ (u7 u8 : Option V), σ = [some (.str (textOf ds b)), some (.ref a0), some (.ref rw_), u5, some (.ref dl), some (.int i), some (.ref ai), u7, u8, none] ∧ Same H7 H') ⟨_, _, rfl, Same.refl _⟩ (fun j σ H' ⟨_, _, _, s8⟩ => SqL.of (s8 _ _ hai7)) ?_ ?_
          · rintro j y2 T2 σ H8 H9 hy2 ⟨u7, u8, rfl, s8⟩ nT2 s9 hT2
            obtain ⟨z, hz, rfl⟩ := getm hy2
            have zm : z ∈ wordsOf d := List.mem_of_getElem? hz
            refine g_gtup (SqT.of hT2) rfl ?_
            walk_at "go"
            refine ⟨z, rfl, by have := ((words_ok nmd).2 z zm).le; rw [sizeLine_eq]; omega, fun H10 s10 => ?_⟩
            walk_at "go"
            have s810 := s8.trans (s9.trans s10)
            by_cases dn : d = []
            · have ez : z = "-" := by
                unfold wordsOf at zm
                rw [if_pos dn] at zm
                exact List.mem_singleton.mp zm
              subst ez
              rw [nm_no]
              refine if_T rfl ?_
              walk_at "go"
              refine if_F (by decide +kernel) ?_
              walk_at "go"
              try refine g_len_l (SqL.of (s810 _ _ hai7)) ?_
              walk_at "go"
              have el : ((wordsOf d).map V.str).length = 1 := by unfold wordsOf; rw [if_pos dn]; rfl
              refine if_F (by rw [el]; decide) ?_
              walk_at "go"
              exact ⟨_, _, rfl, s810⟩
            · have zd : z ∈ d := by
                unfold wordsOf at zm
                rwa [if_neg dn] at zm
              rw [decide_eq_true (nmd z zd)]
              refine if_F rfl ?_
              refine if_F rfl ?_
              walk_at "go"
              exact ⟨_, _, rfl, s810⟩
          · rintro σ H8 ⟨u7, u8, rfl, s8⟩
            have s48 := s47.trans s8
            have hai8 := s8 _ _ hai7
            have hdl8 := s8 _ _ (s7 _ _ hdl6)
            have hX8 : DpAll K H8 xs ((ds.take i).map pDay) := s8.dpa (s7.dpa hX6)
            walk_at "go"
            refine g_cutE (fun v H' => ∃ tp, v = .ref tp ∧ Same H8 H' ∧ SqT K H' tp (d.map V.str)) ?_ ?_
            · walk_at "go"
              refine n_lst (by simp [sizeLine_eq]) fun e1 H9 ne1 s9 he1 => ?_
              refine g_eq_d (.list ((wordsOf d).map .str)) (.list ((["-"] : List Str).map .str)) (.lst (SqL.of (s9 _ _ hai8)) (dpa_strs _)) (.lst (SqL.of he1) (.cons (.str _) .nil)) ((sh_strL fun z hz => ?_).ok (by decide)) ((sh_strL fun z hz => ?_).ok (by decide)) ?_
              · unfold wordsOf at hz
                split at hz
                · rw [List.mem_singleton.mp hz]; exact wd_str (.inr (.inl rfl))
                · exact (nmd z hz).str
              · rw [List.mem_singleton.mp hz]; exact wd_str (.inr (.inl rfl))
              rw [eqv_strL]
              walk_at "go"
              refine if_D (fun e => ?_) (fun e => ?_)
              · have dn : d = [] := by
                  by_cases q : d = []
                  · exact q
                  · exfalso
                    unfold wordsOf at e
                    rw [if_neg q] at e
                    have := nmd "-" (by rw [e]; simp)
                    exact absurd this (of_decide_eq_false nm_no)
                subst dn
                walk_at "go"
                refine n_tup (by simp [sizeLine_eq]) fun tp H10 ntp s10 htp => ?_
                exact ⟨tp, rfl, s9.trans s10, SqT.of htp⟩
              · have dn : wordsOf d = d := by
                  unfold wordsOf at e ⊢
                  split
                  · rename_i q; rw [if_pos q] at e; exact absurd rfl e
                  · rfl
                walk_at "go"
                refine g_tupOf_l (SqL.of (s9 _ _ hai8)) fun tp H10 ntp s10 htp => ?_
                rw [dn] at htp
                exact ⟨tp, rfl, s9.trans s10, SqT.of htp⟩
            · rintro _ H9 ⟨tp, rfl, s9, htp⟩
              have hdl9 := s9 _ _ hdl8
              walk_at "go"
              refine g_append hdl9 (by rw [sizeLine_eq]; omega) fun H10 k10 hdl10 => ?_
              walk_at "go"
              refine ⟨xs ++ [.ref tp], _, _, _, _, _, rfl, same_keep (sH6.trans (s7.trans (s8.trans s9))) ndl0 k10, same_keep (s48.trans s9) ndl k10, hdl10, ?_⟩
              rw [app_tail _ _ hd, List.map_append]
              exact dpa_keep k10 hdl9 (by rw [← List.map_append]; exact noL_days _) (dpa_app (s9.dpa hX8) (.cons (.tup htp (dpa_strs d)) .nil))
        · rintro σ H6 ⟨xs, u5, u6, u7, u8, u9, rfl, sH6, s46, hdl6, hX6⟩
          have ec : ds.take (as.map V.ref).length = ds := List.take_of_length_le (by rw [List.length_map]; omega)
          rw [ec] at hX6
          walk_at "go"
          try refine g_ix_l (SqL.of (s46 _ _ h04)) (atI_nat (j := 1) rfl) ?_
          walk_at "go"
          refine g_intS (PySem.W.KIN.num_reads dok.b0 (by have := tx.b4; omega)) (by have := num_len dok.b0 tx.b4; show (numS b).length ≤ 640; omega) ?_
          walk_at "go"
          refine n_mskw (.inr (SqL.of hdl6)) ?_
          refine n_plan hX6 dok fun H8 m s8 nm hm => ?_
          exact k H8 m (sH6.trans s8) (sH6.free nm) hm

end
abbrev s_law_text : Stmt := top 46
abbrev N_law_text : List Str := ["_law_days", "_law_lead", "_law_day"]
theorem sc_law_text : FnScope N_law_text ["_law_days", "_law_lead"] (defScope s_law_text) := ⟨rfl, rfl, rfl, by decide +kernel, rfl, by decide +kernel, by decide +kernel⟩
section
variable {P : Program} {w : World} {K : PySem.W.Frag}
variable {mg : Str → Option Value} {base : Heap}
def sp_law_text (K : PySem.W.Frag) : Sp := fun vs H Q _ => ∃ (v : V) (ds : List (List Str)) (b : Int), vs = [v, .int b] ∧ Dp K H v (.list (ds.map pDay)) ∧ TxOk ds b ∧ ∀ H', Same H H' → Q (.str (textOf ds b)) H'
theorem ok_law_text (M : Md K mg) (G : Gd K mg "_law_text" s_law_text) : DefR P w K mg base "_law_text" 2 (sp_law_text K) := by
  refine def_mk G fun f fd F => fnr_mk (F.ok sc_law_text ?_ (fun cdv A outer s H vs Q E hr h => ?_)) (F.bindsN (fun _ _ _ _ _ _ us hl => match us, hl with | [_, _], _ => rfl))
  · rintro vs H Q E ⟨v, ds, b, rfl, _⟩; rfl
  · obtain ⟨v, ds, b, rfl, hv, tx, k⟩ := h
    have nd := sc_law_text.nd
    have dok := tx.dok
    have hfew := dok.few
    have b4 := tx.b4
    obtain ⟨dl, xs, rfl, hS, hX⟩ := hv.inv_l
    have hxl : xs.length = ds.length := by rw [hX.length]; simp
    have l4 := num_len dok.b0 tx.b4
    refine ⟨_, PSs.nox (pss_one (ps_ret (pe_joinK K pe_str (pe_op (op_addK K) (pe_lst (pa_cons (pe_op (op_addK K) pe_str (pe_strI M.b (pv 1))) pa_nil)) (pe_lc (own := [("_law_day", 2)]) (g := (gName 2)) (tt := tYes) rfl nd (pi_listK K (pv 0)) (blkOk_by (N := N_law_text) (sc := defScope s_law_text) (by decide +kernel)) (fun _ _ _ _ _ => (pg_name (i := 2) nd rfl (by first | exact Or.inl rfl | exact Or.inr rfl))) (fun _ _ _ _ _ => pts_nil) (fun _ _ _ _ _ => (pe_ifExp (pt_cmpR (op_neK K hr) (pv 2) (pe_tup pa_nil) (nomark _)) (pe_joinK K pe_str (pv 2)) pe_str))))))), ?_⟩
    show (_ : TS) _ [some (.ref dl), some (.int b), none] H
    walk_at "go"
    refine g_strI (num_small dok.b0 (by omega)) ?_
    have l5 : ("lead " : Str).length = 5 := by decide +kernel
    refine g_add_s (by rw [l5, sizeLine_eq]; omega) ?_
    have eh : ("lead " : Str) ++ numS b = Txt.join " " (headOf b) := by
      rw [head_text]
      refine str_ext ?_
      simp only [TL.tl_append]
      rfl
    rw [eh]
    walk_at "go"
    refine n_lst (by simp [sizeLine_eq]) fun l0 H1 nl0 s1 hl0 => ?_
    walk_at "go"
    refine n_lcL (same_l s1 hS) (lc_map (walk_list (xs := xs)) (fun j => .str (rowOf (ds.getD j []))) (fun H5 s5 => same_l (s1.trans s5) hS) ?_ ?_)
    · rintro C j y H5 H6 nC hj s5 hC ⟨e, hyj⟩
      subst e
      have s15 := s1.trans s5
      obtain ⟨dd, hdd, hDy⟩ := (s15.dpa hX).get hyj
      obtain ⟨zs, hzs, rfl⟩ := getm hdd
      have zm : zs ∈ ds := List.mem_of_getElem? hzs
      obtain ⟨t2, ws, rfl, hT2, hW⟩ := hDy.inv_t
      have ew : ws = zs.map V.str := strs_of hW
      subst ew
      walk_at "go"
      refine ⟨rfl, ?_⟩
      walk_at "go"
      refine n_tup (by simp [sizeLine_eq]) fun te H7 nte s7 hte => ?_
      refine g_ne_d (.tuple (zs.map .str)) (.tuple (([] : List Str).map .str)) (.tup (same_t s7 hT2) (dpa_strs zs)) (.tup (SqT.of hte) .nil) ((sh_strT fun z hz => (tx.nm zs zm z hz).str).ok (by decide)) ((sh_strT (a := []) (by simp)).ok (by decide)) ?_
      rw [eqv_strT]
      walk_at "go"
      refine if_ND (fun e => ?_) (fun e => ?_)
      · walk_at "go"
        refine g_join (.inr (same_t s7 hT2)) (join_fits (B := 8) (n := 8) (fun z hz => (tx.nm zs zm z hz).wd.le) (dok.le zs zm) space1 (by decide)) ?_
        exact n_mapK nC (s5.trans s7) (s7 _ _ hC) (by rw [getD_of hzs, ← row_day, if_neg e])
      · walk_at "go"
        exact n_mapK nC (s5.trans s7) (s7 _ _ hC) (by rw [getD_of hzs, ← row_day, if_pos e])
    · intro C H5 nC s5 hC
      have e1 : (List.range xs.length).map (fun j => V.str (rowOf (ds.getD j []))) = (ds.map rowOf).map V.str := by
        rw [hxl, List.map_map]
        exact range_getD ds [] fun d : List Str => V.str (rowOf d)
      rw [e1] at hC
      refine g_add_l (s5 _ _ hl0) hC (by simp [sizeLine_eq]; omega) fun p H6 np s6 hp => ?_
      have e2 : [V.str (Txt.join " " (headOf b))] ++ (ds.map rowOf).map V.str = ((rowsOf ds b).map (Txt.join " ")).map V.str := by simp [rowsOf, rowOf]
      rw [e2] at hp
      refine g_join (.inl (SqL.of hp)) (join_fits (B := 72) (n := 101) tx.lens (by rw [List.length_map]; exact tx.rlen) line1 (by decide)) ?_
      exact k H6 (s1.trans (s5.trans s6))

end
abbrev s_law_some : Stmt := top 47
abbrev N_law_some : List Str := ["_law_h", "_law_names", "_law_most", "_law_left", "_law_found", "_law_k"]
theorem sc_law_some : FnScope N_law_some ["_law_h", "_law_names", "_law_most"] (defScope s_law_some) := ⟨rfl, rfl, rfl, by decide +kernel, rfl, by decide +kernel, by decide +kernel⟩
section
variable {P : Program} {w : World} {K : PySem.W.Frag}
variable {mg : Str → Option Value} {base : Heap}
theorem perm_pop {α : Type} {pool : List α} {i : Nat} {x : α} (h : pool[i]? = some x) : List.Perm (x :: pool.eraseIdx i) pool := by
  induction pool generalizing i with
  | nil => simp at h
  | cons a r ih =>
    cases i with
    | zero =>
      have e : a = x := by simpa using h
      subst e
      simp
    | succ i =>
      have h' : r[i]? = some x := by simpa using h
      rw [List.eraseIdx_cons_succ]
      exact (List.Perm.swap a x _).trans ((ih h').cons a)
theorem map_eraseIdx {α β : Type} (f : α → β) : ∀ (l : List α) (i : Nat), (l.map f).eraseIdx i = (l.eraseIdx i).map f
  | [], _ => rfl
  | _ :: _, 0 => rfl
  | a :: l, i + 1 => by simp [map_eraseIdx f l i]
def sp_law_some (K : PySem.W.Frag) : Sp := fun vs H Q _ => ∃ (d l nm : Addr) (zs : List Str) (n : Int), vs = [.ref d, .ref nm, .int n] ∧ Src K H d l ∧ H nm = some (.lst (zs.map V.str)) ∧ zs.Nodup ∧ zs.length ≤ 8 ∧ 0 ≤ n ∧ n ≤ 1000 ∧
  ∀ (H' : Hp) (t : Addr) (ys : List Str), Keep2 d l H H' → Src K H' d l → SqT K H' t (ys.map V.str) → ys.Nodup → ys.length ≤ 8 → (∀ z ∈ ys, z ∈ zs) → Q (.ref t) H'
theorem ok_law_some (M : Md K mg) (G : Gd K mg "_law_some" s_law_some) (D_law_next : DefR P w K mg base "_law_next" 2 (sp_law_next K)) : DefR P w K mg base "_law_some" 4 (sp_law_some K) := by
  refine def_mk G fun f fd F => fnr_mk (F.ok sc_law_some ?_ (fun cdv A outer s H vs Q E hr h => ?_)) (F.bindsN (fun _ _ _ _ _ _ us hl => match us, hl with | [_, _, _], _ => rfl))
  · rintro vs H Q E ⟨d, l, nm, zs, n, rfl, _⟩; rfl
  · obtain ⟨d, l, nm, zs, n, rfl, hs, hN, zn, z8, n0, n1, k⟩ := h
    have nd := sc_law_some.nd
    refine ⟨_, PSs.nox (pss_cons (ps_par (i := 3) (j := 4) rfl nd rfl rfl (by decide) rfl rfl (pa_cons (pe_listOf K M.b (pv 1)) (pa_cons (pe_lst pa_nil) pa_nil)) (by rfl))
    (pss_cons (ps_for PassesOwn.never rfl (pi_range1 rfl M.b.range (pa_cons (pe_callR D_law_next (hr.mono (by first | decide | omega)) passN (pa_cons (pv 0) (pa_cons (pe_op (op_addK K) (pe_min2 M.b (pa_cons (pv 2) (pa_cons (pe_len K M.b (pv 3)) pa_nil))) pe_int) pa_nil))) pa_nil)) (pg_name (i := 5) nd rfl (by first | exact Or.inl rfl | exact Or.inr rfl)) (pss_one (ps_expr (as_bm K (pe_bm PySem.F.plainAttrs_list PySem.F.slot_list_append PySem.F.type_list_append mt_append (pv 4) (pa_cons (as_bm K (pe_bm PySem.F.plainAttrs_list PySem.F.slot_list_pop PySem.F.type_list_pop mt_popAt (pv 3) (pa_cons (pe_callR D_law_next (hr.mono (by first | decide | omega)) passN (pa_cons (pv 0) (pa_cons (pe_len K M.b (pv 3)) pa_nil))) pa_nil))) pa_nil)))))) (pss_one (ps_ret (pe_tupOf K M.b (pv 4)))))), ?_⟩
    show (_ : TS) _ [some (.ref d), some (.ref nm), some (.int n), none, none, none] H
    walk_at "go"
    refine g_listOf (.inl (SqL.of hN)) fun lf H1 nlf s1 hlf => ?_
    walk_at "go"
    refine n_lst (by simp) fun fo H2 nfo s2 hfo => ?_
    have s12 := s1.trans s2
    have Flf := hs.fr nlf
    have Ffo := hs.fr (s1.free nfo)
    have nlo : lf ≠ fo := ne_of_none hlf nfo
    have hlf2 := s2 _ _ hlf
    walk_at "go"
    have mn : 0 ≤ (if ((zs.map V.str).length : Int) < n then ((zs.map V.str).length : Int) else n) ∧ (if ((zs.map V.str).length : Int) < n then ((zs.map V.str).length : Int) else n) ≤ zs.length := by
      rw [List.length_map]; split <;> omega
    generalize (if ((zs.map V.str).length : Int) < n then ((zs.map V.str).length : Int) else n) = mm at mn ⊢
    refine ⟨d, l, _, rfl, hs.same s12, by omega, by omega, fun H3 r r0 r1 k3 c3 => ?_⟩
    walk_at "go"
    refine n_forR1 (by omega) (by omega) (fun i σ H' => ∃ (ps ys : List Str) (u : Option V), σ = [some (.ref d), some (.ref nm), some (.int n), some (.ref lf), some (.ref fo), u] ∧ Keep2 d l H H' ∧ Src K H' d l ∧ H' lf = some (.lst (ps.map V.str)) ∧ H' fo = some (.lst (ys.map V.str)) ∧ ys.length = i ∧ List.Perm (ys ++ ps) zs)
      ⟨zs, [], _, rfl, (Same.k2 s12).trans k3, c3, k3 _ _ Flf.nd Flf.nl hlf2, k3 _ _ Ffo.nd Ffo.nl hfo, rfl, by simp⟩ ?_ ?_
    · rintro i σ H4 hi ⟨ps, ys, u, rfl, kH, c4, hL, hY, yl, pm⟩
      have hpl : ys.length + ps.length = zs.length := by
        have := pm.length_eq
        rwa [List.length_append] at this
      have p0 : (0 : Int) < ((ps.map V.str).length : Int) := by rw [List.length_map]; omega
      walk_at "go"
      refine ⟨d, l, _, rfl, c4, p0, by rw [List.length_map]; omega, fun H5 q q0 qq k5 c5 => ?_⟩
      have qi : q.toNat < ps.length := by rw [List.length_map] at qq; omega
      have hx : ps[q.toNat]? = some ps[q.toNat] := List.getElem?_eq_getElem qi
      generalize ps[q.toNat] = z at hx
      have hL5 := k5 _ _ Flf.nd Flf.nl hL
      have hY5 := k5 _ _ Ffo.nd Ffo.nl hY
      walk_at "go"
      refine g_popAt (y := .str z) hL5 q0 (by rw [List.getElem?_map, hx]; rfl) (by simp [sizeLine_eq]; omega) fun H6 k6 hL6 => ?_
      have hY6 := k6 _ _ nlo.symm hY5
      walk_at "go"
      refine g_append hY6 (by simp [sizeLine_eq]; omega) fun H7 k7 hY7 => ?_
      walk_at "go"
      refine ⟨ps.eraseIdx q.toNat, ys ++ [z], _, rfl, ((kH.trans k5).then nlf k6).then (s1.free nfo) k7, (c5.keep k6 Flf).keep k7 Ffo, ?_, ?_, by simp; omega, ?_⟩
      · rw [k7 _ _ nlo hL6, map_eraseIdx]
      · rw [hY7]; simp
      · refine List.Perm.trans ?_ pm
        rw [List.append_assoc]
        exact List.Perm.append_left ys (by simpa using perm_pop hx)
    · rintro σ H4 ⟨ps, ys, u, rfl, kH, c4, hL, hY, yl, pm⟩
      have hpl : ys.length + ps.length = zs.length := by
        have := pm.length_eq
        rwa [List.length_append] at this
      walk_at "go"
      refine g_tupOf_l (SqL.of hY) fun t H5 nt s5 ht => ?_
      exact k H5 t ys (kH.trans (Same.k2 s5)) (c4.same s5) (SqT.of ht) (List.nodup_append.mp (pm.nodup_iff.mpr zn)).1 (by omega) fun z hz => pm.subset (List.mem_append_left _ hz)

end
abbrev s_law_fields : Stmt := top 44
abbrev N_law_fields : List Str := ["_law_h", "_law_most", "_law_high", "_law_product", "_law_left", "_law_fields_here", "_law_states", "_law_k", "_law_limit"]
theorem sc_law_fields : FnScope N_law_fields ["_law_h", "_law_most", "_law_high", "_law_product"] (defScope s_law_fields) := ⟨rfl, rfl, rfl, by decide +kernel, rfl, by decide +kernel, by decide +kernel⟩
section
variable {P : Program} {w : World} {K : PySem.W.Frag}
variable {mg : Str → Option Value} {base : Heap}
def eight : List Str := ["ash", "bo", "cork", "dill", "elm", "f"]
theorem eight_nm : ∀ z ∈ eight, NmOk z := by decide +kernel
theorem eight_nd : eight.Nodup := by decide +kernel
theorem eight_len : eight.length = 6 := by decide +kernel
def sp_law_fields (K : PySem.W.Frag) : Sp := fun vs H Q _ => ∃ (d l : Addr) (m h pr : Int), vs = [.ref d, .int m, .int h, .int pr] ∧ Src K H d l ∧ 1 ≤ m ∧ m ≤ 6 ∧ 2 ≤ h ∧ h ≤ 30 ∧ 2 ≤ pr ∧ pr ≤ 4000 ∧
  ∀ H' r xs fs, Keep2 d l H H' → Src K H' d l → H r = none → Fr2 d l r → H' r = some (.lst xs) → DpAll K H' xs (fs.map pField) → FOk fs → fs.length ≤ m.toNat → (∀ f ∈ fs, f.2 ≤ h) → prodL (fs.map (·.2)) ≤ pr → (∀ f ∈ fs, f.1 ∈ eight) → Q (.ref r) H'
theorem ok_law_fields (M : Md K mg) (G : Gd K mg "_law_fields" s_law_fields) (D_law_next : DefR P w K mg base "_law_next" 2 (sp_law_next K)) : DefR P w K mg base "_law_fields" 4 (sp_law_fields K) := by
  refine def_mk G fun f fd F => fnr_mk (F.ok sc_law_fields ?_ (fun cdv A outer s H vs Q E hr h => ?_)) (F.bindsN (fun _ _ _ _ _ _ us hl => match us, hl with | [_, _, _, _], _ => rfl))
  · rintro vs H Q E ⟨d, l, m, h, pr, rfl, _⟩; rfl
  · obtain ⟨d, l, m, hh, pr, rfl, hd, m1, m6, h1, h30, p1, p4, k⟩ := h
    have nd := sc_law_fields.nd
    refine ⟨_, PSs.nox (pss_cons (ps_par3 (i := 4) (j := 5) (l := 6) rfl nd rfl rfl rfl (by decide) (by decide) (by decide) rfl rfl rfl (pa_cons (pe_lst (pa_cons pe_str (pa_cons pe_str (pa_cons pe_str (pa_cons pe_str (pa_cons pe_str (pa_cons pe_str pa_nil))))))) (pa_cons (pe_lst pa_nil) (pa_cons pe_int pa_nil))) (by rfl))
    (pss_cons (ps_for PassesOwn.never rfl (pi_range1 rfl M.b.range (pa_cons (pe_op (op_addK K) pe_int (pe_callR D_law_next (hr.mono (by first | decide | omega)) passN (pa_cons (pv 0) (pa_cons (pv 1) pa_nil)))) pa_nil)) (pg_name (i := 7) nd rfl (by first | exact Or.inl rfl | exact Or.inr rfl)) (pss_cons (ps_set (i := 8) nd rfl (by first | exact Or.inl rfl | exact Or.inr rfl) (pe_op (op_addK K) pe_int (pe_callR D_law_next (hr.mono (by first | decide | omega)) passN (pa_cons (pv 0) (pa_cons (pv 2) pa_nil)))))
    (pss_one (ps_if (pt_cmpR op_le (pe_op op_mul (pv 6) (pv 8)) (pv 3) (nomark _)) (pss_cons (ps_expr (as_bm K (pe_bm PySem.F.plainAttrs_list PySem.F.slot_list_append PySem.F.type_list_append mt_append (pv 5) (pa_cons (pe_tup (pa_cons (as_bm K (pe_bm PySem.F.plainAttrs_list PySem.F.slot_list_pop PySem.F.type_list_pop mt_popAt (pv 4) (pa_cons (pe_callR D_law_next (hr.mono (by first | decide | omega)) passN (pa_cons (pv 0) (pa_cons (pe_len K M.b (pv 4)) pa_nil))) pa_nil))) (pa_cons (pv 8) pa_nil))) pa_nil))))
    (pss_one (ps_set (i := 6) nd rfl (by first | exact Or.inl rfl | exact Or.inr rfl) (pe_op op_mul (pv 6) (pv 8))))) pss_nil))))
    (pss_one (ps_ret (pe_ifExp (pt_cmpR (op_neK K hr) (pv 5) (pe_lst pa_nil) (nomark _)) (pv 5) (pe_lst (pa_cons (pe_tup (pa_cons pe_str (pa_cons pe_int pa_nil))) pa_nil))))))), ?_⟩
    show (_ : TS) _ [some (.ref d), some (.int m), some (.int hh), some (.int pr), none, none, none, none, none] H
    walk_at "go"
    refine n_lst (by simp [sizeLine_eq]) fun lf H1 nlf s1 hlf => ?_
    walk_at "go"
    refine n_lst (by simp) fun fo H2 nfo s2 hfo => ?_
    have s12 := s1.trans s2
    have Flf := hd.fr nlf
    have Ffo := hd.fr (s1.free nfo)
    have nfl : fo ≠ lf := (ne_of_none hlf nfo).symm
    have nfo0 : H fo = none := s1.free nfo
    walk_at "go"
    refine ⟨d, l, m, rfl, hd.same s12, by omega, by omega, fun H3 r r0 r1 k3 d3 => ?_⟩
    walk_at "go"
    refine n_forR1 (by omega) (by omega) (fun i σ H' => ∃ (xs : List V) (fs : List (Str × Int)) (ps : List Str) (u v : Option V), σ = [some (.ref d), some (.int m), some (.int hh), some (.int pr), some (.ref lf), some (.ref fo), some (.int (prodL (fs.map (·.2)))), u, v] ∧ Keep2 d l H H' ∧ Src K H' d l ∧
      H' lf = some (.lst (ps.map V.str)) ∧ H' fo = some (.lst xs) ∧ DpAll K H' xs (fs.map pField) ∧ fs.length ≤ i ∧ List.Perm (fs.map (·.1) ++ ps) eight ∧ (∀ f ∈ fs, 1 ≤ f.2 ∧ f.2 ≤ hh) ∧ 1 ≤ prodL (fs.map (·.2)) ∧ prodL (fs.map (·.2)) ≤ pr)
      ⟨[], [], eight, none, none, rfl, (Same.k2 s12).trans k3, d3, k3 _ _ Flf.nd Flf.nl (s2 _ _ hlf), k3 _ _ Ffo.nd Ffo.nl hfo, .nil, Nat.le_refl _, by simp, (fun f hf => by cases hf), by decide, by simp [prodL]; omega⟩ ?_ ?_
    · rintro i σ H' hi ⟨xs, fs, ps, u, v, rfl, kH, dH, hL, hF, hX, hl, pm, hlim, q1, q2⟩
      have hpl : fs.length + ps.length = 6 := by
        have := pm.length_eq
        rw [eight_len] at this
        simpa using this
      have hxl : xs.length = fs.length := by rw [hX.length]; simp
      generalize hst : prodL (fs.map (·.2)) = st at *
      walk_at "go"
      refine ⟨d, l, hh, rfl, dH, by omega, by omega, fun H4 x l0 l1 k4 d4 => ?_⟩
      have hL4 : H4 lf = some (.lst (ps.map V.str)) := k4 _ _ Flf.nd Flf.nl hL
      have hF4 : H4 fo = some (.lst xs) := k4 _ _ Ffo.nd Ffo.nl hF
      have hX4 : DpAll K H4 xs (fs.map pField) := dpa_tk (dH.tk k4) _ _ (noL_fields fs) hX
      have cm : CMul st (1 + x) := by unfold CMul; omega
      walk_at "go"
      refine if_D (fun e => ?_) (fun e => ?_)
      · walk_at "go"
        refine ⟨d, l, _, rfl, d4, by simp; omega, by simp; omega, fun H5 q q0 qq k5 d5 => ?_⟩
        have qi : q.toNat < ps.length := by simp at qq; omega
        have hx : ps[q.toNat]? = some ps[q.toNat] := List.getElem?_eq_getElem qi
        generalize ps[q.toNat] = nm at hx
        have hL5 := k5 _ _ Flf.nd Flf.nl hL4
        have hF5 := k5 _ _ Ffo.nd Ffo.nl hF4
        have hX5 : DpAll K H5 xs (fs.map pField) := dpa_tk (d4.tk k5) _ _ (noL_fields fs) hX4
        walk_at "go"
        refine g_popAt (y := .str nm) hL5 q0 (by rw [List.getElem?_map, hx]; rfl) (by simp [sizeLine_eq]; omega) fun H6 k6 hL6 => ?_
        have hF6 := k6 _ _ nfl hF5
        have hX6 : DpAll K H6 xs (fs.map pField) := dpa_keep k6 hL5 (noL_fields fs) hX5
        have d6 := d5.keep k6 Flf
        walk_at "go"
        refine n_tup (by simp [sizeLine_eq]) fun tp H7 ntp s7 htp => ?_
        walk_at "go"
        refine g_append (s7 _ _ hF6) (by rw [sizeLine_eq]; omega) fun H8 k8 hF8 => ?_
        walk_at "go"
        have hpos : 1 ≤ st * (1 + x) := by
          have : 1 * 1 ≤ st * (1 + x) := Int.mul_le_mul q1 (by omega) (by decide) (by omega)
          omega
        refine ⟨xs ++ [.ref tp], fs ++ [(nm, 1 + x)], ps.eraseIdx q.toNat, some (.int i), some (.int (1 + x)), ?_, ?_, ?_, ?_, hF8, ?_, by simp; omega, ?_, ?_, ?_, ?_⟩
        · simp [prodL_snoc, hst]
        · exact (((((kH.trans k4).trans k5).then nlf k6).trans (Same.k2 s7)).then nfo0 k8)
        · exact (d6.same s7).keep k8 Ffo
        · rw [k8 _ _ nfl.symm (s7 _ _ hL6), map_eraseIdx]
        · rw [List.map_append]
          exact dpa_keep k8 (s7 _ _ hF6) (by rw [← List.map_append]; exact noL_fields _) ((s7.dpa hX6).append (.cons (dp_tup htp (.cons (.str _) (.cons (.int _) .nil))) .nil))
        · refine List.Perm.trans ?_ pm
          rw [List.map_append, List.append_assoc]
          exact List.Perm.append_left _ (by simpa using perm_pop hx)
        · intro f hf
          rcases List.mem_append.mp hf with h | h
          · exact hlim f h
          · have : f = (nm, 1 + x) := by simpa using h
            subst this
            exact ⟨by simp; omega, by simp; omega⟩
        · simpa [prodL_snoc, hst] using hpos
        · simpa [prodL_snoc, hst] using e
      · walk_at "go"
        exact ⟨xs, fs, ps, _, _, by rw [hst], kH.trans k4, d4, hL4, hF4, hX4, by omega, pm, hlim, by rw [hst]; exact q1, by rw [hst]; exact q2⟩
    · rintro σ H' ⟨xs, fs, ps, u, v, rfl, kH, dH, hL, hF, hX, hl, pm, hlim, q1, q2⟩
      have hxl : xs.length = fs.length := by rw [hX.length]; simp
      have hnm : ∀ f ∈ fs, NmOk f.1 := fun f hf => eight_nm _ (pm.subset (List.mem_append_left _ (List.mem_map.mpr ⟨f, hf, rfl⟩)))
      have hnd : (fs.map (·.1)).Nodup := (List.nodup_append.mp (pm.nodup_iff.mpr eight_nd)).1
      walk_at "go"
      refine n_lst (by simp) fun e H3 ne s3 he => ?_
      refine g_ne_d (.list (fs.map pField)) (.list []) (dp_lst (s3 _ _ hF) (s3.dpa hX)) (dp_lst he .nil) (Sh.ok (sh_l (n := 1) fun x hx => ?_) (by decide)) (Sh.ok (n := 1) (sh_l fun x hx => by cases hx) (by decide)) ?_
      · obtain ⟨f, hf, rfl⟩ := List.mem_map.mp hx
        exact sh_field (hnm f hf)
      rw [eqv_nil]
      walk_at "go"
      cases fs with
      | nil =>
        refine if_F rfl ?_
        walk_at "go"
        refine n_tup (by simp [sizeLine_eq]) fun t2 H4 nt2 s4 ht2 => ?_
        walk_at "go"
        refine n_lst (by simp [sizeLine_eq]) fun r2 H5 nr2 s5 hr2 => ?_
        have s35 := s3.trans (s4.trans s5)
        refine k H5 r2 [.ref t2] [("ash", 2)] (kH.trans (Same.k2 s35)) (dH.same s35) (kH.free (dH.fr ((s3.trans s4).free nr2)) ((s3.trans s4).free nr2)) (dH.fr ((s3.trans s4).free nr2)) hr2 (.cons (dp_tup (s5 _ _ ht2) (.cons (.str _) (.cons (.int _) .nil))) .nil) ⟨by decide, by decide, by simp, by decide +kernel, by simp, by decide +kernel⟩ (by simp; omega) (by simp; omega) (by simpa [prodL] using p1) (by decide +kernel)
      | cons f0 fs =>
        refine if_T rfl ?_
        walk_at "go"
        exact k H3 fo xs (f0 :: fs) (kH.trans (Same.k2 s3)) (dH.same s3) nfo0 Ffo (s3 _ _ hF) (s3.dpa hX) ⟨by simp, by simp at hl ⊢; omega, hnd, hnm, fun f hf => ⟨(hlim f hf).1, by have := (hlim f hf).2; omega⟩, by omega⟩ (by simp at hl ⊢; omega) (fun f hf => (hlim f hf).2) q2 (fun f hf => pm.subset (List.mem_append_left _ (List.mem_map.mpr ⟨f, hf, rfl⟩)))

end
section
variable {P : Program} {w : World} {K : PySem.W.Frag}
variable {mg : Str → Option Value} {base : Heap}
/-! ### text * n, text.count(sign) -/
def rMulS : R2 := fun x y H Q => ∃ (z : Str) (n : Int), x = .str z ∧ y = .int n ∧ MulOk z n ∧ Q (.str (Txt.mul z n)) H
theorem op_mulS {X : Cx} : OpR X (binaryOp .Mult) rMulS := by
  rintro pins s σ H _ _ v u Q inv rv ru ⟨z, n, rfl, rfl, ok, q⟩
  obtain ⟨t, rfl⟩ := rv
  obtain ⟨t2, rfl⟩ := ru
  exact SB.mul ok fun t' k => ⟨.str (Txt.mul z n), H, inv.kept (t' := k) fun _ _ z => z, ⟨t', rfl⟩, q⟩
/-- ' ' * n -/
def blanks (n : Nat) : Str := ⟨(List.replicate n 32).toArray⟩
theorem mulOk_sp {n : Int} (h0 : 0 ≤ n) (h1 : n ≤ 1000) : MulOk " " n := by
  have l1 : (" " : Str).length = 1 := by decide +kernel
  refine ⟨by rw [Bool.or_eq_false_iff]; exact ⟨decide_eq_false (by omega), decide_eq_false (by omega)⟩, fun a b => ?_, fun a b => ?_⟩
  · have : n * 1 ≤ 2 ^ 63 - 1 := by omega
    have := Int.le_ediv_of_mul_le (a := 1) (b := 2 ^ 63 - 1) (c := n) (by omega) (by omega)
    rw [l1]
    omega
  · unfold Builtin.Str.tooLong
    rw [l1]
    exact decide_eq_false (by rw [sizeLine_eq]; omega)
theorem fold_rep : ∀ (n : Nat) (a : Array Nat), ((List.replicate n #[32]).foldl (· ++ ·) a) = a ++ (List.replicate n 32).toArray
  | 0, a => by simp
  | n + 1, a => by
    rw [List.replicate_succ, List.foldl_cons, fold_rep n, List.replicate_succ]
    apply Array.ext'
    simp
theorem mul_sp {n : Int} (h0 : 0 ≤ n) : Txt.mul " " n = blanks n.toNat := by
  unfold Txt.mul blanks
  have cp : (" " : Str).cps = #[32] := by decide +kernel
  have l1 : (" " : Str).length = 1 := by decide +kernel
  by_cases h1 : n < 1
  · rw [if_pos h1]
    have : n.toNat = 0 := by omega
    rw [this]
    rfl
  · rw [if_neg h1, l1]
    by_cases h2 : n = 1
    · subst h2
      rw [if_pos (by decide)]
      exact TL.ext_tl (by decide +kernel)
    · rw [if_neg (by simp [h2]), cp, fold_rep]
      simp
theorem g_blanks {H : Hp} {Q : VK} {n : Int} (h0 : 0 ≤ n) (h1 : n ≤ 1000) (h : Q (.str (blanks n.toNat)) H) : rMulS (.str " ") (.int n) H Q := ⟨" ", n, rfl, rfl, mulOk_sp h0 h1, by rw [mul_sp h0]; exact h⟩
theorem join_signs (cs : List Nat) : Txt.join "" (cs.map fun c => (⟨#[c]⟩ : Str)) = ⟨cs.toArray⟩ := by
  have e : (cs.map fun c => (⟨#[c]⟩ : Str)) = (cs.map fun c => [c]).map SX.S := by simp [Function.comp_def]
  have e0 : ("" : Str) = SX.S [] := by decide +kernel
  rw [e, e0, SX.join_S]
  congr 1
  have : ∀ l : List Nat, TL.joinL [] (l.map fun c => [c]) = l := by
    intro l
    induction l with
    | nil => rfl
    | cons a r ih =>
      cases r with
      | nil => rfl
      | cons b r => exact congrArg (fun z => a :: z) ih
  rw [this]

end
abbrev s_chart : Stmt := top 33
abbrev N_chart : List Str := ["farm", "plan", "days", "rot", "lines", "name", "signs", "count", "day", "is_done"]
theorem sc_chart : FnScope N_chart ["farm", "plan", "days"] (defScope s_chart) := ⟨rfl, rfl, rfl, by decide +kernel, rfl, by decide +kernel, by decide +kernel⟩
section
variable {P : Program} {w : World} {K : PySem.W.Frag}
variable {mg : Str → Option Value} {base : Heap}
/-! ### charts -/
/-- what first_rot tells -/
def IsRot (fs : List (Str × Int)) (ds : List (List Str)) (b : Int) : Option (Nat × Str) → Prop
  | none => ∀ d, rotAt fs ds b d = none
  | some (D, z) => (∀ e, e < D → rotAt fs ds b e = none) ∧ rotAt fs ds b D = some z
def rotD : Option (Nat × Str) → PyData
  | none => .none
  | some (D, z) => .tuple [.int (D : Nat), .str z]
theorem first_day {fs : List (Str × Int)} {ds : List (List Str)} {b : Int} : ∃ r, IsRot fs ds b r := by
  by_cases h : ∀ d, rotAt fs ds b d = none
  · exact ⟨none, h⟩
  · obtain ⟨D0, h0⟩ := Classical.not_forall.mp h
    have step : ∀ n D, D ≤ n → rotAt fs ds b D ≠ none → ∃ r, IsRot fs ds b r := by
      intro n
      induction n with
      | zero =>
        intro D hD hz
        obtain ⟨z, e⟩ := Option.ne_none_iff_exists'.mp hz
        exact ⟨some (D, z), fun e he => by omega, e⟩
      | succ n ih =>
        intro D hD hz
        by_cases q : ∃ e, e < D ∧ rotAt fs ds b e ≠ none
        · obtain ⟨e, he, hq⟩ := q
          exact ih e (by omega) hq
        · obtain ⟨z, e⟩ := Option.ne_none_iff_exists'.mp hz
          exact ⟨some (D, z), fun e he => Classical.byContradiction fun hn => q ⟨e, he, hn⟩, e⟩
    exact step D0 D0 (Nat.le_refl _) h0
theorem rot_uni {fs : List (Str × Int)} {ds : List (List Str)} {b : Int} {r r' : Option (Nat × Str)} (h : IsRot fs ds b r) (h' : IsRot fs ds b r') : r = r' := by
  match r, r', h, h' with
  | none, none, _, _ => rfl
  | none, some (D, z), h, h' => have := h D; rw [h'.2] at this; cases this
  | some (D, z), none, h, h' => have := h' D; rw [h.2] at this; cases this
  | some (D, z), some (D', z'), h, h' =>
    have e : D = D' := by
      rcases Nat.lt_trichotomy D D' with q | q | q
      · have := h'.1 D q; rw [h.2] at this; cases this
      · exact q
      · have := h.1 D' q; rw [h'.2] at this; cases this
    subst e
    have := h.2.symm.trans h'.2
    cases this
    rfl
theorem rot_in {fs : List (Str × Int)} {ds : List (List Str)} {b : Int} {D : Nat} {z : Str} (h : rotAt fs ds b D = some z) : z ∈ fs.map (·.1) := by
  unfold rotAt at h
  obtain ⟨q, hq, rfl⟩ := Option.map_eq_some_iff.mp h
  exact List.mem_map.mpr ⟨q.1, (List.of_mem_zip (List.mem_of_find?_eq_some hq)).1, rfl⟩
/-- the sign of a day -/
def sgnC (ds : List (List Str)) (b : Int) (r : Option (Nat × Str)) (z : Str) (k : Nat) : Nat := if z ∈ dayOf ds b k then 35 else if r = some (k, z) then 33 else 46
def sgnS (ds : List (List Str)) (b : Int) (r : Option (Nat × Str)) (z : Str) (n : Nat) : Str := ⟨((List.range n).map (sgnC ds b r z)).toArray⟩
def cntD (ds : List (List Str)) (b : Int) (z : Str) (n : Nat) : Nat := ((List.range n).filter fun k => decide (z ∈ dayOf ds b k)).length
theorem cntD_le (ds : List (List Str)) (b : Int) (z : Str) (n : Nat) : cntD ds b z n ≤ n := by
  unfold cntD
  exact Nat.le_trans (List.length_filter_le _ _) (by simp)
theorem cntD_succ (ds : List (List Str)) (b : Int) (z : Str) (n : Nat) : cntD ds b z (n + 1) = cntD ds b z n + (if z ∈ dayOf ds b n then 1 else 0) := by
  unfold cntD
  rw [List.range_succ, List.filter_append, List.length_append]
  by_cases h : z ∈ dayOf ds b n <;> simp [h]
def lineT (ds : List (List Str)) (b : Int) (r : Option (Nat × Str)) (n : Nat) (z : Str) : Str := padR z ++ sgnS ds b r z n ++ padL (numS (cntD ds b z n : Nat))
def chartT (fs : List (Str × Int)) (ds : List (List Str)) (b : Int) (r : Option (Nat × Str)) (n : Nat) : Str := Txt.join "\n" (fs.map fun f => lineT ds b r n f.1)
theorem padR_len {z : Str} (h : z.length ≤ 8) : (padR z).length = 8 := by
  show (padR z).cps.size = 8
  have : z.cps.size = z.length := rfl
  unfold padR
  simp [TL.tl]
  omega
theorem padL_len {z : Str} (h : z.length ≤ 5) : (padL z).length = 5 := by
  show (padL z).cps.size = 5
  have : z.cps.size = z.length := rfl
  unfold padL
  simp [TL.tl]
  omega
theorem sgnS_len (ds : List (List Str)) (b : Int) (r : Option (Nat × Str)) (z : Str) (n : Nat) : (sgnS ds b r z n).length = n := by
  show (sgnS ds b r z n).cps.size = n
  unfold sgnS
  simp
theorem app_len (x y : Str) : (x ++ y).length = x.length + y.length := by
  rw [len_tl, len_tl x, len_tl y, TL.tl_append, List.length_append]
theorem cnt_len {n : Nat} (h : n ≤ 100) (ds : List (List Str)) (b : Int) (z : Str) : (numS (cntD ds b z n : Nat)).length ≤ 4 := num_len (Int.natCast_nonneg _) (by have := cntD_le ds b z n; omega)
theorem line_len {ds : List (List Str)} {b : Int} {r : Option (Nat × Str)} {n : Nat} {z : Str} (h : z.length ≤ 8) (hn : n ≤ 100) : (lineT ds b r n z).length ≤ 113 := by
  have := cnt_len hn ds b z
  unfold lineT
  rw [app_len, app_len, padR_len h, sgnS_len, padL_len (by omega)]
  omega
theorem dp_rot {r : Option (Nat × Str)} {k : Nat} {z : Str} (h : PyData.strOk z = true) (hr : ∀ D y, r = some (D, y) → PyData.strOk y = true) : Sh 1 (rotD r) ∧ PyData.eqv (rotD r) (.tuple [.int (k : Nat), .str z]) = decide (r = some (k, z)) := by
  cases r with
  | none => exact ⟨sh_n.mono (by decide), by simp [rotD, PyData.eqv]⟩
  | some p =>
    obtain ⟨D, y⟩ := p
    refine ⟨sh_t fun d hd => ?_, ?_⟩
    · have : d = .int (D : Nat) ∨ d = .str y := by simpa using hd
      rcases this with rfl | rfl
      · exact sh_i _
      · exact sh_s (hr D y rfl)
    · simp only [rotD, PyData.eqv, PyData.eqvAll]
      by_cases h1 : D = k
      · subst h1
        by_cases h2 : y = z <;> simp [h2]
      · have h3 : ¬ ((D : Int) = (k : Int)) := by omega
        simp [h1, h3]
def sp_chart (K : PySem.W.Frag) (CF CP : Addr) : Sp := fun vs H Q _ => ∃ (p q : Addr) (n : Nat) (fs : List (Str × Int)) (ds : List (List Str)) (b : Int) (r : Option (Nat × Str)), vs = [.ref p, .ref q, .int n] ∧ FarmAt K CF H p fs ∧ FOk fs ∧ PlanAt K CP H q ds b ∧ DOk ds b ∧ (∀ d ∈ ds, ∀ z ∈ d, z ∈ fs.map (·.1)) ∧ 1 ≤ n ∧ n ≤ 60 ∧ IsRot fs ds b r ∧
  ∀ H', Same H H' → Q (.str (chartT fs ds b r n)) H'
section
variable {CF CP : Addr}
theorem ok_chart (M : Md K mg) (G : Gd K mg "chart" s_chart) (D_first_rot : DefR P w K mg base "first_rot" 10 (sp_first_rot K CF CP)) (D_validate_number : DefR P w K mg base "validate_number" 2 sp_valid) (P_Farm_names : PropR P w K mg base CF "names" 2 (sp_farm_names K CF))
    (M_Plan___getitem__ : MethR P w K mg base CP "__getitem__" 4 (sp_plan_getitem K CP)) (FI_Plan___getitem__ : ∀ f, Meth K CP "__getitem__" f → PySem.W.fnIn K f = true) : DefR P w K mg base "chart" 12 (sp_chart K CF CP) := by
  refine def_mk G fun f fd F => fnr_mk (F.ok sc_chart ?_ (fun cdv A outer s H vs Q E hr h => ?_)) (F.bindsN (fun _ _ _ _ _ _ us hl => match us, hl with | [_, _, _], _ => rfl))
  · rintro vs H Q E ⟨p, q, n, fs, ds, b, r, rfl, _⟩; rfl
  · obtain ⟨p, q, n, fs, ds, b, r, rfl, hF, fok, hP, dok, known, n1, n60, isr, k⟩ := h
    have nd := sc_chart.nd
    have six := fok.six
    refine ⟨_, PSs.nox (pss_cons (ps_set (i := 3) nd rfl (by first | exact Or.inl rfl | exact Or.inr rfl) (pe_cut (pe_callR D_first_rot (hr.mono (by first | decide | omega)) passN (pa_cons (pv 0) (pa_cons (pv 1) pa_nil)))))
    (pss_cons (ps_expr (pe_callR D_validate_number (hr.mono (by first | decide | omega)) passN (pa_cons (pv 2) (pa_cons pe_int (pa_cons (pe_gi M.g_MAX_SHOWN) pa_nil)))))
    (pss_cons (ps_set (i := 4) nd rfl (by first | exact Or.inl rfl | exact Or.inr rfl) (pe_lst pa_nil))
    (pss_cons (ps_for PassesOwn.never rfl (pi_tupK K (pe_propR P_Farm_names (hr.mono (by first | decide | omega)) (pv 0))) (pg_name (i := 5) nd rfl (by first | exact Or.inl rfl | exact Or.inr rfl)) (pss_cons (ps_par (i := 6) (j := 7) rfl nd rfl rfl (by decide) rfl rfl (pa_cons (pe_lst pa_nil) (pa_cons pe_int pa_nil)) (by rfl))
    (pss_cons (ps_for PassesOwn.never rfl (pi_range1 rfl M.b.range (pa_cons (pv 2) pa_nil)) (pg_name (i := 8) nd rfl (by first | exact Or.inl rfl | exact Or.inr rfl)) (pss_cons (ps_set (i := 9) nd rfl (by first | exact Or.inl rfl | exact Or.inr rfl) (pe_cmpR (op_inK K hr) (pv 5) (pe_ownIx M_Plan___getitem__ FI_Plan___getitem__ (hr.mono (by first | decide | omega)) (pv 1) (pv 8)) rfl))
    (pss_cons (ps_aug (i := 7) nd rfl (by first | exact Or.inl rfl | exact Or.inr rfl) (pe_int1 M.b (pv 9)) ip_add)
    (pss_one (ps_expr (as_bm K (pe_bm PySem.F.plainAttrs_list PySem.F.slot_list_append PySem.F.type_list_append mt_append (pv 6) (pa_cons (pe_cut (pe_ifExp (pt_val (pv 9)) pe_str (pe_ifExp (pt_cmpR (op_eqK K hr) (pv 3) (pe_tup (pa_cons (pv 8) (pa_cons (pv 5) pa_nil))) (nomark _)) pe_str pe_str))) pa_nil))))))))
    (pss_one (ps_expr (as_bm K (pe_bm PySem.F.plainAttrs_list PySem.F.slot_list_append PySem.F.type_list_append mt_append (pv 4) (pa_cons (pe_fs (PJ.cons (pe_fmt8 (pv 5)) (PJ.cons (pe_fmt (pe_joinK K pe_str (pv 6))) (PJ.cons (pe_fmt5 (pv 7)) PJ.nil)))) pa_nil)))))))) (pss_one (ps_ret (pe_joinK K pe_str (pv 4)))))))), ?_⟩
    show (_ : TS) _ [some (.ref p), some (.ref q), some (.int n), none, none, none, none, none, none, none] H
    have hF' := hF
    obtain ⟨fx, ft, hpF, hvF⟩ := hF'
    have hP' := hP
    obtain ⟨px, pt, hqP, hvP⟩ := hP'
    have rok : ∀ D y, r = some (D, y) → PyData.strOk y = true := fun D y e => by
      subst e
      obtain ⟨g, hg, rfl⟩ := List.mem_map.mp (rot_in isr.2)
      exact (fok.nm g hg).str
    walk_at "go"
    refine g_cutE (fun v H' => Same H H' ∧ Dp K H' v (rotD r)) ?_ ?_
    · walk_at "go"
      refine ⟨p, q, fs, ds, b, rfl, hF, fok, hP, dok, known, fun D z no hz H1 r1 s1 hr1 => ⟨s1, ?_⟩, fun no H1 s1 => ⟨s1, ?_⟩⟩
      · obtain rfl := rot_uni isr (show IsRot fs ds b (some (D, z)) from ⟨no, hz⟩)
        exact .tup hr1 (.cons (.int _) (.cons (.str _) .nil))
      · obtain rfl := rot_uni isr (show IsRot fs ds b none from no)
        exact .non
    rintro rv H1 ⟨s1, hrv⟩
    walk_at "go"
    refine ⟨n, 1, 60, rfl, by omega, by omega, ?_⟩
    walk_at "go"
    refine n_lst (by simp [sizeLine_eq]) fun l H2 nl s2 hl => ?_
    have s12 := s1.trans s2
    have nl0 : H l = none := s1.free nl
    walk_at "go"
    refine n_prop (s12 _ _ hpF) ⟨p, fs, rfl, FarmAt.same s12 hF, six, fun H3 tn s3 htn => ?_⟩
    have s13 := s12.trans s3
    have e : (fs.map fun f => V.str f.1) = (fs.map (·.1)).map V.str := by simp
    rw [e] at htn
    refine n_forT htn (fun i σ H' => ∃ u5 u6 u7 u8 u9 : Option V, σ = [some (.ref p), some (.ref q), some (.int n), some rv, some (.ref l), u5, u6, u7, u8, u9] ∧ Same H H' ∧ Same H1 H' ∧ SqT K H' tn ((fs.map (·.1)).map V.str) ∧ H' l = some (.lst (((fs.take i).map fun f => lineT ds b r n f.1).map V.str)))
      ⟨_, _, _, _, _, rfl, s13, s2.trans s3, htn, by simpa using s3 _ _ hl⟩ (fun i σ H' ⟨_, _, _, _, _, _, _, _, h, _⟩ => h) ?_ ?_
    · rintro i y σ H4 hy ⟨u5, u6, u7, u8, u9, rfl, s4, s14, htn4, hl4⟩
      obtain ⟨z, hz, rfl⟩ := getm hy
      obtain ⟨g, hg, rfl⟩ := getm hz
      have gm : g ∈ fs := List.mem_of_getElem? hg
      have gn := fok.nm g gm
      have g8 : g.1.length ≤ 8 := gn.wd.le
      walk_at "go"
      refine n_lst (by simp [sizeLine_eq]) fun sl H5 nsl s5 hsl => ?_
      have nsll : sl ≠ l := fun z => by rw [z, hl4] at nsl; cases nsl
      walk_at "go"
      refine n_forR1 (by omega) (by omega) (fun j σ H' => ∃ u8 u9 : Option V, σ = [some (.ref p), some (.ref q), some (.int n), some rv, some (.ref l), some (.str g.1), some (.ref sl), some (.int (cntD ds b g.1 j : Nat)), u8, u9] ∧ Same H4 H' ∧ H' sl = some (.lst (((List.range j).map (sgnC ds b r g.1)).map fun c => V.str ⟨#[c]⟩)))
        ⟨_, _, rfl, s5, hsl⟩ ?_ ?_
      · rintro j σ H6 hj ⟨u8, u9, rfl, s6, hsl6⟩
        have hj' : j < n := by omega
        have sA : Same H H6 := s4.trans s6
        have s16 : Same H1 H6 := s14.trans s6
        walk_at "go"
        refine n_ownIx (sA _ _ hqP) ⟨q, ds, b, j, rfl, PlanAt.same sA hP, dok, by show (j : Int) ≤ BIG; unfold BIG; omega, fun t ht => ?_⟩
        refine g_in_seq (.inr ht) rfl (flat_strs _) ?_
        rw [inV_strs]
        walk_at "go"
        have ec : ((cntD ds b g.1 j : Nat) : Int) + (if decide (g.1 ∈ dayOf ds b j) = true then 1 else 0) = ((cntD ds b g.1 (j + 1) : Nat) : Int) := by
          rw [cntD_succ]
          by_cases q : g.1 ∈ dayOf ds b j <;> simp [q]
        rw [ec]
        refine g_cutE (fun v H' => Same H6 H' ∧ v = .str ⟨#[sgnC ds b r g.1 j]⟩) ?_ ?_
        · walk_at "go"
          refine if_D (fun e1 => ?_) (fun e1 => ?_)
          · walk_at "go"
            refine ⟨Same.refl _, ?_⟩
            unfold sgnC
            rw [if_pos e1]
            rfl
          · walk_at "go"
            refine n_tup (by simp [sizeLine_eq]) fun t2 H7 nt2 s7 ht2 => ?_
            obtain ⟨shr, eqr⟩ := dp_rot (r := r) (k := j) (z := g.1) gn.str rok
            have sht : Sh 1 (.tuple [.int (j : Nat), .str g.1]) := sh_t fun d hd => by
              have : d = .int (j : Nat) ∨ d = .str g.1 := by simpa using hd
              rcases this with rfl | rfl
              · exact sh_i _
              · exact sh_s gn.str
            refine g_eq_d (rotD r) (.tuple [.int (j : Nat), .str g.1]) ((s16.trans s7).dp hrv) (dp_tup ht2 (.cons (.int _) (.cons (.str _) .nil))) (shr.ok (by decide)) (sht.ok (by decide)) ?_
            rw [eqr]
            walk_at "go"
            refine if_D (fun e2 => ?_) (fun e2 => ?_)
            · walk_at "go"
              refine ⟨s7, ?_⟩
              unfold sgnC
              rw [if_neg e1, if_pos e2]
              rfl
            · walk_at "go"
              refine ⟨s7, ?_⟩
              unfold sgnC
              rw [if_neg e1, if_neg e2]
              rfl
        · rintro _ H7 ⟨s7, rfl⟩
          walk_at "go"
          refine g_append (s7 _ _ hsl6) (by simp [sizeLine_eq]; omega) fun H8 k8 h8 => ?_
          walk_at "go"
          refine ⟨_, _, rfl, same_keep (s6.trans s7) nsl k8, ?_⟩
          rw [h8, List.range_succ]
          simp
      · rintro σ H6 ⟨u8, u9, rfl, s6, hsl6⟩
        simp only [Int.toNat_natCast] at hsl6 ⊢
        have cl := cntD_le ds b g.1 n
        have c4 := cnt_len (n := n) (by omega) ds b g.1
        have lsz := line_len (ds := ds) (b := b) (r := r) (n := n) g8 (by omega)
        have lz : (lineT ds b r n g.1).length = 8 + n + 5 := by
          unfold lineT
          rw [app_len, app_len, padR_len g8, sgnS_len, padL_len (by omega)]
        walk_at "go"
        refine n_fmt8 g8 ?_
        have ee : Str.empty ++ padR g.1 = padR g.1 := str_ext (by rw [TL.tl_append]; rfl)
        refine n_fs (by rw [ee, padR_len g8, sizeLine_eq]; omega) ?_
        rw [ee]
        walk_at "go"
        have ej : ((List.range n).map (sgnC ds b r g.1)).map (fun c => V.str ⟨#[c]⟩) = (((List.range n).map (sgnC ds b r g.1)).map fun c => (⟨#[c]⟩ : Str)).map V.str := by simp
        rw [ej] at hsl6
        refine g_join (.inl (SqL.of hsl6)) ?_ ?_
        · have e0 : ("" : Str).length = 0 := by decide +kernel
          have := sum_le (B := 1) (l := (((List.range n).map (sgnC ds b r g.1)).map fun c => (⟨#[c]⟩ : Str)).map (·.length)) fun x hx => by
            obtain ⟨z, hz, rfl⟩ := List.mem_map.mp hx
            obtain ⟨c, _, rfl⟩ := List.mem_map.mp hz
            exact Nat.le_refl 1
          rw [e0]
          simp at this ⊢
          omega
        rw [join_signs]
        refine n_fmtS (by show (sgnS ds b r g.1 n).length ≤ _; rw [sgnS_len, sizeLine_eq]; omega) ?_
        refine n_fs (by show (padR g.1 ++ sgnS ds b r g.1 n).length ≤ _; rw [app_len, padR_len g8, sgnS_len, sizeLine_eq]; omega) ?_
        walk_at "go"
        refine n_fmt5 (Int.natCast_nonneg _) (by omega) ?_
        refine n_fs0 (by show (lineT ds b r n g.1).length ≤ _; rw [lz, sizeLine_eq]; omega) ?_
        walk_at "go"
        refine g_append (s6 _ _ hl4) (by simp [sizeLine_eq]; omega) fun H7 k7 h7 => ?_
        walk_at "go"
        refine ⟨_, _, _, _, _, rfl, same_keep (s4.trans s6) nl0 k7, same_keep (s14.trans s6) nl k7, sqt_keep k7 (s6 _ _ hl4) (same_t s6 htn4), ?_⟩
        rw [h7, app_tail _ _ hg]
        simp
        rfl
    · rintro σ H4 ⟨u5, u6, u7, u8, u9, rfl, s4, s14, htn4, hl4⟩
      rw [List.take_of_length_le (by simp)] at hl4
      walk_at "go"
      refine g_join (.inl (SqL.of hl4)) (join_fits (B := 113) (n := 6) (fun x hx => ?_) (by simpa using six) line1 (by decide)) ?_
      · obtain ⟨g, hg, rfl⟩ := List.mem_map.mp hx
        exact line_len (fok.nm g hg).wd.le (by omega)
      exact k H4 s4
end

end
abbrev s_Plan_harvests : Stmt := inClass (top 20) 10
abbrev N_Plan_harvests : List Str := ["self", "name", "first", "last", "day"]
theorem sc_Plan_harvests : GScope N_Plan_harvests ["self", "name", "first", "last"] (defScope s_Plan_harvests) := ⟨rfl, rfl, rfl, by decide +kernel, rfl, by decide +kernel, by decide +kernel⟩
section
variable {P : Program} {w : World} {K : PySem.W.Frag}
variable {mg : Str → Option Value} {base : Heap}
/-- the days from one on, so many, that have the name -/
def hits (ds : List (List Str)) (b : Int) (z : Str) (d n : Nat) : List Nat := ((List.range n).filter fun k => inDay ds b z (d + k)).map fun k => d + k
theorem hits_T {ds : List (List Str)} {b : Int} {z : Str} {d n : Nat} (h : inDay ds b z (d + n) = true) : hits ds b z d (n + 1) = hits ds b z d n ++ [d + n] := by
  simp [hits, List.range_succ, List.filter_append, h]
theorem hits_F {ds : List (List Str)} {b : Int} {z : Str} {d n : Nat} (h : inDay ds b z (d + n) = false) : hits ds b z d (n + 1) = hits ds b z d n := by
  simp [hits, List.range_succ, List.filter_append, h]
theorem hits_le (ds : List (List Str)) (b : Int) (z : Str) (d n : Nat) : (hits ds b z d n).length ≤ n := by
  rw [hits, List.length_map]
  exact Nat.le_trans (List.length_filter_le _ _) (by rw [List.length_range]; exact Nat.le_refl _)
abbrev natV (k : Nat) : V := .int (k : Int)
def sp_plan_harvests (K : PySem.W.Frag) (CP : Addr) : SpG := fun vs H Q _ => ∃ (p : Addr) (z : Str) (d n : Nat) (ds : List (List Str)) (b : Int), vs = [.ref p, .str z, .int d, .int ((d + n : Nat) : Int)] ∧ PlanAt K CP H p ds b ∧ DOk ds b ∧ ((d + n : Nat) : Int) ≤ BIG ∧ n ≤ 9999 ∧ Q ((hits ds b z d (n + 1)).map natV) H
theorem ok_plan_harvests (M : Md K mg) (C : PlanC K CP) (G : Gm K CP "harvests" "Plan.harvests" s_Plan_harvests) (D_validate_number : DefR P w K mg base "validate_number" 2 sp_valid) (D_place_of : DefR P w K mg base "place_of" 2 (sp_place_of K)) : MethG P w K mg base CP "harvests" 4 (sp_plan_harvests K CP) := by
  refine methG_mk G fun f fd F => ⟨_, gfn_body F sc_Plan_harvests ?_ (fun cdv A outer s H vs Q E pn hr h => ?_), F.bindsN (fun _ _ _ _ _ _ us hl => match us, hl with | [_, _, _, _], _ => rfl)⟩
  · rintro vs H Q E ⟨p, z, d, n, ds, b, rfl, _⟩; rfl
  · obtain ⟨p, z, d, n, ds, b, rfl, ⟨dx, t, hp, hv⟩, dok, dle, nle, k⟩ := h
    have nd := sc_Plan_harvests.nd
    have hB : BIG = 1000000000000000000 := rfl
    obtain ⟨t', ys, e, hU, hY⟩ := hv.inv_t
    cases e
    have hyl : ys.length = ds.length := by rw [hY.length]; simp
    refine ⟨_, (gss_cons (gs_ps (ps_expr (pe_callR D_validate_number (hr.mono (by first | decide | omega)) passN (pa_cons (pv 2) (pa_cons pe_int (pa_cons (pe_gi M.g_MAX_DAY) pa_nil)))))) (gss_cons (gs_ps (ps_expr (pe_callR D_validate_number (hr.mono (by first | decide | omega)) passN (pa_cons (pv 3) (pa_cons (pv 2) (pa_cons (pe_min2 M.b (pa_cons (pe_gi M.g_MAX_DAY) (pa_cons (pe_op (op_addK K) (pv 2) pe_int) pa_nil))) pa_nil)))))) (gss_cons (gs_for owns_gcx rfl (pi_range2 rfl M.b.range (pa_cons (pv 2) (pa_cons (pe_op (op_addK K) (pv 3) pe_int) pa_nil))) (pg_name (i := 4) nd rfl (by first | exact Or.inl rfl | exact Or.inr rfl)) (gss_cons (gs_if (pt_cmpR (op_inK K hr) (pv 1) (pe_ix (ix_K K) (pe_fldK K (pv 0)) (pe_callR D_place_of (hr.mono (by first | decide | omega)) passN (pa_cons (pe_fldK K (pv 0)) (pa_cons (pe_fldK K (pv 0)) (pa_cons (pv 4) pa_nil)))) (fun _ _ => rfl)) rfl) (gss_cons (gs_yield (pv 4)) gss_nil) gss_nil) gss_nil)) gss_nil))), ?_⟩
    show (_ : TGn) _ _ [some (.ref p), some (.str z), some (.int d), some (.int ((d + n : Nat) : Int)), none] H
    walk_at "go"
    refine ⟨d, 0, BIG, rfl, by omega, by omega, ?_⟩
    walk_at "go"
    refine ⟨((d + n : Nat) : Int), d, _, rfl, by omega, by split <;> omega, ?_⟩
    walk_at "go"
    refine n_gforR2 (by omega) (by omega) (by omega) (by omega) (fun i out σ H' => H' = H ∧ ∃ u4 : Option V, σ = [some (.ref p), some (.str z), some (.int d), some (.int ((d + n : Nat) : Int)), u4] ∧ out = (hits ds b z d i).map natV) ⟨rfl, _, rfl, rfl⟩ ?_ ?_
    · rintro i out σ H' hi ⟨rfl, u4, rfl, rfl⟩
      have hid : (d : Int) + i = ((d + i : Nat) : Int) := by omega
      rw [hid]
      obtain ⟨y, t2, hy, rfl, hT2⟩ := plan_day (d + i) dok hU hY
      have pb := plc_lt (n := ds.length) (d + i) dok.b0 dok.b1
      walk_at "go"
      refine n_fld hp C.cl C.parts (plan_parts t b) ?_
      walk_at "go"
      refine n_fld hp C.cl C.parts (plan_parts t b) ?_
      walk_at "go"
      refine n_fld hp C.cl C.begin_ (plan_begin t b) ?_
      walk_at "go"
      refine ⟨t, ys, b, _, rfl, hU, by rw [hyl]; exact dok.b1, ?_⟩
      rw [hyl]
      refine g_ix_t hU (atI_i pb.1 hy) ?_
      refine g_in_seq (.inr hT2) rfl (flat_strs _) ?_
      rw [inV_strs]
      walk_at "go"
      refine if_D (fun e => ?_) (fun e => ?_)
      · walk_at "go"
        refine n_yield (by have := hits_le ds b z d i; rw [sizeLine_eq, List.length_map]; omega) ?_
        walk_at "go"
        refine ⟨rfl, _, rfl, ?_⟩
        rw [hits_T (decide_eq_true e), List.map_append]
        rfl
      · walk_at "go"
        refine ⟨rfl, _, rfl, ?_⟩
        rw [hits_F (decide_eq_false e)]
    · rintro out σ H' ⟨rfl, u4, rfl, rfl⟩
      walk_at "go"
      have e : (((d + n : Nat) : Int) + 1 - d).toNat = n + 1 := by omega
      rw [e]
      exact k

end
section
variable {P : Program} {w : World} {K : PySem.W.Frag}
variable {mg : Str → Option Value} {base : Heap}
/-! ### text.count(sign) -/
theorem occ_cnt (x : Str) (c : Nat) : ∀ (m lo : Nat) (st : Array Nat × Nat), st.snd ≤ lo → st.fst.size ≤ lo → (forIn (List.range' lo m) st (StrLaws.occBody x ⟨#[c]⟩ x.length (x.length + 1))).run.fst.size = st.fst.size + ((x.cps.toList.drop lo).take m).count c
  | 0, lo, st, _, _ => by simp
  | m + 1, lo, st, h1, h2 => by
    have first := @List.range'_succ lo m 1
    rw [first, List.forIn_cons]
    have one := StrLaws.subAt_one x c lo
    unfold StrLaws.occBody
    by_cases hc : x.cps.toList[lo]? = some c
    · have lt : lo < x.cps.toList.length := (List.getElem?_eq_some_iff.mp hc).1
      have lx : lo < x.length := by simpa [Str.length] using lt
      have q := one.mpr hc
      rw [if_pos ⟨⟨⟨by omega, h1⟩, q.1⟩, q.2⟩]
      have ih := occ_cnt x c m (lo + 1) (st.fst.push lo, lo + (⟨#[c]⟩ : Str).length) (by show lo + 1 ≤ lo + 1; omega) (by rw [Array.size_push]; omega)
      refine Eq.trans ih ?_
      have e : x.cps.toList[lo] = c := Option.some.inj ((List.getElem?_eq_getElem lt).symm.trans hc)
      have hd : x.cps.toList.drop lo = c :: x.cps.toList.drop (lo + 1) := (List.drop_eq_getElem_cons lt).trans (congrArg (· :: x.cps.toList.drop (lo + 1)) e)
      rw [hd, List.take_succ_cons, List.count_cons_self]
      show (st.fst.push lo).size + _ = _
      rw [Array.size_push]
      omega
    · rw [if_neg fun z => hc (one.mp ⟨z.1.2, z.2⟩)]
      have ih := occ_cnt x c m (lo + 1) (st.fst, st.snd) (by show st.snd ≤ lo + 1; omega) (by show st.fst.size ≤ lo + 1; omega)
      refine Eq.trans ih ?_
      by_cases lt : lo < x.cps.toList.length
      · have e : c ≠ x.cps.toList[lo] := fun q => hc (by rw [List.getElem?_eq_getElem lt, ← q])
        rw [List.drop_eq_getElem_cons lt, List.take_succ_cons, List.count_cons_of_ne (Ne.symm e)]
      · rw [List.drop_eq_nil_of_le (by omega), List.drop_eq_nil_of_le (by omega)]
        simp
theorem count_one (x : Str) (c : Nat) : Txt.count x ⟨#[c]⟩ = ((x.cps.toList.count c : Nat) : Int) := by
  unfold Txt.count
  rw [StrLaws.occ_eq, Array.length_toList, occ_cnt x c _ 0 (#[], 0) (Nat.le_refl _) (Nat.le_refl _)]
  have : (x.cps.toList.drop 0).take (x.length + 1 - 0) = x.cps.toList := by
    simp [Str.length, List.take_of_length_le]
  rw [this]
  simp
theorem cnt_sgn (ds : List (List Str)) (b : Int) (r : Option (Nat × Str)) (z : Str) (n : Nat) : (sgnS ds b r z n).cps.toList.count 35 = cntD ds b z n := by
  unfold sgnS
  show ((List.range n).map (sgnC ds b r z)).count 35 = _
  induction n with
  | zero => rfl
  | succ n ih =>
    rw [List.range_succ, List.map_append, List.count_append, ih, cntD_succ]
    unfold sgnC
    by_cases h : z ∈ dayOf ds b n
    · simp [h]
    · simp only [List.map_cons, List.map_nil, if_neg h]
      split <;> simp
def rotten (ls : List Int) (js : List Nat) : List Nat := (List.range ls.length).filter fun k => decide (ls.getD k 0 = 1) && !decide (k ∈ js)
def later (fs : List (Str × Int)) (ls : List Int) (js : List Nat) : List Int := (List.range ls.length).map fun k => if k ∈ js ∨ k ∈ rotten ls js then (fs.getD k ("", 0)).2 else ls.getD k 0 - 1
/-! ### the law's own days -/
section
variable {fs : List (Str × Int)} {ds : List (List Str)} {b : Int}
def nmOf (fs : List (Str × Int)) (j : Nat) : Str := (fs.getD j ("", 0)).1
def daysJ (fs : List (Str × Int)) (ds : List (List Str)) (b : Int) (k : Nat) : List Nat := (List.range fs.length).filter fun j => decide (nmOf fs j ∈ dayOf ds b k)
theorem mem_daysJ {j k : Nat} (h : j < fs.length) : j ∈ daysJ fs ds b k ↔ nmOf fs j ∈ dayOf ds b k := by
  unfold daysJ
  rw [List.mem_filter, List.mem_range]
  simp [h]
theorem zip_range {ls : List Int} (h : ls.length = fs.length) : fs.zip ls = (List.range fs.length).map fun j => (fs.getD j ("", 0), ls.getD j 0) := by
  apply List.ext_getElem?
  intro i
  by_cases hi : i < fs.length
  · have h2 : i < ls.length := by omega
    have e : (fs.zip ls)[i]? = some (fs[i], ls[i]) := List.getElem?_zip_eq_some.mpr ⟨List.getElem?_eq_getElem hi, List.getElem?_eq_getElem h2⟩
    rw [e, List.getElem?_map, List.getElem?_range hi]
    simp [List.getD, hi, h2]
  · rw [List.getElem?_eq_none (by rw [List.length_zip]; omega), List.getElem?_eq_none (by simp; omega)]
theorem rot_head {k : Nat} : (rotten (stL fs ds b k) (daysJ fs ds b k)).head?.map (nmOf fs) = rotAt fs ds b k := by
  have ln := stL_len fs ds b k
  unfold rotAt rotten
  rw [zip_range ln, List.find?_map, List.head?_filter, Option.map_map, ln]
  have e : (List.range fs.length).find? (fun j => decide ((stL fs ds b k).getD j 0 = 1) && !decide (j ∈ daysJ fs ds b k)) = (List.range fs.length).find? (rotB (dayOf ds b k) ∘ fun j => (fs.getD j ("", 0), (stL fs ds b k).getD j 0)) := by
    rw [← List.head?_filter, ← List.head?_filter]
    congr 1
    apply List.filter_congr
    intro j hj
    have := mem_daysJ (ds := ds) (b := b) (k := k) (List.mem_range.mp hj)
    show _ = (!decide (nmOf fs j ∈ dayOf ds b k) && decide ((stL fs ds b k).getD j 0 = 1))
    by_cases q : nmOf fs j ∈ dayOf ds b k
    · simp [q, this.mpr q]
    · have q2 : j ∉ daysJ fs ds b k := fun z => q (this.mp z)
      simp [q, q2]
  rw [e]
  rfl
theorem nm_inj {i j : Nat} (nd : (fs.map (·.1)).Nodup) (hi : i < fs.length) (hj : j < fs.length) (e : nmOf fs i = nmOf fs j) : i = j := by
  have key : ∀ m, m < fs.length → (fs.map (·.1))[m]? = some (nmOf fs m) := fun m hm => by
    rw [List.getElem?_map, List.getElem?_eq_getElem hm]
    simp [nmOf, List.getD, hm]
  exact (List.getElem?_inj (by simpa using hi) nd).mp (by rw [key i hi, key j hj, e])
theorem later_stL {k : Nat} (h : rotten (stL fs ds b k) (daysJ fs ds b k) = []) : later fs (stL fs ds b k) (daysJ fs ds b k) = stL fs ds b (k + 1) := by
  have ln := stL_len fs ds b k
  show _ = (fs.zip (stL fs ds b k)).map (nxtL (dayOf ds b k))
  unfold later
  rw [h, ln, zip_range ln, List.map_map]
  apply List.map_congr_left
  intro j hj
  have mj := mem_daysJ (ds := ds) (b := b) (k := k) (List.mem_range.mp hj)
  show (if _ then _ else _) = (if nmOf fs j ∈ dayOf ds b k then (fs.getD j ("", 0)).2 else (stL fs ds b k).getD j 0 - 1)
  by_cases q : nmOf fs j ∈ dayOf ds b k
  · rw [if_pos q, if_pos (.inl (mj.mpr q))]
  · rw [if_neg q, if_neg fun z => z.elim (fun y => q (mj.mp y)) (by simp)]
theorem later_len (fs : List (Str × Int)) (ls : List Int) (js : List Nat) : (later fs ls js).length = ls.length := by unfold later; simp
theorem sgnS_succ (ds : List (List Str)) (b : Int) (r : Option (Nat × Str)) (z : Str) (n : Nat) : sgnS ds b r z n ++ (⟨#[sgnC ds b r z n]⟩ : Str) = sgnS ds b r z (n + 1) := by
  refine str_ext ?_
  rw [TL.tl_append]
  unfold sgnS
  simp [TL.tl, List.range_succ]
/-- what the law knows of the first rot on day k, while the fields have so many days left -/
def LRo (fs : List (Str × Int)) (ds : List (List Str)) (b : Int) (k : Nat) (ls : List Int) : Option (Nat × Str) → Prop
  | none => (∀ e, e < k → rotAt fs ds b e = none) ∧ ls = stL fs ds b k
  | some (D, z) => D < k ∧ IsRot fs ds b (some (D, z))
def toldOf (fs : List (Str × Int)) (k : Nat) (ls : List Int) (js : List Nat) : List (Nat × Str) := (rotten ls js).map fun j => (k, nmOf fs j)
def rotNext (ro : Option (Nat × Str)) (told : List (Nat × Str)) : Option (Nat × Str) := match ro with | none => told.head? | some p => some p
theorem LRo.next {k : Nat} {ls : List Int} {ro : Option (Nat × Str)} (st : LRo fs ds b k ls ro) : LRo fs ds b (k + 1) (later fs ls (daysJ fs ds b k)) (rotNext ro (toldOf fs k ls (daysJ fs ds b k))) := by
  cases ro with
  | some p =>
    obtain ⟨D, z⟩ := p
    exact ⟨by have := st.1; omega, st.2⟩
  | none =>
    obtain ⟨no, rfl⟩ := st
    have rh := rot_head (fs := fs) (ds := ds) (b := b) (k := k)
    unfold rotNext toldOf
    cases q : rotten (stL fs ds b k) (daysJ fs ds b k) with
    | nil =>
      rw [q] at rh
      refine ⟨fun e he => ?_, later_stL q⟩
      rcases Nat.lt_succ_iff_lt_or_eq.mp he with z | z
      · exact no e z
      · rw [z]; exact rh.symm
    | cons j r =>
      rw [q] at rh
      exact ⟨Nat.lt_succ_self k, no, rh.symm⟩
theorem LRo.same {k : Nat} {ls : List Int} {r : Option (Nat × Str)} {p : Nat × Str} (st : LRo fs ds b k ls (some p)) (isr : IsRot fs ds b r) : r = some p := rot_uni isr (r' := some p) st.2
theorem LRo.late {k : Nat} {ls : List Int} {D : Nat} {z : Str} (st : LRo fs ds b k ls none) (isr : IsRot fs ds b (some (D, z))) : k ≤ D := by
  rcases Nat.lt_or_ge D k with h | h
  · have := st.1 D h
    rw [isr.2] at this
    cases this
  · exact h
theorem LRo.sign {k : Nat} {ls : List Int} {r ro : Option (Nat × Str)} (st : LRo fs ds b (k + 1) ls ro) (isr : IsRot fs ds b r) (z : Str) : (ro = some (k, z)) = (r = some (k, z)) := by
  cases ro with
  | some p => rw [st.same isr]
  | none =>
    refine propext ⟨fun h => (nomatch h), fun h => ?_⟩
    subst h
    have := st.late isr
    omega
end

end
abbrev s_replaced : Stmt := top 38
abbrev N_replaced : List Str := ["values", "place", "value"]
theorem sc_replaced : FnScope N_replaced ["values", "place", "value"] (defScope s_replaced) := ⟨rfl, rfl, rfl, by decide +kernel, rfl, by decide +kernel, by decide +kernel⟩
abbrev s_Moment___init__ : Stmt := inClass (top 39) 0
abbrev N_Moment___init__ : List Str := ["self", "day", "spans", "left", "done", "gone"]
theorem sc_Moment___init__ : FnScope N_Moment___init__ ["self", "day", "spans", "left", "done", "gone"] (defScope s_Moment___init__) := ⟨rfl, rfl, rfl, by decide +kernel, rfl, by decide +kernel, by decide +kernel⟩
abbrev s_Moment_later : Stmt := inClass (top 39) 1
abbrev N_Moment_later : List Str := ["self", "names", "left", "gone", "place", "name", "is_rotten"]
theorem sc_Moment_later : FnScope N_Moment_later ["self", "names"] (defScope s_Moment_later) := ⟨rfl, rfl, rfl, by decide +kernel, rfl, by decide +kernel, by decide +kernel⟩
section
variable {P : Program} {w : World} {K : PySem.W.Frag}
variable {mg : Str → Option Value} {base : Heap}
/-! ### a moment -/
structure MomC (K : PySem.W.Frag) (CM : Addr) : Prop where
  cl : Cls K CM
  day : NoAttr K CM "day"
  spans : NoAttr K CM "spans"
  left : NoAttr K CM "left"
  done : NoAttr K CM "done"
  gone : NoAttr K CM "gone"
def momFs (a b c d e : V) : List (Str × V) := [("day", a), ("spans", b), ("left", c), ("done", d), ("gone", e)]
theorem mom_keys : (("day" : Str) ≠ "spans" ∧ ("day" : Str) ≠ "left" ∧ ("day" : Str) ≠ "done" ∧ ("day" : Str) ≠ "gone") ∧ (("spans" : Str) ≠ "left" ∧ ("spans" : Str) ≠ "done" ∧ ("spans" : Str) ≠ "gone") ∧ (("left" : Str) ≠ "done" ∧ ("left" : Str) ≠ "gone") ∧ ("done" : Str) ≠ "gone" := by decide +kernel
theorem mom_put (a b c d e : V) : putF "gone" e (putF "done" d (putF "left" c (putF "spans" b (putF "day" a [])))) = momFs a b c d e := by
  obtain ⟨⟨h1, h2, h3, h4⟩, ⟨h5, h6, h7⟩, ⟨h8, h9⟩, h10⟩ := mom_keys
  simp [putF, momFs, h1, h2, h3, h4, h5, h6, h7, h8, h9, h10]
theorem putF_le (f : Str) (v : V) : ∀ fs : List (Str × V), (putF f v fs).length ≤ fs.length + 1
  | [] => by simp [putF]
  | p :: fs => by
    obtain ⟨g, u⟩ := p
    unfold putF
    split
    · simp
    · have := putF_le f v fs
      simp
      omega
section
variable (a b c d e : V)
theorem mom_day : (momFs a b c d e).lookup ("day" : Str) = some a := rfl
theorem mom_spans : (momFs a b c d e).lookup ("spans" : Str) = some b := by
  obtain ⟨⟨h1, h2, h3, h4⟩, ⟨h5, h6, h7⟩, ⟨h8, h9⟩, h10⟩ := mom_keys
  simp [momFs, List.lookup, beq_eq_false_iff_ne.mpr h1.symm]
theorem mom_left : (momFs a b c d e).lookup ("left" : Str) = some c := by
  obtain ⟨⟨h1, h2, h3, h4⟩, ⟨h5, h6, h7⟩, ⟨h8, h9⟩, h10⟩ := mom_keys
  simp [momFs, List.lookup, h2.symm, h5.symm, beq_eq_false_iff_ne.mpr h2.symm, beq_eq_false_iff_ne.mpr h5.symm]
theorem mom_done : (momFs a b c d e).lookup ("done" : Str) = some d := by
  obtain ⟨⟨h1, h2, h3, h4⟩, ⟨h5, h6, h7⟩, ⟨h8, h9⟩, h10⟩ := mom_keys
  simp [momFs, List.lookup, beq_eq_false_iff_ne.mpr h3.symm, beq_eq_false_iff_ne.mpr h6.symm, beq_eq_false_iff_ne.mpr h8.symm]
theorem mom_gone : (momFs a b c d e).lookup ("gone" : Str) = some e := by
  obtain ⟨⟨h1, h2, h3, h4⟩, ⟨h5, h6, h7⟩, ⟨h8, h9⟩, h10⟩ := mom_keys
  simp [momFs, List.lookup, beq_eq_false_iff_ne.mpr h4.symm, beq_eq_false_iff_ne.mpr h7.symm, beq_eq_false_iff_ne.mpr h9.symm, beq_eq_false_iff_ne.mpr h10.symm]
end
theorem mom_no (a b c d e : V) {x : Str} (h : x ≠ "day" ∧ x ≠ "spans" ∧ x ≠ "left" ∧ x ≠ "done" ∧ x ≠ "gone") : (momFs a b c d e).lookup x = none := by
  obtain ⟨h1, h2, h3, h4, h5⟩ := h
  simp [momFs, List.lookup, beq_eq_false_iff_ne.mpr h1, beq_eq_false_iff_ne.mpr h2, beq_eq_false_iff_ne.mpr h3, beq_eq_false_iff_ne.mpr h4, beq_eq_false_iff_ne.mpr h5]
/-- (day, field) of a rot -/
abbrev pRot (p : Nat × Str) : PyData := .tuple [.int (p.1 : Nat), .str p.2]
def doneV (n : Nat) (js : List Nat) : List V := (List.range n).map fun i => V.bl (decide (i ∈ js))
/-- a moment of day d: so many days left, these fields done, that rotten -/
def MomAt (K : PySem.W.Frag) (CM : Addr) (H : Hp) (m : Addr) (fs : List (Str × Int)) (d : Nat) (ls : List Int) (js : List Nat) (gs : List (Nat × Str)) : Prop := ∃ dx ts tl td tg, H m = some (.ins CM dx (momFs (.int (d : Nat)) (.ref ts) (.ref tl) (.ref td) (.ref tg))) ∧
  SqT K H ts (fs.map fun f => V.int f.2) ∧ SqT K H tl (ls.map V.int) ∧ SqT K H td (doneV fs.length js) ∧ Dp K H (.ref tg) (.tuple (gs.map pRot))
theorem noL_rots (gs : List (Nat × Str)) : noLs (gs.map pRot) = true := noLs_of fun d hd => by
  obtain ⟨p, _, rfl⟩ := List.mem_map.mp hd
  rfl
section
variable {CM : Addr} {fs : List (Str × Int)} {d : Nat} {ls : List Int} {js : List Nat} {gs : List (Nat × Str)} {m : Addr}
theorem MomAt.tk {H H' : Hp} (e : TK K H H') (em : ∀ o, H m = some o → H' m = some o) (h : MomAt K CM H m fs d ls js gs) : MomAt K CM H' m fs d ls js gs := by
  obtain ⟨dx, ts, tl, td, tg, h1, h2, h3, h4, h5⟩ := h
  exact ⟨dx, ts, tl, td, tg, em _ h1, e _ _ h2, e _ _ h3, e _ _ h4, dp_tk e _ _ (show noLs _ = true from noL_rots gs) h5⟩
theorem MomAt.same {H H' : Hp} (e : Same H H') (h : MomAt K CM H m fs d ls js gs) : MomAt K CM H' m fs d ls js gs := h.tk (fun a xs z => same_t e z) fun o ho => e _ _ ho
end
def sp_replaced (K : PySem.W.Frag) : Sp := fun vs H Q _ => ∃ (t : Addr) (xs : List V) (j : Nat) (y : V), vs = [.ref t, .int (j : Nat), y] ∧ SqT K H t xs ∧ j < xs.length ∧ xs.length ≤ 100 ∧ ∀ H' r, Same H H' → SqT K H' r (xs.take j ++ [y] ++ xs.drop (j + 1)) → Q (.ref r) H'
theorem ok_replaced (M : Md K mg) (G : Gd K mg "replaced" s_replaced) : DefR P w K mg base "replaced" 2 (sp_replaced K) := by
  refine def_mk G fun f fd F => fnr_mk (F.ok sc_replaced ?_ (fun cdv A outer s H vs Q E hr h => ?_)) (F.bindsN (fun _ _ _ _ _ _ us hl => match us, hl with | [_, _, _], _ => rfl))
  · rintro vs H Q E ⟨t, xs, j, y, rfl, _⟩; rfl
  · obtain ⟨t, xs, j, y, rfl, hT, lt, small, k⟩ := h
    have nd := sc_replaced.nd
    refine ⟨_, PSs.nox (pss_one (ps_ret (pe_op (op_addK K) (pe_op (op_addK K) (pe_slice (sl_tupK K) (pv 0) po_none (po_some (pv 1))) (pe_tup (pa_cons (pv 2) pa_nil))) (pe_slice (sl_tupK K) (pv 0) (po_some (pe_op (op_addK K) (pv 1) pe_int)) po_none)))), ?_⟩
    show (_ : TS) _ [some (.ref t), some (.int (j : Nat)), some y] H
    walk_at "go"
    refine g_slT hT fun p H1 s1 hp => ?_
    walk_at "go"
    refine n_tup (by simp [sizeLine_eq]) fun q H2 nq s2 hq => ?_
    have e1 : cutV xs none (some ((j : Nat) : Int)) = xs.take j := cutV_to xs j
    rw [e1] at hp
    refine g_add_t (same_t s2 hp) (SqT.of hq) (by simp [sizeLine_eq]; omega) fun r H3 s3 hr3 => ?_
    walk_at "go"
    refine g_slT (same_t (s1.trans (s2.trans s3)) hT) fun z H4 s4 hz => ?_
    have e2 : cutV xs (some ((j : Nat) + 1 : Int)) none = xs.drop (j + 1) := by
      have := cutV_from xs (j + 1)
      simpa using this
    rw [e2] at hz
    refine g_add_t (same_t s4 hr3) hz (by simp [sizeLine_eq]; omega) fun u H5 s5 hu => ?_
    exact k H5 u (s1.trans (s2.trans (s3.trans (s4.trans s5)))) hu
section
variable {CM : Addr}
def sp_moment_init (K : PySem.W.Frag) (CM : Addr) : Sp := fun vs H Q _ => ∃ (x dx : Addr) (a b c d e : V), vs = [.ref x, a, b, c, d, e] ∧ H x = some (.ins CM dx []) ∧ ∀ H', Keep x H H' → H' x = some (.ins CM dx (momFs a b c d e)) → Q .non H'
theorem ok_moment_init (M : Md K mg) (C : MomC K CM) (G : Gk K mg "Moment" CM "Moment.__init__" s_Moment___init__) : MakeR P w K mg base "Moment" CM 2 (sp_moment_init K CM) := by
  refine make_mk G fun f fd F => FnU.raw <| fnr_mk (F.ok sc_Moment___init__ ?_ (fun cdv A outer s H vs Q E hr h => ?_)) (F.bindsN (fun _ _ _ _ _ _ us hl => match us, hl with | [_, _, _, _, _, _], _ => rfl))
  · rintro vs H Q E ⟨x, dx, a, b, c, d, e, rfl, _⟩; rfl
  · obtain ⟨x, dx, a, b, c, d, e, rfl, hx, k⟩ := h
    have nd := sc_Moment___init__.nd
    refine ⟨_, PSs.nox (pss_cons (ps_fldK K (pv 0) (pv 1))
    (pss_cons (ps_fldK K (pv 0) (pv 2))
    (pss_cons (ps_fldK K (pv 0) (pv 3))
    (pss_cons (ps_fldK K (pv 0) (pv 4)) (pss_one (ps_fldK K (pv 0) (pv 5))))))), ?_⟩
    show (_ : TS) _ [some (.ref x), some a, some b, some c, some d, some e] H
    have l1 := putF_le "day" a []
    have l2 := putF_le "spans" b (putF "day" a [])
    have l3 := putF_le "left" c (putF "spans" b (putF "day" a []))
    have l4 := putF_le "done" d (putF "left" c (putF "spans" b (putF "day" a [])))
    simp only [List.length_nil] at l1
    walk_at "go"
    refine n_sfld hx C.cl C.day (by simp) fun H1 k1 h1 => ?_
    walk_at "go"
    refine n_sfld h1 C.cl C.spans (by omega) fun H2 k2 h2 => ?_
    walk_at "go"
    refine n_sfld h2 C.cl C.left (by omega) fun H3 k3 h3 => ?_
    walk_at "go"
    refine n_sfld h3 C.cl C.done (by omega) fun H4 k4 h4 => ?_
    walk_at "go"
    refine n_sfld h4 C.cl C.gone (by omega) fun H5 k5 h5 => ?_
    walk_at "go"
    rw [mom_put] at h5
    exact k H5 (k1.trans (k2.trans (k3.trans (k4.trans k5)))) h5
/-- Moment(..): a new one -/
theorem n_moment {H : Hp} {Q : VK} {E : XK} {a b c d e : V} (h : ∀ H' p dx, Same H H' → H p = none → H' p = some (.ins CM dx (momFs a b c d e)) → Q (.ref p) H') : MkK CM (sp_moment_init K CM) E Q [a, b, c, d, e] H := by
  refine n_make fun x dx H1 nx ndx ne s1 hx hdx => ?_
  exact ⟨x, dx, a, b, c, d, e, rfl, hx, fun H2 k2 h2 => ⟨rfl, h H2 x dx (same_keep s1 nx k2) nx h2⟩⟩
theorem doneV_at {n i : Nat} {js : List Nat} (h : i < n) : atI (doneV n js) ((i : Nat) : Int) = some (.bl (decide (i ∈ js))) := atI_nat (by unfold doneV; rw [List.getElem?_map, List.getElem?_range h]; rfl)
theorem doneV_len (n : Nat) (js : List Nat) : (doneV n js).length = n := by simp [doneV]
theorem doneV_nil (n : Nat) : doneV n [] = List.replicate n (V.bl false) := by
  unfold doneV
  apply List.ext_getElem?
  intro i
  by_cases h : i < n
  · rw [List.getElem?_map, List.getElem?_range h, List.getElem?_replicate, if_pos h]
    simp
  · rw [List.getElem?_eq_none (by simp; omega), List.getElem?_eq_none (by simp; omega)]
theorem doneV_set {n i : Nat} {js : List Nat} (h : i < n) : (doneV n js).take i ++ [V.bl true] ++ (doneV n js).drop (i + 1) = doneV n (i :: js) := by
  have ll := doneV_len n js
  have lt : ((doneV n js).take i).length = i := by rw [List.length_take]; omega
  apply List.ext_getElem?
  intro k
  have key : ∀ js, k < n → (doneV n js)[k]? = some (V.bl (decide (k ∈ js))) := fun js hk => by unfold doneV; rw [List.getElem?_map, List.getElem?_range hk]; rfl
  by_cases hk : k < n
  · rw [key _ hk]
    rcases Nat.lt_trichotomy k i with q | q | q
    · rw [List.append_assoc, List.getElem?_append_left (by omega), List.getElem?_take_of_lt q, key _ hk]
      simp [show k ≠ i by omega]
    · subst q
      rw [List.append_assoc, List.getElem?_append_right (by omega), lt]
      simp
    · rw [List.getElem?_append_right (by rw [List.length_append, lt, List.length_singleton]; omega), List.length_append, lt, List.length_singleton, List.getElem?_drop]
      have : i + 1 + (k - (i + 1)) = k := by omega
      rw [this, key _ hk]
      simp [show k ≠ i by omega]
  · rw [List.getElem?_eq_none (by rw [List.length_append, List.length_append, lt, List.length_drop, List.length_singleton]; omega), List.getElem?_eq_none (by rw [doneV_len]; omega)]
/-- the moment a day later -/
def sp_later (K : PySem.W.Frag) (CM : Addr) : Sp := fun vs H Q _ => ∃ (m tn : Addr) (fs : List (Str × Int)) (d : Nat) (ls : List Int) (js : List Nat) (gs : List (Nat × Str)), vs = [.ref m, .ref tn] ∧ MomAt K CM H m fs d ls js gs ∧ SqT K H tn ((fs.map (·.1)).map V.str) ∧ 1 ≤ fs.length ∧ fs.length ≤ 6 ∧ ls.length = fs.length ∧ gs.length ≤ 1000 ∧ d ≤ 1000 ∧
  ∀ H' m', Same H H' → MomAt K CM H' m' fs (d + 1) (later fs ls js) [] (gs ++ toldOf fs d ls js) → Q (.ref m') H'
def rotI (ls : List Int) (js : List Nat) (k : Nat) : Bool := decide (ls.getD k 0 = 1) && !decide (k ∈ js)
def nextI (fs : List (Str × Int)) (ls : List Int) (js : List Nat) (k : Nat) : Int := if k ∈ js ∨ rotI ls js k = true then (fs.getD k ("", 0)).2 else ls.getD k 0 - 1
def toldN (fs : List (Str × Int)) (d : Nat) (ls : List Int) (js : List Nat) (i : Nat) : List (Nat × Str) := ((List.range i).filter (rotI ls js)).map fun j => (d, nmOf fs j)
theorem toldN_T {fs : List (Str × Int)} {d i : Nat} {ls : List Int} {js : List Nat} (h : rotI ls js i = true) : toldN fs d ls js (i + 1) = toldN fs d ls js i ++ [(d, nmOf fs i)] := by simp [toldN, List.range_succ, List.filter_append, h]
theorem toldN_F {fs : List (Str × Int)} {d i : Nat} {ls : List Int} {js : List Nat} (h : rotI ls js i = false) : toldN fs d ls js (i + 1) = toldN fs d ls js i := by simp [toldN, List.range_succ, List.filter_append, h]
theorem toldN_le (fs : List (Str × Int)) (d : Nat) (ls : List Int) (js : List Nat) (i : Nat) : (toldN fs d ls js i).length ≤ i := by
  unfold toldN
  rw [List.length_map]
  exact Nat.le_trans (List.length_filter_le _ _) (by simp)
theorem toldN_all {fs : List (Str × Int)} {d : Nat} {ls : List Int} {js : List Nat} (ln : ls.length = fs.length) : toldN fs d ls js fs.length = toldOf fs d ls js := by
  unfold toldN toldOf rotten rotI
  rw [ln]
theorem nextI_all {fs : List (Str × Int)} {ls : List Int} {js : List Nat} (ln : ls.length = fs.length) : (List.range fs.length).map (nextI fs ls js) = later fs ls js := by
  unfold later
  rw [ln]
  apply List.map_congr_left
  intro k hk
  have hk' := List.mem_range.mp hk
  have e : (k ∈ rotten ls js) = (rotI ls js k = true) := by
    unfold rotten
    rw [ln, List.mem_filter, List.mem_range]
    exact propext ⟨fun h => h.2, fun h => ⟨hk', h⟩⟩
  show (if _ then _ else _) = _
  simp only [e]
theorem ok_later (M : Md K mg) (C : MomC K CM) (G : Gm K CM "later" "Moment.later" s_Moment_later) (K_Moment : MakeR P w K mg base "Moment" CM 2 (sp_moment_init K CM)) : MethR P w K mg base CM "later" 5 (sp_later K CM) := by
  refine meth_mk G fun f fd F => FnU.raw <| fnr_mk (F.ok sc_Moment_later ?_ (fun cdv A outer s H vs Q E hr h => ?_)) (F.bindsN (fun _ _ _ _ _ _ us hl => match us, hl with | [_, _], _ => rfl))
  · rintro vs H Q E ⟨m, tn, fs, d, ls, js, gs, rfl, _⟩; rfl
  · obtain ⟨m, tn, fs, d, ls, js, gs, rfl, hM, hN, one, six, ln, gl, dl, k⟩ := h
    have nd := sc_Moment_later.nd
    have hM' := hM
    obtain ⟨dx, ts, tl, td, tg, hm, hts, htl, htd, htg⟩ := hM'
    obtain ⟨tg', ws, e, hW, hWs⟩ := htg.inv_t
    cases e
    have wl : ws.length = gs.length := by rw [hWs.length]; simp
    refine ⟨_, PSs.nox (pss_cons (ps_par (i := 2) (j := 3) rfl nd rfl rfl (by decide) rfl rfl (pa_cons (pe_lst pa_nil) (pa_cons (pe_listOf K M.b (pe_fldK K (pv 0))) pa_nil)) (by rfl))
    (pss_cons (ps_for PassesOwn.never rfl (pi_enumTK K rfl M.b.enumerate (pa_cons (pv 1) pa_nil)) (pg_tupK K rfl (pgs_cons (pg_name (i := 4) nd rfl (by first | exact Or.inl rfl | exact Or.inr rfl)) (pgs_cons (pg_name (i := 5) nd rfl (by first | exact Or.inl rfl | exact Or.inr rfl)) pgs_nil))) (pss_cons (ps_set (i := 6) nd rfl (by first | exact Or.inl rfl | exact Or.inr rfl) (pe_cut (pe_and (pe_cmpR (op_eqK K hr) (pe_ix (ix_K K) (pe_fldK K (pv 0)) (pv 4) (fun _ _ => rfl)) pe_int (nomark _)) (pe_one (pe_not (pe_ix (ix_K K) (pe_fldK K (pv 0)) (pv 4) (fun _ _ => rfl)))))))
    (C8.pss_cut (ps_if (pt_val (pv 6)) (pss_one (ps_expr (as_bm K (pe_bm PySem.F.plainAttrs_list PySem.F.slot_list_append PySem.F.type_list_append mt_append (pv 3) (pa_cons (pe_tup (pa_cons (pe_fldK K (pv 0)) (pa_cons (pv 5) pa_nil))) pa_nil))))) pss_nil)
    (pss_one (ps_expr (as_bm K (pe_bm PySem.F.plainAttrs_list PySem.F.slot_list_append PySem.F.type_list_append mt_append (pv 2) (pa_cons (pe_cut (pe_ifExp (PW.pt (pw_or (pt_val (pv 6)) (pw_or1 (pt_val (pe_ix (ix_K K) (pe_fldK K (pv 0)) (pv 4) (fun _ _ => rfl)))))) (pe_ix (ix_K K) (pe_fldK K (pv 0)) (pv 4) (fun _ _ => rfl)) (pe_op op_sub (pe_ix (ix_K K) (pe_fldK K (pv 0)) (pv 4) (fun _ _ => rfl)) pe_int))) pa_nil))))))))
    (pss_one (ps_ret (pe_makeP K_Moment (hr.mono (by first | decide | omega)) passN (pa_cons (pe_op (op_addK K) (pe_fldK K (pv 0)) pe_int) (pa_cons (pe_fldK K (pv 0)) (pa_cons (pe_tupOf K M.b (pv 2)) (pa_cons (pe_op (op_rep1K K) (pe_tup (pa_cons pe_bl pa_nil)) (pe_len K M.b (pv 1))) (pa_cons (pe_tupOf K M.b (pv 3)) pa_nil)))))))))), ?_⟩
    show (_ : TS) _ [some (.ref m), some (.ref tn), none, none, none, none, none] H
    walk_at "go"
    refine n_lst (by simp [sizeLine_eq]) fun ll H1 nll s1 hll => ?_
    walk_at "go"
    refine n_fld (s1 _ _ hm) C.cl C.gone (mom_gone ..) ?_
    walk_at "go"
    refine g_listOf (.inr (same_t s1 hW)) fun gg H2 ngg s2 hgg => ?_
    walk_at "go"
    have s12 := s1.trans s2
    have ngg0 : H gg = none := s1.free ngg
    have nlg : ll ≠ gg := ne_of_none hll ngg
    have hN' : SqT K H tn (fs.map fun f => V.str f.1) := by simpa [List.map_map, Function.comp_def] using hN
    have ixL : ∀ j, j < fs.length → atI (ls.map V.int) ((j : Nat) : Int) = some (V.int (ls.getD j 0)) := fun j hj => atI_nat (by rw [List.getElem?_map, List.getElem?_eq_getElem (by omega)]; simp [List.getD, show j < ls.length by omega])
    have ixS : ∀ j, j < fs.length → atI (fs.map fun f => V.int f.2) ((j : Nat) : Int) = some (V.int (fs.getD j ("", 0)).2) := fun j hj => atI_nat (by rw [List.getElem?_map, List.getElem?_eq_getElem hj]; simp [List.getD, hj])
    refine n_forET (same_t s12 hN') (fun i σ H' => ∃ (ys : List V) (u4 u5 u6 : Option V), σ = [some (.ref m), some (.ref tn), some (.ref ll), some (.ref gg), u4, u5, u6] ∧ Same H H' ∧ H' ll = some (.lst ((List.range i).map fun k => V.int (nextI fs ls js k))) ∧ H' gg = some (.lst ys) ∧ DpAll K H' ys ((gs ++ toldN fs d ls js i).map pRot))
      ⟨ws, _, _, _, rfl, s12, s2 _ _ hll, hgg, by simpa [toldN] using s12.dpa hWs⟩ (fun i σ H' ⟨_, _, _, _, _, h, _⟩ => same_t h hN') ?_ ?_
    · rintro i y T σ H3 H4 hy ⟨ys, u4, u5, u6, rfl, s3, hl3, hg3, hY3⟩ nT s4 hT
      obtain ⟨g, hg, rfl⟩ := getm hy
      have hi : i < fs.length := (List.getElem?_eq_some_iff.mp hg).1
      have sA := s3.trans s4
      have gn : g.1 = nmOf fs i := by simp [nmOf, List.getD, hg]
      have yl : ys.length = gs.length + (toldN fs d ls js i).length := by rw [hY3.length]; simp
      have tle := toldN_le fs d ls js i
      refine g_gtup (SqT.of hT) rfl ?_
      walk_at "go"
      refine g_cutE (fun v H' => H' = H4 ∧ v = .bl (rotI ls js i)) ?_ ?_
      · walk_at "go"
        refine n_fld (sA _ _ hm) C.cl C.left (mom_left ..) ?_
        walk_at "go"
        refine g_ix_t (same_t sA htl) (ixL i hi) ?_
        walk_at "go"
        refine if_D (fun e1 => ?_) (fun e1 => ?_)
        · walk_at "go"
          refine n_fld (sA _ _ hm) C.cl C.done (mom_done ..) ?_
          walk_at "go"
          refine g_ix_t (same_t sA htd) (doneV_at hi) ?_
          walk_at "go"
          exact ⟨rfl, by unfold rotI; rw [decide_eq_true e1]; rfl⟩
        · exact ⟨rfl, by unfold rotI; rw [decide_eq_false e1]; rfl⟩
      rintro _ H9 ⟨e9, rfl⟩
      obtain rfl := e9.symm
      have hg4 := s4 _ _ hg3
      walk_at "go"
      refine g_cut (fun σ' H' => ∃ (ys' : List V), σ' = [some (.ref m), some (.ref tn), some (.ref ll), some (.ref gg), some (.int (i : Nat)), some (.str g.1), some (.bl (rotI ls js i))] ∧ Same H H' ∧ H' ll = some (.lst ((List.range i).map fun k => V.int (nextI fs ls js k))) ∧ H' gg = some (.lst ys') ∧ DpAll K H' ys' ((gs ++ toldN fs d ls js (i + 1)).map pRot)) ?_ ?_
      · walk_at "go"
        cases hb : rotI ls js i with
        | true =>
          refine if_T rfl ?_
          walk_at "go"
          refine n_fld (sA _ _ hm) C.cl C.day (mom_day ..) ?_
          walk_at "go"
          refine n_tup (by simp [sizeLine_eq]) fun tp H5 ntp s5 htp => ?_
          walk_at "go"
          have hg5 := s5 _ _ (s4 _ _ hg3)
          refine g_append hg5 (by rw [sizeLine_eq]; omega) fun H6 k6 hg6 => ?_
          walk_at "go"
          refine ⟨_, rfl, same_keep (sA.trans s5) ngg0 k6, k6 _ _ nlg (s5 _ _ (s4 _ _ hl3)), hg6, ?_⟩
          rw [toldN_T hb, ← List.append_assoc, List.map_append]
          refine dpa_keep k6 hg5 (by rw [← List.map_append]; exact noL_rots _) (((s4.trans s5).dpa hY3).append (.cons (dp_tup htp (.cons (.int _) (.cons ?_ .nil))) .nil))
          rw [← gn]
          exact .str _
        | false =>
          refine if_F rfl ?_
          walk_at "go"
          refine ⟨ys, rfl, sA, s4 _ _ hl3, s4 _ _ hg3, ?_⟩
          rw [toldN_F hb]
          exact s4.dpa hY3
      rintro σ' H5 ⟨ys', rfl, s5, hl5, hg5, hY5⟩
      walk_at "go"
      refine g_cutE (fun v H' => H' = H5 ∧ v = .int (nextI fs ls js i)) ?_ ?_
      · walk_at "go"
        have fin : ∀ R : VK, (i ∈ js ∨ rotI ls js i = true) → R (.int (nextI fs ls js i)) H5 → R (.int (fs.getD i ("", 0)).2) H5 := fun R q h => by unfold nextI at h; rw [if_pos q] at h; exact h
        have spans : ∀ R : VK, R (.int (fs.getD i ("", 0)).2) H5 → tOp (rIx K) (tFld K (tVar 0) "spans") (tVar 4) [some (V.ref m), some (.ref tn), some (.ref ll), some (.ref gg), some (.int (i : Nat)), some (.str g.1), some (.bl (rotI ls js i))] H5 R := fun R h => by
          walk_at "go"
          refine n_fld (s5 _ _ hm) C.cl C.spans (mom_spans ..) ?_
          walk_at "go"
          exact g_ix_t (same_t s5 hts) (ixS i hi) h
        by_cases hb : rotI ls js i = true
        · refine if_T hb (if_T rfl (spans _ (fin (fun v H' => H' = H5 ∧ v = .int (nextI fs ls js i)) (.inr hb) ⟨rfl, rfl⟩)))
        · refine if_F (by simpa using hb) ?_
          walk_at "go"
          refine n_fld (s5 _ _ hm) C.cl C.done (mom_done ..) ?_
          walk_at "go"
          refine g_ix_t (same_t s5 htd) (doneV_at hi) ?_
          walk_at "go"
          refine if_D (fun e1 => ?_) (fun e1 => ?_)
          · exact spans _ (fin (fun v H' => H' = H5 ∧ v = .int (nextI fs ls js i)) (.inl e1) ⟨rfl, rfl⟩)
          · walk_at "go"
            refine n_fld (s5 _ _ hm) C.cl C.left (mom_left ..) ?_
            walk_at "go"
            refine g_ix_t (same_t s5 htl) (ixL i hi) ?_
            walk_at "go"
            exact ⟨rfl, by unfold nextI; rw [if_neg (by simp [e1, hb])]⟩
      rintro _ H9 ⟨e9, rfl⟩
      obtain rfl := e9.symm
      walk_at "go"
      refine g_append hl5 (by simp [sizeLine_eq]; omega) fun H6 k6 hl6 => ?_
      walk_at "go"
      refine ⟨ys', _, _, _, rfl, same_keep s5 nll k6, ?_, k6 _ _ nlg.symm hg5, dpa_keep k6 hl5 (noL_rots _) hY5⟩
      rw [hl6, List.range_succ]
      simp
    · rintro σ H3 ⟨ys, u4, u5, u6, rfl, s3, hl3, hg3, hY3⟩
      rw [List.length_map] at hl3 hY3
      rw [toldN_all ln] at hY3
      have hl3' : H3 ll = some (.lst ((later fs ls js).map V.int)) := by rw [hl3, ← nextI_all ln, List.map_map]; rfl
      walk_at "go"
      refine n_fld (s3 _ _ hm) C.cl C.day (mom_day ..) ?_
      walk_at "go"
      refine n_fld (s3 _ _ hm) C.cl C.spans (mom_spans ..) ?_
      walk_at "go"
      refine g_tupOf_l (SqL.of hl3') fun t1 H4 nt1 s4 ht1 => ?_
      walk_at "go"
      refine n_tup (by simp [sizeLine_eq]) fun t2 H5 nt2 s5 ht2 => ?_
      walk_at "go"
      refine g_len_t (same_t (s3.trans (s4.trans s5)) hN) ?_
      refine g_rep1 (SqT.of ht2) (by simp; omega) (by simp; omega) fun t3 H6 s6 ht3 => ?_
      walk_at "go"
      refine g_tupOf_l (SqL.of (s6 _ _ (s5 _ _ (s4 _ _ hg3)))) fun t4 H7 nt4 s7 ht4 => ?_
      walk_at "go"
      have s47 := s4.trans (s5.trans (s6.trans s7))
      have s37 := s3.trans s47
      refine n_moment fun H8 p px s8 np hp => ?_
      refine k H8 p (s37.trans s8) ⟨px, ts, t1, t3, t4, hp, same_t (s37.trans s8) hts, SqT.of ((s5.trans (s6.trans (s7.trans s8))) _ _ ht1), ?_, ?_⟩
      · rw [doneV_nil]
        simpa using same_t (s7.trans s8) ht3
      · exact dp_tup (s8 _ _ ht4) ((s47.trans s8).dpa hY3)
end

end
section
variable {P : Program} {w : World} {K : PySem.W.Frag}
variable {mg : Str → Option Value} {base : Heap}
def sp_farm_namesB (K : PySem.W.Frag) (CF : Addr) : Sp := fun vs H Q _ => ∃ (p : Addr) (fs : List (Str × Int)), vs = [.ref p] ∧ FarmAt K CF H p fs ∧ fs.length ≤ 6 ∧ ∀ H' t, Same H H' → Bare H' t (fs.map fun f => V.str f.1) → Q (.ref t) H'
theorem ok_farm_namesB (M : Md K mg) (C : FarmC K CF) (G : Gp K CF "names" "Farm.names" s_Farm_names) : PropR P w K mg base CF "names" 2 (sp_farm_namesB K CF) := by
  refine prop_mk G fun f fd F => fnr_mk (F.ok sc_Farm_names ?_ (fun cdv A outer s H vs Q E hr h => ?_)) (F.bindsN (fun _ _ _ _ _ _ us hl => match us, hl with | [_], _ => rfl))
  · rintro vs H Q E ⟨p, fs, rfl, _⟩; rfl
  · obtain ⟨p, fs, rfl, ⟨dx, t, hp, hv⟩, six, k⟩ := h
    have nd := sc_Farm_names.nd
    obtain ⟨t', xs, e, hS, hX⟩ := hv.inv_t
    cases e
    have hxl : xs.length = fs.length := by rw [hX.length]; simp
    refine ⟨_, PSs.nox (pss_one (ps_ret (pe_tupNew K M.b (pe_lc (own := [("name", 1), ("limit", 2)]) (g := (gTup K 2 (gCons (gName 1) (gCons (gName 2) gNil)))) (tt := tYes) rfl nd (pi_tupK K (pe_fldK K (pv 0))) (blkOk_by (N := N_Farm_names) (sc := defScope s_Farm_names) (by decide +kernel)) (fun _ _ _ _ _ => (pg_tupK K rfl (pgs_cons (pg_name (i := 1) nd rfl (by first | exact Or.inl rfl | exact Or.inr rfl)) (pgs_cons (pg_name (i := 2) nd rfl (by first | exact Or.inl rfl | exact Or.inr rfl)) pgs_nil)))) (fun _ _ _ _ _ => pts_nil) (fun _ _ _ _ _ => (pv 1)))))), ?_⟩
    show (_ : TS) _ [some (.ref p), none, none] H
    walk_at "go"
    refine n_fld hp C.cl C.rows rfl ?_
    refine n_lcT hS (lc_map (walk_tup (xs := xs)) (fun j => .str ((fs.getD j ("", 0)).1)) (fun H5 s5 => same_t s5 hS) ?_ ?_)
    · rintro L j y H5 H6 nC hj s5 hC ⟨e, hyj⟩
      subst e
      obtain ⟨dj, hdj, hDj⟩ := (s5.dpa hX).get hyj
      obtain ⟨fj, hfj, rfl⟩ := getm hdj
      obtain ⟨t3, zs, rfl, hT3, hZ⟩ := hDj.inv_t
      obtain ⟨w1, w2, rfl, hw1, hw2⟩ := hZ.inv2
      obtain rfl := hw1.inv_s
      walk_at "go"
      refine g_gtup hT3 rfl ?_
      walk_at "go"
      refine ⟨rfl, ?_⟩
      walk_at "go"
      exact n_mapK nC s5 hC (by rw [getD_of hfj])
    · intro L H5 nC s5 hC
      have e1 : (List.range xs.length).map (fun j => V.str ((fs.getD j ("", 0)).1)) = fs.map fun f => V.str f.1 := by
        rw [hxl]
        exact range_getD fs ("", 0) fun f : Str × Int => V.str f.1
      rw [e1] at hC
      refine g_tupNew (SqL.of hC) fun l H6 nl s6 hl => ?_
      walk_at "go"
      exact k H6 l (s5.trans s6) hl

end
abbrev s_LiveFarm___init__ : Stmt := inClass (top 40) 0
abbrev N_LiveFarm___init__ : List Str := ["self", "farm"]
theorem sc_LiveFarm___init__ : FnScope N_LiveFarm___init__ ["self", "farm"] (defScope s_LiveFarm___init__) := ⟨rfl, rfl, rfl, by decide +kernel, rfl, by decide +kernel, by decide +kernel⟩
abbrev s_LiveFarm_enter : Stmt := inClass (top 40) 7
abbrev N_LiveFarm_enter : List Str := ["self", "operation", "moment"]
theorem sc_LiveFarm_enter : FnScope N_LiveFarm_enter ["self", "operation", "moment"] (defScope s_LiveFarm_enter) := ⟨rfl, rfl, rfl, by decide +kernel, rfl, by decide +kernel, by decide +kernel⟩
abbrev s_LiveFarm_harvest : Stmt := inClass (top 40) 8
abbrev N_LiveFarm_harvest : List Str := ["self", "name", "place", "now", "done"]
theorem sc_LiveFarm_harvest : FnScope N_LiveFarm_harvest ["self", "name"] (defScope s_LiveFarm_harvest) := ⟨rfl, rfl, rfl, by decide +kernel, rfl, by decide +kernel, by decide +kernel⟩
abbrev s_LiveFarm_wait : Stmt := inClass (top 40) 9
abbrev N_LiveFarm_wait : List Str := ["self", "days", "moment", "before", "turn"]
theorem sc_LiveFarm_wait : FnScope N_LiveFarm_wait ["self", "days"] (defScope s_LiveFarm_wait) := ⟨rfl, rfl, rfl, by decide +kernel, rfl, by decide +kernel, by decide +kernel⟩
section
variable {P : Program} {w : World} {K : PySem.W.Frag}
variable {mg : Str → Option Value} {base : Heap}
/-! ### a live farm -/
structure LiveC (K : PySem.W.Frag) (CL : Addr) : Prop where
  cl : Cls K CL
  farm : NoAttr K CL "farm"
  moment : NoAttr K CL "moment"
  past : NoAttr K CL "past"
  undone : NoAttr K CL "undone"
def liveFs (f m p u : Addr) : List (Str × V) := [("farm", .ref f), ("moment", .ref m), ("past", .ref p), ("undone", .ref u)]
theorem live_keys : (("farm" : Str) ≠ "moment" ∧ ("farm" : Str) ≠ "past" ∧ ("farm" : Str) ≠ "undone") ∧ (("moment" : Str) ≠ "past" ∧ ("moment" : Str) ≠ "undone") ∧ ("past" : Str) ≠ "undone" := by decide +kernel
section
variable (f m p u q : Addr)
theorem live_put : putF "undone" (.ref u) (putF "past" (.ref p) (putF "moment" (.ref m) (putF "farm" (.ref f) []))) = liveFs f m p u := by
  obtain ⟨⟨h1, h2, h3⟩, ⟨h4, h5⟩, h6⟩ := live_keys
  simp [putF, liveFs, h1, h2, h3, h4, h5, h6]
theorem live_setU : putF "undone" (.ref q) (liveFs f m p u) = liveFs f m p q := by
  obtain ⟨⟨h1, h2, h3⟩, ⟨h4, h5⟩, h6⟩ := live_keys
  simp [putF, liveFs, h1, h2, h3, h4, h5, h6]
theorem live_setM : putF "moment" (.ref q) (liveFs f m p u) = liveFs f q p u := by
  obtain ⟨⟨h1, h2, h3⟩, ⟨h4, h5⟩, h6⟩ := live_keys
  simp [putF, liveFs, h1, h2, h3, h4, h5, h6]
theorem live_farm : (liveFs f m p u).lookup ("farm" : Str) = some (V.ref f) := rfl
theorem live_moment : (liveFs f m p u).lookup ("moment" : Str) = some (V.ref m) := by
  obtain ⟨⟨h1, h2, h3⟩, ⟨h4, h5⟩, h6⟩ := live_keys
  simp [liveFs, List.lookup, beq_eq_false_iff_ne.mpr h1.symm]
theorem live_past : (liveFs f m p u).lookup ("past" : Str) = some (V.ref p) := by
  obtain ⟨⟨h1, h2, h3⟩, ⟨h4, h5⟩, h6⟩ := live_keys
  simp [liveFs, List.lookup, beq_eq_false_iff_ne.mpr h2.symm, beq_eq_false_iff_ne.mpr h4.symm]
theorem live_no {x : Str} (h1 : x ≠ "farm") (h2 : x ≠ "moment") (h3 : x ≠ "past") (h4 : x ≠ "undone") : (liveFs f m p u).lookup x = none := by
  simp [liveFs, List.lookup, beq_eq_false_iff_ne.mpr h1, beq_eq_false_iff_ne.mpr h2, beq_eq_false_iff_ne.mpr h3, beq_eq_false_iff_ne.mpr h4]
end
/-- a live farm at l, its past at p -/
def LiveAt (K : PySem.W.Frag) (CL CM CF : Addr) (H : Hp) (l p : Addr) (fs : List (Str × Int)) (d : Nat) (ls : List Int) (js : List Nat) (gs : List (Nat × Str)) (n : Nat) : Prop := ∃ dx f m u ps, H l = some (.ins CL dx (liveFs f m p u)) ∧ FarmAt K CF H f fs ∧ MomAt K CM H m fs d ls js gs ∧ H p = some (.lst ps) ∧ ps.length ≤ n
section
variable {CL CM CF : Addr} {fs : List (Str × Int)} {d : Nat} {ls : List Int} {js : List Nat} {gs : List (Nat × Str)} {l p : Addr} {n : Nat}
theorem LiveAt.same {H H' : Hp} (e : Same H H') (h : LiveAt K CL CM CF H l p fs d ls js gs n) : LiveAt K CL CM CF H' l p fs d ls js gs n := by
  obtain ⟨dx, f, m, u, ps, h1, h2, h3, h4, h5⟩ := h
  exact ⟨dx, f, m, u, ps, e _ _ h1, h2.same e, h3.same e, e _ _ h4, h5⟩
/-- what the live farm's own changes leave of tuples -/
theorem tk_live {H H' : Hp} {dx : Addr} {g : List (Str × V)} {ps : List V} (h1 : H l = some (.ins CL dx g)) (h4 : H p = some (.lst ps)) (e : Keep2 l p H H') : TK K H H' := by
  intro a xs z
  refine z.imp (fun y => y.imp (fun q => e a _ (fun ad => ?_) (fun al => ?_) q) (fun ⟨o, q⟩ => ⟨o, e a _ (fun ad => ?_) (fun al => ?_) q⟩)) id
  · rw [ad, h1] at q; cases q
  · rw [al, h4] at q; cases q
  · rw [ad, h1] at q; cases q
  · rw [al, h4] at q; cases q
theorem FarmAt.tk {H H' : Hp} {q : Addr} (e : TK K H H') (em : ∀ o, H q = some o → H' q = some o) (h : FarmAt K CF H q fs) : FarmAt K CF H' q fs := by
  obtain ⟨dx, t, h1, h2⟩ := h
  exact ⟨dx, t, em _ h1, dp_tk e _ _ (show noLs _ = true from noL_fields fs) h2⟩
def sp_enter (K : PySem.W.Frag) (CL CM CF : Addr) : Sp := fun vs H Q _ => ∃ (l p m' : Addr) (v : V) (fs : List (Str × Int)) (d d' : Nat) (ls ls' : List Int) (js js' : List Nat) (gs gs' : List (Nat × Str)) (n : Nat), vs = [.ref l, v, .ref m'] ∧ LiveAt K CL CM CF H l p fs d ls js gs n ∧ MomAt K CM H m' fs d' ls' js' gs' ∧ n ≤ 100000 ∧
  ∀ H', Keep2 l p H H' → LiveAt K CL CM CF H' l p fs d' ls' js' gs' (n + 1) → Q .non H'
theorem ok_enter (M : Md K mg) (C : LiveC K CL) (G : Gm K CL "enter" "LiveFarm.enter" s_LiveFarm_enter) : MethR P w K mg base CL "enter" 2 (sp_enter K CL CM CF) := by
  refine meth_mk G fun f fd F => FnU.raw <| fnr_mk (F.ok sc_LiveFarm_enter ?_ (fun cdv A outer s H vs Q E hr h => ?_)) (F.bindsN (fun _ _ _ _ _ _ us hl => match us, hl with | [_, _, _], _ => rfl))
  · rintro vs H Q E ⟨l, p, m', v, fs, d, d', ls, ls', js, js', gs, gs', n, rfl, _⟩; rfl
  · obtain ⟨l, p, m', v, fs, d, d', ls, ls', js, js', gs, gs', n, rfl, ⟨dx, fa, m, u, ps, hl, hF, hM, hp, pl⟩, hM', nl, k⟩ := h
    have nd := sc_LiveFarm_enter.nd
    have nlp : l ≠ p := fun e => by rw [e, hp] at hl; cases hl
    refine ⟨_, PSs.nox (pss_cons (ps_expr (as_bm K (pe_bm PySem.F.plainAttrs_list PySem.F.slot_list_append PySem.F.type_list_append mt_append (pe_fldK K (pv 0)) (pa_cons (pe_tup (pa_cons (pv 1) (pa_cons (pe_fldK K (pv 0)) (pa_cons (pv 2) pa_nil)))) pa_nil))))
    (pss_cons (ps_fldK K (pv 0) (pe_lst pa_nil)) (pss_one (ps_fldK K (pv 0) (pv 2))))), ?_⟩
    show (_ : TS) _ [some (.ref l), some v, some (.ref m')] H
    walk_at "go"
    refine n_fld hl C.cl C.past (live_past ..) ?_
    walk_at "go"
    refine n_fld hl C.cl C.moment (live_moment ..) ?_
    walk_at "go"
    refine n_tup (by simp [sizeLine_eq]) fun t H1 nt s1 ht => ?_
    walk_at "go"
    refine g_append (s1 _ _ hp) (by rw [sizeLine_eq]; omega) fun H2 k2 hp2 => ?_
    walk_at "go"
    refine n_lst (by simp [sizeLine_eq]) fun u2 H3 nu2 s3 hu2 => ?_
    walk_at "go"
    have hl2 := k2 _ _ nlp (s1 _ _ hl)
    refine n_sfld (s3 _ _ hl2) C.cl C.undone (by simp [liveFs]) fun H4 k4 hl4 => ?_
    rw [live_setU] at hl4
    walk_at "go"
    refine n_sfld hl4 C.cl C.moment (by simp [liveFs]) fun H5 k5 hl5 => ?_
    rw [live_setM] at hl5
    walk_at "go"
    have kk : Keep2 l p H H5 := fun b o nb np hb => k5 _ _ nb (k4 _ _ nb (s3 _ _ (k2 _ _ np (s1 _ _ hb))))
    have tk : TK K H H5 := tk_live hl hp kk
    have hF' := hF
    obtain ⟨fx, ft, hfa, _⟩ := hF'
    have hM9 := hM'
    obtain ⟨mx, _, _, _, _, hm', _⟩ := hM9
    have em : ∀ o, H m' = some o → H5 m' = some o := fun o ho => kk _ _ (fun e => by rw [e, hl] at hm'; cases hm') (fun e => by rw [e, hp] at hm'; cases hm') ho
    have ef : ∀ o, H fa = some o → H5 fa = some o := fun o ho => kk _ _ (fun e => by rw [e, hl] at hfa; cases hfa) (fun e => by rw [e, hp] at hfa; cases hfa) ho
    exact k H5 kk ⟨dx, fa, m', u2, _, hl5, hF.tk tk ef, hM'.tk tk em, k5 _ _ nlp.symm (k4 _ _ nlp.symm (s3 _ _ hp2)), by simp; omega⟩
def sp_live_init (K : PySem.W.Frag) (CL CM CF : Addr) : Sp := fun vs H Q _ => ∃ (x dx q : Addr) (fs : List (Str × Int)), vs = [.ref x, .ref q] ∧ H x = some (.ins CL dx []) ∧ FarmAt K CF H q fs ∧ 1 ≤ fs.length ∧ fs.length ≤ 6 ∧
  ∀ H' p, Keep x H H' → H p = none → LiveAt K CL CM CF H' x p fs 0 (fs.map (·.2)) [] [] 0 → Q .non H'
theorem ok_live_init (M : Md K mg) (C : LiveC K CL) (G : Gk K mg "LiveFarm" CL "LiveFarm.__init__" s_LiveFarm___init__) (K_Moment : MakeR P w K mg base "Moment" CM 2 (sp_moment_init K CM)) (P_Farm_limits : PropR P w K mg base CF "limits" 2 (sp_farm_limits K CF)) (M_Farm___len__ : MethR P w K mg base CF "__len__" 2 (sp_farm_len K CF)) : MakeR P w K mg base "LiveFarm" CL 5 (sp_live_init K CL CM CF) := by
  refine make_mk G fun f fd F => FnU.raw <| fnr_mk (F.ok sc_LiveFarm___init__ ?_ (fun cdv A outer s H vs Q E hr h => ?_)) (F.bindsN (fun _ _ _ _ _ _ us hl => match us, hl with | [_, _], _ => rfl))
  · rintro vs H Q E ⟨x, dx, q, fs, rfl, _⟩; rfl
  · obtain ⟨x, dx, q, fs, rfl, hx, hF, one, six, k⟩ := h
    have nd := sc_LiveFarm___init__.nd
    have l1 : ∀ a, (putF "farm" (.ref a) []).length ≤ 1 := fun a => putF_le "farm" (.ref a) []
    refine ⟨_, PSs.nox (pss_cons (ps_fldK K (pv 0) (pv 1))
    (pss_cons (ps_fldK K (pv 0) (pe_makeP K_Moment (hr.mono (by first | decide | omega)) passN (pa_cons pe_int (pa_cons (pe_propR P_Farm_limits (hr.mono (by first | decide | omega)) (pv 1)) (pa_cons (pe_propR P_Farm_limits (hr.mono (by first | decide | omega)) (pv 1)) (pa_cons (pe_op (op_rep1K K) (pe_tup (pa_cons pe_bl pa_nil)) (pe_callB (call_lenO M_Farm___len__ (hr.mono (by first | decide | omega))) rfl M.b.len bt_len (pa_cons (pv 1) pa_nil))) (pa_cons (pe_tup pa_nil) pa_nil)))))))
    (pss_cons (ps_fldK K (pv 0) (pe_lst pa_nil)) (pss_one (ps_fldK K (pv 0) (pe_lst pa_nil)))))), ?_⟩
    show (_ : TS) _ [some (.ref x), some (.ref q)] H
    have hF' := hF
    obtain ⟨fx, ft, hq, hv⟩ := hF'
    have nqx : q ≠ x := fun e => by rw [e, hx] at hq; cases hq
    walk_at "go"
    refine n_sfld hx C.cl C.farm (by simp) fun H1 k1 hx1 => ?_
    have tk1 : TK K H H1 := fun a xs z => keep_t k1 (notT_i hx) z
    have hF1 : FarmAt K CF H1 q fs := hF.tk tk1 fun o ho => k1 _ _ nqx ho
    have hq1 := k1 _ _ nqx hq
    walk_at "go"
    refine n_prop hq1 ⟨q, fs, rfl, hF1, six, fun H2 t2 s2 ht2 => ?_⟩
    walk_at "go"
    refine n_prop (s2 _ _ hq1) ⟨q, fs, rfl, hF1.same s2, six, fun H3 t3 s3 ht3 => ?_⟩
    walk_at "go"
    refine n_tup (by simp [sizeLine_eq]) fun t4 H4 nt4 s4 ht4 => ?_
    walk_at "go"
    obtain ⟨ft', xs, e, hS, hX⟩ := hv.inv_t
    cases e
    have hxl : xs.length = fs.length := by rw [hX.length]; simp
    have s24 := s2.trans (s3.trans s4)
    have hq4 := s24 _ _ hq1
    refine ⟨q, fx, _, rfl, hq4, q, fx, ft, xs, rfl, hq4, same_t s24 (tk1 _ _ hS), (xs.length : Int), rfl, by omega, by omega, ?_⟩
    refine g_rep1 (SqT.of ht4) (by omega) (by omega) fun t5 H5 s5 ht5 => ?_
    walk_at "go"
    refine n_tup (by simp [sizeLine_eq]) fun t6 H6 nt6 s6 ht6 => ?_
    walk_at "go"
    refine n_moment fun H7 m mx s7 nm hm => ?_
    walk_at "go"
    have s47 := s5.trans (s6.trans s7)
    have s27 := s24.trans s47
    have hx7 := s27 _ _ hx1
    have l2 := putF_le "moment" (.ref m) (putF "farm" (.ref q) [])
    have l1' := l1 q
    refine n_sfld hx7 C.cl C.moment (by omega) fun H8 k8 hx8 => ?_
    walk_at "go"
    refine n_lst (by simp [sizeLine_eq]) fun p H9 np s9 hp => ?_
    walk_at "go"
    have l3 := putF_le "past" (.ref p) (putF "moment" (.ref m) (putF "farm" (.ref q) []))
    refine n_sfld (s9 _ _ hx8) C.cl C.past (by omega) fun H10 k10 hx10 => ?_
    walk_at "go"
    refine n_lst (by simp [sizeLine_eq]) fun u H11 nu s11 hu => ?_
    walk_at "go"
    refine n_sfld (s11 _ _ hx10) C.cl C.undone (by omega) fun H12 k12 hx12 => ?_
    rw [live_put] at hx12
    walk_at "go"
    have npx : p ≠ x := fun e => by rw [e, hx8] at np; cases np
    have nmx : m ≠ x := fun e => by
      have h0 := (s24.trans (s5.trans s6)).free nm
      rw [e, hx1] at h0
      cases h0
    have kA : Keep x H H12 := k1.trans (s27.keep.trans (k8.trans (s9.keep.trans (k10.trans (s11.keep.trans k12)))))
    have kB : Keep x H7 H12 := k8.trans (s9.keep.trans (k10.trans (s11.keep.trans k12)))
    have tkB : TK K H7 H12 := fun a xs z => keep_t kB (notT_i hx7) z
    have tkA : TK K H H12 := fun a xs z => tkB _ _ (same_t s27 (tk1 _ _ z))
    have np0 : H p = none := by
      cases e : H p with
      | none => rfl
      | some o =>
        have h8 : H8 p = some o := k8 _ _ npx (s27 _ _ (k1 _ _ npx e))
        rw [np] at h8; cases h8
    refine k H12 p kA np0 ⟨dx, q, m, u, [], hx12, hF.tk tkA fun o ho => kA _ _ nqx ho, ?_, k12 _ _ npx (s11 _ _ (k10 _ _ npx hp)), Nat.le_refl _⟩
    refine ⟨mx, t2, t3, t5, t6, kB _ _ nmx hm, ?_, ?_, ?_, ?_⟩
    · exact tkB _ _ (same_t (s3.trans (s4.trans s47)) ht2)
    · have := tkB _ _ (same_t (s4.trans s47) ht3)
      simpa [List.map_map, Function.comp_def] using this
    · have := tkB _ _ (same_t (s6.trans s7) ht5)
      rw [doneV_nil]
      simpa [hxl] using this
    · exact dp_tk tkB _ _ (by rfl) (dp_tup (s7 _ _ ht6) .nil)
theorem live_of {H : Hp} (h : LiveAt K CL CM CF H l p fs d ls js gs n) : ∃ dx g, H l = some (.ins CL dx g) := let ⟨dx, f, m, u, _, h1, _⟩ := h; ⟨dx, _, h1⟩
/-- the place of a name -/
theorem idx_of {fs : List (Str × Int)} {j : Nat} (nd : (fs.map (·.1)).Nodup) (hj : j < fs.length) : (fs.map (·.1))[j]? = some (nmOf fs j) ∧ ∀ m, m < j → (fs.map (·.1))[m]? ≠ some (nmOf fs j) := by
  have key : ∀ m, m < fs.length → (fs.map (·.1))[m]? = some (nmOf fs m) := fun m hm => by
    rw [List.getElem?_map, List.getElem?_eq_getElem hm]
    simp [nmOf, List.getD, hm]
  refine ⟨key j hj, fun m hm e => ?_⟩
  rw [key m (by omega)] at e
  have := nm_inj nd (by omega : m < fs.length) hj (Option.some.inj e)
  omega
theorem kk0 {a b c : Addr} {H H' : Hp} (e : Keep2 a b H H') (n1 : c ≠ a) (n2 : c ≠ b) (n : H' c = none) : H c = none := e.free ⟨n1, n2⟩ n
def sp_harvest (K : PySem.W.Frag) (CL CM CF : Addr) : Sp := fun vs H Q _ => ∃ (l p : Addr) (fs : List (Str × Int)) (d : Nat) (ls : List Int) (js : List Nat) (gs : List (Nat × Str)) (n j : Nat), vs = [.ref l, .str (nmOf fs j)] ∧ LiveAt K CL CM CF H l p fs d ls js gs n ∧ n ≤ 100000 ∧ (fs.map (·.1)).Nodup ∧ fs.length ≤ 6 ∧ j < fs.length ∧
  ∀ H' v, Keep2 l p H H' → LiveAt K CL CM CF H' l p fs d ls (j :: js) gs (n + 1) → Q v H'
theorem ok_harvest (M : Md K mg) (C : LiveC K CL) (MC : MomC K CM) (G : Gm K CL "harvest" "LiveFarm.harvest" s_LiveFarm_harvest) (D_require_field : DefR P w K mg base "require_field" 5 (sp_require_field K CF)) (D_replaced : DefR P w K mg base "replaced" 2 (sp_replaced K)) (K_Moment : MakeR P w K mg base "Moment" CM 2 (sp_moment_init K CM)) (P_Farm_names : PropR P w K mg base CF "names" 2 (sp_farm_namesB K CF)) (M_LiveFarm_enter : MethR P w K mg base CL "enter" 2 (sp_enter K CL CM CF)) : MethR P w K mg base CL "harvest" 7 (sp_harvest K CL CM CF) := by
  refine meth_mk G fun f fd F => FnU.raw <| fnr_mk (F.ok sc_LiveFarm_harvest ?_ (fun cdv A outer s H vs Q E hr h => ?_)) (F.bindsN (fun _ _ _ _ _ _ us hl => match us, hl with | [_, _], _ => rfl))
  · rintro vs H Q E ⟨l, p, fs, d, ls, js, gs, n, j, rfl, _⟩; rfl
  · obtain ⟨l, p, fs, d, ls, js, gs, n, j, rfl, hL, nl, nd0, six, hj, k⟩ := h
    have nd := sc_LiveFarm_harvest.nd
    have hL' := hL
    obtain ⟨dx, fa, m, u, ps, hl, hF, hM, hp, pl⟩ := hL'
    have hF' := hF
    obtain ⟨fx, ft, hfa, _⟩ := hF'
    have hM' := hM
    obtain ⟨mx, ts, tl, td, tg, hm, hts, htl, htd, htg⟩ := hM'
    obtain ⟨ix1, ix2⟩ := idx_of nd0 hj
    refine ⟨_, PSs.nox (pss_cons (ps_expr (pe_callR D_require_field (hr.mono (by first | decide | omega)) passN (pa_cons (pe_fldK K (pv 0)) (pa_cons (pv 1) pa_nil))))
    (pss_cons (ps_par (i := 2) (j := 3) rfl nd rfl rfl (by decide) rfl rfl (pa_cons (pe_tupIx K (pe_propR P_Farm_names (hr.mono (by first | decide | omega)) (pe_fldK K (pv 0))) (pv 1)) (pa_cons (pe_fldK K (pv 0)) pa_nil)) (by rfl))
    (pss_cons (ps_set (i := 4) nd rfl (by first | exact Or.inl rfl | exact Or.inr rfl) (pe_callR D_replaced (hr.mono (by first | decide | omega)) passN (pa_cons (pe_fldK K (pv 3)) (pa_cons (pv 2) (pa_cons pe_bl pa_nil)))))
    (pss_cons (ps_expr (pe_methR (pv 0) M_LiveFarm_enter.cl M_LiveFarm_enter.at_ M_LiveFarm_enter.fn (hr.mono (by first | decide | omega)) passN (pa_cons (pe_tup (pa_cons (pe_gs M.g_HARVEST) (pa_cons (pv 1) pa_nil))) (pa_cons (pe_makeP K_Moment (hr.mono (by first | decide | omega)) passN (pa_cons (pe_fldK K (pv 3)) (pa_cons (pe_fldK K (pv 3)) (pa_cons (pe_fldK K (pv 3)) (pa_cons (pv 4) (pa_cons (pe_fldK K (pv 3)) pa_nil)))))) pa_nil))))
    (pss_one (ps_ret (pe_not (pe_ix (ix_K K) (pe_fldK K (pv 3)) (pv 2) (fun _ _ => rfl))))))))), ?_⟩
    show (_ : TS) _ [some (.ref l), some (.str (nmOf fs j)), none, none, none] H
    walk_at "go"
    refine n_fld hl C.cl C.farm (live_farm ..) ?_
    walk_at "go"
    refine ⟨fa, nmOf fs j, fs, rfl, hF, six, List.mem_of_getElem? ix1, fun H1 s1 => ?_⟩
    walk_at "go"
    refine g_tupIx ?_
    walk_at "go"
    refine n_fld (s1 _ _ hl) C.cl C.farm (live_farm ..) ?_
    walk_at "go"
    refine n_prop (s1 _ _ hfa) ⟨fa, fs, rfl, hF.same s1, six, fun H2 tn s2 htn => ?_⟩
    have e : (fs.map fun f => V.str f.1) = (fs.map (·.1)).map V.str := by simp
    rw [e] at htn
    have s12 := s1.trans s2
    refine n_tupIx htn ?_
    walk_at "go"
    refine ⟨nmOf fs j, j, rfl, htn.sq, ix1, ix2, ?_⟩
    walk_at "go"
    refine n_fld (s12 _ _ hl) C.cl C.moment (live_moment ..) ?_
    walk_at "go"
    refine n_fld (s12 _ _ hm) MC.cl MC.done (mom_done ..) ?_
    walk_at "go"
    refine ⟨td, doneV fs.length js, j, .bl true, rfl, same_t s12 htd, by rw [doneV_len]; exact hj, by rw [doneV_len]; omega, fun H3 t3 s3 ht3 => ?_⟩
    rw [doneV_set hj] at ht3
    have s13 := s12.trans s3
    walk_at "go"
    refine n_meth (s13 _ _ hl) (live_no _ _ _ _ (by decide +kernel) (by decide +kernel) (by decide +kernel) (by decide +kernel)) ?_
    walk_at "go"
    refine n_tup (by simp [sizeLine_eq]) fun t4 H4 nt4 s4 ht4 => ?_
    have s14 := s13.trans s4
    walk_at "go"
    refine n_fld (s14 _ _ hm) MC.cl MC.day (mom_day ..) ?_
    walk_at "go"
    refine n_fld (s14 _ _ hm) MC.cl MC.spans (mom_spans ..) ?_
    walk_at "go"
    refine n_fld (s14 _ _ hm) MC.cl MC.left (mom_left ..) ?_
    walk_at "go"
    refine n_fld (s14 _ _ hm) MC.cl MC.gone (mom_gone ..) ?_
    walk_at "go"
    refine n_moment fun H5 m5 m5x s5 nm5 hm5 => ?_
    walk_at "go"
    have s15 := s14.trans s5
    refine ⟨l, p, m5, .ref t4, fs, d, d, ls, ls, js, j :: js, gs, gs, n, rfl, hL.same s15, ⟨m5x, ts, tl, t3, tg, hm5, same_t s15 hts, same_t s15 htl, same_t (s4.trans s5) ht3, s15.dp htg⟩, nl, fun H6 k6 hL6 => ?_⟩
    walk_at "go"
    have hm6 : H6 m = some (.ins CM mx (momFs (.int (d : Nat)) (.ref ts) (.ref tl) (.ref td) (.ref tg))) := k6 _ _ (fun e => by rw [e, hl] at hm; cases hm) (fun e => by rw [e, hp] at hm; cases hm) (s15 _ _ hm)
    refine n_fld hm6 MC.cl MC.done (mom_done ..) ?_
    walk_at "go"
    refine g_ix_t (tk_live (s15 _ _ hl) (s15 _ _ hp) k6 _ _ (same_t s15 htd)) (doneV_at hj) ?_
    walk_at "go"
    exact k H6 _ ((Same.k2 s15).trans k6) hL6
def sp_wait (K : PySem.W.Frag) (CL CM CF : Addr) : Sp := fun vs H Q _ => ∃ (l p : Addr) (fs : List (Str × Int)) (d : Nat) (ls : List Int) (js : List Nat) (gs : List (Nat × Str)) (n : Nat), vs = [.ref l, .int 1] ∧ LiveAt K CL CM CF H l p fs d ls js gs n ∧ n ≤ 100000 ∧ 1 ≤ fs.length ∧ fs.length ≤ 6 ∧ ls.length = fs.length ∧ gs.length ≤ 1000 ∧ d ≤ 1000 ∧
  ∀ H' r ws, Keep2 l p H H' → H r = none → H' r = some (.lst ws) → DpAll K H' ws ((toldOf fs d ls js).map pRot) → LiveAt K CL CM CF H' l p fs (d + 1) (later fs ls js) [] (gs ++ toldOf fs d ls js) (n + 1) → Q (.ref r) H'
theorem ok_wait (M : Md K mg) (C : LiveC K CL) (MC : MomC K CM) (G : Gm K CL "wait" "LiveFarm.wait" s_LiveFarm_wait) (D_validate_number : DefR P w K mg base "validate_number" 2 sp_valid) (M_Moment_later : MethR P w K mg base CM "later" 5 (sp_later K CM)) (P_Farm_names : PropR P w K mg base CF "names" 2 (sp_farm_names K CF)) (M_LiveFarm_enter : MethR P w K mg base CL "enter" 2 (sp_enter K CL CM CF)) : MethR P w K mg base CL "wait" 7 (sp_wait K CL CM CF) := by
  refine meth_mk G fun f fd F => FnU.raw <| fnr_mk (F.ok sc_LiveFarm_wait ?_ (fun cdv A outer s H vs Q E hr h => ?_)) (F.bindsN (fun _ _ _ _ _ _ us hl => match us, hl with | [_, _], _ => rfl))
  · rintro vs H Q E ⟨l, p, fs, d, ls, js, gs, n, rfl, _⟩; rfl
  · obtain ⟨l, p, fs, d, ls, js, gs, n, rfl, hL, nl, one, six, ln, gl, dl, k⟩ := h
    have nd := sc_LiveFarm_wait.nd
    have hL' := hL
    obtain ⟨dx, fa, m, u, ps, hl, hF, hM, hp, pl⟩ := hL'
    have hF' := hF
    obtain ⟨fx, ft, hfa, _⟩ := hF'
    have hM' := hM
    obtain ⟨mx, ts, tl, td, tg, hm, hts, htl, htd, htg⟩ := hM'
    obtain ⟨tg', xs, e, hgX, hX⟩ := htg.inv_t
    cases e
    have hxl : xs.length = gs.length := by rw [hX.length]; simp
    refine ⟨_, PSs.nox (pss_cons (ps_expr (pe_callR D_validate_number (hr.mono (by first | decide | omega)) passN (pa_cons (pv 1) (pa_cons pe_int (pa_cons (pe_gi M.g_MAX_WAIT) pa_nil)))))
    (pss_cons (ps_set (i := 2) nd rfl (by first | exact Or.inl rfl | exact Or.inr rfl) (pe_fldK K (pv 0)))
    (pss_cons (ps_set (i := 3) nd rfl (by first | exact Or.inl rfl | exact Or.inr rfl) (pe_len K M.b (pe_fldK K (pv 2))))
    (pss_cons (ps_for PassesOwn.never rfl (pi_range1 rfl M.b.range (pa_cons (pv 1) pa_nil)) (pg_name (i := 4) nd rfl (by first | exact Or.inl rfl | exact Or.inr rfl)) (pss_one (ps_set (i := 2) nd rfl (by first | exact Or.inl rfl | exact Or.inr rfl) (pe_methR (pv 2) M_Moment_later.cl M_Moment_later.at_ M_Moment_later.fn (hr.mono (by first | decide | omega)) passN (pa_cons (pe_propR P_Farm_names (hr.mono (by first | decide | omega)) (pe_fldK K (pv 0))) pa_nil)))))
    (pss_cons (ps_expr (pe_methR (pv 0) M_LiveFarm_enter.cl M_LiveFarm_enter.at_ M_LiveFarm_enter.fn (hr.mono (by first | decide | omega)) passN (pa_cons (pe_tup (pa_cons (pe_gs M.g_WAIT) (pa_cons (pv 1) pa_nil))) (pa_cons (pv 2) pa_nil))))
    (pss_one (ps_ret (pe_listOf K M.b (pe_slice (sl_tupK K) (pe_fldK K (pv 2)) (po_some (pv 3)) po_none))))))))), ?_⟩
    show (_ : TS) _ [some (.ref l), some (.int 1), none, none, none] H
    walk_at "go"
    refine ⟨1, 0, 1000, rfl, by omega, by omega, ?_⟩
    walk_at "go"
    refine n_fld hl C.cl C.moment (live_moment ..) ?_
    walk_at "go"
    refine n_fld hm MC.cl MC.gone (mom_gone ..) ?_
    walk_at "go"
    refine g_len_t hgX ?_
    walk_at "go"
    refine n_forR1 (by omega) (by omega) (fun i σ H' => ∃ (m' : Addr) (c : Option V), σ = [some (.ref l), some (.int 1), some (.ref m'), some (.int (xs.length : Nat)), c] ∧ Same H H' ∧ (i = 0 → m' = m ∧ H' = H) ∧ (i = 1 → MomAt K CM H' m' fs (d + 1) (later fs ls js) [] (gs ++ toldOf fs d ls js))) ⟨m, _, rfl, Same.refl _, fun _ => ⟨rfl, rfl⟩, fun h => by omega⟩ ?_ ?_
    · rintro i σ H1 hi ⟨m', c, rfl, s1, h0, h1⟩
      obtain rfl : i = 0 := by omega
      obtain ⟨rfl, e1⟩ := h0 rfl
      obtain rfl := e1.symm
      walk_at "go"
      refine n_meth hm (mom_no _ _ _ _ _ (by decide +kernel)) ?_
      walk_at "go"
      refine n_fld hl C.cl C.farm (live_farm ..) ?_
      walk_at "go"
      refine n_prop hfa ⟨fa, fs, rfl, hF, six, fun H2 tn s2 htn => ?_⟩
      have e : (fs.map fun f => V.str f.1) = (fs.map (·.1)).map V.str := by simp
      rw [e] at htn
      walk_at "go"
      refine ⟨m', tn, fs, d, ls, js, gs, rfl, hM.same s2, htn, one, six, ln, gl, dl, fun H3 m3 s3 hM3 => ?_⟩
      walk_at "go"
      exact ⟨m3, _, rfl, s2.trans s3, fun h => by omega, fun _ => hM3⟩
    · rintro σ H1 ⟨m1, c, rfl, s1, h0, h1⟩
      have hM1 := h1 rfl
      have hM1' := hM1
      obtain ⟨m1x, ts1, tl1, td1, tg1, hm1, _, _, _, htg1⟩ := hM1'
      obtain ⟨tg1', ys, e, hgY, hY⟩ := htg1.inv_t
      cases e
      walk_at "go"
      refine n_meth (s1 _ _ hl) (live_no _ _ _ _ (by decide +kernel) (by decide +kernel) (by decide +kernel) (by decide +kernel)) ?_
      walk_at "go"
      refine n_tup (by simp [sizeLine_eq]) fun t4 H4 nt4 s4 ht4 => ?_
      walk_at "go"
      have s14 := s1.trans s4
      refine ⟨l, p, m1, .ref t4, fs, d, d + 1, ls, later fs ls js, js, [], gs, gs ++ toldOf fs d ls js, n, rfl, hL.same s14, hM1.same s4, nl, fun H5 k5 hL5 => ?_⟩
      have tk5 : TK K H4 H5 := tk_live (s14 _ _ hl) (s14 _ _ hp) k5
      have hm5 := k5 _ _ (fun e => by have := s14 _ _ hl; rw [← e, s4 _ _ hm1] at this; cases this) (fun e => by have := s14 _ _ hp; rw [← e, s4 _ _ hm1] at this; cases this) (s4 _ _ hm1)
      walk_at "go"
      refine n_fld hm5 MC.cl MC.gone (mom_gone ..) ?_
      walk_at "go"
      refine g_slT (tk5 _ _ (same_t s4 hgY)) fun t6 H6 s6 ht6 => ?_
      rw [cutV_from] at ht6
      walk_at "go"
      refine g_listOf (.inr ht6) fun r H7 nr s7 hr7 => ?_
      have k57 : Keep2 l p H5 H7 := Same.k2 (s6.trans s7)
      have kk : Keep2 l p H H7 := ((Same.k2 s14).trans k5).trans k57
      have nr5 : H5 r = none := s6.free nr
      have hl5 := live_of hL5
      obtain ⟨_, _, hl5⟩ := hl5
      have hL5' := hL5
      obtain ⟨_, _, _, _, _, _, _, _, hp5, _⟩ := hL5'
      refine k H7 r _ kk (kk0 ((Same.k2 s14).trans k5) (fun e => by rw [e, hl5] at nr5; cases nr5) (fun e => by rw [e, hp5] at nr5; cases nr5) nr5) hr7 ?_ (hL5.same (s6.trans s7))
      have hY7 := (s6.trans s7).dpa (dpa_tk tk5 _ _ (noL_rots _) (s4.dpa hY))
      rw [List.map_append] at hY7
      have := dpa_drop gs.length hY7
      rw [hxl]
      simpa using this
end

end
section
variable {P : Program} {w : World} {K : PySem.W.Frag}
variable {mg : Str → Option Value} {base : Heap}
/-! ### what stands while a turn is worked -/
def signK (fs : List (Str × Int)) (g : Str → Str) : List (Key × V) := fs.map fun f => (Sum.inr f.1, V.str (g f.1))
theorem signK_val {fs : List (Str × Int)} {g : Str → Str} {z : Str} (h : z ∈ fs.map (·.1)) : valV (signK fs g) (.inr z) = some (.str (g z)) := by
  induction fs with
  | nil => simp at h
  | cons f r ih =>
    by_cases e : f.1 = z
    · rw [← e]
      exact valV_pos rfl
    · refine (valV_neg (fun q => e (Sum.inr.inj q))).trans (ih ?_)
      have : z = f.1 ∨ z ∈ r.map (·.1) := by simpa using h
      exact this.resolve_left fun q => e q.symm
theorem signK_put {fs : List (Str × Int)} {g : Str → Str} {z : Str} {x : Str} (h : z ∈ fs.map (·.1)) : putK (signK fs g) (.inr z) (.str x) = signK fs fun y => if y = z then x else g y := by
  unfold putK
  have e : ((signK fs g).any fun kv => decide (kv.1 = (Sum.inr z : Key))) = true := by rw [valV_any, signK_val h]; rfl
  rw [if_pos e]
  simp only [signK, List.map_map]
  apply List.map_congr_left
  intro f _
  by_cases q : f.1 = z
  · simp [q]
  · have : ¬ (Sum.inr f.1 : Key) = Sum.inr z := fun e => q (Sum.inr.inj e)
    simp [q, this]
theorem merge_new : ∀ (more kvs : List (Key × V)), ((kvs ++ more).map (·.1)).Nodup → mergeK kvs more = kvs ++ more
  | [], kvs, _ => by simp [mergeK]
  | p :: more, kvs, h => by
    have hp : valV kvs p.1 = none := by
      cases e : valV kvs p.1 with
      | none => rfl
      | some v =>
        have m := valV_in e
        rw [List.map_append, List.nodup_append] at h
        exact absurd rfl (h.2.2 _ m p.1 (by simp))
    have e1 : mergeK kvs (p :: more) = mergeK (putK kvs p.1 p.2) more := rfl
    rw [e1, putK_new _ hp, merge_new more _ (by simpa using h)]
    simp
theorem signK_nd {fs : List (Str × Int)} {g : Str → Str} (h : (fs.map (·.1)).Nodup) : ((signK fs g).map (·.1)).Nodup := by
  have e : (signK fs g).map (·.1) = (fs.map (·.1)).map (Sum.inr : Str → Key) := by simp [signK, Function.comp_def]
  rw [e]
  refine List.Pairwise.map _ (fun a b ne q => ne (Sum.inr.inj q)) h
structure Std (K : PySem.W.Frag) (CF CP : Addr) (H : Hp) (d l fa pl nm p : Addr) (fs : List (Str × Int)) (ds : List (List Str)) (b : Int) : Prop where
  src : Src K H d l
  farm : FarmAt K CF H fa fs
  plan : PlanAt K CP H pl ds b
  nms : H nm = some (.lst ((fs.map (·.1)).map V.str))
  pd : p ≠ d
  pl_ : p ≠ l
  pn : p ≠ nm
section
variable {CF CP CL CM : Addr} {H H' : Hp} {d l fa pl nm p lv : Addr} {fs : List (Str × Int)} {ds : List (List Str)} {b : Int}
theorem Std.same (e : Same H H') (h : Std K CF CP H d l fa pl nm p fs ds b) : Std K CF CP H' d l fa pl nm p fs ds b := ⟨h.src.same e, h.farm.same e, PlanAt.same e h.plan, e _ _ h.nms, h.pd, h.pl_, h.pn⟩
theorem PlanAt.tk {q : Addr} (e : TK K H H') (em : ∀ o, H q = some o → H' q = some o) (h : PlanAt K CP H q ds b) : PlanAt K CP H' q ds b := by
  obtain ⟨dx, t, h1, h2⟩ := h
  exact ⟨dx, t, em _ h1, dp_tk e _ _ (show noLs _ = true from noL_days ds) h2⟩
theorem Std.live {n k : Nat} {ls : List Int} {js : List Nat} {gs : List (Nat × Str)} (hL : LiveAt K CL CM CF H lv p fs k ls js gs n) (e : Keep2 lv p H H') (h : Std K CF CP H d l fa pl nm p fs ds b) : Std K CF CP H' d l fa pl nm p fs ds b := by
  obtain ⟨dx, f, m, u, ps, hl, _, _, hp, _⟩ := hL
  obtain ⟨dne, m0, i0, ns, hd, hll, rest⟩ := h.src
  have tk : TK K H H' := tk_live hl hp e
  obtain ⟨fx, ft, hfa, _⟩ := h.farm
  obtain ⟨qx, qt, hpl, _⟩ := h.plan
  refine ⟨⟨dne, m0, i0, ns, e _ _ (fun q => ?_) h.pd.symm hd, e _ _ (fun q => ?_) h.pl_.symm hll, rest⟩, h.farm.tk tk fun o ho => e _ _ (fun q => ?_) (fun q => ?_) ho, h.plan.tk tk fun o ho => e _ _ (fun q => ?_) (fun q => ?_) ho, e _ _ (fun q => ?_) h.pn.symm h.nms, h.pd, h.pl_, h.pn⟩
  · rw [q, hl] at hd; cases hd
  · rw [q, hl] at hll; cases hll
  · rw [q, hl] at hfa; cases hfa
  · rw [q, hp] at hfa; cases hfa
  · rw [q, hl] at hpl; cases hpl
  · rw [q, hp] at hpl; cases hpl
  · have := h.nms; rw [q, hl] at this; cases this
theorem tk_dict {g : Addr} {kvs : List (Key × V)} (hg : H g = some (.dK kvs)) (e : Keep g H H') : TK K H H' := fun a xs z => keep_t e (notT_d hg) z
theorem Std.dict {g : Addr} {kvs : List (Key × V)} (hg : H g = some (.dK kvs)) (e : Keep g H H') (h : Std K CF CP H d l fa pl nm p fs ds b) : Std K CF CP H' d l fa pl nm p fs ds b := by
  obtain ⟨dne, m0, i0, ns, hd, hll, rest⟩ := h.src
  have tk : TK K H H' := tk_dict hg e
  obtain ⟨fx, ft, hfa, _⟩ := h.farm
  obtain ⟨qx, qt, hpl, _⟩ := h.plan
  refine ⟨⟨dne, m0, i0, ns, e _ _ (fun q => ?_) hd, e _ _ (fun q => ?_) hll, rest⟩, h.farm.tk tk fun o ho => e _ _ (fun q => ?_) ho, h.plan.tk tk fun o ho => e _ _ (fun q => ?_) ho, e _ _ (fun q => ?_) h.nms, h.pd, h.pl_, h.pn⟩
  · rw [q, hg] at hd; cases hd
  · rw [q, hg] at hll; cases hll
  · rw [q, hg] at hfa; cases hfa
  · rw [q, hg] at hpl; cases hpl
  · have := h.nms; rw [q, hg] at this; cases this
theorem LiveAt.dict {g : Addr} {kvs : List (Key × V)} {n k : Nat} {ls : List Int} {js : List Nat} {gs : List (Nat × Str)} (hg : H g = some (.dK kvs)) (e : Keep g H H') (h : LiveAt K CL CM CF H lv p fs k ls js gs n) : LiveAt K CL CM CF H' lv p fs k ls js gs n := by
  obtain ⟨dx, f, m, u, ps, hl, hF, hM, hp, pn⟩ := h
  have tk : TK K H H' := tk_dict hg e
  have hF' := hF
  have hM' := hM
  obtain ⟨fx, ft, hfa, _⟩ := hF'
  obtain ⟨mx, _, _, _, _, hm, _⟩ := hM'
  refine ⟨dx, f, m, u, ps, e _ _ (fun q => ?_) hl, hF.tk tk fun o ho => e _ _ (fun q => ?_) ho, hM.tk tk fun o ho => e _ _ (fun q => ?_) ho, e _ _ (fun q => ?_) hp, pn⟩
  · rw [q, hg] at hl; cases hl
  · rw [q, hg] at hfa; cases hfa
  · rw [q, hg] at hm; cases hm
  · rw [q, hg] at hp; cases hp
theorem farm_draw (c : Src K H d l) (e : Keep2 d l H H') (h : FarmAt K CF H fa fs) : FarmAt K CF H' fa fs := by
  obtain ⟨dne, m0, i0, ns, hd, hll, rest⟩ := c
  have h' := h
  obtain ⟨fx, ft, hfa, _⟩ := h'
  refine h.tk (Src.tk ⟨dne, m0, i0, ns, hd, hll, rest⟩ e) fun o ho => e _ _ (fun q => ?_) (fun q => ?_) ho
  · rw [q, hd] at hfa; cases hfa
  · rw [q, hll] at hfa; cases hfa
theorem plan_draw (c : Src K H d l) (e : Keep2 d l H H') (h : PlanAt K CP H pl ds b) : PlanAt K CP H' pl ds b := by
  obtain ⟨dne, m0, i0, ns, hd, hll, rest⟩ := c
  have h' := h
  obtain ⟨fx, ft, hpl, _⟩ := h'
  refine h.tk (Src.tk ⟨dne, m0, i0, ns, hd, hll, rest⟩ e) fun o ho => e _ _ (fun q => ?_) (fun q => ?_) ho
  · rw [q, hd] at hpl; cases hpl
  · rw [q, hll] at hpl; cases hpl
theorem rotten_congr {ls : List Int} {js js' : List Nat} (h : ∀ j, j < ls.length → (j ∈ js ↔ j ∈ js')) : rotten ls js = rotten ls js' := by
  unfold rotten
  apply List.filter_congr
  intro j hj
  have := h j (List.mem_range.mp hj)
  by_cases q : j ∈ js
  · simp [q, this.mp q]
  · have q2 : j ∉ js' := fun z => q (this.mpr z)
    simp [q, q2]
theorem later_congr {ls : List Int} {js js' : List Nat} (h : ∀ j, j < ls.length → (j ∈ js ↔ j ∈ js')) : later fs ls js = later fs ls js' := by
  unfold later
  rw [rotten_congr h]
  apply List.map_congr_left
  intro j hj
  have := h j (List.mem_range.mp hj)
  simp only [this]
theorem told_congr {k : Nat} {ls : List Int} {js js' : List Nat} (h : ∀ j, j < ls.length → (j ∈ js ↔ j ∈ js')) : toldOf fs k ls js = toldOf fs k ls js' := by
  unfold toldOf
  rw [rotten_congr h]
theorem sh_rot1 {q : Nat × Str} (h : PyData.strOk q.2 = true) : Sh 1 (pRot q) := sh_t fun d hd => by
  have : d = .int (q.1 : Nat) ∨ d = .str q.2 := by simpa using hd
  rcases this with rfl | rfl
  · exact sh_i _
  · exact sh_s h
theorem sh_told {told : List (Nat × Str)} (h : ∀ q ∈ told, PyData.strOk q.2 = true) : Sh 2 (.list (told.map pRot)) := sh_l fun d hd => by
  obtain ⟨told1, isin, rfl⟩ := List.mem_map.mp hd
  exact sh_rot1 (h told1 isin)
theorem told_ok (fok : FOk fs) {k : Nat} {ls : List Int} {js : List Nat} (ln : ls.length = fs.length) : (∀ q ∈ toldOf fs k ls js, PyData.strOk q.2 = true) ∧ (toldOf fs k ls js).length ≤ 6 := by
  constructor
  · intro q hq
    obtain ⟨j, hj, rfl⟩ := List.mem_map.mp hq
    have hj' : j < fs.length := by
      have := List.mem_range.mp (List.mem_filter.mp hj).1
      omega
    have e : nmOf fs j = fs[j].1 := by simp [nmOf, List.getD, hj']
    show PyData.strOk (nmOf fs j) = true
    rw [e]
    exact (fok.nm _ (List.getElem_mem _)).str
  · rw [← toldN_all ln]
    exact Nat.le_trans (toldN_le ..) fok.six
end

end
abbrev s_law : Stmt := top 48
abbrev N_law : List Str := ["_law_script", "_law_h", "_law_turn", "_law_fields_here", "_law_farm_here", "_law_names", "_law_name", "_law_limit", "_law_days", "_law_k", "_law_plan", "_law_many", "_law_live", "_law_signs", "_law_rot", "_law_day", "_law_told", "_law_sign", "_law_lines", "_law_total", "_law_due", "_law_found"]
theorem sc_law : FnScope N_law ["_law_script"] (defScope s_law) := ⟨rfl, rfl, rfl, by decide +kernel, rfl, by decide +kernel, by decide +kernel⟩
section
variable {P : Program} {w : World} {K : PySem.W.Frag}
variable {mg : Str → Option Value} {base : Heap}
theorem noL_rot (ro : Option (Nat × Str)) : noL (rotD ro) = true := by
  cases ro with
  | none => rfl
  | some p => rfl
theorem day_in {ds : List (List Str)} {b : Int} (k : Nat) (dk : DOk ds b) : dayOf ds b k ∈ ds := by
  have pb := plc_lt (n := ds.length) k dk.b0 dk.b1
  unfold dayOf
  rw [List.getD, List.getElem?_eq_getElem (by omega)]
  exact List.getElem_mem _
theorem n_rot {CF CP : Addr} {H : Hp} {Q : VK} {E : XK} {fa pl : Addr} {fs : List (Str × Int)} {ds : List (List Str)} {b : Int} {r : Option (Nat × Str)} (hF : FarmAt K CF H fa fs) (fok : FOk fs) (hP : PlanAt K CP H pl ds b) (dk : DOk ds b) (known : ∀ d ∈ ds, ∀ z ∈ d, z ∈ fs.map (·.1)) (isr : IsRot fs ds b r) (h : ∀ v H', Same H H' → Dp K H' v (rotD r) → Q v H') : sp_first_rot K CF CP [.ref fa, .ref pl] H Q E := by
  refine ⟨fa, pl, fs, ds, b, rfl, hF, fok, hP, dk, known, fun D z no hz H1 r1 s1 hr1 => h _ _ s1 ?_, fun no H1 s1 => h _ _ s1 ?_⟩
  · obtain rfl := rot_uni isr (show IsRot fs ds b (some (D, z)) from ⟨no, hz⟩)
    exact .tup hr1 (.cons (.int _) (.cons (.str _) .nil))
  · obtain rfl := rot_uni isr (show IsRot fs ds b none from no)
    exact .non
theorem chart_len {fs : List (Str × Int)} {ds : List (List Str)} {b : Int} {r : Option (Nat × Str)} {N : Nat} (fok : FOk fs) (hN : N ≤ 100) : (chartT fs ds b r N).length ≤ 1000 := by
  have e : ("\n" : Str).length = 1 := by decide +kernel
  have h1 := join_len (ps := fs.map fun f => lineT ds b r N f.1) (y := "\n") (B := 113) fun x hx => by
    obtain ⟨g, hg, rfl⟩ := List.mem_map.mp hx
    exact line_len (fok.nm g hg).wd.le hN
  rw [e, List.length_map] at h1
  have h2 := fok.six
  unfold chartT
  omega
theorem chart_split {fs : List (Str × Int)} {ds : List (List Str)} {b : Int} {r : Option (Nat × Str)} {N : Nat} (fok : FOk fs) : Txt.split (chartT fs ds b r N) "\n" = fs.map fun f => lineT ds b r N f.1 := by
  refine TL.split_join (s := 10) (S := []) (by decide +kernel) (by decide +kernel) (by have := fok.one; intro e; rw [List.map_eq_nil_iff] at e; rw [e] at this; simp at this) fun p hp => ?_
  obtain ⟨f, hf, rfl⟩ := List.mem_map.mp hp
  have nl := (fok.nm f hf).wd.nl
  intro m
  unfold lineT at m
  rw [TL.tl_append, TL.tl_append, List.mem_append, List.mem_append] at m
  rcases m with (m | m) | m
  · have m' : 10 ∈ TL.tl f.1 ++ List.replicate (8 - f.1.length) 32 := by simpa [padR, TL.tl] using m
    rcases List.mem_append.mp m' with q | q
    · exact nl q
    · exact absurd (List.mem_replicate.mp q).2 (by decide)
  · have m' : 10 ∈ (List.range N).map (sgnC ds b r f.1) := by simpa [sgnS, TL.tl] using m
    obtain ⟨k, _, e⟩ := List.mem_map.mp m'
    unfold sgnC at e
    split at e
    · exact absurd e (by decide)
    · split at e <;> exact absurd e (by decide)
  · have m' : 10 ∈ List.replicate (5 - (numS ((cntD ds b f.1 N : Nat) : Int)).length) 32 ++ TL.tl (numS ((cntD ds b f.1 N : Nat) : Int)) := by simpa [padL, TL.tl] using m
    rcases List.mem_append.mp m' with q | q
    · exact absurd (List.mem_replicate.mp q).2 (by decide)
    · rw [tl_numS (Int.natCast_nonneg _)] at q
      have := TL.numL_digits _ 10 q
      omega
theorem plan_no (t : Addr) (b : Int) : (planFs t b).lookup ("harvests" : Str) = none := by
  have h1 : (("harvests" : Str) == ("parts" : Str)) = false := by decide +kernel
  have h2 : (("harvests" : Str) == ("begin" : Str)) = false := by decide +kernel
  simp [planFs, List.lookup, h1, h2]
def sp_law (K : PySem.W.Frag) : Sp := fun vs H Q _ => ∃ (a : Addr) (ns : List Int), vs = [.ref a] ∧ SqL K H a (ns.map V.int) ∧ ns.length ≤ 63 ∧ ∀ H', Q (.bl true) H'
section
variable {CF CP CL CM : Addr}
theorem ok_law {f : Addr} {fd : FuncData} (M : Md K mg) (F : FnD K "law" "law" s_law f fd) (D_law_mix : DefR P w K mg base "_law_mix" 2 (sp_law_mix K)) (D_law_next : DefR P w K mg base "_law_next" 2 (sp_law_next K)) (D_law_some : DefR P w K mg base "_law_some" 4 (sp_law_some K)) (D_law_fields : DefR P w K mg base "_law_fields" 4 (sp_law_fields K)) (D_law_farm : DefR P w K mg base "_law_farm" 9 (sp_law_farm K CF))
    (D_law_text : DefR P w K mg base "_law_text" 2 (sp_law_text K)) (D_parse_plan : DefR P w K mg base "parse_plan" 6 (sp_parse K CP)) (D_first_rot : DefR P w K mg base "first_rot" 10 (sp_first_rot K CF CP)) (D_chart : DefR P w K mg base "chart" 12 (sp_chart K CF CP)) (K_LiveFarm : MakeR P w K mg base "LiveFarm" CL 5 (sp_live_init K CL CM CF))
    (M_LiveFarm_harvest : MethR P w K mg base CL "harvest" 7 (sp_harvest K CL CM CF)) (M_LiveFarm_wait : MethR P w K mg base CL "wait" 7 (sp_wait K CL CM CF)) (M_Plan___getitem__ : MethR P w K mg base CP "__getitem__" 4 (sp_plan_getitem K CP)) (FI_Plan___getitem__ : ∀ f, Meth K CP "__getitem__" f → PySem.W.fnIn K f = true)
    (M_Plan_harvests : MethG P w K mg base CP "harvests" 4 (sp_plan_harvests K CP)) : FnOk P w K mg base CX0 14 f fd ["_law_script"] (sp_law K) := by
  refine FunD.ok F sc_law ?_ (fun cdv A outer s H vs Q E hr h => ?_)
  · rintro vs H Q E ⟨a, ns, rfl, _⟩; rfl
  · obtain ⟨a, ns, rfl, hS, hl63, kq⟩ := h
    have nd := sc_law.nd
    have hB : BIG = 1000000000000000000 := rfl
    refine ⟨_, PSs.nox (pss_cons (ps_set (i := 1) nd rfl (by first | exact Or.inl rfl | exact Or.inr rfl) (pe_callR D_law_mix (hr.mono (by first | decide | omega)) passN (pa_cons (pv 0) (pa_cons pe_int pa_nil))))
    (pss_cons (ps_for PassesOwn.never rfl (pi_range1 rfl M.b.range (pa_cons pe_int pa_nil)) (pg_name (i := 2) nd rfl (by first | exact Or.inl rfl | exact Or.inr rfl)) (pss_cons (ps_set (i := 3) nd rfl (by first | exact Or.inl rfl | exact Or.inr rfl) (pe_callR D_law_fields (hr.mono (by first | decide | omega)) passN (pa_cons (pv 1) (pa_cons pe_int (pa_cons pe_int (pa_cons pe_int pa_nil))))))
    (pss_cons (ps_asg (pe_tup (pa_cons (pe_callR D_law_farm (hr.mono (by first | decide | omega)) passN (pa_cons (pv 3) pa_nil)) (pa_cons (pe_lc (own := [("_law_name", 6), ("_law_limit", 7)]) (g := (gTup K 2 (gCons (gName 6) (gCons (gName 7) gNil)))) (tt := tYes) rfl nd (pi_listK K (pv 3)) (blkOk_by (N := N_law) (sc := defScope s_law) (by decide +kernel)) (fun _ _ _ _ _ => (pg_tupK K rfl (pgs_cons (pg_name (i := 6) nd rfl (by first | exact Or.inl rfl | exact Or.inr rfl)) (pgs_cons (pg_name (i := 7) nd rfl (by first | exact Or.inl rfl | exact Or.inr rfl)) pgs_nil)))) (fun _ _ _ _ _ => pts_nil) (fun _ _ _ _ _ => (pv 6))) pa_nil))) (pg_tupK K rfl (pgs_cons (pg_name (i := 4) nd rfl (by first | exact Or.inl rfl | exact Or.inr rfl)) (pgs_cons (pg_name (i := 5) nd rfl (by first | exact Or.inl rfl | exact Or.inr rfl)) pgs_nil))))
    (pss_cons (ps_setLc (i := 8) (own := [("_law_k", 9)]) (g := (gName 9)) (tt := tYes) rfl nd rfl rfl (sw_true rfl rfl rfl (by decide +kernel)) (pi_range1 rfl M.b.range (pa_cons (pe_op (op_addK K) pe_int (pe_callR D_law_next (hr.mono (by first | decide | omega)) passN (pa_cons (pv 1) (pa_cons pe_int pa_nil)))) pa_nil)) (blkOk_by (N := N_law) (sc := defScope s_law) (by decide +kernel)) (fun _ _ _ _ _ => (pg_name (i := 9) nd rfl (by first | exact Or.inl rfl | exact Or.inr rfl))) (fun _ _ _ _ _ => pts_nil) (fun _ _ _ _ _ => (pe_callR D_law_some (hr.mono (by first | decide | omega)) passN (pa_cons (pv 1) (pa_cons (pv 5) (pa_cons pe_int pa_nil))))))
    (pss_cons (ps_par (i := 10) (j := 11) rfl nd rfl rfl (by decide) rfl rfl (pa_cons (pe_callR D_parse_plan (hr.mono (by first | decide | omega)) passN (pa_cons (pe_callR D_law_text (hr.mono (by first | decide | omega)) passN (pa_cons (pv 8) (pa_cons (pe_callR D_law_next (hr.mono (by first | decide | omega)) passN (pa_cons (pv 1) (pa_cons (pe_len K M.b (pv 8)) pa_nil))) pa_nil))) pa_nil)) (pa_cons (pe_op (op_addK K) pe_int (pe_callR D_law_next (hr.mono (by first | decide | omega)) passN (pa_cons (pv 1) (pa_cons pe_int pa_nil)))) pa_nil)) (by rfl))
    (pss_cons (ps_par3 (i := 12) (j := 13) (l := 14) rfl nd rfl rfl rfl (by decide) (by decide) (by decide) rfl rfl rfl (pa_cons (pe_makeP K_LiveFarm (hr.mono (by first | decide | omega)) passN (pa_cons (pv 4) pa_nil)) (pa_cons (pe_dictP K M.b (pe_lc (own := [("_law_name", 6)]) (g := (gName 6)) (tt := tYes) rfl nd (pi_listK K (pv 5)) (blkOk_by (N := N_law) (sc := defScope s_law) (by decide +kernel)) (fun _ _ _ _ _ => (pg_name (i := 6) nd rfl (by first | exact Or.inl rfl | exact Or.inr rfl))) (fun _ _ _ _ _ => pts_nil) (fun _ _ _ _ _ => (pe_tup (pa_cons (pv 6) (pa_cons pe_str pa_nil)))))) (pa_cons pe_non pa_nil))) (by rfl))
    (pss_cons (ps_for PassesOwn.never rfl (pi_range1 rfl M.b.range (pa_cons (pv 11) pa_nil)) (pg_name (i := 15) nd rfl (by first | exact Or.inl rfl | exact Or.inr rfl)) (pss_cons (ps_for PassesOwn.never rfl (pi_tupK K (pe_ownIx M_Plan___getitem__ FI_Plan___getitem__ (hr.mono (by first | decide | omega)) (pv 10) (pv 15))) (pg_name (i := 6) nd rfl (by first | exact Or.inl rfl | exact Or.inr rfl)) (pss_one (ps_expr (pe_methR (pv 12) M_LiveFarm_harvest.cl M_LiveFarm_harvest.at_ M_LiveFarm_harvest.fn (hr.mono (by first | decide | omega)) passN (pa_cons (pv 6) pa_nil)))))
    (pss_cons (ps_set (i := 16) nd rfl (by first | exact Or.inl rfl | exact Or.inr rfl) (pe_methR (pv 12) M_LiveFarm_wait.cl M_LiveFarm_wait.at_ M_LiveFarm_wait.fn (hr.mono (by first | decide | omega)) passN (pa_cons pe_int pa_nil)))
    (pss_cons (ps_set (i := 14) nd rfl (by first | exact Or.inl rfl | exact Or.inr rfl) (pe_cut (pe_ifExp (PW.pt (pw_and (pt_cmpR op_isN1 (pv 14) pe_non (nomark _)) (pw_and1 (pt_cmpR (op_neK K hr) (pv 16) (pe_lst pa_nil) (nomark _))))) (pe_ix (ix_K K) (pv 16) pe_int (fun _ _ => rfl)) (pv 14))))
    (pss_one (ps_for PassesOwn.never rfl (pi_listK K (pv 5)) (pg_name (i := 6) nd rfl (by first | exact Or.inl rfl | exact Or.inr rfl)) (pss_cons (ps_set (i := 17) nd rfl (by first | exact Or.inl rfl | exact Or.inr rfl) (pe_cut (pe_ifExp (pt_cmpR (op_eqK K hr) (pv 14) (pe_tup (pa_cons (pv 15) (pa_cons (pv 6) pa_nil))) (nomark _)) pe_str pe_str)))
    (pss_one (ps_dput (units2 hr) (pv 13) (pv 6) (pe_op (op_addK K) (pe_dget (units2 hr) (pv 13) (pv 6) (fun _ _ => rfl)) (pe_cut (pe_ifExp (pt_cmpR (op_inK K hr) (pv 6) (pe_ownIx M_Plan___getitem__ FI_Plan___getitem__ (hr.mono (by first | decide | omega)) (pv 10) (pv 15)) rfl) pe_str (pv 17)))) rfl)))))))))
    (pss_cons (ps_if (pt_cut (PW.pt (pw_and (pt_cmpR op_notN1 (pv 14) pe_non (nomark _)) (pw_and1 (pt_cmpR (op_neK K hr) (pe_callR D_first_rot (hr.mono (by first | decide | omega)) passN (pa_cons (pv 4) (pa_cons (pv 10) pa_nil))) (pv 14) (nomark _)))))) (pss_one (ps_ret pe_bl)) pss_nil)
    (pss_cons (ps_if (pt_cut (PW.pt (pw_and (pt_cmpR op_isN1 (pv 14) pe_non (nomark _)) (pw_and (pt_cmpR op_notN1 (pe_callR D_first_rot (hr.mono (by first | decide | omega)) passN (pa_cons (pv 4) (pa_cons (pv 10) pa_nil))) pe_non (nomark _)) (pw_and1 (pt_cmpR op_lt (pe_ix (ix_K K) (pe_callR D_first_rot (hr.mono (by first | decide | omega)) passN (pa_cons (pv 4) (pa_cons (pv 10) pa_nil))) pe_int (fun _ _ => rfl)) (pv 11) (nomark _))))))) (pss_one (ps_ret pe_bl)) pss_nil)
    (pss_cons (ps_set (i := 18) nd rfl (by first | exact Or.inl rfl | exact Or.inr rfl) (pe_splitH (pe_callR D_chart (hr.mono (by first | decide | omega)) passN (pa_cons (pv 4) (pa_cons (pv 10) (pa_cons (pv 11) pa_nil)))) pe_str))
    (pss_cons (ps_if (pt_cmpR (op_neK K hr) (pe_len K M.b (pv 18)) (pe_len K M.b (pv 5)) (nomark _)) (pss_one (ps_ret pe_bl)) pss_nil)
    (pss_one (ps_for PassesOwn.never rfl (pi_range1 rfl M.b.range (pa_cons (pe_len K M.b (pv 5)) pa_nil)) (pg_name (i := 9) nd rfl (by first | exact Or.inl rfl | exact Or.inr rfl)) (pss_cons (ps_set (i := 19) nd rfl (by first | exact Or.inl rfl | exact Or.inr rfl) (pe_strI M.b (pe_m1 PySem.F.slot_str_count PySem.F.type_str_count mt_count (pe_dget (units2 hr) (pv 13) (pe_ix (ix_K K) (pv 5) (pv 9) (fun _ _ => rfl)) (fun _ _ => rfl)) pe_str)))
    (pss_cons (ps_set (i := 20) nd rfl (by first | exact Or.inl rfl | exact Or.inr rfl) (pe_op (op_addK K) (pe_op (op_addK K) (pe_ix (ix_K K) (pv 5) (pv 9) (fun _ _ => rfl)) (pe_op op_mulS pe_str (pe_op op_sub pe_int (pe_len K M.b (pe_ix (ix_K K) (pv 5) (pv 9) (fun _ _ => rfl)))))) (pe_dget (units2 hr) (pv 13) (pe_ix (ix_K K) (pv 5) (pv 9) (fun _ _ => rfl)) (fun _ _ => rfl))))
    (pss_cons (ps_set (i := 20) nd rfl (by first | exact Or.inl rfl | exact Or.inr rfl) (pe_op (op_addK K) (pe_op (op_addK K) (pv 20) (pe_op op_mulS pe_str (pe_op op_sub pe_int (pe_len K M.b (pv 19))))) (pv 19)))
    (pss_cons (ps_set (i := 21) nd rfl (by first | exact Or.inl rfl | exact Or.inr rfl) (pe_listM M_Plan_harvests (hr.mono (by first | decide | omega)) M.b (pv 10) (pa_cons (pe_ix (ix_K K) (pv 5) (pv 9) (fun _ _ => rfl)) (pa_cons pe_int (pa_cons (pe_op op_sub (pv 11) pe_int) pa_nil)))))
    (pss_one (ps_if (PW.pt (pw_or (pt_cmpR (op_neK K hr) (pe_ix (ix_K K) (pv 18) (pv 9) (fun _ _ => rfl)) (pv 20) (nomark _)) (pw_or1 (pt_cmpR (op_neK K hr) (pe_intS M.b (pv 19)) (pe_len K M.b (pv 21)) (nomark _))))) (pss_one (ps_ret pe_bl)) pss_nil))))))))))))))))))) (pss_one (ps_ret pe_bl)))), ?_⟩
    show (_ : TS) _ [some (.ref a), none, none, none, none, none, none, none, none, none, none, none, none, none, none, none, none, none, none, none, none, none] H
    walk_at "go"
    refine ⟨a, ns, 59, rfl, hS, hl63, by decide, by decide, fun H1 d l s1 nd1 c1 => ?_⟩
    walk_at "go"
    refine n_forR1 (by decide) (by decide) (fun i σ H' => ∃ u2 u3 u4 u5 u6 u7 u8 u9 u10 u11 u12 u13 u14 u15 u16 u17 u18 u19 u20 u21 : Option V, σ = [some (.ref a), some (.ref d), u2, u3, u4, u5, u6, u7, u8, u9, u10, u11, u12, u13, u14, u15, u16, u17, u18, u19, u20, u21] ∧ Src K H' d l) ⟨_, _, _, _, _, _, _, _, _, _, _, _, _, _, _, _, _, _, _, _, rfl, c1⟩ ?_ ?_
    · rintro it σ H2 hit ⟨u2, u3, u4, u5, u6, u7, u8, u9, u10, u11, u12, u13, u14, u15, u16, u17, u18, u19, u20, u21, rfl, c2⟩
      walk_at "go"
      refine ⟨d, l, 5, 6, 2000, rfl, c2, by decide, by decide, by decide, by decide, by decide, by decide, fun H3 fl fx fs k3 c3 nfl Ffl hfl hfx fok f5 _ _ _ => ?_⟩
      clear k3 nfl
      have one := fok.one
      have six := fok.six
      have fxl : fx.length = fs.length := by rw [hfx.length]; simp
      walk_at "go"
      refine ⟨_, fs, rfl, dp_lst hfl hfx, fok, fun H4 fa s4 hfa => ?_⟩
      walk_at "go"
      refine n_lcL (SqL.of (s4 _ _ hfl)) (lc_map (walk_list (xs := fx)) (fun j => .str ((fs.getD j ("", 0)).1)) (fun H6 s6 => SqL.of (s6 _ _ (s4 _ _ hfl))) ?_ ?_)
      · rintro C j y H6 H7 nC hj s6 hC ⟨e, hyj⟩
        subst e
        obtain ⟨dj, hdj, hDj⟩ := ((s4.trans s6).dpa hfx).get hyj
        obtain ⟨fj, hfj, rfl⟩ := getm hdj
        obtain ⟨t3, zs, rfl, hT3, hZ⟩ := hDj.inv_t
        obtain ⟨w1, w2, rfl, hw1, hw2⟩ := hZ.inv2
        obtain rfl := hw1.inv_s
        walk_at "go"
        refine g_gtup hT3 rfl ?_
        walk_at "go"
        refine ⟨rfl, ?_⟩
        walk_at "go"
        exact n_mapK nC s6 hC (by rw [getD_of hfj])
      · intro nm H5 nnm s5 hnm
        have e1 : (List.range fx.length).map (fun j => V.str ((fs.getD j ("", 0)).1)) = (fs.map (·.1)).map V.str := by
          rw [fxl, List.map_map]
          exact range_getD fs ("", 0) fun f : Str × Int => V.str f.1
        rw [e1] at hnm
        have c4 := c3.same s4
        have Fnm := c4.fr nnm
        have c5 := c4.same s5
        have hfa5 := hfa.same s5
        walk_at "go"
        refine n_tup (by simp [sizeLine_eq]) fun tp H6 ntp s6 htp => ?_
        refine g_gtup (SqT.of htp) rfl ?_
        walk_at "go"
        have c6 := c5.same s6
        have hfa6 := hfa5.same s6
        have hnm6 := s6 _ _ hnm
        clear hfa5 hfa hfl hfx htp ntp
        refine ⟨d, l, 7, rfl, c6, by decide, by decide, fun H7 r7 r70 r71 k7 c7 => ?_⟩
        have hfa7 := farm_draw c6 k7 hfa6
        have hnm7 := k7 _ _ Fnm.nd Fnm.nl hnm6
        walk_at "go"
        refine n_lcR1 (by omega) (by omega) (lc_run (walk_range (lo := 0) (n := (1 + r7).toNat)) (fun i acc H' => Keep2 d l H7 H' ∧ Src K H' d l ∧ ∃ ds : List (List Str), DpAll K H' acc (ds.map pDay) ∧ ds.length = i ∧ ∀ e ∈ ds, e.Nodup ∧ e.length ≤ 8 ∧ ∀ z ∈ e, z ∈ fs.map (·.1))
          (fun C H' _ s' _ => ⟨Same.k2 s', c7.same s', [], .nil, rfl, by simp⟩) (fun _ _ _ _ _ _ _ => trivial) ?_ ?_)
        · rintro C j acc y H8 H9 nC hj hl hC ⟨k8, c8, ds, hX, dl_, dok⟩ ⟨e, ex⟩
          subst e ex
          have FC := c7.fr nC
          have hnm8 := k8 _ _ Fnm.nd Fnm.nl hnm7
          walk_at "go"
          refine ⟨rfl, ?_⟩
          walk_at "go"
          refine ⟨d, l, nm, fs.map (·.1), 4, rfl, c8, hnm8, fok.nd, by simp; omega, by decide, by decide, fun H10 t ys k10 c10 ht yn y8 ym => ?_⟩
          have hC10 := k10 _ _ FC.nd FC.nl hC
          refine n_lcK hC10 (by omega) (by omega) fun H11 k11 hC11 => ⟨(k8.trans k10).then nC k11, c10.keep k11 FC, ds ++ [ys], ?_, by simp; omega, ?_⟩
          · rw [List.map_append]
            exact dpa_tk (keep_tk k11 hC10) _ _ (by rw [← List.map_append]; exact noL_days _) (dpa_app (dpa_tk (c8.tk k10) _ _ (noL_days ds) hX) (.cons (.tup ht (dpa_strs ys)) .nil))
          · intro e he
            rcases List.mem_append.mp he with q | q
            · exact dok e q
            · rw [List.mem_singleton.mp q]; exact ⟨yn, y8, ym⟩
        · rintro dl xs H8 ndl hdl ⟨k8, c8, ds, hX, dl_, dok⟩
          have Fdl := c7.fr ndl
          have hnm8 := k8 _ _ Fnm.nd Fnm.nl hnm7
          have hfa8 := farm_draw c7 k8 hfa7
          have hxl : xs.length = ds.length := by rw [hX.length]; simp
          have d1 : 1 ≤ ds.length := by omega
          have d7 : ds.length ≤ 7 := by omega
          have known : ∀ e ∈ ds, ∀ z ∈ e, z ∈ fs.map (·.1) := fun e he => (dok e he).2.2
          have nmd : ∀ e ∈ ds, ∀ z ∈ e, NmOk z := fun e he z hz => by
            obtain ⟨g, hg, rfl⟩ := List.mem_map.mp (known e he z hz)
            exact fok.nm g hg
          walk_at "go"
          refine ⟨d, l, _, rfl, c8, by omega, by omega, fun H9 b b0 b1 k9 c9 => ?_⟩
          have hdl9 := k9 _ _ Fdl.nd Fdl.nl hdl
          have hX9 : DpAll K H9 xs (ds.map pDay) := dpa_tk (c8.tk k9) _ _ (noL_days ds) hX
          have hnm9 := k9 _ _ Fnm.nd Fnm.nl hnm8
          have hfa9 := farm_draw c8 k9 hfa8
          have dk : DOk ds b := ⟨d1, by omega, fun e he => (dok e he).1, fun e he => (dok e he).2.1, b0, by omega⟩
          have tx : TxOk ds b := ⟨dk, nmd⟩
          walk_at "go"
          refine ⟨_, ds, b, rfl, dp_lst hdl9 hX9, tx, fun H10 s10 => ?_⟩
          walk_at "go"
          refine ⟨ds, b, rfl, tx, fun H11 pl s11 npl hpl => ?_⟩
          have s911 := s10.trans s11
          have c11 := c9.same s911
          have hnm11 := s911 _ _ hnm9
          have hfa11 := hfa9.same s911
          walk_at "go"
          refine ⟨d, l, 60, rfl, c11, by decide, by decide, fun H12 rm rm0 rm1 k12 c12 => ?_⟩
          have hpl12 := plan_draw c11 k12 hpl
          have hnm12 := k12 _ _ Fnm.nd Fnm.nl hnm11
          have hfa12 := farm_draw c11 k12 hfa11
          clear k7 k8 k9 k12 hX hX9 hdl hdl9 hpl hfa11 hfa9 hfa8 hfa7 hfa6 hnm11 hnm9 hnm8 hnm7 hnm6 c3 c4 c5 c6 c7 c8 c9 c11 s911 s10 s11
          obtain ⟨N, hN⟩ : ∃ N : Nat, 1 + rm = (N : Int) := ⟨(1 + rm).toNat, by omega⟩
          have N1 : 1 ≤ N := by omega
          have N60 : N ≤ 60 := by omega
          walk_at "go"
          rw [hN]
          obtain ⟨r, isr⟩ := first_day (fs := fs) (ds := ds) (b := b)
          refine n_make fun lv lx H13 nlv nlx nex s13 hlv hlx => ?_
          refine ⟨lv, lx, fa, fs, rfl, hlv, hfa12.same s13, one, six, fun H14 p k14 np hL => ⟨rfl, ?_⟩⟩
          have s14 : Same H12 H14 := same_keep s13 nlv k14
          have std14 : Std K CF CP H14 d l fa pl nm p fs ds b := ⟨c12.same s14, hfa12.same s14, PlanAt.same s14 hpl12, s14 _ _ hnm12, ((c12.same s13).fr np).nd, ((c12.same s13).fr np).nl, fun e => by rw [e, s13 _ _ hnm12] at np; cases np⟩
          clear c12 hfa12 hpl12 hnm12 k14 s13 s14 np nlv nlx nex hlv hlx
          walk_at "go"
          refine n_lcL (SqL.of std14.nms) (lc_run (walk_list (xs := (fs.map (·.1)).map V.str)) (fun i acc H' => Same H14 H' ∧ ∃ ps : List Addr, acc = ps.map V.ref ∧ Paired (fun p kv => SqT K H' p [kV kv.1, kv.2]) ps (signK (fs.take i) fun _ => "")) (fun C H' _ s' _ => ⟨s', [], rfl, .nil⟩) (fun i acc H' C _ _ ⟨s', _⟩ => SqL.of (s' _ _ std14.nms)) ?_ ?_)
          · rintro C j acc y H15 H16 nC hj hl hC ⟨s15, ps, rfl, hp⟩ ⟨e, hyj⟩
            subst e
            obtain ⟨z, hz, rfl⟩ := getm hyj
            obtain ⟨fj, hfj, rfl⟩ := getm hz
            walk_at "go"
            refine ⟨rfl, ?_⟩
            walk_at "go"
            refine n_tup (by simp [sizeLine_eq]) fun t17 H17 nt17 s17 ht17 => ?_
            have hC17 := s17 _ _ hC
            refine n_lcK hC17 (by simp at hj; omega) (by simp at hj ⊢; omega) fun H18 k18 hC18 => ⟨same_keep (s15.trans s17) nC k18, ps ++ [t17], by simp, ?_⟩
            have et : signK (fs.take (j + 1)) (fun _ => "") = signK (fs.take j) (fun _ => "") ++ [(Sum.inr fj.1, V.str "")] := by rw [app_tail _ _ hfj]; simp [signK]
            rw [et]
            have up : ∀ {l : List Addr} {m : List (Key × V)}, Paired (fun p kv => SqT K H16 p [kV kv.1, kv.2]) l m → Paired (fun p kv => SqT K H18 p [kV kv.1, kv.2]) l m := fun h => by
              induction h with
              | nil => exact .nil
              | cons h1 h2 ih => exact .cons (sqt_keep k18 hC17 (same_t s17 h1)) ih
            exact (up hp).snoc (sqt_keep k18 hC17 (SqT.of ht17))
          · rintro C acc H15 nC hC ⟨s15, ps, rfl, hp⟩
            have et : fs.take ((fs.map (·.1)).map V.str).length = fs := List.take_of_length_le (by simp)
            rw [et] at hp
            walk_at "go"
            refine g_dictP (SqL.of hC) hp fun g H16 ng s16 hg => ?_
            have em : (fun _ : Str => ("" : Str)) = fun z => sgnS ds b r z 0 := funext fun z => str_ext rfl
            have hm : mergeK [] (signK fs fun _ => "") = signK fs fun z => sgnS ds b r z 0 := by
              rw [← em]
              exact merge_new _ [] (signK_nd (g := fun _ => "") fok.nd)
            rw [hm] at hg
            have s1416 := s15.trans s16
            have std := std14.same s1416
            have hL16 := hL.same s1416
            clear std14 hL s15 s16 s1416 hp hC nC ng
            walk_at "go"
            refine n_forR1 (by omega) (by omega) (fun k σ H' => ∃ (v6 v15 v16 v17 : Option V) (rv : V) (ro : Option (Nat × Str)) (ls : List Int) (gs : List (Nat × Str)) (n : Nat), σ = [some (.ref a), some (.ref d), some (.int it), some (.ref fl), some (.ref fa), some (.ref nm), v6, u7, some (.ref dl), u9, some (.ref pl), some (.int N), some (.ref lv), some (.ref g), some rv, v15, v16, v17, u18, u19, u20, u21] ∧
              Std K CF CP H' d l fa pl nm p fs ds b ∧ LiveAt K CL CM CF H' lv p fs k ls [] gs n ∧ n ≤ 9 * k ∧ gs.length ≤ 6 * k ∧ ls.length = fs.length ∧ LRo fs ds b k ls ro ∧ Dp K H' rv (rotD ro) ∧ H' g = some (.dK (signK fs fun z => sgnS ds b r z k)))
              ⟨_, _, _, _, .non, none, fs.map (·.2), [], 0, rfl, std, hL16, by omega, by simp, by simp, ⟨fun e he => by omega, rfl⟩, .non, hg⟩ ?_ ?_
            · rintro k σ H17 hk ⟨v6, v15, v16, v17, rv, ro, ls, gs, n, rfl, st17, hL17, nk, gk, lsl, lro, hrv, hg17⟩
              walk_at "go"
              have kN : k < N := by omega
              have hpl' := st17.plan
              obtain ⟨px, pt, hpi, hpv⟩ := hpl'
              refine n_ownIx hpi ⟨pl, ds, b, k, rfl, st17.plan, dk, by show (k : Int) ≤ BIG; unfold BIG; omega, fun t ht => ?_⟩
              have dm : dayOf ds b k ∈ ds := day_in k dk
              have d8 := dk.le _ dm
              refine n_forT ht (fun i σ H' => ∃ (v6 : Option V) (js : List Nat), σ = [some (.ref a), some (.ref d), some (.int it), some (.ref fl), some (.ref fa), some (.ref nm), v6, u7, some (.ref dl), u9, some (.ref pl), some (.int N), some (.ref lv), some (.ref g), some rv, some (.int (k : Nat)), v16, v17, u18, u19, u20, u21] ∧
                Std K CF CP H' d l fa pl nm p fs ds b ∧ LiveAt K CL CM CF H' lv p fs k ls js gs (n + i) ∧ (∀ j, j < fs.length → (j ∈ js ↔ nmOf fs j ∈ (dayOf ds b k).take i)) ∧ Dp K H' rv (rotD ro) ∧ H' g = some (.dK (signK fs fun z => sgnS ds b r z k)) ∧ SqT K H' t ((dayOf ds b k).map V.str))
                ⟨v6, [], by simp, st17, hL17, by simp, hrv, hg17, ht⟩ (fun i σ H' ⟨_, _, _, _, _, _, _, _, h⟩ => h) ?_ ?_
              · rintro i y σ H18 hy ⟨w6, js, rfl, st18, hL18, hjs, hrv18, hg18, ht18⟩
                obtain ⟨z, hz, rfl⟩ := getm hy
                have zm := known _ dm z (List.mem_of_getElem? hz)
                obtain ⟨j, hj, ez⟩ : ∃ j, j < fs.length ∧ z = nmOf fs j := by
                  obtain ⟨j, hj⟩ := List.mem_iff_getElem?.mp zm
                  rw [List.getElem?_map] at hj
                  obtain ⟨q, hq, rfl⟩ := Option.map_eq_some_iff.mp hj
                  exact ⟨j, (List.getElem?_eq_some_iff.mp hq).1, by simp [nmOf, List.getD, hq]⟩
                subst ez
                have il := (List.getElem?_eq_some_iff.mp hz).1
                have hL18' := hL18
                obtain ⟨lx, fa', m, u, ps, hlv, _, _, hpp, _⟩ := hL18'
                walk_at "go"
                refine n_meth hlv (live_no _ _ _ _ (by decide +kernel) (by decide +kernel) (by decide +kernel) (by decide +kernel)) ?_
                walk_at "go"
                refine ⟨lv, p, fs, k, ls, js, gs, n + i, j, rfl, hL18, by omega, fok.nd, six, hj, fun H19 v k19 hL19 => ?_⟩
                walk_at "go"
                have tk19 : TK K H18 H19 := tk_live hlv hpp k19
                refine ⟨_, j :: js, rfl, st18.live hL18 k19, hL19, fun j' hj' => ?_, dp_tk tk19 _ _ (noL_rot ro) hrv18, k19 _ _ (fun e => by rw [e, hlv] at hg18; cases hg18) (fun e => by rw [e, hpp] at hg18; cases hg18) hg18, tk19 _ _ ht18⟩
                rw [app_tail _ _ hz, List.mem_append, List.mem_singleton, List.mem_cons, hjs j' hj']
                constructor
                · rintro (rfl | q)
                  · exact .inr rfl
                  · exact .inl q
                · rintro (q | q)
                  · exact .inr q
                  · exact .inl (nm_inj fok.nd hj' hj q)
              · rintro σ H18 ⟨w6, js, rfl, st18, hL18, hjs, hrv18, hg18, ht18⟩
                rw [List.length_map] at hL18 hjs
                rw [List.take_of_length_le (Nat.le_refl _)] at hjs
                have hjs' : ∀ j, j < ls.length → (j ∈ js ↔ j ∈ daysJ fs ds b k) := fun j hj => (hjs j (by omega)).trans (mem_daysJ (by omega)).symm
                have hL18' := hL18
                obtain ⟨lx, fa', m, u, ps, hlv, _, _, hpp, _⟩ := hL18'
                walk_at "go"
                refine n_meth hlv (live_no _ _ _ _ (by decide +kernel) (by decide +kernel) (by decide +kernel) (by decide +kernel)) ?_
                walk_at "go"
                refine ⟨lv, p, fs, k, ls, js, gs, _, rfl, hL18, by omega, one, six, lsl, by omega, by omega, fun H19 tr ws k19 ntr htr hws hL19 => ?_⟩
                rw [later_congr hjs', told_congr hjs'] at hL19
                rw [told_congr hjs'] at hws
                have tk19 : TK K H18 H19 := tk_live hlv hpp k19
                have st19 := st18.live hL18 k19
                have hrv19 := dp_tk tk19 _ _ (noL_rot ro) hrv18
                have hg19 := k19 _ _ (fun e => by rw [e, hlv] at hg18; cases hg18) (fun e => by rw [e, hpp] at hg18; cases hg18) hg18
                have ht19 := tk19 _ _ ht18
                have lro19 := lro.next
                walk_at "go"
                obtain ⟨tok, tle⟩ := told_ok (k := k) (js := daysJ fs ds b k) fok lsl
                have lll : (later fs ls (daysJ fs ds b k)).length = fs.length := by rw [later_len, lsl]
                generalize toldOf fs k ls (daysJ fs ds b k) = told at hws tok tle lro19 hL19
                generalize later fs ls (daysJ fs ds b k) = ls' at lro19 hL19 lll
                refine g_cutE (fun v H' => Same H19 H' ∧ Dp K H' v (rotD (rotNext ro told))) ?_ ?_
                · cases ro with
                  | some q =>
                    obtain ⟨D, zz⟩ := q
                    obtain ⟨tq, _, rfl, _, _⟩ := hrv19.inv_t
                    walk_at "go"
                    refine if_F (by simp) ?_
                    refine if_F (by simp) ?_
                    walk_at "go"
                    exact ⟨Same.refl _, hrv19⟩
                  | none =>
                    obtain rfl := hrv19.inv_n
                    walk_at "go"
                    refine if_T (by simp) ?_
                    walk_at "go"
                    refine n_lst (by simp) fun e0 H20 ne0 s20 he0 => ?_
                    refine g_ne_d (.list (told.map pRot)) (.list []) (dp_lst (s20 _ _ htr) (s20.dpa hws)) (dp_lst he0 .nil) ((sh_told tok).ok (by decide)) (Sh.ok (n := 1) (sh_l fun x hx => by cases hx) (by decide)) ?_
                    rw [eqv_nil]
                    have htr20 := s20 _ _ htr
                    walk_at "go"
                    cases told with
                    | nil =>
                      refine if_F rfl ?_
                      walk_at "go"
                      exact ⟨s20, .non⟩
                    | cons q rest =>
                      refine if_T rfl ?_
                      obtain ⟨v, vs, rfl, hv1, hv2⟩ := hws.inv1
                      walk_at "go"
                      try refine g_ix_l (SqL.of htr20) atI_c0 ?_
                      exact ⟨s20, s20.dp hv1⟩
                rintro rv' H20 ⟨s20, hrv20⟩
                generalize rotNext ro told = ro' at lro19 hrv20
                have st20 := st19.same s20
                have hL20 := hL19.same s20
                have hg20 := s20 _ _ hg19
                have rok : ∀ D y, ro' = some (D, y) → PyData.strOk y = true := fun D y e => by
                  subst e
                  obtain ⟨g2, hg2, rfl⟩ := List.mem_map.mp (rot_in lro19.2.2)
                  exact (fok.nm g2 hg2).str
                clear hrv hrv18 hrv19 hws htr ntr hL19 hL18 hL17 st17 st18 st19 hg17 hg18 hg19 k19 tk19 hlv hpp ht ht18 hjs hjs'
                walk_at "go"
                refine n_forL (SqL.of st20.nms) (fun i σ H' => ∃ (w6 w17 : Option V), σ = [some (.ref a), some (.ref d), some (.int it), some (.ref fl), some (.ref fa), some (.ref nm), w6, u7, some (.ref dl), u9, some (.ref pl), some (.int N), some (.ref lv), some (.ref g), some rv', some (.int (k : Nat)), some (.ref tr), w17, u18, u19, u20, u21] ∧ Std K CF CP H' d l fa pl nm p fs ds b ∧ LiveAt K CL CM CF H' lv p fs (k + 1) ls' [] (gs ++ told) (n + (dayOf ds b k).length + 1) ∧ Dp K H' rv' (rotD ro') ∧ H' g = some (.dK (signK fs fun z => sgnS ds b r z (if z ∈ (fs.map (·.1)).take i then k + 1 else k))))
                  ⟨w6, v17, rfl, st20, hL20, hrv20, by simpa using hg20⟩ (fun i σ H' ⟨_, _, _, h, _⟩ => SqL.of h.nms) ?_ ?_
                · rintro i y σ H21 hy ⟨w6, w17, rfl, st21, hL21, hrv21, hg21⟩
                  obtain ⟨z, hz, rfl⟩ := getm hy
                  have zm : z ∈ fs.map (·.1) := List.mem_of_getElem? hz
                  have zs : PyData.strOk z = true := by
                    obtain ⟨g2, hg2, rfl⟩ := List.mem_map.mp zm
                    exact (fok.nm g2 hg2).str
                  have zno : z ∉ (fs.map (·.1)).take i := fun q => by
                    obtain ⟨j, hj⟩ := List.mem_iff_getElem?.mp q
                    rw [List.getElem?_take] at hj
                    split at hj
                    · rename_i lt
                      have := (List.getElem?_inj (by have := (List.getElem?_eq_some_iff.mp hj).1; exact this) fok.nd).mp (hj.trans hz.symm)
                      omega
                    · cases hj
                  walk_at "go"
                  refine g_cutE (fun v H' => Same H21 H' ∧ v = .str (if ro' = some (k, z) then "!" else ".")) ?_ ?_
                  · walk_at "go"
                    refine n_tup (by simp [sizeLine_eq]) fun t2 H22 nt2 s22 ht2 => ?_
                    obtain ⟨shr, eqr⟩ := dp_rot (r := ro') (k := k) (z := z) zs rok
                    refine g_eq_d (rotD ro') (.tuple [.int (k : Nat), .str z]) (s22.dp hrv21) (dp_tup ht2 (.cons (.int _) (.cons (.str _) .nil))) (shr.ok (by decide)) ((sh_rot1 (q := (k, z)) zs).ok (by decide)) ?_
                    rw [eqr]
                    walk_at "go"
                    refine if_D (fun e2 => ?_) (fun e2 => ?_)
                    · walk_at "go"
                      exact ⟨s22, by rw [if_pos e2]⟩
                    · walk_at "go"
                      exact ⟨s22, by rw [if_neg e2]⟩
                  rintro _ H22 ⟨s22, rfl⟩
                  have st22 := st21.same s22
                  have hg22 := s22 _ _ hg21
                  have hpl22 := st22.plan
                  obtain ⟨qx, qt, hqi, hqv⟩ := hpl22
                  walk_at "go"
                  refine n_dgetS hg22 (signK_val zm) ?_
                  rw [if_neg zno]
                  walk_at "go"
                  refine g_cutE (fun v H' => H' = H22 ∧ v = .str ⟨#[sgnC ds b r z k]⟩) ?_ ?_
                  · walk_at "go"
                    refine n_ownIx hqi ⟨pl, ds, b, k, rfl, st22.plan, dk, by show (k : Int) ≤ BIG; unfold BIG; omega, fun t5 ht5 => ?_⟩
                    refine g_in_seq (.inr ht5) rfl (flat_strs _) ?_
                    rw [inV_strs]
                    walk_at "go"
                    refine if_D (fun e1 => ?_) (fun e1 => ?_)
                    · walk_at "go"
                      refine ⟨rfl, ?_⟩
                      unfold sgnC
                      rw [if_pos e1]
                      rfl
                    · walk_at "go"
                      refine ⟨rfl, ?_⟩
                      have es := lro19.sign isr z
                      unfold sgnC
                      rw [if_neg e1]
                      by_cases e2 : ro' = some (k, z)
                      · rw [if_pos e2, if_pos (es ▸ e2)]
                        rfl
                      · rw [if_neg e2, if_neg (fun q => e2 (es.symm ▸ q))]
                        rfl
                  rintro _ H23 ⟨e23, rfl⟩
                  obtain rfl := e23.symm
                  have sl := sgnS_len ds b r z k
                  refine g_add_s (by rw [sl, sizeLine_eq]; show k + 1 ≤ _; omega) ?_
                  rw [sgnS_succ]
                  walk_at "go"
                  refine n_dputS hg22 (by simp [signK, sizeLine_eq]; omega) fun H24 k24 hg24 => ?_
                  walk_at "go"
                  refine ⟨_, _, rfl, st22.dict hg22 k24, (hL21.same s22).dict hg22 k24, dp_tk (tk_dict hg22 k24) _ _ (noL_rot ro') (s22.dp hrv21), ?_⟩
                  rw [hg24, signK_put zm]
                  congr 2
                  apply List.map_congr_left
                  intro f hf
                  rw [app_tail _ _ hz]
                  show (Sum.inr f.1, V.str (if f.1 = z then sgnS ds b r z (k + 1) else sgnS ds b r f.1 (if f.1 ∈ (fs.map (·.1)).take i then k + 1 else k))) = (Sum.inr f.1, V.str (sgnS ds b r f.1 (if f.1 ∈ (fs.map (·.1)).take i ++ [z] then k + 1 else k)))
                  by_cases q : f.1 = z
                  · rw [if_pos q, if_pos (by simp [q]), q]
                  · have : (f.1 ∈ (fs.map (·.1)).take i ++ [z]) = (f.1 ∈ (fs.map (·.1)).take i) := propext ⟨fun h => (List.mem_append.mp h).elim id fun h => absurd (List.mem_singleton.mp h) q, fun h => List.mem_append_left _ h⟩
                    rw [if_neg q]
                    simp only [this]
                · rintro σ H21 ⟨w6, w17, rfl, st21, hL21, hrv21, hg21⟩
                  refine ⟨w6, _, _, _, rv', ro', ls', gs ++ told, _, rfl, st21, hL21, by omega, by simp; omega, lll, lro19, hrv21, ?_⟩
                  rw [hg21]
                  congr 2
                  apply List.map_congr_left
                  intro f hf
                  have whole : (fs.map (·.1)).take ((fs.map (·.1)).map V.str).length = fs.map (·.1) := List.take_of_length_le (by simp)
                  rw [whole]
                  have q : f.1 ∈ fs.map (·.1) := List.mem_map.mpr ⟨f, hf, rfl⟩
                  show (Sum.inr f.1, V.str (sgnS ds b r f.1 (if f.1 ∈ fs.map (·.1) then k + 1 else k))) = (Sum.inr f.1, V.str (sgnS ds b r f.1 (k + 1)))
                  rw [if_pos q]
            · rintro σ H17 ⟨v6, v15, v16, v17, rv, ro, ls, gs, n, rfl, st17, hL17, nk, gk, lsl, lro, hrv, hg17⟩
              simp only [Int.toNat_natCast] at hL17 nk gk lro hg17
              have rok : ∀ D y, r = some (D, y) → PyData.strOk y = true := fun D y e => by
                subst e
                obtain ⟨g2, hg2, rfl⟩ := List.mem_map.mp (rot_in isr.2)
                exact (fok.nm g2 hg2).str
              have shr : Sh 1 (rotD r) := (dp_rot (r := r) (k := 0) (z := "") (by decide +kernel) rok).1
              walk_at "go"
              refine g_cutT (fun c H' => c = false ∧ Same H17 H') ?_ ?_
              · cases ro with
                | none =>
                  obtain rfl := hrv.inv_n
                  walk_at "go"
                  refine if_F (by simp) ?_
                  exact ⟨rfl, Same.refl _⟩
                | some q =>
                  obtain rfl := lro.same isr
                  have hrv' := hrv
                  obtain ⟨tq, _, rfl, _, _⟩ := hrv'.inv_t
                  walk_at "go"
                  refine if_T (by simp) ?_
                  walk_at "go"
                  refine n_rot st17.farm fok st17.plan dk known isr fun v H18 s18 hv => ?_
                  walk_at "go"
                  refine g_ne_d (rotD (some q)) (rotD (some q)) hv (s18.dp hrv) (shr.ok (by decide)) (shr.ok (by decide)) ?_
                  rw [eqv_refl shr]
                  walk_at "go"
                  exact ⟨rfl, s18⟩
              rintro _ H18 ⟨rfl, s18⟩
              refine if_F rfl ?_
              have st18 := st17.same s18
              have hrv18 := s18.dp hrv
              walk_at "go"
              refine g_cutT (fun c H' => c = false ∧ Same H18 H') ?_ ?_
              · cases ro with
                | some q =>
                  obtain ⟨tq, _, rfl, _, _⟩ := hrv18.inv_t
                  walk_at "go"
                  refine if_F (by simp) ?_
                  exact ⟨rfl, Same.refl _⟩
                | none =>
                  obtain rfl := hrv18.inv_n
                  walk_at "go"
                  refine if_T (by simp) ?_
                  walk_at "go"
                  refine n_rot st18.farm fok st18.plan dk known isr fun v H19 s19 hv => ?_
                  cases r with
                  | none =>
                    obtain rfl := hv.inv_n
                    walk_at "go"
                    refine if_F (by simp) ?_
                    exact ⟨rfl, s19⟩
                  | some q =>
                    obtain ⟨D, zz⟩ := q
                    obtain ⟨tq, _, rfl, _, _⟩ := hv.inv_t
                    walk_at "go"
                    refine if_T (by simp) ?_
                    walk_at "go"
                    have st19 := st18.same s19
                    refine n_rot st19.farm fok st19.plan dk known isr fun v H20 s20 hv2 => ?_
                    obtain ⟨tq2, ws, rfl, hT2, hW⟩ := hv2.inv_t
                    obtain ⟨w1, w2, rfl, hw1, hw2⟩ := hW.inv2
                    obtain rfl := hw1.inv_i
                    walk_at "go"
                    try refine g_ix_t hT2 atI_c0 ?_
                    walk_at "go"
                    have late := lro.late isr
                    exact ⟨decide_eq_false (by omega), s19.trans s20⟩
              rintro _ H19 ⟨rfl, s19⟩
              refine if_F rfl ?_
              have st19 := st18.same s19
              have hg19 := s19 _ _ (s18 _ _ hg17)
              clear st17 st18 hL17 hrv hrv18 hg17
              walk_at "go"
              refine ⟨fa, pl, N, fs, ds, b, r, rfl, st19.farm, fok, st19.plan, dk, known, N1, N60, isr, fun H20 s20 => ?_⟩
              walk_at "go"
              have n8 : ∀ g2 ∈ fs, g2.1.length ≤ 8 := fun g2 h2 => (fok.nm g2 h2).wd.le
              have clen := chart_len (ds := ds) (b := b) (r := r) (N := N) fok (by omega)
              refine g_split (by decide +kernel) (by rw [sizeLine_eq]; omega) fun li H21 nli s21 hli => ?_
              rw [chart_split fok] at hli
              have s1921 := s20.trans s21
              have st21 := st19.same s1921
              have hg21 := s1921 _ _ hg19
              have hnm21 := st21.nms
              clear st19 hg19
              walk_at "go"
              refine if_F (by simp) ?_
              walk_at "go"
              refine n_forR1 (by simp <;> omega) (by simp <;> omega) (fun j σ H' => ∃ w9 w19 w20 w21 : Option V, σ = [some (.ref a), some (.ref d), some (.int it), some (.ref fl), some (.ref fa), some (.ref nm), v6, u7, some (.ref dl), w9, some (.ref pl), some (.int N), some (.ref lv), some (.ref g), some rv, v15, v16, v17, some (.ref li), w19, w20, w21] ∧ Same H21 H') ⟨_, _, _, _, rfl, Same.refl _⟩ ?_ ?_
              · rintro j σ H22 hj ⟨w9, w19, w20, w21, rfl, s22⟩
                have hj' : j < fs.length := by simp at hj; omega
                have hfj : fs[j]? = some fs[j] := List.getElem?_eq_getElem hj'
                have st22 := st21.same s22
                have hg22 := s22 _ _ hg21
                have hnm22 := SqL.of (K := K) st22.nms
                have hli22 := SqL.of (K := K) (s22 _ _ hli)
                have zm : fs[j].1 ∈ fs.map (·.1) := List.mem_map.mpr ⟨_, List.getElem_mem hj', rfl⟩
                have nmj := fok.nm fs[j] (List.getElem_mem hj')
                have z8 : fs[j].1.length ≤ 8 := nmj.wd.le
                have ixN : atI ((fs.map (·.1)).map V.str) (j : Int) = some (.str fs[j].1) := atI_nat (by rw [List.getElem?_map, List.getElem?_map, hfj]; rfl)
                have ixL : atI ((fs.map fun f => lineT ds b r N f.1).map V.str) (j : Int) = some (.str (lineT ds b r N fs[j].1)) := atI_nat (by rw [List.getElem?_map, List.getElem?_map, hfj]; rfl)
                have cl := cntD_le ds b fs[j].1 N
                have c4 := cnt_len (n := N) (by omega) ds b fs[j].1
                have hq22 := st22.plan
                obtain ⟨qx, qt, hqi, hqv⟩ := hq22
                generalize hz : fs[j].1 = z at *
                walk_at "go"
                refine g_ix_l hnm22 ixN ?_
                walk_at "go"
                refine n_dgetS hg22 (signK_val zm) ?_
                walk_at "go"
                refine ⟨_, _, rfl, rfl, ?_⟩
                rw [show ("#" : Str) = ⟨#[35]⟩ by decide +kernel, count_one, cnt_sgn]
                walk_at "go"
                refine g_strI (num_small (Int.natCast_nonneg _) (by omega)) ?_
                generalize hc : numS ((cntD ds b z N : Nat) : Int) = cs at *
                walk_at "go"
                refine g_ix_l hnm22 ixN ?_
                walk_at "go"
                refine g_ix_l hnm22 ixN ?_
                walk_at "go"
                refine g_len_s (by rw [sizeLine_eq]; omega) ?_
                walk_at "go"
                refine g_blanks (by omega) (by omega) ?_
                have eb : ((8 : Int) - (z.length : Int)).toNat = 8 - z.length := by omega
                rw [eb]
                have padR_eq : z ++ blanks (8 - z.length) = padR z := str_ext (by rw [TL.tl_append]; unfold padR blanks; simp [TL.tl])
                have lp : (z ++ blanks (8 - z.length)).length = 8 := by rw [padR_eq, padR_len z8]
                refine g_add_s (by rw [← app_len, lp, sizeLine_eq]; omega) ?_
                walk_at "go"
                refine g_ix_l hnm22 ixN ?_
                walk_at "go"
                refine n_dgetS hg22 (signK_val zm) ?_
                refine g_add_s (by rw [lp, sgnS_len, sizeLine_eq]; omega) ?_
                rw [padR_eq]
                walk_at "go"
                refine g_len_s (by rw [sizeLine_eq]; omega) ?_
                walk_at "go"
                refine g_blanks (by omega) (by omega) ?_
                have eb2 : ((5 : Int) - (cs.length : Int)).toNat = 5 - cs.length := by omega
                rw [eb2]
                have lq : (padR z ++ sgnS ds b r z N).length = 8 + N := by rw [app_len, padR_len z8, sgnS_len]
                have lb : (blanks (5 - cs.length)).length = 5 - cs.length := by show (blanks _).cps.size = _; unfold blanks; simp
                refine g_add_s (by rw [lq, lb, sizeLine_eq]; omega) ?_
                walk_at "go"
                refine g_add_s (by rw [app_len, lq, lb, sizeLine_eq]; omega) ?_
                have el : padR z ++ sgnS ds b r z N ++ blanks (5 - cs.length) ++ cs = lineT ds b r N z := by
                  unfold lineT
                  rw [hc]
                  exact str_ext (by unfold padL blanks; simp [TL.tl_append, TL.tl])
                rw [el]
                walk_at "go"
                refine n_listM hqi (plan_no _ _) ?_
                walk_at "go"
                refine g_ix_l hnm22 ixN ?_
                walk_at "go"
                have eN : ((N : Int) - 1) = ((0 + (N - 1) : Nat) : Int) := by omega
                have eN1 : N - 1 + 1 = N := by omega
                refine ⟨pl, z, 0, N - 1, ds, b, by rw [eN]; rfl, st22.plan, dk, by unfold BIG; omega, by omega, fun q hq => ?_⟩
                rw [eN1]
                have eh : (hits ds b z 0 N).length = cntD ds b z N := by simp [hits, inDay, cntD]
                have s23 : Same H22 (upd H22 q (.lst ((hits ds b z 0 N).map natV))) := same_new hq
                have hq23 : upd H22 q (.lst ((hits ds b z 0 N).map natV)) q = some (.lst ((hits ds b z 0 N).map natV)) := upd_same
                generalize upd H22 q (.lst ((hits ds b z 0 N).map natV)) = H23 at s23 hq23 ⊢
                walk_at "go"
                refine g_ix_l (same_l s23 hli22) ixL ?_
                walk_at "go"
                refine if_F (by simp) ?_
                walk_at "go"
                subst hc
                refine g_intS (PySem.W.KIN.num_reads (Int.natCast_nonneg _) (by omega)) (by omega) ?_
                walk_at "go"
                refine if_F (by simp [eh]) ?_
                walk_at "go"
                exact ⟨_, _, _, _, rfl, s22.trans s23⟩
              · rintro σ H22 ⟨w9, w19, w20, w21, rfl, s22⟩
                exact ⟨_, _, _, _, _, _, _, _, _, _, _, _, _, _, _, _, _, _, _, _, rfl, (st21.same s22).src⟩
    · rintro σ H2 ⟨u2, u3, u4, u5, u6, u7, u8, u9, u10, u11, u12, u13, u14, u15, u16, u17, u18, u19, u20, u21, rfl, c2⟩
      walk_at "go"
      exact kq H2
end

end
section
end
end HC
namespace HC
open PyProof.Rows PySem L2 PySem.Spec

def endFx : List Tst := [fun K => propB K (He.ga K "Farm") "fields",
  fun K => propB K (He.ga K "Farm") "names",
  fun K => propB K (He.ga K "Farm") "limits",
  fun K => propB K (He.ga K "Plan") "days",
  fun K => propB K (He.ga K "Plan") "lead",
  fun K => gconB K (He.ga K "Farm") "MAX_FIELDS" (.int 6),
  fun K => gconB K (He.ga K "Farm") "MAX_STATES" (.int 4000),
  fun K => PySem.W.selfFirst K (He.ga K "Farm")]
def endFa : List He.Fa := [.free "len",
  .free "abs",
  .free "min",
  .free "max",
  .free "all",
  .free "any",
  .free "sum",
  .free "isinstance",
  .free "list",
  .free "tuple",
  .free "int",
  .free "str",
  .free "bool",
  .free "dict",
  .free "range",
  .free "enumerate",
  .free "zip",
  .free "sorted",
  .free "set",
  .str "LETTERS" "abcdefghijklmnopqrstuvwxyz",
  .str "DIGITS" "0123456789",
  .str "LEAD" "lead",
  .str "NOBODY" "-",
  .str "HARVEST" "harvest",
  .str "WAIT" "wait",
  .int "MAX_LETTERS" 8,
  .int "MAX_DAY" 1000000000000000000,
  .int "MAX_DAYS" 5000,
  .int "MAX_DIGITS" 4,
  .int "MAX_LIMIT" 30,
  .int "MAX_SHOWN" 60,
  .int "MAX_WAIT" 1000,
  .glo "Farm",
  .cls "Farm",
  .glo "Plan",
  .cls "Plan",
  .glo "Moment",
  .cls "Moment",
  .glo "LiveFarm",
  .cls "LiveFarm",
  .glo "validate_number",
  .glo "is_name",
  .glo "require_field",
  .glo "place_of",
  .glo "require_known",
  .glo "left_after",
  .glo "first_rot",
  .glo "is_number",
  .glo "parse_plan",
  .glo "chart",
  .glo "replaced",
  .glo "_law_mix",
  .glo "_law_next",
  .glo "_law_fields",
  .glo "_law_farm",
  .glo "_law_text",
  .glo "_law_some",
  .glo "law",
  .noat "Farm" "rows",
  .noat "Plan" "parts",
  .noat "Plan" "begin",
  .noat "Moment" "day",
  .noat "Moment" "spans",
  .noat "Moment" "left",
  .noat "Moment" "done",
  .noat "Moment" "gone",
  .noat "LiveFarm" "farm",
  .noat "LiveFarm" "moment",
  .noat "LiveFarm" "past",
  .noat "LiveFarm" "undone",
  .meth "Farm" "__len__",
  .meth "Farm" "__add__",
  .meth "Plan" "__getitem__",
  .meth "Plan" "harvests",
  .meth "Moment" "later",
  .meth "LiveFarm" "enter",
  .meth "LiveFarm" "harvest",
  .meth "LiveFarm" "wait",
  .mkr "Farm",
  .mkr "Moment",
  .mkr "LiveFarm",
  .mkr "Plan"]
def endFn : List He5.DefA := [⟨fun K => He.ga K "validate_number", "validate_number", "validate_number", defArgs s_validate_number, defBody s_validate_number, defScope s_validate_number, [], []⟩,
  ⟨fun K => He.ga K "is_name", "is_name", "is_name", defArgs s_is_name, defBody s_is_name, defScope s_is_name, [], []⟩,
  ⟨fun K => He.ga K "require_field", "require_field", "require_field", defArgs s_require_field, defBody s_require_field, defScope s_require_field, [], []⟩,
  ⟨fun K => He.ga K "place_of", "place_of", "place_of", defArgs s_place_of, defBody s_place_of, defScope s_place_of, [], []⟩,
  ⟨fun K => He.ga K "require_known", "require_known", "require_known", defArgs s_require_known, defBody s_require_known, defScope s_require_known, [], []⟩,
  ⟨fun K => He.ga K "left_after", "left_after", "left_after", defArgs s_left_after, defBody s_left_after, defScope s_left_after, [], []⟩,
  ⟨fun K => He.ga K "first_rot", "first_rot", "first_rot", defArgs s_first_rot, defBody s_first_rot, defScope s_first_rot, [], []⟩,
  ⟨fun K => He.ga K "is_number", "is_number", "is_number", defArgs s_is_number, defBody s_is_number, defScope s_is_number, [], []⟩,
  ⟨fun K => He.ga K "parse_plan", "parse_plan", "parse_plan", defArgs s_parse_plan, defBody s_parse_plan, defScope s_parse_plan, [], []⟩,
  ⟨fun K => He.ga K "chart", "chart", "chart", defArgs s_chart, defBody s_chart, defScope s_chart, [], []⟩,
  ⟨fun K => He.ga K "replaced", "replaced", "replaced", defArgs s_replaced, defBody s_replaced, defScope s_replaced, [], []⟩,
  ⟨fun K => He.ga K "_law_mix", "_law_mix", "_law_mix", defArgs s_law_mix, defBody s_law_mix, defScope s_law_mix, [], []⟩,
  ⟨fun K => He.ga K "_law_next", "_law_next", "_law_next", defArgs s_law_next, defBody s_law_next, defScope s_law_next, [], []⟩,
  ⟨fun K => He.ga K "_law_fields", "_law_fields", "_law_fields", defArgs s_law_fields, defBody s_law_fields, defScope s_law_fields, [], []⟩,
  ⟨fun K => He.ga K "_law_farm", "_law_farm", "_law_farm", defArgs s_law_farm, defBody s_law_farm, defScope s_law_farm, [], []⟩,
  ⟨fun K => He.ga K "_law_text", "_law_text", "_law_text", defArgs s_law_text, defBody s_law_text, defScope s_law_text, [], []⟩,
  ⟨fun K => He.ga K "_law_some", "_law_some", "_law_some", defArgs s_law_some, defBody s_law_some, defScope s_law_some, [], []⟩,
  ⟨fun K => He.ga K "law", "law", "law", defArgs s_law, defBody s_law, defScope s_law, [], []⟩,
  ⟨fun K => He.ma K (He.ga K "Farm") "__len__", "__len__", "Farm.__len__", defArgs s_Farm___len__, defBody s_Farm___len__, defScope s_Farm___len__, [], []⟩,
  ⟨fun K => He.ma K (He.ga K "Farm") "__add__", "__add__", "Farm.__add__", defArgs s_Farm___add__, defBody s_Farm___add__, defScope s_Farm___add__, [], []⟩,
  ⟨fun K => He.ma K (He.ga K "Plan") "__getitem__", "__getitem__", "Plan.__getitem__", defArgs s_Plan___getitem__, defBody s_Plan___getitem__, defScope s_Plan___getitem__, [], []⟩,
  ⟨fun K => He.ma K (He.ga K "Plan") "harvests", "harvests", "Plan.harvests", defArgs s_Plan_harvests, defBody s_Plan_harvests, defScope s_Plan_harvests, [], []⟩,
  ⟨fun K => He.ma K (He.ga K "Moment") "later", "later", "Moment.later", defArgs s_Moment_later, defBody s_Moment_later, defScope s_Moment_later, [], []⟩,
  ⟨fun K => He.ma K (He.ga K "LiveFarm") "enter", "enter", "LiveFarm.enter", defArgs s_LiveFarm_enter, defBody s_LiveFarm_enter, defScope s_LiveFarm_enter, [], []⟩,
  ⟨fun K => He.ma K (He.ga K "LiveFarm") "harvest", "harvest", "LiveFarm.harvest", defArgs s_LiveFarm_harvest, defBody s_LiveFarm_harvest, defScope s_LiveFarm_harvest, [], []⟩,
  ⟨fun K => He.ma K (He.ga K "LiveFarm") "wait", "wait", "LiveFarm.wait", defArgs s_LiveFarm_wait, defBody s_LiveFarm_wait, defScope s_LiveFarm_wait, [], []⟩,
  ⟨fun K => He.ma K (He.ga K "Farm") "__init__", "__init__", "Farm.__init__", defArgs s_Farm___init__, defBody s_Farm___init__, defScope s_Farm___init__, [], []⟩,
  ⟨fun K => He.ma K (He.ga K "Moment") "__init__", "__init__", "Moment.__init__", defArgs s_Moment___init__, defBody s_Moment___init__, defScope s_Moment___init__, [], []⟩,
  ⟨fun K => He.ma K (He.ga K "LiveFarm") "__init__", "__init__", "LiveFarm.__init__", defArgs s_LiveFarm___init__, defBody s_LiveFarm___init__, defScope s_LiveFarm___init__, [], []⟩,
  ⟨fun K => He.ma K (He.ga K "Plan") "__init__", "__init__", "Plan.__init__", defArgs s_Plan___init__, defBody s_Plan___init__, defScope s_Plan___init__, [], [("lead", .int 0)]⟩,
  ⟨fun K => pgA K (He.ga K "Farm") "fields", "fields", "Farm.fields", defArgs s_Farm_fields, defBody s_Farm_fields, defScope s_Farm_fields, [], []⟩,
  ⟨fun K => pgA K (He.ga K "Farm") "names", "names", "Farm.names", defArgs s_Farm_names, defBody s_Farm_names, defScope s_Farm_names, [], []⟩,
  ⟨fun K => pgA K (He.ga K "Farm") "limits", "limits", "Farm.limits", defArgs s_Farm_limits, defBody s_Farm_limits, defScope s_Farm_limits, [], []⟩,
  ⟨fun K => pgA K (He.ga K "Plan") "days", "days", "Plan.days", defArgs s_Plan_days, defBody s_Plan_days, defScope s_Plan_days, [], []⟩,
  ⟨fun K => pgA K (He.ga K "Plan") "lead", "lead", "Plan.lead", defArgs s_Plan_lead, defBody s_Plan_lead, defScope s_Plan_lead, [], []⟩]
abbrev endR : PySem.W.OpenRow := PySem.W.OpenLaw.row PySem.Challenge.rw_harvestcarts_k59_whole_charts_of_worked
abbrev endHk : PySem.W.Hook := hookJ 5 endFx endFa endFn
def endOb (s : PySem.W.SharedT) : He.AlD × Bool := obsJG 5 endFx endFa endFn (HandSHeadRun.getT s)
theorem endOb_eq (s : PySem.W.SharedT) : endOb s = endHk.obs s.abs := obsJG_eq (HandSHeadRun.getT_eq s)
def endNames0 : List Str := ["_wall", "FarmError", "InvalidFarm", "TooManyStates", "UnknownField", "InvalidPlan", "InvalidNumber", "InvalidText", "LETTERS", "MAX_LETTERS", "MAX_LIMIT", "MAX_DAY", "validate_number", "is_name", "Farm", "require_field", "MAX_DAYS", "Plan", "place_of", "require_known"]
def endNames1 : List Str := ["left_after", "first_rot", "DIGITS", "MAX_DIGITS", "LEAD", "NOBODY", "MAX_SHOWN", "is_number", "parse_plan", "chart", "MAX_WAIT", "HARVEST", "WAIT", "replaced", "Moment", "LiveFarm", "_law_mix", "_law_next", "_law_fields", "_law_farm"]
def endNames2 : List Str := ["_law_text", "_law_some"]
def endNames : List Str := endNames0 ++ endNames1 ++ endNames2
theorem endRun (w : World) : HandSHeadRun.RunEq endR (PySem.W.view endR.prog [48]) endHk endOb 40000 endNames w := by
  intro os
  kernel_rfl
theorem endFacts {P : Program} {w : World} {K : PySem.W.Frag} {h : Heap} {mg : Str → Option Value} {f : Addr} (X : K.In h) (G : h.Ns mainGlobals mg) (hfa : mg ("law" : Str) = some (.ref f)) (c : SaysJ endFx endFa endFn K) :
    ∃ fd : FuncData, (∀ (s : Shared) (v : Value), BindsTo s fd ⟨[v], []⟩ [("_law_script", v)]) ∧ ∀ base : Heap, K.In base → base.Ns mainGlobals mg → FnOk P w K mg base CX0 14 f fd ["_law_script"] (sp_law K) := by
  have hB : Bts mg := ⟨He.free_ok X G (c.base.fact 0 rfl), He.free_ok X G (c.base.fact 1 rfl), He.free_ok X G (c.base.fact 2 rfl), He.free_ok X G (c.base.fact 3 rfl), He.free_ok X G (c.base.fact 4 rfl), He.free_ok X G (c.base.fact 5 rfl), He.free_ok X G (c.base.fact 6 rfl), He.free_ok X G (c.base.fact 7 rfl), He.free_ok X G (c.base.fact 8 rfl), He.free_ok X G (c.base.fact 9 rfl), He.free_ok X G (c.base.fact 10 rfl), He.free_ok X G (c.base.fact 11 rfl), He.free_ok X G (c.base.fact 12 rfl), He.free_ok X G (c.base.fact 13 rfl), He.free_ok X G (c.base.fact 14 rfl), He.free_ok X G (c.base.fact 15 rfl), He.free_ok X G (c.base.fact 16 rfl), He.free_ok X G (c.base.fact 17 rfl), He.free_ok X G (c.base.fact 18 rfl)⟩
  have g_Farm : mg "Farm" = some (.ref (He.ga K "Farm")) := He.glo_ok X G (c.base.fact 32 rfl)
  have g_Plan : mg "Plan" = some (.ref (He.ga K "Plan")) := He.glo_ok X G (c.base.fact 34 rfl)
  have g_Moment : mg "Moment" = some (.ref (He.ga K "Moment")) := He.glo_ok X G (c.base.fact 36 rfl)
  have g_LiveFarm : mg "LiveFarm" = some (.ref (He.ga K "LiveFarm")) := He.glo_ok X G (c.base.fact 38 rfl)
  have M : Md K mg := ⟨hB, He.str_ok X G (c.base.fact 19 rfl), He.str_ok X G (c.base.fact 20 rfl), He.str_ok X G (c.base.fact 21 rfl), He.str_ok X G (c.base.fact 22 rfl), He.str_ok X G (c.base.fact 23 rfl), He.str_ok X G (c.base.fact 24 rfl), He.int_ok X G (c.base.fact 25 rfl), He.int_ok X G (c.base.fact 26 rfl), He.int_ok X G (c.base.fact 27 rfl), He.int_ok X G (c.base.fact 28 rfl), He.int_ok X G (c.base.fact 29 rfl), He.int_ok X G (c.base.fact 30 rfl), He.int_ok X G (c.base.fact 31 rfl), gconB_ok g_Farm (c.more 5 rfl), gconB_ok g_Farm (c.more 6 rfl)⟩
  have cl_Farm : Cls K (He.ga K "Farm") := He.cls_ok (c.base.fact 33 rfl)
  have cl_Plan : Cls K (He.ga K "Plan") := He.cls_ok (c.base.fact 35 rfl)
  have cl_Moment : Cls K (He.ga K "Moment") := He.cls_ok (c.base.fact 37 rfl)
  have cl_LiveFarm : Cls K (He.ga K "LiveFarm") := He.cls_ok (c.base.fact 39 rfl)
  have na_Farm_rows : NoAttr K (He.ga K "Farm") "rows" := He.noat_ok (c.base.fact 58 rfl)
  have na_Plan_parts : NoAttr K (He.ga K "Plan") "parts" := He.noat_ok (c.base.fact 59 rfl)
  have na_Plan_begin : NoAttr K (He.ga K "Plan") "begin" := He.noat_ok (c.base.fact 60 rfl)
  have na_Moment_day : NoAttr K (He.ga K "Moment") "day" := He.noat_ok (c.base.fact 61 rfl)
  have na_Moment_spans : NoAttr K (He.ga K "Moment") "spans" := He.noat_ok (c.base.fact 62 rfl)
  have na_Moment_left : NoAttr K (He.ga K "Moment") "left" := He.noat_ok (c.base.fact 63 rfl)
  have na_Moment_done : NoAttr K (He.ga K "Moment") "done" := He.noat_ok (c.base.fact 64 rfl)
  have na_Moment_gone : NoAttr K (He.ga K "Moment") "gone" := He.noat_ok (c.base.fact 65 rfl)
  have na_LiveFarm_farm : NoAttr K (He.ga K "LiveFarm") "farm" := He.noat_ok (c.base.fact 66 rfl)
  have na_LiveFarm_moment : NoAttr K (He.ga K "LiveFarm") "moment" := He.noat_ok (c.base.fact 67 rfl)
  have na_LiveFarm_past : NoAttr K (He.ga K "LiveFarm") "past" := He.noat_ok (c.base.fact 68 rfl)
  have na_LiveFarm_undone : NoAttr K (He.ga K "LiveFarm") "undone" := He.noat_ok (c.base.fact 69 rfl)
  have G_validate_number : Gd K mg "validate_number" s_validate_number := by
    obtain ⟨fd, F⟩ := c.base.def_ 0 rfl
    exact ⟨_, fd, He.glo_ok X G (c.base.fact 40 rfl), F⟩
  have G_is_name : Gd K mg "is_name" s_is_name := by
    obtain ⟨fd, F⟩ := c.base.def_ 1 rfl
    exact ⟨_, fd, He.glo_ok X G (c.base.fact 41 rfl), F⟩
  have G_require_field : Gd K mg "require_field" s_require_field := by
    obtain ⟨fd, F⟩ := c.base.def_ 2 rfl
    exact ⟨_, fd, He.glo_ok X G (c.base.fact 42 rfl), F⟩
  have G_place_of : Gd K mg "place_of" s_place_of := by
    obtain ⟨fd, F⟩ := c.base.def_ 3 rfl
    exact ⟨_, fd, He.glo_ok X G (c.base.fact 43 rfl), F⟩
  have G_require_known : Gd K mg "require_known" s_require_known := by
    obtain ⟨fd, F⟩ := c.base.def_ 4 rfl
    exact ⟨_, fd, He.glo_ok X G (c.base.fact 44 rfl), F⟩
  have G_left_after : Gd K mg "left_after" s_left_after := by
    obtain ⟨fd, F⟩ := c.base.def_ 5 rfl
    exact ⟨_, fd, He.glo_ok X G (c.base.fact 45 rfl), F⟩
  have G_first_rot : Gd K mg "first_rot" s_first_rot := by
    obtain ⟨fd, F⟩ := c.base.def_ 6 rfl
    exact ⟨_, fd, He.glo_ok X G (c.base.fact 46 rfl), F⟩
  have G_is_number : Gd K mg "is_number" s_is_number := by
    obtain ⟨fd, F⟩ := c.base.def_ 7 rfl
    exact ⟨_, fd, He.glo_ok X G (c.base.fact 47 rfl), F⟩
  have G_parse_plan : Gd K mg "parse_plan" s_parse_plan := by
    obtain ⟨fd, F⟩ := c.base.def_ 8 rfl
    exact ⟨_, fd, He.glo_ok X G (c.base.fact 48 rfl), F⟩
  have G_chart : Gd K mg "chart" s_chart := by
    obtain ⟨fd, F⟩ := c.base.def_ 9 rfl
    exact ⟨_, fd, He.glo_ok X G (c.base.fact 49 rfl), F⟩
  have G_replaced : Gd K mg "replaced" s_replaced := by
    obtain ⟨fd, F⟩ := c.base.def_ 10 rfl
    exact ⟨_, fd, He.glo_ok X G (c.base.fact 50 rfl), F⟩
  have G_law_mix : Gd K mg "_law_mix" s_law_mix := by
    obtain ⟨fd, F⟩ := c.base.def_ 11 rfl
    exact ⟨_, fd, He.glo_ok X G (c.base.fact 51 rfl), F⟩
  have G_law_next : Gd K mg "_law_next" s_law_next := by
    obtain ⟨fd, F⟩ := c.base.def_ 12 rfl
    exact ⟨_, fd, He.glo_ok X G (c.base.fact 52 rfl), F⟩
  have G_law_fields : Gd K mg "_law_fields" s_law_fields := by
    obtain ⟨fd, F⟩ := c.base.def_ 13 rfl
    exact ⟨_, fd, He.glo_ok X G (c.base.fact 53 rfl), F⟩
  have G_law_farm : Gd K mg "_law_farm" s_law_farm := by
    obtain ⟨fd, F⟩ := c.base.def_ 14 rfl
    exact ⟨_, fd, He.glo_ok X G (c.base.fact 54 rfl), F⟩
  have G_law_text : Gd K mg "_law_text" s_law_text := by
    obtain ⟨fd, F⟩ := c.base.def_ 15 rfl
    exact ⟨_, fd, He.glo_ok X G (c.base.fact 55 rfl), F⟩
  have G_law_some : Gd K mg "_law_some" s_law_some := by
    obtain ⟨fd, F⟩ := c.base.def_ 16 rfl
    exact ⟨_, fd, He.glo_ok X G (c.base.fact 56 rfl), F⟩
  have G_Farm___len__ : Gm K (He.ga K "Farm") "__len__" "Farm.__len__" s_Farm___len__ := by
    obtain ⟨fd, F⟩ := c.base.def_ 18 rfl
    exact ⟨cl_Farm, _, fd, He.meth_ok (c.base.fact 70 rfl), F⟩
  have G_Farm___add__ : Gm K (He.ga K "Farm") "__add__" "Farm.__add__" s_Farm___add__ := by
    obtain ⟨fd, F⟩ := c.base.def_ 19 rfl
    exact ⟨cl_Farm, _, fd, He.meth_ok (c.base.fact 71 rfl), F⟩
  have G_Plan___getitem__ : Gm K (He.ga K "Plan") "__getitem__" "Plan.__getitem__" s_Plan___getitem__ := by
    obtain ⟨fd, F⟩ := c.base.def_ 20 rfl
    exact ⟨cl_Plan, _, fd, He.meth_ok (c.base.fact 72 rfl), F⟩
  have G_Plan_harvests : Gm K (He.ga K "Plan") "harvests" "Plan.harvests" s_Plan_harvests := by
    obtain ⟨fd, F⟩ := c.base.def_ 21 rfl
    exact ⟨cl_Plan, _, fd, He.meth_ok (c.base.fact 73 rfl), F⟩
  have G_Moment_later : Gm K (He.ga K "Moment") "later" "Moment.later" s_Moment_later := by
    obtain ⟨fd, F⟩ := c.base.def_ 22 rfl
    exact ⟨cl_Moment, _, fd, He.meth_ok (c.base.fact 74 rfl), F⟩
  have G_LiveFarm_enter : Gm K (He.ga K "LiveFarm") "enter" "LiveFarm.enter" s_LiveFarm_enter := by
    obtain ⟨fd, F⟩ := c.base.def_ 23 rfl
    exact ⟨cl_LiveFarm, _, fd, He.meth_ok (c.base.fact 75 rfl), F⟩
  have G_LiveFarm_harvest : Gm K (He.ga K "LiveFarm") "harvest" "LiveFarm.harvest" s_LiveFarm_harvest := by
    obtain ⟨fd, F⟩ := c.base.def_ 24 rfl
    exact ⟨cl_LiveFarm, _, fd, He.meth_ok (c.base.fact 76 rfl), F⟩
  have G_LiveFarm_wait : Gm K (He.ga K "LiveFarm") "wait" "LiveFarm.wait" s_LiveFarm_wait := by
    obtain ⟨fd, F⟩ := c.base.def_ 25 rfl
    exact ⟨cl_LiveFarm, _, fd, He.meth_ok (c.base.fact 77 rfl), F⟩
  have G_Farm_init : Gk K mg "Farm" (He.ga K "Farm") "Farm.__init__" s_Farm___init__ := by
    obtain ⟨fd, F⟩ := c.base.def_ 26 rfl
    exact ⟨g_Farm, _, fd, He.mkr_ok (c.base.fact 78 rfl), F⟩
  have G_Moment_init : Gk K mg "Moment" (He.ga K "Moment") "Moment.__init__" s_Moment___init__ := by
    obtain ⟨fd, F⟩ := c.base.def_ 27 rfl
    exact ⟨g_Moment, _, fd, He.mkr_ok (c.base.fact 79 rfl), F⟩
  have G_LiveFarm_init : Gk K mg "LiveFarm" (He.ga K "LiveFarm") "LiveFarm.__init__" s_LiveFarm___init__ := by
    obtain ⟨fd, F⟩ := c.base.def_ 28 rfl
    exact ⟨g_LiveFarm, _, fd, He.mkr_ok (c.base.fact 80 rfl), F⟩
  have G_Plan_init := (by
    obtain ⟨fd, F⟩ := c.base.def_ 29 rfl
    exact ⟨g_Plan, _, fd, He.mkr_ok (c.base.fact 81 rfl), F⟩ : GkK K mg "Plan" (He.ga K "Plan") "Plan.__init__" s_Plan___init__ [("lead", .int 0)])
  have G_Farm_fields : Gp K (He.ga K "Farm") "fields" "Farm.fields" s_Farm_fields := by
    obtain ⟨fd, F⟩ := c.base.def_ 30 rfl
    exact ⟨cl_Farm, _, _, fd, propB_ok (c.more 0 rfl), F⟩
  have G_Farm_names : Gp K (He.ga K "Farm") "names" "Farm.names" s_Farm_names := by
    obtain ⟨fd, F⟩ := c.base.def_ 31 rfl
    exact ⟨cl_Farm, _, _, fd, propB_ok (c.more 1 rfl), F⟩
  have G_Farm_limits : Gp K (He.ga K "Farm") "limits" "Farm.limits" s_Farm_limits := by
    obtain ⟨fd, F⟩ := c.base.def_ 32 rfl
    exact ⟨cl_Farm, _, _, fd, propB_ok (c.more 2 rfl), F⟩
  have G_Plan_days : Gp K (He.ga K "Plan") "days" "Plan.days" s_Plan_days := by
    obtain ⟨fd, F⟩ := c.base.def_ 33 rfl
    exact ⟨cl_Plan, _, _, fd, propB_ok (c.more 3 rfl), F⟩
  have G_Plan_lead : Gp K (He.ga K "Plan") "lead" "Plan.lead" s_Plan_lead := by
    obtain ⟨fd, F⟩ := c.base.def_ 34 rfl
    exact ⟨cl_Plan, _, _, fd, propB_ok (c.more 4 rfl), F⟩
  obtain ⟨fd, F⟩ := c.base.def_ 17 rfl
  have e := hfa.symm.trans (He.glo_ok X G (c.base.fact 57 rfl))
  cases e
  have b := FunD.bindsA (ps := ["_law_script"]) F fun _ _ _ _ _ _ us hl => match us, hl with | [_], _ => rfl
  refine ⟨fd, fun s v => b s [v] rfl, fun base _ _ => ?_⟩
  have FC : FarmC K (He.ga K "Farm") := ⟨cl_Farm, na_Farm_rows⟩
  have PC : PlanC K (He.ga K "Plan") := ⟨cl_Plan, na_Plan_parts, na_Plan_begin⟩
  have MC : MomC K (He.ga K "Moment") := ⟨cl_Moment, na_Moment_day, na_Moment_spans, na_Moment_left, na_Moment_done, na_Moment_gone⟩
  have LC : LiveC K (He.ga K "LiveFarm") := ⟨cl_LiveFarm, na_LiveFarm_farm, na_LiveFarm_moment, na_LiveFarm_past, na_LiveFarm_undone⟩
  have D1 : DefR P w K mg base "_law_mix" 2 (sp_law_mix K) := ok_law_mix M G_law_mix
  have D2 : DefR P w K mg base "_law_next" 2 (sp_law_next K) := ok_law_next M G_law_next
  have D3 := ok_law_some M G_law_some D2
  have D4 : DefR P w K mg base "_law_text" 2 (sp_law_text K) := ok_law_text M G_law_text
  have D5 := ok_law_fields M G_law_fields D2
  have D7 : DefR P w K mg base "is_name" 2 sp_is_name := ok_is_name M G_is_name
  have K1 := ok_farm_init M FC G_Farm_init D7
  have P1 : PropR P w K mg base (He.ga K "Farm") "fields" 2 (sp_farm_fields K (He.ga K "Farm")) := ok_farm_fields FC G_Farm_fields
  have P2 : PropR P w K mg base (He.ga K "Farm") "names" 2 (sp_farm_names K (He.ga K "Farm")) := ok_farm_names M FC G_Farm_names
  have P2B : PropR P w K mg base (He.ga K "Farm") "names" 2 (sp_farm_namesB K (He.ga K "Farm")) := ok_farm_namesB M FC G_Farm_names
  have P3 : PropR P w K mg base (He.ga K "Farm") "limits" 2 (sp_farm_limits K (He.ga K "Farm")) := ok_farm_limits M FC G_Farm_limits
  have M1 : MethR P w K mg base (He.ga K "Farm") "__len__" 2 (sp_farm_len K (He.ga K "Farm")) := ok_farm_len M FC G_Farm___len__
  have M2 := ok_farm_add M FC G_Farm___add__ K1
  have D6 := ok_law_farm M G_law_farm (c.more 7 rfl) K1 M2
  have K3 : MakeRK P w K mg base "Plan" (He.ga K "Plan") 4 "lead" (sp_plan_init K (He.ga K "Plan")) := ok_plan_init M PC G_Plan_init
  have P4 : PropR P w K mg base (He.ga K "Plan") "days" 2 (sp_plan_days (He.ga K "Plan")) := ok_plan_days PC G_Plan_days
  have P5 : PropR P w K mg base (He.ga K "Plan") "lead" 2 (sp_plan_lead (He.ga K "Plan")) := ok_plan_lead PC G_Plan_lead
  have D11 : DefR P w K mg base "is_number" 2 sp_is_number := ok_is_number M G_is_number
  have D12 := ok_parse M G_parse_plan D7 D11 K3
  have D13 : DefR P w K mg base "place_of" 2 (sp_place_of K) := ok_place_of M G_place_of
  have D14 : DefR P w K mg base "validate_number" 2 sp_valid := ok_valid M G_validate_number
  have M4 := ok_plan_getitem M PC G_Plan___getitem__ D14 D13
  have FI := fi_of G_Plan___getitem__
  have D15 := ok_require_field M G_require_field P2
  have D16 := ok_require_known M G_require_known P4 D15
  have D17 := ok_left_after M G_left_after P1
  have D18 := ok_first_rot M G_first_rot D16 D13 D17 P2 P3 P4 P5
  have D19 := ok_chart M G_chart D18 D14 P2 M4 FI
  have M5 := ok_plan_harvests M PC G_Plan_harvests D14 D13
  have D20 : DefR P w K mg base "replaced" 2 (sp_replaced K) := ok_replaced M G_replaced
  have K4 := ok_moment_init (P := P) (w := w) (base := base) M MC G_Moment_init
  have M6 := ok_later M MC G_Moment_later K4
  have M7 : MethR P w K mg base (He.ga K "LiveFarm") "enter" 2 (sp_enter K (He.ga K "LiveFarm") (He.ga K "Moment") (He.ga K "Farm")) := ok_enter M LC G_LiveFarm_enter
  have K5 := ok_live_init M LC G_LiveFarm_init K4 P3 M1
  have M8 := ok_harvest M LC MC G_LiveFarm_harvest D15 D20 K4 P2B M7
  have M9 := ok_wait M LC MC G_LiveFarm_wait D14 M6 P2 M7
  exact ok_law M F D1 D2 D3 D5 D6 D4 D12 D18 D19 K5 M8 M9 M4 FI M5
end HC
open PySem PySem.W PySem.Calls PyProof.Rows in
set_option maxRecDepth 100000 in set_option maxHeartbeats 0 in
theorem PySem.Challenge.cw_harvestcarts_k59_whole_charts_of_worked_holds : PySem.Challenge.rw_harvestcarts_k59_whole_charts_of_worked.Holds := by
  w_on; o_law
  refine HandSHeadRun.head_any (r := OpenLaw.row PySem.Challenge.rw_harvestcarts_k59_whole_charts_of_worked) (q := view (OpenLaw.row PySem.Challenge.rw_harvestcarts_k59_whole_charts_of_worked).prog [48]) (H := HC.endHk) (ob := HC.endOb) (M := 40000) (loose := HC.endNames) (d := HandSHeadRun.topDef (OpenLaw.row PySem.Challenge.rw_harvestcarts_k59_whole_charts_of_worked).prog 48) (kwd := []) HC.endOb_eq
    (by kernel_rfl) (fun s => by kernel_rfl) HC.endRun (by kernel_rfl) (by kernel_rfl) (by kernel_rfl) (by rfl) (by first | assumption | decide +kernel) (by decide +kernel) ⟨rfl, rfl, rfl, rfl, rfl, by decide +kernel⟩ ?hw ?hc
  case hw => w_witness2
  case hc =>
    refine L2.walk_ofE (l := PySem.Challenge.rw_harvestcarts_k59_whole_charts_of_worked) (n := 63) (k := 14) (x := "_law_script") (CX := L2.CX0) rfl (by decide) (by kernel_rfl) ⟨rfl, by decide, by decide⟩ ?F (fun _ _ _ _ z => z)
    intro w mg fa h Y G hmg0
    obtain ⟨K, KX, c⟩ := Y
    have hmg : mg (PySem.Str.ofString "law") = some (.ref fa) := by
      have e : (HandSHeadRun.topDef (OpenLaw.row PySem.Challenge.rw_harvestcarts_k59_whole_charts_of_worked).prog 48).name = ("law" : PySem.Str) := by kernel_rfl
      rw [← e]
      exact hmg0
    obtain ⟨fd, hb, hF⟩ := HC.endFacts (P := (PySem.Challenge.rw_harvestcarts_k59_whole_charts_of_worked).prog) (w := w) KX G hmg c
    exact ⟨K, fd, HC.sp_law K, KX, hb, fun H a ns hl _ hS => ⟨a, ns, rfl, hS, hl, fun _ => rfl⟩, hF⟩
namespace HC
section

end
end HC
