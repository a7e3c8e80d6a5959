import PyProof.Rows.All
import Wide.All
import OpenK.AllK
import Wide.FinOn
import KE.KStateDown
import KE.GoesNew
import KE.GoesMore
import HandS.ForMost
import HandS.ForExc
import HandS.Defaults
import HandS.Star
import HandS.Property
import HandS.ClsMeth
import HandS.IsInst
import HandS.Style
import HandS.TupAny
import HandS.Deep
import HandS.Replace
import HandS.Conv
import HandS.Walk
import HandS.Codes
import HandS.Zip
import HandS.Steps
import HandS.Evl
import Lean
import HandS.Head0
import HandS.Head1
import HandS.Head2
import HandS.HeadEnd
import HandS.HeadHook1
import HandS.HeadHook2
import HandS.HeadHook3
import HandS.HeadNt
import OpenK.KMeth
import KE.KOpsOwn
import KE.KStar
import PyProof.SetRoads
import PyProof.Rows.SetFrom
import PyProof.Rows.SetObj
import PyProof.WalksMore
import PyProof.ListStr
import HandS.GenYield
import HandS.GenCall
import HandS.GenList
import HandS.NamedTupSort
import PyProof.InstEq
import KE.KUnpackStar
import HandS.FStr
import HandS.Text
import PyProof.CallStr
import KE.KIntText
import HandS.ExcInit
import HandS.ExcField
import HandS.ExcOwn
import HandS.ExcIs
import HandS.TryMany
import HandS.SuiteRaise
import HandS.Lambda
import HandS.Nested
import KE.KDflt
import HandS.TryOnly
import HandS.EndTab
import HandS.HeadHook4
import HandS.HeadWalk
import HandS.NestedK
import KE.KExcIs
import KE.GoesComp
import PySem.Challenge.RW_harvestcarts_k42_invalid_bytes
set_option Elab.async false
set_option linter.all false
set_option maxRecDepth 100000
set_option maxHeartbeats 4100000
/-! promises of defs, methods, makers and properties, and how a call uses them: each by the layer's own rule -/
namespace HC
open PyProof.Rows PySem L2 PySem.Spec
abbrev CXW (P : Program) (w : World) : CXT := L2.CX P w
section
variable {P : Program} {w : World} {K : PySem.W.Frag}
variable {mg : Str → Option Value} {base : Heap} {k : Nat} {f : Addr} {sp : Sp}
/-- a def that takes its parameters by place and keeps sp -/
def FnU (P : Program) (w : World) (K : PySem.W.Frag) (mg : Str → Option Value) (base : Heap) (k : Nat) (f : Addr) (sp : Sp) : Prop := ∃ fd ps, FnOk P w K mg base (CXW P w) k f fd ps sp ∧ Binds K fd ps []
theorem fnr_mk {fd : FuncData} {ps : List Str} (F : FnOk P w K mg base (CXW P w) k f fd ps sp) (B : Binds K fd ps []) : FnU P w K mg base k f sp := ⟨fd, ps, F, B⟩
theorem FnU.raw (F : FnU P w K mg base k f sp) : FnR P w K mg base (CXW P w) k f sp := by
  obtain ⟨fd, ps, F, B⟩ := F
  refine FnR.imp (F.raw B .nil) fun vs H Q E h => ?_
  simpa using h
/-- the module's def x keeps sp -/
structure DefR (P : Program) (w : World) (K : PySem.W.Frag) (mg : Str → Option Value) (base : Heap) (x : Str) (k : Nat) (sp : Sp) : Prop where
  ex : ∃ f, mg x = some (.ref f) ∧ PySem.W.keepIn K (.ref f) = true ∧ FnU P w K mg base k f sp
/-- the method m of the class at C keeps sp -/
structure MethR (P : Program) (w : World) (K : PySem.W.Frag) (mg : Str → Option Value) (base : Heap) (C : Addr) (m : Str) (k : Nat) (sp : Sp) : Prop where
  cl : Cls K C
  ex : ∃ f, Meth K C m f ∧ FnR P w K mg base (CXW P w) k f sp
theorem MethR.at_ {C : Addr} {m : Str} (M : MethR P w K mg base C m k sp) : Meth K C m M.ex.choose := M.ex.choose_spec.1
theorem MethR.fn {C : Addr} {m : Str} (M : MethR P w K mg base C m k sp) : FnR P w K mg base (CXW P w) k M.ex.choose sp := M.ex.choose_spec.2
/-- the class x at C is made by an __init__ that keeps sp -/
structure MakeR (P : Program) (w : World) (K : PySem.W.Frag) (mg : Str → Option Value) (base : Heap) (x : Str) (C : Addr) (k : Nat) (sp : Sp) : Prop where
  at_ : mg x = some (.ref C)
  ex : ∃ f, Mk K C f ∧ FnR P w K mg base (CXW P w) k f sp
/-- the property f of the class at C -/
structure PropR (P : Program) (w : World) (K : PySem.W.Frag) (mg : Str → Option Value) (base : Heap) (C : Addr) (f : Str) (k : Nat) (sp : Sp) : Prop where
  cl : Cls K C
  ex : ∃ p g, PropOf K C f p g ∧ FnU P w K mg base k g sp
/-- what a body owes, the frame's slots laid as start says -/
abbrev Owes (P : Program) (w : World) (K : PySem.W.Frag) (mg : Str → Option Value) (base : Heap) (N : List Str) (qual : Str) (scope : Scope) (body : List Stmt) (k : Nat) (f : Addr) (sp : Sp) (cdv : Value) : Prop :=
  ∀ (A : Around) (outer : List Env) (s : Shared) (H : Hp) (vs : List V) (Q : VK) (E : XK),
    Room k (A.deeper (envOfC qual scope s.heap.objs.size f cdv)) → sp vs H Q E →
    ∃ t, PSs (cxOf (CXW P w) P w K mg base N qual scope f cdv A outer s H E) body t ∧ t { nx := fun _ H' => Q .non H', rt := Q } (start N vs) H
/-- def f(self, *v): by the layer's fn_star -/
theorem fnr_star1 {x qual : Str} {params : Arguments} {body : List Stmt} {scope : Scope} {fd : FuncData} {N : List Str} {p1 pv : Str} (F : FunD K x qual params body scope [] [] f fd) (S : FnScope N ([p1] ++ [pv]) scope)
    (h0 : ∀ (kV doc pm : Value) (an : Option Addr) (cdv ct : Value) (a : Value), bindArgs (PySem.W.fnOf x qual params body scope .none kV doc pm an cdv ct) ⟨[a], []⟩ = (newTuple [] >>= fun t => pure [(p1, a), (pv, t)]))
    (h1 : ∀ (kV doc pm : Value) (an : Option Addr) (cdv ct : Value) (a r : Value) (rs : List Value), bindArgs (PySem.W.fnOf x qual params body scope .none kV doc pm an cdv ct) ⟨a :: r :: rs, []⟩ = (newTuple (r :: rs) >>= fun t => pure [(p1, a), (pv, t)]))
    (owes : ∀ cdv, Owes P w K mg base N qual scope body k f sp cdv) :
    FnR P w K mg base (CXW P w) (k + 1) f (fun vs H Q E => ∃ w0 rest, vs = w0 :: rest ∧ rest.length ≤ sizeLine ∧ ∀ p, H p = none → sp [w0, V.ref p] (upd H p (.tup rest)) Q E) := by
  rcases F.ex with ⟨c1, c2, dv, kv, dc, pm, an, cdv, ct, sl, e, at_, code, dfl, _⟩
  subst e
  have dn : dv = .none := dfl.elim (fun z => z.2) (fun z => absurd rfl z.1)
  subst dn
  have both := StX.bind_star1 (B := fun us => bindArgs (PySem.W.fnOf x qual params body scope .none kv dc pm an cdv ct) ⟨us, []⟩) (h0 kv dc pm an cdv ct) (h1 kv dc pm an cdv ct)
  exact FnR.imp (StX.fn_star (P := P) (w := w) (mg := mg) (base := base) (k := k) (sp := sp) at_ code S StX.cxUp both (owes cdv)) fun vs H Q E ⟨w0, rest, z, hl, h⟩ => ⟨[w0], rest, z, rfl, hl, h⟩
end
section
variable {X : Cx} {k : Nat} {C : Addr} {sp : Sp} {E : XK} {x m f : Str} {e o : Expr} {es : List Expr} {ta te : TE} {t : TA} {p pos apos : Pos}
theorem passN : Passes (CXW X.prog X.w) X E0 := passL
/-- f(e, ..) -/
def tCallR (sp : Sp) (E : XK) (t : TA) : TE := fun σ H Q => t σ H fun vs H1 => sp vs H1 Q E
theorem tCallR_eq (sp : Sp) (E : XK) (t : TA) : tCall sp [] E t = tCallR sp E t := by
  funext σ H Q
  simp only [tCall, tCallR, List.append_nil]
theorem pe_callR (D : DefR X.prog X.w X.K X.mg X.base x k sp) (room : Room k X.A) (leave : Passes (CXW X.prog X.w) X E) (args : PA X (e :: es) t) (glob : Gl X x := by rfl) (nodeb : (x == ("__debug__" : Str)) = false := by decide) (one : starEach (e :: es) X.env = (false, eval e X.env) :: starEach es X.env := by rfl) (plain : (backTo pos (starEach es X.env)).any (·.1) = false := by rfl) : PE X (.Call (.Name x p) (e :: es) [] pos) (tCallR sp E t) := by
  obtain ⟨g, at_, kp, fd, ps, F, B⟩ := D.ex
  rw [← tCallR_eq]
  exact pe_call F room glob at_ kp B .nil leave args nodeb one plain
/-- f( *e) -/
def tStar1 (K : PySem.W.Frag) (te : TE) : TA := fun σ H Q => te σ H fun y H1 => ∃ a xs, y = V.ref a ∧ (SqT K H1 a xs ∨ SqL K H1 a xs) ∧ Q xs H1
/-- C( *e): the class stands in K, so it is called as a def of K is -/
theorem pe_makeS (M : MakeR X.prog X.w X.K X.mg X.base x C k sp) (room : Room (k + 1) X.A) (leave : Passes (CXW X.prog X.w) X E) (arg : PE X e te) (glob : Gl X x := by rfl) (nodeb : (x == ("__debug__" : Str)) = false := by decide) (one : starEach [.Starred e apos] X.env = [(true, eval e X.env)] := by rfl) : PE X (.Call (.Name x p) [.Starred e apos] [] pos) (StX.tMakeR C sp E (tStar1 X.K te)) := by
  constructor
  intro pn sh σ H Q inv h
  obtain ⟨g, made, F⟩ := M.ex
  have argRun := arg.run pn sh σ H _ inv h
  refine wpAny_Call_Name_kw (ld_glob inv glob M.at_ (PySem.W.callWith_S (h₀ := X.base) inv.ok.mod.kin made.kp (thn argRun ?_) one) nodeb)
  rintro v s1 ⟨y, H1, inv1, rel, a, xs, rfl, sq, q⟩
  cases rel
  exact StX.star_any inv1 sq fun us s2 inv2 vals => ⟨inv2.kIn, StX.run_makeR made F room leave inv2 vals q⟩
/-- C(e, ..) -/
theorem pe_makeP (M : MakeR X.prog X.w X.K X.mg X.base x C k sp) (room : Room (k + 1) X.A) (leave : Passes (CXW X.prog X.w) X E) (args : PA X (e :: es) t) (glob : Gl X x := by rfl) (nodeb : (x == ("__debug__" : Str)) = false := by decide) (one : starEach (e :: es) X.env = (false, eval e X.env) :: starEach es X.env := by rfl) (plain : (backTo pos (starEach es X.env)).any (·.1) = false := by rfl) : PE X (.Call (.Name x p) (e :: es) [] pos) (StX.tMakeR C sp E t) := by
  obtain ⟨g, made, F⟩ := M.ex
  exact StX.pe_makeR made F room glob M.at_ leave args nodeb one plain
/-- o.f, a property -/
def tPropR (C : Addr) (sp : Sp) (ta : TE) : TE := tProp C sp [] E0 ta
theorem pe_propR (M : PropR X.prog X.w X.K X.mg X.base C f k sp) (room : Room (k + 1) X.A) (obj : PE X e ta) (plain : attributeBase e f X.env (eval e X.env) = eval e X.env := by rfl) : PE X (.Attribute e f pos) (tPropR C sp ta) := by
  obtain ⟨pr, g, is, fd, ps, F, B⟩ := M.ex
  exact pe_prop (CX := CXW X.prog X.w) obj M.cl is F room B .nil (passL (X := X.nox)) plain
/-- len(o), o an instance with an own __len__ -/
def rLenO (C : Addr) (sp : Sp) : List V → Hp → VK → Prop := fun xs H Q => ∃ a dx fs, xs = [.ref a] ∧ H a = some (.ins C dx fs) ∧ sp [.ref a] H (fun v H' => ∃ n : Int, v = .int n ∧ 0 ≤ n ∧ n < 2 ^ 63 ∧ Q (.int n) H') E0
theorem call_lenO (M : MethR X.prog X.w X.K X.mg X.base C "__len__" k sp) (room : Room (k + 1) X.A) : CallR X (.builtin "len") (rLenO C sp) := by
  rintro pn sh σ H _ us Q inv rel ⟨a, dx, fs, rfl, obj, owed⟩
  obtain ⟨_, rfl, rfl⟩ := vals1 rel
  have look := (ins_get inv.hok obj).choose_spec.1.look
  have call := M.fn X.A.in1 X.stack sh H [.ref a] [.ref a] _ E0 room.in1 inv.env0.in1 (.cons rfl .nil) owed
  refine PySem.W.len_K inv.fr.choose_spec inv.mod.kin look.choose_spec.1 M.at_.at_ M.at_.fn (wpAny_call (codeAny_mono call ?_))
  rintro (er | fl) sh' got
  · rcases got with ⟨_, _, _, _, _, _, _, _, _, _, _, _, none_leaves⟩
    exact none_leaves.elim
  · cases fl with
    | ret val =>
      obtain ⟨v, H', inv', rel', n, rfl, low, high, q⟩ := inv.after got
      obtain ⟨tk, rfl⟩ := rel'
      exact ⟨⟨low, high⟩, V.int n, H', inv'.tok _, ⟨_, rfl⟩, q⟩
    | _ => exact got.elim
end
/-! ### enumerate over a tuple: the turns by GoesN.enumFrom over Draws.tuple; only the call with one argument is walked here -/
namespace EnT
/-- the record that enumerate() makes over the iterator at it -/
abbrev fresh (it : Addr) : Obj := { cls := .type "enumerate", data := .fields #[.none, .bool false, .ref it, rawInt 0, .none, .none] }
theorem new_of {v : Value} {o : Obj} {Z : Heap → Prop} (B : Begins v o Z) :
    Meets (Builtin.«enumerate.__new__» ⟨[.type "enumerate", v], []⟩) (fun _ R s => Z s.heap ∧ R (.ok (.ret (.ref (s.heap.push o).objs.size))) { s with heap := (s.heap.push o).push (fresh s.heap.objs.size) }) := by
  refine .of_wp fun prog w A R s owed => ?_
  have sub := sub_enumerate
  obtain ⟨start, goal⟩ := owed
  wp_walk using B.iter prog w _ _ _ _ start
  refine wpAny_stack_any fun frames => ?_
  refine wpAny_pure ?_
  split
  · rename_i c _ _ _ _ _
    generalize (c == Value.type "enumerate") = short
    cases short <;> (wp_walk using B.iter prog w _ _ _ _ start) <;> exact ⟨_, rfl, goal⟩
  · wp_walk using B.iter prog w _ _ _ _ start
    exact ⟨_, rfl, goal⟩
/-- enumerate(v): an iterator of v's, then the record over it -/
theorem call_of {prog : Program} {w : World} {A : Around} {E : Value → Shared → Prop} {s : Shared} {v : Value} {o : Obj} {Z : Heap → Prop} {Q : Value → Shared → Prop} (B : Begins v o Z) (start : Z s.heap)
    (go : ∀ h, (s.heap.push o).push (fresh s.heap.objs.size) = h → h.get? s.heap.objs.size = some o → IsEnum h (s.heap.objs.size + 1) s.heap.objs.size 0 .none → (∀ b ob, s.heap.get? b = some ob → h.get? b = some ob) →
      Q (.ref (s.heap.objs.size + 1)) { s with heap := h }) : wpAny (model prog w) A (call (.type "enumerate") [v]) Q E s := by
  have size1 : (s.heap.push o).objs.size = s.heap.objs.size + 1 := Heap.size_push ..
  have mine : ((s.heap.push o).push (fresh s.heap.objs.size)).get? (s.heap.objs.size + 1) = some (fresh s.heap.objs.size) := by
    rw [← size1]; exact Heap.get?_push_size _ rfl
  refine callType_new F.called_enumerate (by decide) (F.typeCall_enumerate_1 v) (F.newCall_enumerate_1 v) (fun obj => F.args_object_init_2 obj v) F.entry_enumerate_new (new_of B) ⟨start, ?_⟩
  refine ⟨⟨fresh s.heap.objs.size, ?_, rfl⟩, ?_⟩
  · show Heap.get? _ (s.heap.push o).objs.size = _
    rw [size1]
    exact mine
  · rw [size1]
    exact go _ rfl (Heap.get?_push_of_some _ (Heap.get?_push_size _ B.free)) mine fun b ob z => Heap.get?_push_of_some _ (Heap.get?_push_of_some _ z)
end EnT
/-- enumerate over the tuple at a, of n items: pairs, each new -/
def IteT (K : PySem.W.Frag) (a : Addr) (n : Nat) : It where
  go i H := i < n ∧ ∃ xs, SqT K H a xs ∧ xs.length = n
  yld i H v H' := ∃ T x, v = .ref T ∧ H T = none ∧ H' = upd H T (.tup [.int (i : Nat), x]) ∧ ∀ xs, SqT K H a xs → xs[i]? = some x
  stop i H := n ≤ i ∧ ∃ xs, SqT K H a xs ∧ xs.length = n
/-- what the heap says between two turns -/
structure TnE (a e it : Addr) (n i : Nat) (h : Heap) : Prop where
  le : i ≤ n
  rec_ : ∃ old, IsEnum h e it (0 + (i : Int)) old
  iter : h.IsTupleIter it a i
theorem two {b x y : Addr} (h : b ∈ [x, y]) : b = x ∨ b = y := by simpa using h
section
variable {P : Program} {w : World} {K : PySem.W.Frag} {elts : List Expr} {kk n : Nat} {tpos : Pos} {a e it : Addr}
theorem walkE {A : Around} (calm : A.in1.handled = none) (ai : a ≠ it) (ae : a ≠ e) (ei : e ≠ it) (cells : Array Value) :
    GoesN P w A (.Tuple elts kk tpos) e [e, it, a] [e, it] cells.size (fun i h₀ v h => ∃ T t x, v = .ref T ∧ h₀.objs.size ≤ T ∧ cells[i]? = some x ∧ h.IsTuple T #[.int (0 + (i : Int)) t, x]) (fun i h => (∃ old, IsEnum h e it (0 + (i : Int)) old) ∧ h.IsTupleIter it a i ∧ h.IsTuple a cells) :=
  GoesN.enumFrom 0 (Draws.tuple calm it a ai cells) e ei (by simp [ei, Ne.symm ae]) (by simp)
theorem turn_enumT (ai : a ≠ it) (ae : a ≠ e) (ei : e ≠ it) : Turn P w K (.Tuple elts kk tpos) (IteT K a n) [e, it] e (TnE a e it n) := by
  constructor
  · simp
  · intro i h now b hb
    rcases two hb with rfl | rfl
    · obtain ⟨old, z⟩ := now.rec_
      exact ⟨_, z, nofun⟩
    · obtain ⟨o, z, _, dat⟩ := now.iter
      refine ⟨o, z, fun v c => ?_⟩
      rw [dat] at c
      exact nomatch c
  · intro i h h' now same
    refine ⟨now.le, ?_, now.iter.at (same it (by simp))⟩
    obtain ⟨old, z⟩ := now.rec_
    exact ⟨old, same e (by simp) _ z⟩
  · rintro X rfl rfl rfl calm i pn s σ H E inv fp now ⟨lt, xs, sq, len⟩
    obtain ⟨cells, vals, tup, _⟩ := inv.tuple sq
    have sz : cells.toArray.size = n := by
      have := vals.length
      simp only [List.size_toArray]
      omega
    refine (walkE (P := X.prog) (w := X.w) (A := X.A) (show X.A.in1.handled = none from inv.ok.hd calm) ai ae ei cells.toArray).goes i s _ E (by omega) ⟨now.rec_, now.iter, tup⟩ ?_
    rintro _ h' tk ⟨T, t, u, rfl, new, at_, pair⟩ ⟨rec', iter', _⟩ same _
    have atX : i < xs.length := by omega
    obtain ⟨u', hu, ru⟩ := vals.get (List.getElem?_eq_getElem atX)
    have uu : u' = u := by
      rw [List.getElem?_toArray] at at_
      exact Option.some.inj (hu.symm.trans at_)
    subst uu
    rw [Int.zero_add] at pair
    have ob : ObjOk X.prog X.w (upd H T (.tup [.int (i : Nat), xs[i]])) h' T (.tup [.int (i : Nat), xs[i]]) := by
      refine ⟨?_, _, .cons ⟨t, rfl⟩ (.cons ru .nil), pair⟩
      show 2 ≤ sizeLine
      decide
    refine ⟨.ref T, _, inv.turnedNew same fp new ob, rfl, ⟨T, xs[i], rfl, inv.hok.fresh new, rfl, fun ys hy => ?_⟩, ⟨lt, rec', iter'⟩, fun b hb => ?_⟩
    · rw [inv.tuple_inj hy sq]
      exact List.getElem?_eq_getElem atX
    · refine (upd_ne fun z => ?_).trans (fp b hb).1
      obtain ⟨o, live⟩ : ∃ o, s.heap.get? b = some o := by
        rcases two hb with rfl | rfl
        · obtain ⟨old, q⟩ := now.rec_
          exact ⟨_, q⟩
        · obtain ⟨o, q, _⟩ := now.iter
          exact ⟨o, q⟩
      have := Heap.lt_size live
      rw [z] at this
      exact Nat.lt_irrefl _ (Nat.lt_of_lt_of_le this new)
  · rintro X rfl rfl rfl calm i pn s σ H E inv fp now ⟨ge, xs, sq, len⟩
    obtain ⟨cells, vals, tup, _⟩ := inv.tuple sq
    have sz : cells.toArray.size = i := by
      have := vals.length
      have := now.le
      simp only [List.size_toArray]
      omega
    have W := walkE (P := X.prog) (w := X.w) (A := X.A) (elts := elts) (kk := kk) (tpos := tpos) (show X.A.in1.handled = none from inv.ok.hd calm) ai ae ei cells.toArray
    rw [sz] at W
    exact W.stops s _ E ⟨now.rec_, now.iter, tup⟩ fun h' tk same _ => inv.turnedL same fp
  · intro A i s Q E now q
    obtain ⟨old, z⟩ := now.rec_
    exact wpAny_pyIter_enum z q
end
def iEnumT (K : PySem.W.Frag) (ta : TA) : TI := fun σ H R => ta σ H fun vs H1 => ∃ a xs, vs = [.ref a] ∧ SqT K H1 a xs ∧ R (IteT K a xs.length) H1
theorem pi_enumT {X : Cx} {e : Expr} {ta : TA} {p pos tpos : Pos} {elts : List Expr} {kk : Nat} (glob : Gl X "enumerate") (free : X.mg "enumerate" = none) (args : PA X [e] ta) (one : starEach [e] X.env = [(false, eval e X.env)] := by rfl) : PI X (.Tuple elts kk tpos) (.Call (.Name "enumerate" p) [e] [] pos) (iEnumT X.K ta) := by
  constructor
  intro pn s σ H R inv h
  refine Call_ (ld_blt inv glob free boot_enumerate ?_)
  refine PyProof.Rows.callWith_type1 (thn (args.run pos pn s σ H _ inv h) ?_) one rfl
  rintro us s1 ⟨vs, H1, inv1, rel, a, xs, rfl, sq, q⟩
  obtain ⟨_, rfl, rfl⟩ := vals1 rel
  obtain ⟨cells, vals, tup, _⟩ := inv1.tuple sq
  have below : a < s1.heap.objs.size := by
    obtain ⟨o, z, _⟩ := tup
    exact Heap.lt_size z
  refine EnT.call_of (begins_tuple a cells.toArray) tup fun h' _ isIter isRec same => wpAny_pyIter_enum isRec ?_
  refine ⟨s1.heap.objs.size + 1, [s1.heap.objs.size + 1, s1.heap.objs.size], TnE a _ _ xs.length, IteT X.K a xs.length, H1, rfl, inv1.kept (t' := s1.toks) same, turn_enumT ?_ ?_ ?_, ⟨Nat.zero_le _, ⟨.none, isRec⟩, _, isIter, rfl, rfl⟩, fun b hb => ?_, q⟩
  · exact Nat.ne_of_lt below
  · exact Nat.ne_of_lt (Nat.lt_succ_of_lt below)
  · exact Nat.succ_ne_self _
  · have up : s1.heap.objs.size ≤ b := by
      rcases two hb with z | z <;> rw [z]
      · exact Nat.le_succ _
      · exact Nat.le_refl _
    exact inv1.fpOk up (inv1.hok.fresh up)
theorem walk_enumT {K : PySem.W.Frag} {a : Addr} {xs : List V} : Walk (IteT K a xs.length) xs.length (fun H => SqT K H a xs) (YPair (fun i => some (.int (i : Nat))) (fun i => xs[i]?)) := by
  constructor
  · exact fun i H lt sq => ⟨lt, xs, sq, rfl⟩
  · exact fun H sq => ⟨Nat.le_refl _, xs, sq, rfl⟩
  · rintro i H v H' _ sq ⟨T, x, e1, e2, e3, e4⟩
    exact ⟨T, _, x, e1, e2, e3, rfl, e4 xs sq⟩
end HC
/-! operators whatever the types, and the steps of a reading -/
namespace HC
open PyProof.Rows PySem L2 PySem.Spec

/-! ### heaps -/
theorem same_new {H : Hp} {p : Addr} {o : HO} (h : H p = none) : Same H (upd H p o) := fun b u e => by rw [upd_ne (ne_of_none e h)]; exact e
/-- all but d is as it was -/
def Keep (d : Addr) (H H' : Hp) : Prop := ∀ b o, b ≠ d → H b = some o → H' b = some o
theorem Keep.refl (d : Addr) (H : Hp) : Keep d H H := fun _ _ _ h => h
theorem Keep.trans {d : Addr} {H H1 H2 : Hp} (a : Keep d H H1) (b : Keep d H1 H2) : Keep d H H2 := fun c o n h => b c o n (a c o n h)
theorem keep_upd {H : Hp} {d : Addr} {o : HO} : Keep d H (upd H d o) := fun b u n e => by rw [upd_ne n]; exact e
end HC
namespace L2
open PySem PySem.Spec PyProof.Rows HC
theorem Same.keep {d : Addr} {H H' : Hp} (a : Same H H') : Keep d H H' := fun b o _ h => a b o h
end L2
namespace HC
open PyProof.Rows PySem L2 PySem.Spec
theorem keep_same {d : Addr} {H H' : Hp} (a : Keep d H H') (h : H d = none) : Same H H' := fun b o e => a b o (ne_of_none e h) e
theorem same_l {K : PySem.W.Frag} {H H' : Hp} {a : Addr} {xs : List V} (e : Same H H') (h : SqL K H a xs) : SqL K H' a xs := e.seq h
theorem same_t {K : PySem.W.Frag} {H H' : Hp} {a : Addr} {xs : List V} (e : Same H H') (h : SqT K H a xs) : SqT K H' a xs := h.imp (fun z => z.imp (e a _) fun ⟨o, q⟩ => ⟨o, e a _ q⟩) id
mutual
theorem dp_same {K : PySem.W.Frag} {H H' : Hp} (e : Same H H') : ∀ (d : PyData) (v : V), Dp K H v d → Dp K H' v d
  | .none, _, .non => .non
  | .bool _, _, .bl b => .bl b
  | .int _, _, .int i => .int i
  | .str _, _, .str x => .str x
  | .list ds, _, .lst h a => .lst (same_l e h) (dp_sameAll e ds _ a)
  | .tuple ds, _, .tup h a => .tup (same_t e h) (dp_sameAll e ds _ a)
theorem dp_sameAll {K : PySem.W.Frag} {H H' : Hp} (e : Same H H') : ∀ (ds : List PyData) (vs : List V), DpAll K H vs ds → DpAll K H' vs ds
  | [], _, .nil => .nil
  | d :: ds, _, .cons a b => .cons (dp_same e d _ a) (dp_sameAll e ds _ b)
end
end HC
namespace L2
open PySem PySem.Spec PyProof.Rows HC
theorem Same.dp {K : PySem.W.Frag} {H H' : Hp} {v : V} {d : PyData} (e : Same H H') (h : Dp K H v d) : Dp K H' v d := dp_same e d v h
theorem Same.dpa {K : PySem.W.Frag} {H H' : Hp} {vs : List V} {ds : List PyData} (e : Same H H') (h : DpAll K H vs ds) : DpAll K H' vs ds := dp_sameAll e ds vs h
theorem DpAll.length {K : PySem.W.Frag} {H : Hp} : ∀ {vs : List V} {ds : List PyData}, DpAll K H vs ds → vs.length = ds.length
  | _, _, .nil => rfl
  | _, _, .cons _ b => congrArg Nat.succ (DpAll.length b)
theorem DpAll.get {K : PySem.W.Frag} {H : Hp} {vs : List V} {ds : List PyData} {i : Nat} {v : V} (h : DpAll K H vs ds) (e : vs[i]? = some v) : ∃ d, ds[i]? = some d ∧ Dp K H v d :=
  match i, h, e with
  | 0, .cons a _, e => ⟨_, rfl, Option.some.inj e ▸ a⟩
  | j + 1, .cons _ b, e => DpAll.get (i := j) b e
theorem DpAll.getD {K : PySem.W.Frag} {H : Hp} {vs : List V} {ds : List PyData} {i : Nat} {d : PyData} (h : DpAll K H vs ds) (e : ds[i]? = some d) : ∃ v, vs[i]? = some v ∧ Dp K H v d :=
  match i, h, e with
  | 0, .cons a _, e => ⟨_, rfl, Option.some.inj e ▸ a⟩
  | j + 1, .cons _ b, e => DpAll.getD (i := j) b e
theorem DpAll.append {K : PySem.W.Frag} {H : Hp} : ∀ {vs ws : List V} {ds es : List PyData}, DpAll K H vs ds → DpAll K H ws es → DpAll K H (vs ++ ws) (ds ++ es)
  | _, _, _, _, .nil, s => s
  | _, _, _, _, .cons r t, s => .cons r (DpAll.append t s)
end L2
namespace HC
open PyProof.Rows PySem L2 PySem.Spec
theorem dpa_take {K : PySem.W.Frag} {H : Hp} : ∀ {vs : List V} {ds : List PyData} (n : Nat), DpAll K H vs ds → DpAll K H (vs.take n) (ds.take n)
  | _, _, 0, _ => .nil
  | _, _, _ + 1, .nil => .nil
  | _, _, n + 1, .cons r t => .cons r (dpa_take n t)
theorem getm {α β : Type} {f : α → β} {l : List α} {i : Nat} {d : β} (h : (l.map f)[i]? = some d) : ∃ x, l[i]? = some x ∧ f x = d := by
  rw [List.getElem?_map] at h
  exact Option.map_eq_some_iff.mp h
theorem dpa_ints {K : PySem.W.Frag} {H : Hp} : ∀ ns : List Int, DpAll K H (ns.map V.int) (ns.map PyData.int)
  | [] => .nil
  | n :: r => .cons (.int n) (dpa_ints r)
theorem dpa_strs {K : PySem.W.Frag} {H : Hp} : ∀ ns : List Str, DpAll K H (ns.map V.str) (ns.map PyData.str)
  | [] => .nil
  | n :: r => .cons (.str n) (dpa_strs r)


/-! ### data -/
abbrev pInts (ns : List Int) : PyData := .list (ns.map .int)
theorem dp_lst {K : PySem.W.Frag} {H : Hp} {a : Addr} {xs : List V} {ds : List PyData} (h : H a = some (.lst xs)) (h2 : DpAll K H xs ds) : Dp K H (.ref a) (.list ds) := .lst (SqL.of h) h2
theorem dp_tup {K : PySem.W.Frag} {H : Hp} {a : Addr} {xs : List V} {ds : List PyData} (h : H a = some (.tup xs)) (h2 : DpAll K H xs ds) : Dp K H (.ref a) (.tuple ds) := .tup (SqT.of h) h2
end HC
namespace L2
open PySem PySem.Spec PyProof.Rows HC
theorem Dp.inv_l {K : PySem.W.Frag} {H : Hp} {v : V} {ds : List PyData} (h : Dp K H v (.list ds)) : ∃ a xs, v = .ref a ∧ SqL K H a xs ∧ DpAll K H xs ds := by
  cases h with
  | lst h1 h2 => exact ⟨_, _, rfl, h1, h2⟩
theorem Dp.inv_t {K : PySem.W.Frag} {H : Hp} {v : V} {ds : List PyData} (h : Dp K H v (.tuple ds)) : ∃ a xs, v = .ref a ∧ SqT K H a xs ∧ DpAll K H xs ds := by
  cases h with
  | tup h1 h2 => exact ⟨_, _, rfl, h1, h2⟩
theorem Dp.inv_i {K : PySem.W.Frag} {H : Hp} {v : V} {i : Int} (h : Dp K H v (.int i)) : v = .int i := by cases h; rfl
theorem Dp.inv_s {K : PySem.W.Frag} {H : Hp} {v : V} {i : Str} (h : Dp K H v (.str i)) : v = .str i := by cases h; rfl
theorem Dp.inv_b {K : PySem.W.Frag} {H : Hp} {v : V} {i : Bool} (h : Dp K H v (.bool i)) : v = .bl i := by cases h; rfl
theorem Dp.inv_n {K : PySem.W.Frag} {H : Hp} {v : V} (h : Dp K H v .none) : v = .non := by cases h; rfl
theorem DpAll.inv1 {K : PySem.W.Frag} {H : Hp} {vs : List V} {d : PyData} {ds : List PyData} (h : DpAll K H vs (d :: ds)) : ∃ v r, vs = v :: r ∧ Dp K H v d ∧ DpAll K H r ds :=
  match h with | .cons first more => ⟨_, _, rfl, first, more⟩
theorem DpAll.inv0 {K : PySem.W.Frag} {H : Hp} {vs : List V} (h : DpAll K H vs []) : vs = [] := by cases h; rfl
theorem DpAll.inv2 {K : PySem.W.Frag} {H : Hp} {vs : List V} {d e : PyData} (h : DpAll K H vs [d, e]) : ∃ v u, vs = [v, u] ∧ Dp K H v d ∧ Dp K H u e := by
  obtain ⟨v, r, rfl, h1, h2⟩ := h.inv1
  obtain ⟨u, r, rfl, h3, h4⟩ := h2.inv1
  obtain rfl := h4.inv0
  exact ⟨v, u, rfl, h1, h3⟩
end L2
namespace HC
open PyProof.Rows PySem L2 PySem.Spec

/-! data without lists stand whatever list or instance changes -/
mutual
def noL : PyData → Bool
  | .list _ => false
  | .tuple ds => noLs ds
  | .none | .bool _ | .int _ | .str _ | .dict _ => true
def noLs : List PyData → Bool
  | [] => true
  | d :: ds => noL d && noLs ds
end
def NotT : Option HO → Prop
  | some (.tup _) => False
  | some (.frz _ (.tup _)) => False
  | _ => True
theorem keep_t {K : PySem.W.Frag} {H H' : Hp} {d a : Addr} {xs : List V} (e : Keep d H H') (hd : NotT (H d)) (h : SqT K H a xs) : SqT K H' a xs := by
  refine h.imp (fun z => z.imp (fun q => e a _ (fun ad => ?_) q) (fun ⟨o, q⟩ => ⟨o, e a _ (fun ad => ?_) q⟩)) id
  all_goals (subst ad; rw [q] at hd; exact hd)
mutual
theorem dp_keep {K : PySem.W.Frag} {H H' : Hp} {d : Addr} (e : Keep d H H') (hd : NotT (H d)) : ∀ (x : PyData) (v : V), noL x = true → Dp K H v x → Dp K H' v x
  | .none, _, _, .non => .non
  | .bool _, _, _, .bl b => .bl b
  | .int _, _, _, .int i => .int i
  | .str _, _, _, .str x => .str x
  | .list ds, _, n, .lst h a => by simp [noL] at n
  | .tuple ds, _, n, .tup h a => .tup (keep_t e hd h) (dp_keepAll e hd ds _ (by simpa [noL] using n) a)
theorem dp_keepAll {K : PySem.W.Frag} {H H' : Hp} {d : Addr} (e : Keep d H H') (hd : NotT (H d)) : ∀ (xs : List PyData) (vs : List V), noLs xs = true → DpAll K H vs xs → DpAll K H' vs xs
  | [], _, _, .nil => .nil
  | x :: xs, _, n, .cons a b => by
    have n' : noL x = true ∧ noLs xs = true := by simpa [noLs] using n
    exact .cons (dp_keep e hd x _ n'.1 a) (dp_keepAll e hd xs _ n'.2 b)
end
theorem noLs_of {ds : List PyData} (h : ∀ d ∈ ds, noL d = true) : noLs ds = true := by
  induction ds with
  | nil => rfl
  | cons d r ih => simp [noLs, h d (by simp), ih fun e he => h e (by simp [he])]
theorem notT_l {H : Hp} {d : Addr} {xs : List V} (h : H d = some (.lst xs)) : NotT (H d) := by rw [h]; trivial
theorem notT_n {H : Hp} {d : Addr} (h : H d = none) : NotT (H d) := by rw [h]; trivial
theorem notT_i {H : Hp} {d C dx : Addr} {fs : List (Str × V)} (h : H d = some (.ins C dx fs)) : NotT (H d) := by rw [h]; trivial
/-- data that the layer's == speaks of, to a depth -/
def Sh (n : Nat) (d : PyData) : Prop := d.canLay0 = true ∧ d.depth ≤ n
theorem Sh.ok {n : Nat} {d : PyData} (h : Sh n d) (hn : n ≤ 64) : SeqAt.shaped d = true := by
  unfold SeqAt.shaped
  rw [h.1, Bool.true_and]
  exact decide_eq_true (Nat.le_trans h.2 hn)
theorem Sh.mono {n m : Nat} {d : PyData} (h : Sh n d) (hn : n ≤ m) : Sh m d := ⟨h.1, Nat.le_trans h.2 hn⟩
theorem sh_i (i : Int) : Sh 0 (.int i) := ⟨by simp [PyData.canLay0], by simp [PyData.depth]⟩
theorem sh_s {i : Str} (h : PyData.strOk i = true) : Sh 0 (.str i) := ⟨by simp [PyData.canLay0, h], by simp [PyData.depth]⟩
theorem sh_b (i : Bool) : Sh 0 (.bool i) := ⟨by simp [PyData.canLay0], by simp [PyData.depth]⟩
theorem sh_n : Sh 0 .none := ⟨by simp [PyData.canLay0], by simp [PyData.depth]⟩
theorem lay_all {ds : List PyData} (h : ∀ d ∈ ds, d.canLay0 = true) : PyData.canLayAll0 ds = true := by
  induction ds with
  | nil => simp [PyData.canLayAll0]
  | cons d r ih => simp [PyData.canLayAll0, h d (by simp), ih fun e he => h e (by simp [he])]
theorem depth_all {ds : List PyData} {n : Nat} (h : ∀ d ∈ ds, d.depth ≤ n) : PyData.depthAll ds ≤ n := by
  induction ds with
  | nil => simp [PyData.depthAll]
  | cons d r ih =>
    have h1 := h d (by simp)
    have h2 := ih fun e he => h e (by simp [he])
    simp only [PyData.depthAll]
    omega
theorem sh_l {n : Nat} {ds : List PyData} (h : ∀ d ∈ ds, Sh n d) : Sh (n + 1) (.list ds) := by
  refine ⟨by simp only [PyData.canLay0]; exact lay_all fun d hd => (h d hd).1, ?_⟩
  have := depth_all fun d hd => (h d hd).2
  simp only [PyData.depth]
  omega
theorem sh_t {n : Nat} {ds : List PyData} (h : ∀ d ∈ ds, Sh n d) : Sh (n + 1) (.tuple ds) := by
  refine ⟨by simp only [PyData.canLay0]; exact lay_all fun d hd => (h d hd).1, ?_⟩
  have := depth_all fun d hd => (h d hd).2
  simp only [PyData.depth]
  omega
theorem sh_ints (ns : List Int) : Sh 1 (pInts ns) := sh_l fun d hd => by
  obtain ⟨i, _, rfl⟩ := List.mem_map.mp hd
  exact sh_i i
theorem eqv_refl {n : Nat} {d : PyData} (h : Sh n d) : PyData.eqv d d = true := SeqAt.eqv_refl d h.1
theorem eqv_nil (ds : List PyData) : PyData.eqv (.list ds) (.list []) = ds.isEmpty := by
  cases ds <;> simp [PyData.eqv, PyData.eqvAll]
theorem eqv_nilT (ds : List PyData) : PyData.eqv (.tuple ds) (.tuple []) = ds.isEmpty := by
  cases ds <;> simp [PyData.eqv, PyData.eqvAll]
/-! ### operators -/
section
variable {X : Cx} {K : PySem.W.Frag} {H H' : Hp} {Q : VK} {σ : L2.St} {D : Ends}
def uAdd (K : PySem.W.Frag) : R2 := fun x y H Q => rI0 (fun i j => .int (i + j)) x y H Q ∨ (∃ i j, x = .str i ∧ y = .str j ∧ i.length + j.length ≤ sizeLine ∧ Q (.str (i ++ j)) H) ∨ rCat x y H Q ∨ rCatA K x y H Q
theorem op_addU : OpR X (binaryOp .Add) (uAdd X.K) := op_add.or (op_add_str.or (op_cat.or op_catA))
theorem g_add_i {i j : Int} (h : Q (.int (i + j)) H) : uAdd K (.int i) (.int j) H Q := .inl ⟨i, j, rfl, rfl, h⟩
theorem g_add_s {i j : Str} (hz : i.length + j.length ≤ sizeLine) (h : Q (.str (i ++ j)) H) : uAdd K (.str i) (.str j) H Q := .inr (.inl ⟨i, j, rfl, rfl, hz, h⟩)
theorem g_add_l {a b : Addr} {xs ys : List V} (h1 : H a = some (.lst xs)) (h2 : H b = some (.lst ys)) (hz : xs.length + ys.length ≤ sizeLine)
    (h : ∀ p H', H p = none → Same H H' → H' p = some (.lst (xs ++ ys)) → Q (.ref p) H') : uAdd K (.ref a) (.ref b) H Q :=
  .inr (.inr (.inl ⟨a, b, xs, ys, rfl, rfl, h1, h2, hz, fun p hp => h p _ hp (same_new hp) upd_same⟩))
theorem g_sub {i j : Int} (h : Q (.int (i - j)) H) : rI0 (fun i j => .int (i - j)) (.int i) (.int j) H Q := ⟨i, j, rfl, rfl, h⟩
theorem g_neg {i : Int} (h : Q (.int (-i)) H) : rU (fun i => .int (-i)) (.int i) H Q := ⟨i, rfl, h⟩
theorem g_mul {i j : Int} (hc : CMul i j) (h : Q (.int (i * j)) H) : rI CMul (fun i j => .int (i * j)) (.int i) (.int j) H Q := ⟨i, j, rfl, rfl, hc, h⟩
theorem g_fdiv {i j : Int} (h1 : 0 < j) (h2 : j < 1073741824) (h : Q (.int (i / j)) H) : rI CDiv (fun i j => .int (i / j)) (.int i) (.int j) H Q := ⟨i, j, rfl, rfl, ⟨h1, h2⟩, h⟩
theorem g_mod {i j : Int} (h1 : 0 < j) (h : Q (.int (i % j)) H) : rI (fun _ j => 0 < j) (fun i j => .int (i % j)) (.int i) (.int j) H Q := ⟨i, j, rfl, rfl, h1, h⟩
theorem g_pow {i j : Int} (hc : CPow i j) (h : Q (.int (i ^ j.toNat)) H) : rI CPow (fun i j => .int (i ^ j.toNat)) (.int i) (.int j) H Q := ⟨i, j, rfl, rfl, hc, h⟩
theorem g_lt {i j : Int} (h : Q (.bl (decide (i < j))) H) : rI0 (fun i j => .bl (decide (i < j))) (.int i) (.int j) H Q := ⟨i, j, rfl, rfl, h⟩
theorem g_le {i j : Int} (h : Q (.bl (decide (i ≤ j))) H) : rI0 (fun i j => .bl (decide (i ≤ j))) (.int i) (.int j) H Q := ⟨i, j, rfl, rfl, h⟩
theorem g_gt {i j : Int} (h : Q (.bl (decide (j < i))) H) : rI0 (fun i j => .bl (decide (j < i))) (.int i) (.int j) H Q := ⟨i, j, rfl, rfl, h⟩
theorem g_ge {i j : Int} (h : Q (.bl (decide (j ≤ i))) H) : rI0 (fun i j => .bl (decide (j ≤ i))) (.int i) (.int j) H Q := ⟨i, j, rfl, rfl, h⟩
def uEq (K : PySem.W.Frag) : R2 := fun x y H Q => rEq x y H Q ∨ rEqD K x y H Q
def uNe (K : PySem.W.Frag) : R2 := fun x y H Q => rNe x y H Q ∨ rNeD K x y H Q
theorem op_eqU {k : Nat} (hr : Room k X.A) : OpR X (compareOp .Eq) (uEq X.K) := op_eq.or (op_eqD hr.units)
theorem op_neU {k : Nat} (hr : Room k X.A) : OpR X (compareOp .NotEq) (uNe X.K) := op_ne.or (op_neD hr.units)
theorem dec_i {i j : Int} : decide (V.int i = V.int j) = decide (i = j) := by
  by_cases e : i = j
  · subst e; simp
  · rw [decide_eq_false e, decide_eq_false fun q => e (V.int.inj q)]
theorem dec_s {i j : Str} : decide (V.str i = V.str j) = decide (i = j) := by
  by_cases e : i = j
  · subst e; simp
  · rw [decide_eq_false e, decide_eq_false fun q => e (V.str.inj q)]
theorem dec_b {i j : Bool} : decide (V.bl i = V.bl j) = decide (i = j) := by
  by_cases e : i = j
  · subst e; simp
  · rw [decide_eq_false e, decide_eq_false fun q => e (V.bl.inj q)]
theorem g_eq_i {i j : Int} (h : Q (.bl (decide (i = j))) H) : uEq K (.int i) (.int j) H Q := .inl ⟨rfl, by rw [dec_i]; exact h⟩
theorem g_eq_s {i j : Str} (h : Q (.bl (decide (i = j))) H) : uEq K (.str i) (.str j) H Q := .inl ⟨rfl, by rw [dec_s]; exact h⟩
theorem g_eq_b {i j : Bool} (h : Q (.bl (decide (i = j))) H) : uEq K (.bl i) (.bl j) H Q := .inl ⟨rfl, by rw [dec_b]; exact h⟩
theorem g_ne_i {i j : Int} (h : Q (.bl (!decide (i = j))) H) : uNe K (.int i) (.int j) H Q := .inl ⟨rfl, by rw [dec_i]; exact h⟩
theorem g_ne_s {i j : Str} (h : Q (.bl (!decide (i = j))) H) : uNe K (.str i) (.str j) H Q := .inl ⟨rfl, by rw [dec_s]; exact h⟩
theorem g_ne_b {i j : Bool} (h : Q (.bl (!decide (i = j))) H) : uNe K (.bl i) (.bl j) H Q := .inl ⟨rfl, by rw [dec_b]; exact h⟩
theorem g_eq_d {x y : V} (d e : PyData) (h1 : Dp K H x d) (h2 : Dp K H y e) (s1 : SeqAt.shaped d = true) (s2 : SeqAt.shaped e = true) (h : Q (.bl (PyData.eqv d e)) H) : uEq K x y H Q := .inr ⟨d, e, h1, h2, s1, s2, h⟩
theorem g_ne_d {x y : V} (d e : PyData) (h1 : Dp K H x d) (h2 : Dp K H y e) (s1 : SeqAt.shaped d = true) (s2 : SeqAt.shaped e = true) (h : Q (.bl (!PyData.eqv d e)) H) : uNe K x y H Q := .inr ⟨d, e, h1, h2, s1, s2, h⟩
theorem g_isN {x : V} (h : Q (.bl (decide (x = .non))) H) : rIsN x .non H Q := ⟨rfl, h⟩
theorem g_notN {x : V} (h : Q (.bl (!decide (x = .non))) H) : rNotN x .non H Q := ⟨rfl, h⟩
/-- in -/
def uIn (K : PySem.W.Frag) : R2 := fun x y H Q => rIn K false x y H Q ∨ (∃ (c : Nat) (z : Str), x = .str ⟨#[c]⟩ ∧ y = .str z ∧ Q (.bl (decide (c ∈ z.cps.toList))) H) ∨ rInD K x y H Q
def uNotIn (K : PySem.W.Frag) : R2 := fun x y H Q => rIn K true x y H Q ∨ (∃ (c : Nat) (z : Str), x = .str ⟨#[c]⟩ ∧ y = .str z ∧ Q (.bl (!decide (c ∈ z.cps.toList))) H) ∨ rNotInD K x y H Q
theorem units65 {k : Nat} {A : Around} (hr : Room k A) : A.units + 65 < cLine := by have := hr.un; omega
theorem op_inU {k : Nat} (hr : Room k X.A) : OpR X (compareOp .In) (uIn X.K) := op_in_seq.or (op_in_sign.or (op_inD (units65 hr)))
theorem op_notInU {k : Nat} (hr : Room k X.A) : OpR X (compareOp .NotIn) (uNotIn X.K) := op_notIn_seq.or (op_notIn_sign.or (op_notInD (units65 hr)))
theorem g_in_sign {c : Nat} {z : Str} (h : Q (.bl (decide (c ∈ z.cps.toList))) H) : uIn K (.str ⟨#[c]⟩) (.str z) H Q := .inr (.inl ⟨c, z, rfl, rfl, h⟩)
theorem g_in_seq {x : V} {p : Addr} {xs : List V} (h1 : SqL K H p xs ∨ SqT K H p xs) (h2 : flatV x = true) (h3 : xs.all flatV = true) (h : Q (.bl (inV x xs)) H) : uIn K x (.ref p) H Q := .inl ⟨p, xs, rfl, h1, h2, h3, h⟩
theorem g_notIn_seq {x : V} {p : Addr} {xs : List V} (h1 : SqL K H p xs ∨ SqT K H p xs) (h2 : flatV x = true) (h3 : xs.all flatV = true) (h : Q (.bl (!inV x xs)) H) : uNotIn K x (.ref p) H Q := .inl ⟨p, xs, rfl, h1, h2, h3, h⟩
/-- x[i] -/
theorem g_ix_l {p : Addr} {xs : List V} {i : Int} {v : V} (h1 : SqL K H p xs) (h2 : atI xs i = some v) (h : Q v H) : rIx K (.ref p) (.int i) H Q := .inl ⟨p, xs, i, v, rfl, rfl, h1, h2, h⟩
theorem g_ix_t {p : Addr} {xs : List V} {i : Int} {v : V} (h1 : SqT K H p xs) (h2 : atI xs i = some v) (h : Q v H) : rIx K (.ref p) (.int i) H Q := .inr (.inl ⟨p, xs, i, v, rfl, rfl, h1, h2, h⟩)
theorem g_ix_s {z : Str} {i : Int} {c : Nat} (h1 : z.length ≤ sizeLine) (h2 : atI z.cps.toList i = some c) (h : Q (.str ⟨#[c]⟩) H) : rIx K (.str z) (.int i) H Q := .inr (.inr ⟨z, i, c, rfl, rfl, h1, h2, h⟩)
/-- len -/
def uLen (K : PySem.W.Frag) : List V → Hp → VK → Prop := fun xs H Q => (∃ z, xs = [.str z] ∧ z.length ≤ sizeLine ∧ Q (.int z.length) H) ∨ ∃ p ys, xs = [.ref p] ∧ (SqL K H p ys ∨ SqT K H p ys) ∧ Q (.int ys.length) H
theorem call_lenU : CallR X (.builtin "len") (uLen X.K) := call_len_str.or call_len_seq
theorem g_len_s {z : Str} (hz : z.length ≤ sizeLine) (h : Q (.int z.length) H) : uLen K [.str z] H Q := .inl ⟨z, rfl, hz, h⟩
theorem g_len_l {p : Addr} {ys : List V} (h1 : SqL K H p ys) (h : Q (.int ys.length) H) : uLen K [.ref p] H Q := .inr ⟨p, ys, rfl, .inl h1, h⟩
theorem g_len_t {p : Addr} {ys : List V} (h1 : SqT K H p ys) (h : Q (.int ys.length) H) : uLen K [.ref p] H Q := .inr ⟨p, ys, rfl, .inr h1, h⟩

/-! ### steps -/
variable {ta tb te : TE} {tA tB' : TT} {i : Nat} {v : V} {t u : TS} {ts : TA}
theorem g_var (e : σ[i]? = some (some v)) (h : Q v H) : tVar i σ H Q := ⟨v, e, h⟩
theorem g_c (h : Q v H) : tC v σ H Q := h
theorem g_op {r : R2} (h : ta σ H fun x H1 => tb σ H1 fun y H2 => r x y H2 Q) : tOp r ta tb σ H Q := h
theorem g_un {r : V → Hp → VK → Prop} (h : ta σ H fun x H1 => r x H1 Q) : tUn r ta σ H Q := h
def Bl (Q : Bool → Hp → Prop) : VK := fun x H => ∃ k, x = .bl k ∧ Q k H
theorem g_bl {b : Bool} {Q : Bool → Hp → Prop} (h : Q b H) : Bl Q (.bl b) H := ⟨b, rfl, h⟩
theorem g_test {Q : Bool → Hp → Prop} (h : te σ H (Bl Q)) : tTest te σ H Q := h
theorem g_tB {Q : Bool → Hp → Prop} (h : te σ H (Bl Q)) : tB te σ H Q := h
def Ch (r' : R2) (tc : TE) (y : V) (σ : L2.St) (Q : VK) : VK := fun z H3 => ∃ k, z = .bl k ∧ (if k = true then tc σ H3 fun w' H4 => r' y w' H4 Q else Q (.bl false) H3)
theorem g_chain {r r' : R2} {tc : TE} (h : ta σ H fun x H1 => tb σ H1 fun y H2 => r x y H2 (Ch r' tc y σ Q)) : tChain r r' ta tb tc σ H Q := h
theorem g_ch {r' : R2} {tc : TE} {y : V} {b : Bool} (h1 : b = true → tc σ H fun w' H4 => r' y w' H4 Q) (h2 : b = false → Q (.bl false) H) : Ch r' tc y σ Q (.bl b) H := ⟨b, rfl, by
  cases b with
  | true => exact iteT (h1 rfl)
  | false => exact iteF (h2 rfl)⟩
theorem g_and {Q : Bool → Hp → Prop} (h : tA σ H fun c H1 => if c = true then tB' σ H1 Q else Q false H1) : tAnd tA tB' σ H Q := h
theorem g_or {Q : Bool → Hp → Prop} (h : tA σ H fun c H1 => if c = true then Q true H1 else tB' σ H1 Q) : tOr tA tB' σ H Q := h
theorem g_not {Q : Bool → Hp → Prop} (h : tA σ H fun c H1 => Q (!c) H1) : tNot tA σ H Q := h
theorem g_andV (h : ta σ H (Bl fun c H1 => if c = true then tb σ H1 Q else Q (.bl false) H1)) : tAndV ta tb σ H Q := h
theorem g_orV (h : ta σ H (Bl fun c H1 => if c = true then Q (.bl true) H1 else tb σ H1 Q)) : tOrV ta tb σ H Q := h
theorem g_notV (h : ta σ H (Bl fun c H1 => Q (.bl (!c)) H1)) : tNotV ta σ H Q := h
theorem g_if (h : tA σ H fun c H1 => if c = true then ta σ H1 Q else tb σ H1 Q) : tIf tA ta tb σ H Q := h
theorem g_nil {Q : List V → Hp → Prop} (h : Q [] H) : tNil σ H Q := h
theorem g_cons {Q : List V → Hp → Prop} (h : te σ H fun x H1 => ts σ H1 fun xs H2 => Q (x :: xs) H2) : tCons te ts σ H Q := h
theorem g_cb {r : List V → Hp → VK → Prop} (h : ts σ H fun vs H1 => r vs H1 Q) : tCB r ts σ H Q := h
theorem g_callR {sp : Sp} {E : XK} (h : ts σ H fun vs H1 => sp vs H1 Q E) : tCallR sp E ts σ H Q := h
def NewT (xs : List V) (H : Hp) (Q : VK) : Prop := xs.length ≤ sizeLine ∧ ∀ p, H p = none → Q (.ref p) (upd H p (.tup xs))
def NewL (xs : List V) (H : Hp) (Q : VK) : Prop := xs.length ≤ sizeLine ∧ ∀ p, H p = none → Q (.ref p) (upd H p (.lst xs))
theorem g_tup (h : ts σ H fun xs H1 => NewT xs H1 Q) : tTup ts σ H Q := h
theorem g_lst (h : ts σ H fun xs H1 => NewL xs H1 Q) : tLst ts σ H Q := h
theorem n_tup {xs : List V} (hz : xs.length ≤ sizeLine) (h : ∀ p H', H p = none → Same H H' → H' p = some (.tup xs) → Q (.ref p) H') : NewT xs H Q := ⟨hz, fun p hp => h p _ hp (same_new hp) upd_same⟩
theorem n_lst {xs : List V} (hz : xs.length ≤ sizeLine) (h : ∀ p H', H p = none → Same H H' → H' p = some (.lst xs) → Q (.ref p) H') : NewL xs H Q := ⟨hz, fun p hp => h p _ hp (same_new hp) upd_same⟩
theorem g_seq (h : t { D with nx := u D } σ H) : tSeq t u D σ H := h
theorem g_next (h : D.nx σ H) : tNext D σ H := h
theorem g_asg {g : TG} (h : te σ H fun x H1 => g x σ H1 D.nx) : tAsg te g D σ H := h
theorem g_name {Q : L2.St → Hp → Prop} {σ' : L2.St} (e : σ.set i (some v) = σ') (h : Q σ' H) : gName i v σ H Q := by subst e; exact h
theorem g_ret (h : te σ H D.rt) : tRet te D σ H := h
theorem g_drop (h : te σ H fun _ H1 => D.nx σ H1) : tDrop te D σ H := h
theorem g_ifS (h : tA σ H fun b H1 => if b = true then t D σ H1 else u D σ H1) : tIfS tA t u D σ H := h
theorem if_T {c : Bool} {A B : Prop} (e : c = true) (h : A) : if c = true then A else B := by rw [if_pos e]; exact h
theorem if_F {c : Bool} {A B : Prop} (e : c = false) (h : B) : if c = true then A else B := by rw [if_neg (by rw [e]; decide)]; exact h
theorem if_C {c : Bool} {A B : Prop} (h1 : c = true → A) (h2 : c = false → B) : if c = true then A else B := by
  cases c with
  | true => exact iteT (h1 rfl)
  | false => exact iteF (h2 rfl)
theorem if_D {p : Prop} [Decidable p] {A B : Prop} (h1 : p → A) (h2 : ¬ p → B) : if decide p = true then A else B := by
  by_cases c : p
  · rw [if_pos (decide_eq_true c)]; exact h1 c
  · rw [if_neg (by rw [decide_eq_false c]; decide)]; exact h2 c
theorem if_ND {p : Prop} [Decidable p] {A B : Prop} (h1 : ¬ p → A) (h2 : p → B) : if (!decide p) = true then A else B := by
  by_cases c : p
  · rw [if_neg (by rw [decide_eq_true c]; decide)]; exact h2 c
  · rw [if_pos (by rw [decide_eq_false c]; decide)]; exact h1 c

/-! lists changed, asked -/
theorem atI_c0 {α : Type} {a : α} {l : List α} : atI (a :: l) 0 = some a := atI_nat (j := 0) rfl
theorem atI_c1 {α : Type} {a b : α} {l : List α} : atI (a :: b :: l) 1 = some b := atI_nat (j := 1) rfl
theorem atI_c2 {α : Type} {a b c : α} {l : List α} : atI (a :: b :: c :: l) 2 = some c := atI_nat (j := 2) rfl
theorem atI_c3 {α : Type} {a b c d : α} {l : List α} : atI (a :: b :: c :: d :: l) 3 = some d := atI_nat (j := 3) rfl
theorem atI_c4 {α : Type} {a b c d e : α} {l : List α} : atI (a :: b :: c :: d :: e :: l) 4 = some e := atI_nat (j := 4) rfl
theorem atI_c5 {α : Type} {a b c d e f : α} {l : List α} : atI (a :: b :: c :: d :: e :: f :: l) 5 = some f := atI_nat (j := 5) rfl
theorem atI_i {α : Type} {l : List α} {i : Int} {x : α} (h0 : 0 ≤ i) (h : l[i.toNat]? = some x) : atI l i = some x := by
  have := atI_nat h
  rwa [Int.toNat_of_nonneg h0] at this
theorem ixN_i {n : Nat} {i : Int} (h0 : 0 ≤ i) (h : i < n) : ixN n i = some i.toNat := by unfold ixN; rw [if_pos h0, if_pos h]
theorem seqIx_i {n : Nat} {i : Int} (h0 : 0 ≤ i) (h : i < n) : seqIndex? i n = some i.toNat := (ixN_seq (ixN_i h0 h)).1
def Ty (K : PySem.W.Frag) (T : String) (x : V) (H : Hp) (P : Prop) : Prop := tyV K T x H ∧ P
theorem g_bm {T : String} {r : V → List V → Hp → VK → Prop} {to : TE} (h : to σ H fun x H1 => Ty K T x H1 (ts σ H1 fun xs H2 => r x xs H2 Q)) : tBM K T r to ts σ H Q := h
theorem g_bm0 {T : String} {r : V → List V → Hp → VK → Prop} {to : TE} (h : to σ H fun x H1 => Ty K T x H1 (r x [] H1 Q)) : tBM0 K T r to σ H Q := h
theorem g_tyL {p : Addr} {xs : List V} {P : Prop} (h1 : SqL K H p xs) (h : P) : Ty K "list" (.ref p) H P := ⟨.inl ⟨rfl, _, h1⟩, h⟩
def TyS (x : V) (P : Prop) : Prop := (∃ a, x = .str a) ∧ P
theorem g_m1 {r : V → List V → Hp → VK → Prop} {to : TE} (h : to σ H fun x H1 => TyS x (te σ H1 fun y H2 => r x [y] H2 Q)) : tM1 r to te σ H Q := h
theorem g_m0 {r : V → List V → Hp → VK → Prop} {to : TE} (h : to σ H fun x H1 => TyS x (r x [] H1 Q)) : tM0 r to σ H Q := h
theorem g_tyS {z : Str} {P : Prop} (h : P) : TyS (.str z) P := ⟨⟨z, rfl⟩, h⟩
theorem g_append {l : Addr} {xs : List V} {y : V} (h1 : H l = some (.lst xs)) (hz : xs.length < sizeLine) (h : ∀ H', Keep l H H' → H' l = some (.lst (xs ++ [y])) → Q .non H') : rAppend (.ref l) [y] H Q := ⟨l, xs, y, rfl, rfl, h1, hz, h _ keep_upd upd_same⟩
theorem g_extend {l b : Addr} {xs zs : List V} (h1 : H l = some (.lst xs)) (h2 : H b = some (.lst zs)) (hz : xs.length + zs.length ≤ sizeLine) (h : ∀ H', Keep l H H' → H' l = some (.lst (xs ++ zs)) → Q .non H') : rExtend (.ref l) [.ref b] H Q := ⟨l, b, xs, zs, rfl, rfl, h1, h2, hz, h _ keep_upd upd_same⟩
theorem g_popAt {l : Addr} {xs : List V} {i : Int} {y : V} (h1 : H l = some (.lst xs)) (h0 : 0 ≤ i) (hi : xs[i.toNat]? = some y) (hz : xs.length ≤ sizeLine) (h : ∀ H', Keep l H H' → H' l = some (.lst (xs.eraseIdx i.toNat)) → Q y H') : rPopAt (.ref l) [.int i] H Q := by
  have hl : i.toNat < xs.length := (List.getElem?_eq_some_iff.mp hi).1
  have hs : (sizeLine : Nat) < 2 ^ 63 := line63
  exact ⟨l, xs, i, i.toNat, y, rfl, rfl, h1, by omega, by omega, seqIx_i h0 (by omega), hi, h _ keep_upd upd_same⟩
theorem g_pop {l : Addr} {xs : List V} {y : V} (h1 : H l = some (.lst xs)) (hi : xs[xs.length - 1]? = some y) (h : ∀ H', Keep l H H' → H' l = some (.lst xs.dropLast) → Q y H') : rPop (.ref l) [] H Q := ⟨l, xs, y, rfl, rfl, h1, hi, h _ keep_upd upd_same⟩
theorem g_gsub {Q : L2.St → Hp → Prop} {to ti : TE} {rs : TSet} (h : to σ H fun o H1 => ti σ H1 fun i H2 => rs o i v H2 fun H3 => Q σ H3) : gSub to ti rs v σ H Q := h
theorem g_setL {p : Addr} {xs : List V} {k : Int} {j : Nat} {Q : Hp → Prop} (h1 : H p = some (.lst xs)) (hj : ixN xs.length k = some j) (h : ∀ H', Keep p H H' → H' p = some (.lst (xs.set j v)) → Q H') : rSetL (.ref p) (.int k) v H Q := ⟨p, xs, k, j, rfl, rfl, h1, hj, h _ keep_upd upd_same⟩
/-! slices -/
theorem g_sl {r : V → Option Int → Option Int → Hp → VK → Prop} {tl th : TO} (h : te σ H fun x H1 => tl σ H1 fun l H2 => th σ H2 fun u H3 => r x l u H3 Q) : tSl r te tl th σ H Q := h
theorem g_noPart {Q : Option Int → Hp → Prop} (h : Q none H) : tNoPart σ H Q := h
def PartI (Q : Option Int → Hp → Prop) : VK := fun x H => ∃ i, x = .int i ∧ Q (some i) H
theorem g_part {Q : Option Int → Hp → Prop} (h : te σ H (PartI Q)) : tPart te σ H Q := h
theorem g_partI {i : Int} {Q : Option Int → Hp → Prop} (h : Q (some i) H) : PartI Q (.int i) H := ⟨i, rfl, h⟩
theorem g_slL {a : Addr} {xs : List V} {lo hi : Option Int} (h1 : SqL K H a xs) (h : ∀ p H', H p = none → Same H H' → H' p = some (.lst (cutV xs lo hi)) → Q (.ref p) H') : rSlL K (.ref a) lo hi H Q := ⟨a, xs, rfl, h1, fun p hp => h p _ hp (same_new hp) upd_same⟩
theorem cutV_all (xs : List V) : cutV xs none none = xs := by unfold cutV; rw [HT.sIx_none, HT.sIx_none]; simp
theorem cutV_to (xs : List V) (k : Nat) : cutV xs none (some (k : Int)) = xs.take k := by
  unfold cutV
  rw [HT.sIx_none, HT.sIx_nat, Nat.sub_zero, List.drop_zero]
  rcases Nat.le_total k xs.length with le | ge
  · congr 1
    exact Nat.min_eq_left le
  · rw [Nat.min_eq_right ge, List.take_length, List.take_of_length_le ge]
theorem cutV_from (xs : List V) (k : Nat) : cutV xs (some (k : Int)) none = xs.drop k := by
  unfold cutV
  rw [HT.sIx_none, HT.sIx_nat]
  rcases Nat.le_total k xs.length with le | ge
  · have z := Nat.min_eq_left le
    rw [z, ← List.length_drop, List.take_length]
  · rw [Nat.min_eq_right ge, List.drop_length, List.drop_of_length_le ge, List.take_nil]
theorem g_slT {a : Addr} {xs : List V} {lo hi : Option Int} (h1 : SqT K H a xs) (h : ∀ p H', Same H H' → SqT K H' p (cutV xs lo hi) → Q (.ref p) H') : rSlA K (.ref a) lo hi H Q := by
  refine ⟨a, xs, rfl, h1, fun hw => ?_, fun hw p hp => h p _ (same_new hp) (SqT.of upd_same)⟩
  refine h a H (Same.refl H) ?_
  have e : cutV xs lo hi = xs := by
    unfold cutV; rw [hw.1, hw.2]; simp
  rw [e]; exact h1
/-! loops -/
/-- the turns of a for over J -/
def LoopJ (J : It) (g : TG) (tb : TS) (D : Ends) (σ : L2.St) (H : Hp) : Prop := tFor (fun _ H1 R => R J H1) g tb D σ H
variable {g : TG} {tbs : TS}
def ItL (K : PySem.W.Frag) (g : TG) (tb : TS) (D : Ends) (σ : L2.St) : VK := fun x H1 => ∃ a, x = .ref a ∧ (∃ xs, SqL K H1 a xs) ∧ LoopJ (Itl K a) g tb D σ H1
theorem g_forL (h : te σ H (ItL K g tbs D σ)) : tFor (iList K te) g tbs D σ H := h
theorem n_forL {a : Addr} {xs : List V} (h1 : SqL K H a xs) (Pv : Nat → L2.St → Hp → Prop) (h0 : Pv 0 σ H) (hl : ∀ i σ H, Pv i σ H → SqL K H a xs)
    (hs : ∀ i x σ H, xs[i]? = some x → Pv i σ H → g x σ H fun σ2 H2 => tbs { D with nx := Pv (i + 1), ct := Pv (i + 1), bk := D.nx } σ2 H2) (hd : ∀ σ H, Pv xs.length σ H → D.nx σ H) : ItL K g tbs D σ (.ref a) H :=
  ⟨a, rfl, ⟨xs, h1⟩, for_list Pv h0 (fun i σ H _ p => hl i σ H p) hs hd⟩
def ItT (K : PySem.W.Frag) (g : TG) (tb : TS) (D : Ends) (σ : L2.St) : VK := fun x H1 => ∃ a, x = .ref a ∧ (∃ xs, SqT K H1 a xs) ∧ LoopJ (Itt K a) g tb D σ H1
theorem g_forT (h : te σ H (ItT K g tbs D σ)) : tFor (iTup K te) g tbs D σ H := h
theorem n_forT {a : Addr} {xs : List V} (h1 : SqT K H a xs) (Pv : Nat → L2.St → Hp → Prop) (h0 : Pv 0 σ H) (hl : ∀ i σ H, Pv i σ H → SqT K H a xs)
    (hs : ∀ i x σ H, xs[i]? = some x → Pv i σ H → g x σ H fun σ2 H2 => tbs { D with nx := Pv (i + 1), ct := Pv (i + 1), bk := D.nx } σ2 H2) (hd : ∀ σ H, Pv xs.length σ H → D.nx σ H) : ItT K g tbs D σ (.ref a) H :=
  ⟨a, rfl, ⟨xs, h1⟩, for_tup Pv h0 (fun i σ H _ p => hl i σ H p) hs hd⟩
def ItS (g : TG) (tb : TS) (D : Ends) (σ : L2.St) : VK := fun x H1 => ∃ z, x = .str z ∧ LoopJ (Its z) g tb D σ H1
theorem g_forS (h : te σ H (ItS g tbs D σ)) : tFor (iStr te) g tbs D σ H := h
theorem n_forS {z : Str} (Pv : Nat → L2.St → Hp → Prop) (h0 : Pv 0 σ H)
    (hs : ∀ i c σ H, z.cps[i]? = some c → Pv i σ H → g (.str ⟨#[c]⟩) σ H fun σ2 H2 => tbs { D with nx := Pv (i + 1), ct := Pv (i + 1), bk := D.nx } σ2 H2) (hd : ∀ σ H, Pv z.cps.size σ H → D.nx σ H) : ItS g tbs D σ (.str z) H :=
  ⟨z, rfl, for_it (walk_str (z := z)) Pv h0 (fun _ _ _ _ _ => trivial) (fun i x σ H H' hi p ⟨e, c, hc, ex⟩ => by subst e ex; exact hs i c σ _ hc p) hd⟩
def ItR1 (g : TG) (tb : TS) (D : Ends) (σ : L2.St) (vs : List V) (H1 : Hp) : Prop := ∃ j, vs = [.int j] ∧ -(2 ^ 62) ≤ j ∧ j < 2 ^ 62 ∧ LoopJ (Itr 0 j.toNat) g tb D σ H1
theorem g_forR1 (h : ts σ H (ItR1 g tbs D σ)) : tFor (iRng1 ts) g tbs D σ H := h
theorem n_forR1 {j : Int} (hj : -(2 ^ 62) ≤ j) (hk : j < 2 ^ 62) (Pv : Nat → L2.St → Hp → Prop) (h0 : Pv 0 σ H)
    (hs : ∀ (i : Nat) σ H, i < j.toNat → Pv i σ H → g (.int i) σ H fun σ2 H2 => tbs { D with nx := Pv (i + 1), ct := Pv (i + 1), bk := D.nx } σ2 H2) (hd : ∀ σ H, Pv j.toNat σ H → D.nx σ H) : ItR1 g tbs D σ [.int j] H :=
  ⟨j, rfl, hj, hk, for_range Pv h0 (fun i σ H hi p => by rw [Int.zero_add]; exact hs i σ H hi p) hd⟩
def ItR2 (g : TG) (tb : TS) (D : Ends) (σ : L2.St) (vs : List V) (H1 : Hp) : Prop := ∃ lo hi, vs = [.int lo, .int hi] ∧ (-(2 ^ 62) ≤ lo ∧ lo < 2 ^ 62 ∧ -(2 ^ 62) ≤ hi ∧ hi < 2 ^ 62) ∧ LoopJ (Itr lo (hi - lo).toNat) g tb D σ H1
theorem g_forR2 (h : ts σ H (ItR2 g tbs D σ)) : tFor (iRng2 ts) g tbs D σ H := h
theorem n_forR2 {lo hi : Int} (h1 : -(2 ^ 62) ≤ lo) (h2 : lo < 2 ^ 62) (h3 : -(2 ^ 62) ≤ hi) (h4 : hi < 2 ^ 62) (Pv : Nat → L2.St → Hp → Prop) (h0 : Pv 0 σ H)
    (hs : ∀ (i : Nat) σ H, i < (hi - lo).toNat → Pv i σ H → g (.int (lo + i)) σ H fun σ2 H2 => tbs { D with nx := Pv (i + 1), ct := Pv (i + 1), bk := D.nx } σ2 H2) (hd : ∀ σ H, Pv (hi - lo).toNat σ H → D.nx σ H) : ItR2 g tbs D σ [.int lo, .int hi] H :=
  ⟨lo, hi, rfl, ⟨h1, h2, h3, h4⟩, for_range Pv h0 hs hd⟩
def ItET (K : PySem.W.Frag) (g : TG) (tb : TS) (D : Ends) (σ : L2.St) (vs : List V) (H1 : Hp) : Prop := ∃ a xs, vs = [.ref a] ∧ SqT K H1 a xs ∧ LoopJ (IteT K a xs.length) g tb D σ H1
theorem g_forET (h : ts σ H (ItET K g tbs D σ)) : tFor (iEnumT K ts) g tbs D σ H := h
theorem n_forET {a : Addr} {xs : List V} (h1 : SqT K H a xs) (Pv : Nat → L2.St → Hp → Prop) (h0 : Pv 0 σ H) (hl : ∀ i σ H, Pv i σ H → SqT K H a xs)
    (hs : ∀ (i : Nat) x T σ H H', xs[i]? = some x → Pv i σ H → H T = none → Same H H' → H' T = some (.tup [.int i, x]) → g (.ref T) σ H' fun σ2 H2 => tbs { D with nx := Pv (i + 1), ct := Pv (i + 1), bk := D.nx } σ2 H2) (hd : ∀ σ H, Pv xs.length σ H → D.nx σ H) : ItET K g tbs D σ [.ref a] H :=
  ⟨a, xs, rfl, h1, for_it (walk_enumT (K := K) (a := a) (xs := xs)) Pv h0 (fun i σ H _ p => hl i σ H p) (fun i x σ H H' hi p ⟨T, u, y, ex, hn, eH, e1, e2⟩ => by
    have eu := Option.some.inj e1
    subst ex eH eu
    exact hs i y T σ H _ e2 p hn (same_new hn) upd_same) hd⟩
/-- unpack a pair -/
theorem g_gtup {n : Nat} {t : TGs} {a : Addr} {xs : List V} {Q : L2.St → Hp → Prop} (h1 : SqT K H a xs) (h2 : xs.length = n) (h : t xs σ H Q) : gTup K n t (.ref a) σ H Q := ⟨a, xs, rfl, h1, h2, h⟩
theorem g_gcons {t : TG} {u : TGs} {x : V} {r : List V} {Q : L2.St → Hp → Prop} (h : t x σ H fun σ' H' => u r σ' H' Q) : gCons t u (x :: r) σ H Q := ⟨x, r, rfl, h⟩
theorem g_gnil {Q : L2.St → Hp → Prop} (h : Q σ H) : gNil [] σ H Q := ⟨rfl, h⟩
/-! comprehensions -/
/-- the turns of a list comprehension over J -/
def LcJ (J : It) (g : TG) (tt : TT) (te : TE) (vs : List Nat) (σ : L2.St) (Q : VK) (H : Hp) : Prop := tLc (fun _ H1 R => R J H1) g tt te vs σ H Q
/-- what a turn of a comprehension owes: the list so far stands at D -/
def LcEnd (D : Addr) (P : Hp → V → Prop) : VK := fun y H4 => ∃ acc, H4 D = some (.lst acc) ∧ acc.length < sizeLine ∧ P (upd H4 D (.lst (acc ++ [y]))) y
variable {tt : TT} {vs : List Nat} {ti : TE}
def LcL (K : PySem.W.Frag) (g : TG) (tt : TT) (te : TE) (vs : List Nat) (σ : L2.St) (Q : VK) : VK := fun x H1 => ∃ a, x = .ref a ∧ (∃ xs, SqL K H1 a xs) ∧ LcJ (Itl K a) g tt te vs σ Q H1
theorem g_lcL (h : ti σ H (LcL K g tt te vs σ Q)) : tLc (iList K ti) g tt te vs σ H Q := h
def LcT (K : PySem.W.Frag) (g : TG) (tt : TT) (te : TE) (vs : List Nat) (σ : L2.St) (Q : VK) : VK := fun x H1 => ∃ a, x = .ref a ∧ (∃ xs, SqT K H1 a xs) ∧ LcJ (Itt K a) g tt te vs σ Q H1
theorem g_lcT (h : ti σ H (LcT K g tt te vs σ Q)) : tLc (iTup K ti) g tt te vs σ H Q := h
def LcS (g : TG) (tt : TT) (te : TE) (vs : List Nat) (σ : L2.St) (Q : VK) : VK := fun x H1 => ∃ z, x = .str z ∧ LcJ (Its z) g tt te vs σ Q H1
theorem g_lcS (h : ti σ H (LcS g tt te vs σ Q)) : tLc (iStr ti) g tt te vs σ H Q := h
def LcR1 (g : TG) (tt : TT) (te : TE) (us : List Nat) (σ : L2.St) (Q : VK) (vs : List V) (H1 : Hp) : Prop := ∃ j, vs = [.int j] ∧ -(2 ^ 62) ≤ j ∧ j < 2 ^ 62 ∧ LcJ (Itr 0 j.toNat) g tt te us σ Q H1
theorem g_lcR1 (h : ts σ H (LcR1 g tt te vs σ Q)) : tLc (iRng1 ts) g tt te vs σ H Q := h

def NxP (P : Nat → List V → Hp → Prop) (C : Addr) (i : Nat) : Hp → Prop := fun H => ∃ acc, acc.length ≤ i ∧ H C = some (.lst acc) ∧ P i acc H
def LcK (C : Addr) (Nx : Hp → Prop) : VK := fun y H4 => ∃ acc, H4 C = some (.lst acc) ∧ acc.length < sizeLine ∧ Nx (upd H4 C (.lst (acc ++ [y])))
def LcIf (C : Addr) (te : TE) (σ2 : L2.St) (Nx : Hp → Prop) : Bool → Hp → Prop := fun b H3 => if b = true then te σ2 H3 (LcK C Nx) else Nx H3
theorem g_lcIfT {C : Addr} {Nx : Hp → Prop} (h : te σ H (LcK C Nx)) : LcIf C te σ Nx true H := iteT h
theorem g_lcIfF {C : Addr} {Nx : Hp → Prop} (h : Nx H) : LcIf C te σ Nx false H := iteF h
theorem g_yes {Q : Bool → Hp → Prop} (h : Q true H) : tYes σ H Q := h
theorem n_lcK {C : Addr} {P : Nat → List V → Hp → Prop} {i : Nat} {acc : List V} {y : V} (h1 : H C = some (.lst acc)) (hi : acc.length < i) (hn : i ≤ 1000000) (h : ∀ H', Keep C H H' → H' C = some (.lst (acc ++ [y])) → P i (acc ++ [y]) H') : LcK C (NxP P C i) y H :=
  ⟨acc, h1, Nat.lt_of_lt_of_le (Nat.lt_of_lt_of_le hi hn) (by decide), acc ++ [y], by rw [List.length_append]; exact hi, upd_same, h _ keep_upd upd_same⟩
theorem n_lcN {C : Addr} {P : Nat → List V → Hp → Prop} {i : Nat} {acc : List V} (h1 : H C = some (.lst acc)) (hi : acc.length ≤ i) (h : P i acc H) : NxP P C i H := ⟨acc, hi, h1, h⟩
/-- the comprehension's turns, one after another: at turn i the list at C is acc; P i acc H what else holds -/
theorem lc_run {J : It} {n : Nat} {G : Hp → Prop} {Y : Nat → Hp → V → Hp → Prop} (w : Walk J n G Y) (P : Nat → List V → Hp → Prop) {H1 : Hp}
    (h0 : ∀ C H', H1 C = none → Same H1 H' → H' C = some (.lst []) → P 0 [] H')
    (hG : ∀ i acc H C, H1 C = none → H C = some (.lst acc) → P i acc H → G H)
    (hs : ∀ C i acc x H H', H1 C = none → i < n → acc.length ≤ i → H C = some (.lst acc) → P i acc H → Y i H x H' → g x (wipe σ vs) H' fun σ2 H2 => wipe σ2 vs = wipe σ vs ∧ tt σ2 H2 (LcIf C te σ2 (NxP P C (i + 1))))
    (hd : ∀ C acc H, H1 C = none → H C = some (.lst acc) → P n acc H → Q (.ref C) H) : LcJ J g tt te vs σ Q H1 := by
  intro C hC
  refine ⟨fun i m H => m = n - i ∧ i ≤ n ∧ NxP P C i H, ⟨n, by simp, Nat.zero_le _, [], Nat.le_refl _, upd_same, h0 C _ hC (same_new hC) upd_same⟩, ?_⟩
  rintro i m H ⟨rfl, hi, acc, hl, hC', p⟩
  have q := hG i acc H C hC hC' p
  by_cases hlt : i < n
  · exact .inr ⟨w.goes i H hlt q, NxP P C (i + 1), fun H' q' => ⟨n - (i + 1), by omega, rfl, hlt, q'⟩, fun x H' y => hs C i acc x H H' hC hlt hl hC' p (w.yields i H x H' hlt q y)⟩
  · have e : i = n := by omega
    subst e
    exact .inl ⟨w.stops H q, hd C acc H hC hC' p⟩
theorem n_lcL {a : Addr} {xs : List V} (h1 : SqL K H a xs) (h : LcJ (Itl K a) g tt te vs σ Q H) : LcL K g tt te vs σ Q (.ref a) H := ⟨a, rfl, ⟨xs, h1⟩, h⟩
theorem n_lcT {a : Addr} {xs : List V} (h1 : SqT K H a xs) (h : LcJ (Itt K a) g tt te vs σ Q H) : LcT K g tt te vs σ Q (.ref a) H := ⟨a, rfl, ⟨xs, h1⟩, h⟩
theorem n_lcS {z : Str} (h : LcJ (Its z) g tt te vs σ Q H) : LcS g tt te vs σ Q (.str z) H := ⟨z, rfl, h⟩
theorem n_lcR1 {j : Int} (h1 : -(2 ^ 62) ≤ j) (h2 : j < 2 ^ 62) (h : LcJ (Itr 0 j.toNat) g tt te vs σ Q H) : LcR1 g tt te vs σ Q [.int j] H := ⟨j, rfl, h1, h2, h⟩
/-! fields -/
def Fl (K : PySem.W.Frag) (f : Str) (Q : VK) : VK := fun x H1 => ∃ a C dx fs v, x = .ref a ∧ H1 a = some (.ins C dx fs) ∧ Cls K C ∧ NoAttr K C f ∧ fs.lookup f = some v ∧ Q v H1
theorem g_fld {f : Str} (h : ta σ H (Fl K f Q)) : tFld K ta f σ H Q := h
theorem n_fld {a C dx : Addr} {fs : List (Str × V)} {f : Str} {v : V} (h1 : H a = some (.ins C dx fs)) (h2 : Cls K C) (h3 : NoAttr K C f) (h4 : fs.lookup f = some v) (h : Q v H) : Fl K f Q (.ref a) H := ⟨a, C, dx, fs, v, rfl, h1, h2, h3, h4, h⟩
def Pr (C : Addr) (sp : Sp) (Q : VK) : VK := fun x H1 => ∃ a dx fs, x = .ref a ∧ H1 a = some (.ins C dx fs) ∧ sp [.ref a] H1 Q E0
theorem g_prop {C : Addr} {sp : Sp} (h : ta σ H (Pr C sp Q)) : tPropR C sp ta σ H Q := h
theorem n_prop {a C dx : Addr} {fs : List (Str × V)} {sp : Sp} (h1 : H a = some (.ins C dx fs)) (h : sp [.ref a] H Q E0) : Pr C sp Q (.ref a) H := ⟨a, dx, fs, rfl, h1, h⟩
def Mt (C : Addr) (m : Str) (sp : Sp) (E : XK) (ts : TA) (σ : L2.St) (Q : VK) : VK := fun x H1 => ∃ a dx fs, x = .ref a ∧ H1 a = some (.ins C dx fs) ∧ fs.lookup m = none ∧ ts σ H1 fun vs H2 => sp (x :: vs) H2 Q E
theorem g_meth {C : Addr} {m : Str} {sp : Sp} {E : XK} (h : ta σ H (Mt C m sp E ts σ Q)) : tMethR C m sp E ta ts σ H Q := h
theorem n_meth {a C dx : Addr} {fs : List (Str × V)} {m : Str} {sp : Sp} {E : XK} (h1 : H a = some (.ins C dx fs)) (h2 : fs.lookup m = none) (h : ts σ H fun vs H2 => sp (.ref a :: vs) H2 Q E) : Mt C m sp E ts σ Q (.ref a) H := ⟨a, dx, fs, rfl, h1, h2, h⟩
def MkK (C : Addr) (sp : Sp) (E : XK) (Q : VK) (vs : List V) (H1 : Hp) : Prop := ∀ x dx, H1 x = none → H1 dx = none → dx ≠ x → sp (.ref x :: vs) (upd (upd H1 dx (.own x)) x (.ins C dx [])) (fun v H2 => v = .non ∧ Q (.ref x) H2) E
theorem g_make {C : Addr} {sp : Sp} {E : XK} (h : ts σ H (MkK C sp E Q)) : StX.tMakeR C sp E ts σ H Q := h
theorem n_make {C : Addr} {sp : Sp} {E : XK} {vs : List V} (h : ∀ x dx H', H x = none → H dx = none → dx ≠ x → Same H H' → H' x = some (.ins C dx []) → H' dx = some (.own x) → sp (.ref x :: vs) H' (fun v H2 => v = .non ∧ Q (.ref x) H2) E) : MkK C sp E Q vs H := fun x dx hx hd ne =>
  h x dx _ hx hd ne (fun b o e => by rw [upd_ne (ne_of_none e hx), upd_ne (ne_of_none e hd)]; exact e) upd_same (by rw [upd_ne ne, upd_same])
def St1 (K : PySem.W.Frag) (Q : List V → Hp → Prop) : VK := fun y H1 => ∃ a xs, y = V.ref a ∧ (SqT K H1 a xs ∨ SqL K H1 a xs) ∧ Q xs H1
theorem g_star1 {Q : List V → Hp → Prop} (h : te σ H (St1 K Q)) : tStar1 K te σ H Q := h
theorem n_star1 {a : Addr} {xs : List V} {Q : List V → Hp → Prop} (h1 : SqT K H a xs ∨ SqL K H a xs) (h : Q xs H) : St1 K Q (.ref a) H := ⟨a, xs, rfl, h1, h⟩
def StA (K : PySem.W.Frag) (t : TA) (σ : L2.St) (Q : List V → Hp → Prop) : VK := fun x H1 => ∃ p xs, x = V.ref p ∧ (SqT K H1 p xs ∨ SqL K H1 p xs) ∧ t σ H1 fun ys H2 => Q (xs ++ ys) H2
theorem g_star {Q : List V → Hp → Prop} (h : te σ H (StA K ts σ Q)) : StX.tStar K te ts σ H Q := h
theorem n_star {a : Addr} {xs : List V} {Q : List V → Hp → Prop} (h1 : SqT K H a xs ∨ SqL K H a xs) (h : ts σ H fun ys H2 => Q (xs ++ ys) H2) : StA K ts σ Q (.ref a) H := ⟨a, xs, rfl, h1, h⟩
def SFl (K : PySem.W.Frag) (f : Str) (y : V) (D : Ends) (σ : L2.St) : VK := fun x H2 => ∃ a C dx fs, x = .ref a ∧ H2 a = some (.ins C dx fs) ∧ Cls K C ∧ NoAttr K C f ∧ fs.length < 1000 ∧ D.nx σ (upd H2 a (.ins C dx (putF f y fs)))
theorem g_sfld {f : Str} {tv : TE} (h : tv σ H fun y H1 => ta σ H1 (SFl K f y D σ)) : sFld K ta tv f D σ H := h
theorem n_sfld {a C dx : Addr} {fs : List (Str × V)} {f : Str} {y : V} (h1 : H a = some (.ins C dx fs)) (h2 : Cls K C) (h3 : NoAttr K C f) (h4 : fs.length < 1000) (h : ∀ H', Keep a H H' → H' a = some (.ins C dx (putF f y fs)) → D.nx σ H') : SFl K f y D σ (.ref a) H := ⟨a, C, dx, fs, rfl, h1, h2, h3, h4, h _ keep_upd upd_same⟩

/-! words between -/
def tCutE (t : TE) : TE := fun σ H Q => ∃ Mid : V → Hp → Prop, t σ H Mid ∧ ∀ v H', Mid v H' → Q v H'
def tCutT (t : TT) : TT := fun σ H Q => ∃ Mid : Bool → Hp → Prop, t σ H Mid ∧ ∀ b H', Mid b H' → Q b H'
theorem pe_cut {e : Expr} {t : TE} (h : PE X e t) : PE X e (tCutE t) := ⟨fun pins s σ H Q I ⟨Mid, q, k⟩ => thn (h.run pins s σ H Mid I q) fun v s1 ⟨x, H1, I1, r1, q1⟩ => ⟨x, H1, I1, r1, k x H1 q1⟩⟩
theorem pt_cut {e : Expr} {t : TT} (h : PT X e t) : PT X e (tCutT t) := ⟨fun pins s σ H Q I ⟨Mid, q, k⟩ => thn (h.run pins s σ H Mid I q) fun b s1 ⟨H1, I1, q1⟩ => ⟨H1, I1, k b H1 q1⟩⟩
theorem g_cut {t u : TS} (Mid : L2.St → Hp → Prop) (h1 : t { D with nx := Mid } σ H) (h2 : ∀ σ' H', Mid σ' H' → u D σ' H') : C8.tCut t u D σ H := ⟨Mid, h1, h2⟩
theorem g_cutE {t : TE} (Mid : V → Hp → Prop) (h1 : t σ H Mid) (h2 : ∀ v H', Mid v H' → Q v H') : tCutE t σ H Q := ⟨Mid, h1, h2⟩
theorem g_cutT {t : TT} {Q : Bool → Hp → Prop} (Mid : Bool → Hp → Prop) (h1 : t σ H Mid) (h2 : ∀ b H', Mid b H' → Q b H') : tCutT t σ H Q := ⟨Mid, h1, h2⟩

/-! while -/
def WhK (Pv : Nat → L2.St → Hp → Prop) (m : Nat) (tb : TS) (D : Ends) (σ : L2.St) : Bool → Hp → Prop := fun b H1 => if b = true then ∃ N : L2.St → Hp → Prop, (∀ σ' H', N σ' H' → ∃ m', m' < m ∧ Pv m' σ' H') ∧ tb { D with nx := N, ct := N, bk := D.nx } σ H1 else D.nx σ H1
theorem n_while {c : TT} (Pv : Nat → L2.St → Hp → Prop) (m : Nat) (h0 : Pv m σ H) (hs : ∀ m σ H, Pv m σ H → c σ H (WhK Pv m tbs D σ)) : tWhile c tbs D σ H := ⟨Pv, ⟨m, h0⟩, hs⟩
theorem n_whT {Pv : Nat → L2.St → Hp → Prop} {m : Nat} (h : tbs { D with nx := fun σ' H' => ∃ m', m' < m ∧ Pv m' σ' H', ct := fun σ' H' => ∃ m', m' < m ∧ Pv m' σ' H', bk := D.nx } σ H) : WhK Pv m tbs D σ true H := iteT ⟨_, fun _ _ z => z, h⟩
theorem n_whF {Pv : Nat → L2.St → Hp → Prop} {m : Nat} (h : D.nx σ H) : WhK Pv m tbs D σ false H := iteF h

/-! a, b = x, y -/
def ParK (i j : Nat) (D : Ends) (σ : L2.St) (vs : List V) (H1 : Hp) : Prop := ∃ v w, vs = [v, w] ∧ D.nx ((σ.set i (some v)).set j (some w)) H1
theorem g_par {i j : Nat} (h : ts σ H (ParK i j D σ)) : tPar i j ts D σ H := h
theorem n_par {i j : Nat} {v w : V} {σ' : L2.St} (e : (σ.set i (some v)).set j (some w) = σ') (h : D.nx σ' H) : ParK i j D σ [v, w] H := ⟨v, w, rfl, by rw [e]; exact h⟩
def ParK3 (i j l : Nat) (D : Ends) (σ : L2.St) (vs : List V) (H1 : Hp) : Prop := ∃ u v w, vs = [u, v, w] ∧ D.nx (((σ.set i (some u)).set j (some v)).set l (some w)) H1
theorem g_par3 {i j l : Nat} (h : ts σ H (ParK3 i j l D σ)) : tPar3 i j l ts D σ H := h
theorem n_par3 {i j l : Nat} {u v w : V} {σ' : L2.St} (e : ((σ.set i (some u)).set j (some v)).set l (some w) = σ') (h : D.nx σ' H) : ParK3 i j l D σ [u, v, w] H := ⟨u, v, w, rfl, by rw [e]; exact h⟩
def AugK (i : Nat) (D : Ends) (σ : L2.St) : VK := fun z H2 => D.nx (σ.set i (some z)) H2
theorem g_aug {i : Nat} {x : V} {tip : TIp} (e : σ[i]? = some (some x)) (h : te σ H fun y H1 => tip x y H1 (AugK i D σ)) : tAug i te tip D σ H := ⟨x, e, h⟩
theorem n_aug {i : Nat} {z : V} {σ' : L2.St} (e : σ.set i (some z) = σ') (h : D.nx σ' H) : AugK i D σ z H := by subst e; exact h
theorem g_ipI {f : Int → Int → Int} {i j : Int} (h : Q (.int (f i j)) H) : ipI f (.int i) (.int j) H Q := ⟨i, j, rfl, rfl, h⟩
theorem g_rAdd {i j : Int} (h : Q (.int (i + j)) H) : rAdd (.int i) (.int j) H Q := ⟨i, j, rfl, rfl, h⟩
theorem g_rSub {i j : Int} (h : Q (.int (i - j)) H) : rSub (.int i) (.int j) H Q := ⟨i, j, rfl, rfl, h⟩
def FAK (K : PySem.W.Frag) (f : Str) (tv : TE) (rd : V → V → Hp → VK → Prop) (D : Ends) (σ : L2.St) : VK := fun x H => sFldAug K (fun _ H1 R => R x H1) tv rd f D σ H
def FAE (C a : Addr) (f : Str) (D : Ends) (σ : L2.St) : VK := fun z H3 => ∃ dx' fs', H3 a = some (.ins C dx' fs') ∧ fs'.length < 1000 ∧ D.nx σ (upd H3 a (.ins C dx' (putF f z fs')))
theorem g_fldaug {f : Str} {tv : TE} {rd : V → V → Hp → VK → Prop} (h : ta σ H (FAK K f tv rd D σ)) : sFldAug K ta tv rd f D σ H := h
theorem n_fldaug {a C dx : Addr} {fs : List (Str × V)} {f : Str} {v : V} {tv : TE} {rd : V → V → Hp → VK → Prop} (h1 : H a = some (.ins C dx fs)) (h2 : Cls K C) (h3 : NoAttr K C f) (h4 : fs.lookup f = some v) (h : tv σ H fun y H2 => rd v y H2 (FAE C a f D σ)) : FAK K f tv rd D σ (.ref a) H := ⟨a, C, dx, fs, v, rfl, h1, h2, h3, h4, h⟩
theorem n_fae {a C dx : Addr} {fs : List (Str × V)} {f : Str} {z : V} (h1 : H a = some (.ins C dx fs)) (h4 : fs.length < 1000) (h : ∀ H', Keep a H H' → H' a = some (.ins C dx (putF f z fs)) → D.nx σ H') : FAE C a f D σ z H := ⟨dx, fs, h1, h4, h _ keep_upd upd_same⟩
theorem g_minL {a : Addr} {ns : List Int} (h1 : SqL K H a (ns.map V.int)) (h2 : 0 < ns.length) (h : ∀ m, m ∈ ns → (∀ y, y ∈ ns → m ≤ y) → Q (.int m) H) : rMin K [.ref a] H Q := ⟨a, ns, rfl, h1, h2, h⟩
theorem g_maxL {a : Addr} {ns : List Int} (h1 : SqL K H a (ns.map V.int)) (h2 : 0 < ns.length) (h : ∀ m, m ∈ ns → (∀ y, y ∈ ns → y ≤ m) → Q (.int m) H) : rMax K [.ref a] H Q := ⟨a, ns, rfl, h1, h2, h⟩
theorem g_sumL {a : Addr} {ns : List Int} (h1 : SqL K H a (ns.map V.int)) (h : Q (.int ns.sum) H) : rSum K [.ref a] H Q := ⟨a, ns, rfl, h1, h⟩
theorem g_all {a : Addr} {bs : List Bool} (h1 : SqL K H a (bs.map V.bl)) (h : Q (.bl (bs.all id)) H) : rAll K [.ref a] H Q := ⟨a, bs, rfl, h1, h⟩
theorem g_any {a : Addr} {bs : List Bool} (h1 : SqL K H a (bs.map V.bl)) (h : Q (.bl (bs.any id)) H) : rAny K [.ref a] H Q := ⟨a, bs, rfl, h1, h⟩

/-! a comprehension whose i-th item is f i -/
def PMap (f : Nat → V) (H1 : Hp) : Nat → List V → Hp → Prop := fun i acc H' => Same H1 H' ∧ acc = (List.range i).map f
theorem n_mapK {f : Nat → V} {H1 : Hp} {C : Addr} {i : Nat} {y : V} (hC : H1 C = none) (h1 : Same H1 H) (h2 : H C = some (.lst ((List.range i).map f))) (e : y = f i) (hn : i < 1000000 := by omega) : LcK C (NxP (PMap f H1) C (i + 1)) y H := by
  refine n_lcK h2 (by simp) (by omega) fun H' k hc => ⟨fun b o e => k _ _ (ne_of_none e hC) (h1 _ _ e), ?_⟩
  rw [List.range_succ, List.map_append, e]; rfl
theorem lc_map {J : It} {n : Nat} {G : Hp → Prop} {Y : Nat → Hp → V → Hp → Prop} (w : Walk J n G Y) (f : Nat → V) {H1 : Hp} (hG : ∀ H, Same H1 H → G H)
    (hs : ∀ C i x H H', H1 C = none → i < n → Same H1 H → H C = some (.lst ((List.range i).map f)) → Y i H x H' → g x (wipe σ vs) H' fun σ2 H2 => wipe σ2 vs = wipe σ vs ∧ tt σ2 H2 (LcIf C te σ2 (NxP (PMap f H1) C (i + 1))))
    (hd : ∀ C H, H1 C = none → Same H1 H → H C = some (.lst ((List.range n).map f)) → Q (.ref C) H) : LcJ J g tt te vs σ Q H1 := by
  refine lc_run w (PMap f H1) (fun C H' nC s h => ⟨s, rfl⟩) (fun i acc H C nC hC ⟨s, _⟩ => hG H s) ?_ ?_
  · rintro C i acc x H H' nC hi hl hC ⟨s, rfl⟩ y
    exact hs C i x H H' nC hi s hC y
  · rintro C acc H nC hC ⟨s, rfl⟩
    exact hd C H nC s hC
theorem range_getD {α β : Type} (xs : List α) (d : α) (F : α → β) : (List.range xs.length).map (fun i => F (xs.getD i d)) = xs.map F := by
  apply List.ext_getElem
  · simp
  · intro i h1 h2
    simp at h1
    simp [List.getD, List.getElem?_eq_getElem h1]
theorem getD_of {α : Type} {xs : List α} {i : Nat} {x d : α} (h : xs[i]? = some x) : xs.getD i d = x := by simp [List.getD, h]
theorem cps_get {z : Str} {i c : Nat} (h : z.cps[i]? = some c) : z.cps.toList[i]? = some c := by simpa using h
end
end HC
/-! short words for terms -/
namespace HC
open PyProof.Rows PySem L2 PySem.Spec
theorem bt_len : bootBuiltins "len" = some (.builtin "len") := by decide +kernel
theorem bt_abs : bootBuiltins "abs" = some (.builtin "abs") := by decide +kernel
theorem bt_min : bootBuiltins "min" = some (.builtin "min") := by decide +kernel
theorem bt_max : bootBuiltins "max" = some (.builtin "max") := by decide +kernel
theorem bt_all : bootBuiltins "all" = some (.builtin "all") := by decide +kernel
theorem bt_any : bootBuiltins "any" = some (.builtin "any") := by decide +kernel
theorem bt_sum : bootBuiltins "sum" = some (.builtin "sum") := by decide +kernel
theorem bt_isinstance : bootBuiltins "isinstance" = some (.builtin "isinstance") := by decide +kernel
theorem bt_list : bootBuiltins "list" = some (.type "list") := by decide +kernel
theorem bt_tuple : bootBuiltins "tuple" = some (.type "tuple") := by decide +kernel
theorem bt_int : bootBuiltins "int" = some (.type "int") := by decide +kernel
theorem bt_str : bootBuiltins "str" = some (.type "str") := by decide +kernel
theorem bt_bool : bootBuiltins "bool" = some (.type "bool") := by decide +kernel
theorem bt_dict : bootBuiltins "dict" = some (.type "dict") := by decide +kernel
/-- the builtins' names are not the module's -/
structure Bts (mg : Str → Option Value) : Prop where
  len : mg "len" = none
  abs : mg "abs" = none
  min : mg "min" = none
  max : mg "max" = none
  all : mg "all" = none
  any : mg "any" = none
  sum : mg "sum" = none
  isinstance : mg "isinstance" = none
  list : mg "list" = none
  tuple : mg "tuple" = none
  int : mg "int" = none
  str : mg "str" = none
  bool : mg "bool" = none
  dict : mg "dict" = none
  range : mg "range" = none
  enumerate : mg "enumerate" = none
  zip : mg "zip" = none
  sorted : mg "sorted" = none
  set : mg "set" = none
def GInt (mg : Str → Option Value) (x : Str) (i : Int) : Prop := ∃ t, mg x = some (.int i t)
def GStr (mg : Str → Option Value) (x : Str) (z : Str) : Prop := ∃ t, mg x = some (.str z t)
/-- the class x (at C) has the int constant f -/
structure GCon (K : PySem.W.Frag) (mg : Str → Option Value) (x f : Str) (v : V) : Prop where
  ex : ∃ C mc u, mg x = some (.ref C) ∧ ClX.CRead K C mc ∧ ClX.CVal K C mc f v u
section
variable {X : Cx} {e e2 o : Expr} {es : List Expr} {te te2 to : TE} {ts : TA} {p pos apos tpos : Pos} {x f : Str}
theorem pe_gi {i : Int} (h : GInt X.mg x i) (hg : Gl X x := by rfl) (hd : (x == ("__debug__" : Str)) = false := by decide) : PE X (.Name x pos) (tC (.int i)) := by
  obtain ⟨t, h⟩ := h
  exact pe_glob hg h ⟨t, rfl⟩ hd
theorem pe_gs {z : Str} (h : GStr X.mg x z) (hg : Gl X x := by rfl) (hd : (x == ("__debug__" : Str)) = false := by decide) : PE X (.Name x pos) (tC (.str z)) := by
  obtain ⟨t, h⟩ := h
  exact pe_glob hg h ⟨t, rfl⟩ hd
theorem pe_gcon {v : V} (h : GCon X.K X.mg x f v) (hg : Gl X x := by rfl) (hb : attributeBase (.Name x p) f X.env (eval (.Name x p) X.env) = eval (.Name x p) X.env := by rfl) (hd : (x == ("__debug__" : Str)) = false := by decide) : PE X (.Attribute (.Name x p) f pos) (tC v) := by
  obtain ⟨C, mc, u, h1, h2, h3⟩ := h.ex
  exact ⟨fun pins s σ H Q I h => (ClX.pe_cval (pe_glob (v := .ref C) hg h1 rfl hd) hb).run pins s σ H Q I ⟨C, mc, v, u, rfl, h2, h3, h⟩⟩
theorem pe_len0 (m : Bts X.mg) (he : PE X e te) (hg : Gl X "len" := by rfl) (hs : starEach (e :: []) X.env = (false, eval e X.env) :: starEach [] X.env := by rfl) : PE X (.Call (.Name "len" p) [e] [] pos) (tCB (uLen X.K) (tCons te tNil)) :=
  pe_callB call_lenU hg m.len bt_len (pa_cons he pa_nil hs) (by decide) (by decide) hs rfl
theorem pe_len (K' : PySem.W.Frag) (m : Bts X.mg) (he : PE X e te) (hg : Gl X "len" := by rfl) (hs : starEach (e :: []) X.env = (false, eval e X.env) :: starEach [] X.env := by rfl) (hK : X.K = K' := by rfl) : PE X (.Call (.Name "len" p) [e] [] pos) (tCB (uLen K') (tCons te tNil)) := by
  subst hK
  exact pe_len0 m he hg hs
def rAbs : List V → Hp → VK → Prop := fun xs H Q => ∃ i, xs = [.int i] ∧ Q (.int (if i < 0 then -i else i)) H
theorem pe_abs (m : Bts X.mg) (he : PE X e te) (hg : Gl X "abs" := by rfl) (hs : starEach (e :: []) X.env = (false, eval e X.env) :: starEach [] X.env := by rfl) : PE X (.Call (.Name "abs" p) [e] [] pos) (tCB rAbs (tCons te tNil)) :=
  pe_callB call_abs hg m.abs bt_abs (pa_cons he pa_nil hs) (by decide) (by decide) hs rfl
def rMin2 : List V → Hp → VK → Prop := fun xs H Q => ∃ i j, xs = [.int i, .int j] ∧ Q (.int (if j < i then j else i)) H
theorem pe_min2 (m : Bts X.mg) (ha : PA X [e, e2] ts) (hc : X.calm = true := by rfl) (hg : Gl X "min" := by rfl) (he : starEach [e, e2] X.env = (false, eval e X.env) :: starEach [e2] X.env := by rfl) (hpl : (backTo pos (starEach [e2] X.env)).any (·.1) = false := by rfl) :
    PE X (.Call (.Name "min" p) [e, e2] [] pos) (tCB rMin2 ts) := pe_callB (call_min2 hc) hg m.min bt_min ha (by decide) (by decide) he hpl
theorem pe_max2 (m : Bts X.mg) (ha : PA X [e, e2] ts) (hc : X.calm = true := by rfl) (hg : Gl X "max" := by rfl) (he : starEach [e, e2] X.env = (false, eval e X.env) :: starEach [e2] X.env := by rfl) (hpl : (backTo pos (starEach [e2] X.env)).any (·.1) = false := by rfl) :
    PE X (.Call (.Name "max" p) [e, e2] [] pos) (tCB Evl.rMax2 ts) := pe_callB (call_max2 hc) hg m.max bt_max ha (by decide) (by decide) he hpl
theorem pe_min10 (m : Bts X.mg) (he : PE X e te) (hc : X.calm = true := by rfl) (hg : Gl X "min" := by rfl) (hs : starEach (e :: []) X.env = (false, eval e X.env) :: starEach [] X.env := by rfl) : PE X (.Call (.Name "min" p) [e] [] pos) (tCB (rMin X.K) (tCons te tNil)) :=
  pe_callB (cr_min hc) hg m.min bt_min (pa_cons he pa_nil hs) (by decide) (by decide) hs rfl
theorem pe_min1 (K' : PySem.W.Frag) (m : Bts X.mg) (he : PE X e te) (hc : X.calm = true := by rfl) (hg : Gl X "min" := by rfl) (hs : starEach (e :: []) X.env = (false, eval e X.env) :: starEach [] X.env := by rfl) (hK : X.K = K' := by rfl) : PE X (.Call (.Name "min" p) [e] [] pos) (tCB (rMin K') (tCons te tNil)) := by
  subst hK
  exact pe_min10 m he hc hg hs
theorem pe_max10 (m : Bts X.mg) (he : PE X e te) (hc : X.calm = true := by rfl) (hg : Gl X "max" := by rfl) (hs : starEach (e :: []) X.env = (false, eval e X.env) :: starEach [] X.env := by rfl) : PE X (.Call (.Name "max" p) [e] [] pos) (tCB (rMax X.K) (tCons te tNil)) :=
  pe_callB (cr_max hc) hg m.max bt_max (pa_cons he pa_nil hs) (by decide) (by decide) hs rfl
theorem pe_max1 (K' : PySem.W.Frag) (m : Bts X.mg) (he : PE X e te) (hc : X.calm = true := by rfl) (hg : Gl X "max" := by rfl) (hs : starEach (e :: []) X.env = (false, eval e X.env) :: starEach [] X.env := by rfl) (hK : X.K = K' := by rfl) : PE X (.Call (.Name "max" p) [e] [] pos) (tCB (rMax K') (tCons te tNil)) := by
  subst hK
  exact pe_max10 m he hc hg hs
theorem pe_sum10 (m : Bts X.mg) (he : PE X e te) (hc : X.calm = true := by rfl) (hg : Gl X "sum" := by rfl) (hs : starEach (e :: []) X.env = (false, eval e X.env) :: starEach [] X.env := by rfl) : PE X (.Call (.Name "sum" p) [e] [] pos) (tCB (rSum X.K) (tCons te tNil)) :=
  pe_callB (cr_sum hc) hg m.sum bt_sum (pa_cons he pa_nil hs) (by decide) (by decide) hs rfl
theorem pe_sum1 (K' : PySem.W.Frag) (m : Bts X.mg) (he : PE X e te) (hc : X.calm = true := by rfl) (hg : Gl X "sum" := by rfl) (hs : starEach (e :: []) X.env = (false, eval e X.env) :: starEach [] X.env := by rfl) (hK : X.K = K' := by rfl) : PE X (.Call (.Name "sum" p) [e] [] pos) (tCB (rSum K') (tCons te tNil)) := by
  subst hK
  exact pe_sum10 m he hc hg hs
theorem pe_all0 (m : Bts X.mg) (he : PE X e te) (hc : X.calm = true := by rfl) (hg : Gl X "all" := by rfl) (hs : starEach (e :: []) X.env = (false, eval e X.env) :: starEach [] X.env := by rfl) : PE X (.Call (.Name "all" p) [e] [] pos) (tCB (rAll X.K) (tCons te tNil)) :=
  pe_callB (cr_all hc) hg m.all bt_all (pa_cons he pa_nil hs) (by decide) (by decide) hs rfl
theorem pe_all (K' : PySem.W.Frag) (m : Bts X.mg) (he : PE X e te) (hc : X.calm = true := by rfl) (hg : Gl X "all" := by rfl) (hs : starEach (e :: []) X.env = (false, eval e X.env) :: starEach [] X.env := by rfl) (hK : X.K = K' := by rfl) : PE X (.Call (.Name "all" p) [e] [] pos) (tCB (rAll K') (tCons te tNil)) := by
  subst hK
  exact pe_all0 m he hc hg hs
theorem pe_any0 (m : Bts X.mg) (he : PE X e te) (hc : X.calm = true := by rfl) (hg : Gl X "any" := by rfl) (hs : starEach (e :: []) X.env = (false, eval e X.env) :: starEach [] X.env := by rfl) : PE X (.Call (.Name "any" p) [e] [] pos) (tCB (rAny X.K) (tCons te tNil)) :=
  pe_callB (cr_any hc) hg m.any bt_any (pa_cons he pa_nil hs) (by decide) (by decide) hs rfl
theorem pe_any (K' : PySem.W.Frag) (m : Bts X.mg) (he : PE X e te) (hc : X.calm = true := by rfl) (hg : Gl X "any" := by rfl) (hs : starEach (e :: []) X.env = (false, eval e X.env) :: starEach [] X.env := by rfl) (hK : X.K = K' := by rfl) : PE X (.Call (.Name "any" p) [e] [] pos) (tCB (rAny K') (tCons te tNil)) := by
  subst hK
  exact pe_any0 m he hc hg hs
def rInt1 : List V → Hp → VK → Prop := fun xs H Q => (∃ i, xs = [.int i] ∧ Q (.int i) H) ∨ ∃ k, xs = [.bl k] ∧ Q (.int (if k then 1 else 0)) H
theorem pe_int1 (m : Bts X.mg) (he : PE X e te) (hg : Gl X "int" := by rfl) (hs : starEach (e :: []) X.env = (false, eval e X.env) :: starEach [] X.env := by rfl) : PE X (.Call (.Name "int" p) [e] [] pos) (tCB rInt1 (tCons te tNil)) :=
  pe_callTy call_int1 hg m.int bt_int (pa_cons he pa_nil hs) (by decide) (by decide) hs rfl
def rListOf (K : PySem.W.Frag) : List V → Hp → VK → Prop := fun xs H Q => ∃ p ys, xs = [.ref p] ∧ (SqL K H p ys ∨ SqT K H p ys) ∧ ∀ l, H l = none → Q (.ref l) (upd H l (.lst ys))
def rTupleOf (K : PySem.W.Frag) : List V → Hp → VK → Prop := fun xs H Q => ∃ p ys, xs = [.ref p] ∧ ((SqL K H p ys ∧ ∀ l, H l = none → Q (.ref l) (upd H l (.tup ys))) ∨ (SqT K H p ys ∧ Q (.ref p) H))
theorem pe_listOf0 (m : Bts X.mg) (he : PE X e te) (hg : Gl X "list" := by rfl) (hs : starEach (e :: []) X.env = (false, eval e X.env) :: starEach [] X.env := by rfl) : PE X (.Call (.Name "list" p) [e] [] pos) (tCB (rListOf X.K) (tCons te tNil)) :=
  pe_callTy call_list_of hg m.list bt_list (pa_cons he pa_nil hs) (by decide) (by decide) hs rfl
theorem pe_listOf (K' : PySem.W.Frag) (m : Bts X.mg) (he : PE X e te) (hg : Gl X "list" := by rfl) (hs : starEach (e :: []) X.env = (false, eval e X.env) :: starEach [] X.env := by rfl) (hK : X.K = K' := by rfl) : PE X (.Call (.Name "list" p) [e] [] pos) (tCB (rListOf K') (tCons te tNil)) := by
  subst hK
  exact pe_listOf0 m he hg hs
theorem pe_tupOf0 (m : Bts X.mg) (he : PE X e te) (hg : Gl X "tuple" := by rfl) (hs : starEach (e :: []) X.env = (false, eval e X.env) :: starEach [] X.env := by rfl) : PE X (.Call (.Name "tuple" p) [e] [] pos) (tCB (rTupleOf X.K) (tCons te tNil)) :=
  pe_callTy call_tuple_of hg m.tuple bt_tuple (pa_cons he pa_nil hs) (by decide) (by decide) hs rfl
theorem pe_tupOf (K' : PySem.W.Frag) (m : Bts X.mg) (he : PE X e te) (hg : Gl X "tuple" := by rfl) (hs : starEach (e :: []) X.env = (false, eval e X.env) :: starEach [] X.env := by rfl) (hK : X.K = K' := by rfl) : PE X (.Call (.Name "tuple" p) [e] [] pos) (tCB (rTupleOf K') (tCons te tNil)) := by
  subst hK
  exact pe_tupOf0 m he hg hs
/-- isinstance(e, T), T a built-in class -/
theorem pe_isiB0 {T : String} {n : Str} (m : Bts X.mg) (hn : X.mg n = none) (hb : bootBuiltins n = some (.type T)) (he : PE X e te) (hg : Gl X "isinstance" := by rfl) (hg2 : Gl X n := by rfl) (hd1 : n ≠ "__name__" := by decide) (hd2 : (n == ("__debug__" : Str)) = false := by decide)
    (hs : starEach [e, .Name n tpos] X.env = (false, eval e X.env) :: starEach [.Name n tpos] X.env := by rfl) (hs2 : starEach [.Name n tpos] X.env = (false, eval (.Name n tpos) X.env) :: starEach [] X.env := by rfl) (hpl : (backTo pos (starEach [.Name n tpos] X.env)).any (·.1) = false := by rfl) :
    PE X (.Call (.Name "isinstance" p) [e, .Name n tpos] [] pos) (tCB (rIsi X.K) (tCons te (tCons (tC (.ty T)) tNil))) :=
  pe_callB (p := p) (pos := pos) call_isi hg m.isinstance bt_isinstance (pa_cons he (pa_cons (pe_bltn (pos := tpos) (v := .ty T) hg2 hn hb rfl hd1 hd2) pa_nil hs2) hs) (by decide) (by decide) hs hpl
theorem pe_isiB (K' : PySem.W.Frag) {T : String} {n : Str} (m : Bts X.mg) (hn : X.mg n = none) (hb : bootBuiltins n = some (.type T)) (he : PE X e te) (hg : Gl X "isinstance" := by rfl) (hg2 : Gl X n := by rfl) (hd1 : n ≠ "__name__" := by decide) (hd2 : (n == ("__debug__" : Str)) = false := by decide)
    (hs : starEach [e, .Name n tpos] X.env = (false, eval e X.env) :: starEach [.Name n tpos] X.env := by rfl) (hs2 : starEach [.Name n tpos] X.env = (false, eval (.Name n tpos) X.env) :: starEach [] X.env := by rfl) (hpl : (backTo pos (starEach [.Name n tpos] X.env)).any (·.1) = false := by rfl) (hK : X.K = K' := by rfl) :
    PE X (.Call (.Name "isinstance" p) [e, .Name n tpos] [] pos) (tCB (rIsi K') (tCons te (tCons (tC (.ty T)) tNil))) := by
  subst hK
  exact pe_isiB0 m hn hb he hg hg2 hd1 hd2 hs hs2 hpl
/-- isinstance(e, C), C a class of the module -/
theorem pe_isiC0 {C : Addr} {n : Str} (m : Bts X.mg) (hn : X.mg n = some (.ref C)) (he : PE X e te) (hg : Gl X "isinstance" := by rfl) (hg2 : Gl X n := by rfl) (hd2 : (n == ("__debug__" : Str)) = false := by decide)
    (hs : starEach [e, .Name n tpos] X.env = (false, eval e X.env) :: starEach [.Name n tpos] X.env := by rfl) (hs2 : starEach [.Name n tpos] X.env = (false, eval (.Name n tpos) X.env) :: starEach [] X.env := by rfl) (hpl : (backTo pos (starEach [.Name n tpos] X.env)).any (·.1) = false := by rfl) :
    PE X (.Call (.Name "isinstance" p) [e, .Name n tpos] [] pos) (tCB (rIsi X.K) (tCons te (tCons (tC (.ref C)) tNil))) :=
  pe_callB (p := p) (pos := pos) call_isi hg m.isinstance bt_isinstance (pa_cons he (pa_cons (pe_glob (pos := tpos) (v := .ref C) hg2 hn rfl hd2) pa_nil hs2) hs) (by decide) (by decide) hs hpl
/-! methods of built-in types -/
variable {K : PySem.W.Frag} {H : Hp} {Q : VK} {σ : L2.St}
theorem pe_isiC (K' : PySem.W.Frag) {C : Addr} {n : Str} (m : Bts X.mg) (hn : X.mg n = some (.ref C)) (he : PE X e te) (hg : Gl X "isinstance" := by rfl) (hg2 : Gl X n := by rfl) (hd2 : (n == ("__debug__" : Str)) = false := by decide)
    (hs : starEach [e, .Name n tpos] X.env = (false, eval e X.env) :: starEach [.Name n tpos] X.env := by rfl) (hs2 : starEach [.Name n tpos] X.env = (false, eval (.Name n tpos) X.env) :: starEach [] X.env := by rfl) (hpl : (backTo pos (starEach [.Name n tpos] X.env)).any (·.1) = false := by rfl) (hK : X.K = K' := by rfl) :
    PE X (.Call (.Name "isinstance" p) [e, .Name n tpos] [] pos) (tCB (rIsi K') (tCons te (tCons (tC (.ref C)) tNil))) := by
  subst hK
  exact pe_isiC0 m hn he hg hg2 hd2 hs hs2 hpl
end
section
variable {X : Cx} {K : PySem.W.Frag} {H : Hp} {Q : VK} {σ : L2.St}
theorem g_abs {i : Int} (h : Q (.int (if i < 0 then -i else i)) H) : rAbs [.int i] H Q := ⟨i, rfl, h⟩
theorem g_min2 {i j : Int} (h : Q (.int (if j < i then j else i)) H) : rMin2 [.int i, .int j] H Q := ⟨i, j, rfl, h⟩
theorem g_max2 {i j : Int} (h : Q (.int (if j > i then j else i)) H) : Evl.rMax2 [.int i, .int j] H Q := ⟨i, j, rfl, h⟩
theorem g_int_i {i : Int} (h : Q (.int i) H) : rInt1 [.int i] H Q := .inl ⟨i, rfl, h⟩
theorem g_int_b {k : Bool} (h : Q (.int (if k then 1 else 0)) H) : rInt1 [.bl k] H Q := .inr ⟨k, rfl, h⟩
theorem g_listOf {p : Addr} {ys : List V} (h1 : SqL K H p ys ∨ SqT K H p ys) (h : ∀ l H', H l = none → Same H H' → H' l = some (.lst ys) → Q (.ref l) H') : rListOf K [.ref p] H Q := ⟨p, ys, rfl, h1, fun l hl => h l _ hl (same_new hl) upd_same⟩
theorem g_tupOf_l {p : Addr} {ys : List V} (h1 : SqL K H p ys) (h : ∀ l H', H l = none → Same H H' → H' l = some (.tup ys) → Q (.ref l) H') : rTupleOf K [.ref p] H Q := ⟨p, ys, rfl, .inl ⟨h1, fun l hl => h l _ hl (same_new hl) upd_same⟩⟩
theorem g_tupOf_t {p : Addr} {ys : List V} (h1 : SqT K H p ys) (h : Q (.ref p) H) : rTupleOf K [.ref p] H Q := ⟨p, ys, rfl, .inr ⟨h1, h⟩⟩
theorem g_isi {x : V} {t T : String} {b : Bool} (h1 : TyX K H x (.type t)) (h2 : kitB t T = some b) (h : Q (.bl b) H) : rIsi K [x, .ty T] H Q := ⟨x, .ty T, .type t, .type T, b, rfl, .ty T, h1, kit_ty h2, h⟩
end

section
variable {X : Cx} {K : PySem.W.Frag} {a b e e2 o value : Expr} {es : List Expr} {ta tb te to tl : TE} {ts : TA} {p pos apos cpos tpos p2 pos' : Pos} {f name : Str}
theorem op_addK (K) (hK : X.K = K := by rfl) : OpR X (binaryOp .Add) (uAdd K) := by subst hK; exact op_addU
theorem op_eqK (K) {k : Nat} (hr : Room k X.A) (hK : X.K = K := by rfl) : OpR X (compareOp .Eq) (uEq K) := by subst hK; exact op_eqU hr
theorem op_neK (K) {k : Nat} (hr : Room k X.A) (hK : X.K = K := by rfl) : OpR X (compareOp .NotEq) (uNe K) := by subst hK; exact op_neU hr
theorem op_inK (K) {k : Nat} (hr : Room k X.A) (hK : X.K = K := by rfl) : OpR X (compareOp .In) (uIn K) := by subst hK; exact op_inU hr
theorem op_notInK (K) {k : Nat} (hr : Room k X.A) (hK : X.K = K := by rfl) : OpR X (compareOp .NotIn) (uNotIn K) := by subst hK; exact op_notInU hr
theorem ix_K (K) (hK : X.K = K := by rfl) : IxR X (rIx K) := by subst hK; exact ix_seq
theorem sl_listK (K) (hK : X.K = K := by rfl) : SlR X (rSlL K) := by subst hK; exact sl_list
theorem sl_tupK (K) (hK : X.K = K := by rfl) : SlR X (rSlA K) := by subst hK; exact sl_tupA
theorem pe_fldK (K) (he : PE X e ta) (hb : attributeBase e f X.env (eval e X.env) = eval e X.env := by rfl) (hK : X.K = K := by rfl) : PE X (.Attribute e f pos) (tFld K ta f) := by subst hK; exact pe_fld he hb
theorem ps_fldK (K) (ha : PE X o ta) (hv : PE X value te) (hs : swapsWith value (some (.Attribute o f pos')) pos.line X.env = pure false := by rfl) (hK : X.K = K := by rfl) : PS X (.Assign [.Attribute o f pos'] value pos) (sFld K ta te f) := by subst hK; exact ps_fld ha hv hs
theorem ps_fldaugK (K) {op : Operator} {rd : V → V → Hp → VK → Prop} (ha : PE X o ta) (hv : PE X value te) (hop : InOp X op rd) (hK : X.K = K := by rfl) : PS X (.AugAssign (.Attribute o f tpos) op value pos) (sFldAug K ta te rd f) := by subst hK; exact ps_fldaug ha hv hop
theorem as_bm (K) {c : Expr} {T : String} {r : V → List V → Hp → VK → Prop} (h : PE X c (tBM X.K T r to ts)) (hK : X.K = K := by rfl) : PE X c (tBM K T r to ts) := by subst hK; exact h
theorem pi_listK (K) {tg : Expr} (hl : PE X e tl) (hK : X.K = K := by rfl) : PI X tg e (iList K tl) := by subst hK; exact pi_list hl
theorem pi_tupK (K) {tg : Expr} (hl : PE X e tl) (hK : X.K = K := by rfl) : PI X tg e (iTup K tl) := by subst hK; exact pi_tup hl
theorem pi_enumTK (K) {elts : List Expr} {kk : Nat} (hg : Gl X "enumerate") (hm : X.mg "enumerate" = none) (ha : PA X [e] ts) (hs : starEach [e] X.env = [(false, eval e X.env)] := by rfl) (hK : X.K = K := by rfl) :
    PI X (.Tuple elts kk tpos) (.Call (.Name "enumerate" p) [e] [] pos) (iEnumT K ts) := by subst hK; exact pi_enumT hg hm ha hs
theorem pi_enumLK (K) {elts : List Expr} {kk : Nat} (hg : Gl X "enumerate") (hm : X.mg "enumerate" = none) (ha : PA X [e] ts) (hs : starEach [e] X.env = [(false, eval e X.env)] := by rfl) (hK : X.K = K := by rfl) :
    PI X (.Tuple elts kk tpos) (.Call (.Name "enumerate" p) [e] [] pos) (iEnum K ts) := by subst hK; exact pi_enum hg hm ha hs
theorem pi_zipK (K) {elts : List Expr} {kk : Nat} (hg : Gl X "zip") (hm : X.mg "zip" = none) (ha : PA X [e, e2] ts) (hs : starEach [e, e2] X.env = (false, eval e X.env) :: starEach [e2] X.env := by rfl) (hpl : (backTo pos (starEach [e2] X.env)).any (·.1) = false := by rfl) (hK : X.K = K := by rfl) :
    PI X (.Tuple elts kk tpos) (.Call (.Name "zip" p) [e, e2] [] pos) (RZ.iZipA K ts) := by subst hK; exact RZ.pi_zipA hg hm ha hs hpl
theorem pg_tupK (K) {k : Nat} {t : TGs} {n : Nat} (hc : X.calm = true) (h : PGs X es t) (hn : (assignEach es X.env).length = n := by rfl) (hst : (assignEach es X.env).findIdx? (·.1) = none := by rfl) (hK : X.K = K := by rfl) : PG X (.Tuple es k pos) (gTup K n t) := by subst hK; exact pg_tup hc h hn hst
theorem pa_starK (K) (he : PE X e te) (hr : PA X es ts) (hs : starEach (.Starred e p :: es) X.env = (true, eval e X.env) :: starEach es X.env := by rfl) (hK : X.K = K := by rfl) : PA X (.Starred e p :: es) (StX.tStar K te ts) := by subst hK; exact StX.pa_star he hr hs
def rJoin (K : PySem.W.Frag) : V → List V → Hp → VK → Prop := fun x xs H Q => ∃ a p, ∃ ys : List Str, x = .str a ∧ xs = [.ref p] ∧ (SqL K H p (ys.map V.str) ∨ SqT K H p (ys.map V.str)) ∧ (ys.map (·.length)).sum + ys.length * a.length ≤ 16777216 ∧ Q (.str (Txt.join a ys)) H
theorem pe_joinK (K) (ho : PE X o to) (he : PE X e te) (hs : starEach [e] X.env = [(false, eval e X.env)] := by rfl) (hbase : attributeBase o "join" X.env (eval o X.env) = eval o X.env := by rfl) (hline : (apos.endLine == pos.line) = true := by rfl) (hK : X.K = K := by rfl) :
    PE X (.Call (.Attribute o "join" apos) [e] [] pos) (tM1 (rJoin K) to te) := by subst hK; exact pe_join ho he hs hbase hline
theorem pe_makeSK (K) {x : Str} {C : Addr} {k : Nat} {sp : Sp} {E : XK} (M : MakeR X.prog X.w X.K X.mg X.base x C k sp) (hr : Room (k + 1) X.A) (hx : Passes (CXW X.prog X.w) X E) (he : PE X e te) (hg : Gl X x := by rfl) (hd : (x == ("__debug__" : Str)) = false := by decide)
    (hst : starEach [.Starred e apos] X.env = [(true, eval e X.env)] := by rfl) (hK : X.K = K := by rfl) : PE X (.Call (.Name x p) [.Starred e apos] [] pos) (StX.tMakeR C sp E (tStar1 K te)) := by subst hK; exact pe_makeS M hr hx he hg hd hst
end
end HC
/-! the head's facts: defs at any address, facts by names, properties, constants of classes -/
namespace HC
open PySem PySem.W PySem.Calls PyProof.Rows He He5 L2
/-- a property's getter -/
def pgA (K : Frag) (C : Addr) (f : PySem.Str) : Addr := match recIn K (ma K C f) "property" with
  | some (.ref g :: _) => g
  | _ => 0
def propB (K : Frag) (C : Addr) (f : PySem.Str) : Bool := eqO (findIn K (.ref C) f) (some (some (.ref (ma K C f)))) && (eqO (specialIn K (.ref (ma K C f)) "__get__") (some (some (.builtin "property.__get__"))) &&
  (decide (takesIn K (.ref (ma K C f)) = some true) && (match recIn K (ma K C f) "property" with
    | some (.ref _ :: _) => true
    | _ => false)))
theorem propB_ok {K : Frag} {C : Addr} {f : PySem.Str} (h : propB K C f = true) : PropOf K C f (ma K C f) (pgA K C f) := by
  obtain ⟨h1, h⟩ := ba h
  obtain ⟨h2, h⟩ := ba h
  obtain ⟨h3, h4⟩ := ba h
  refine ⟨eqO_ok h1, eqO_ok h2, of_decide_eq_true h3, ?_⟩
  unfold pgA
  split at h4
  · rename_i g r e
    exact ⟨r, by rw [e]⟩
  · cases h4
def gconB (K : Frag) (C : Addr) (f : PySem.Str) (v : V) : Bool := readsIn K C (.type "type") && (eqO (specialIn K (.ref C) "__getattribute__") (some (some (.builtin "type.__getattribute__"))) && (match findCls K (.ref C) (.type "type") f with
  | some (.val u) => relB v u
  | _ => false))
theorem gconB_ok {K : Frag} {mg : PySem.Str → Option Value} {x f : PySem.Str} {C : Addr} {v : V} (hx : mg x = some (.ref C)) (h : gconB K C f v = true) : GCon K mg x f v := by
  obtain ⟨h1, h⟩ := ba h
  obtain ⟨h2, h3⟩ := ba h
  split at h3
  · rename_i u e
    exact ⟨C, .type "type", u, hx, ⟨h1, eqO_ok h2⟩, ⟨e, relB_ok h3⟩⟩
  · cases h3
/-- facts that He.Fa has no word for -/
inductive Fx where
  | prop (c f : PySem.Str)
  | con (c f : PySem.Str) (v : V)
def Fx.ok (K : Frag) : Fx → Bool
  | .prop c f => propB K (ga K c) f
  | .con c f v => gconB K (ga K c) f v
/-- the library's observation of facts and defs, and these facts beside it -/
def obsH (fx : List Fx) (fa : List Fa) (fn : List DefA) (K : Frag) : He.AlD × Bool := (obsA fa fn K, fx.all (Fx.ok K))
structure SaysH (fx : List Fx) (fa : List Fa) (fn : List DefA) (K : Frag) : Prop where
  base : SaysA fa fn K
  also : fx.all (Fx.ok K) = true
theorem SaysH.more {fx : List Fx} {fa : List Fa} {fn : List DefA} {K : Frag} (c : SaysH fx fa fn K) (i : Nat) {f : Fx} (at_ : fx[i]? = some f := by rfl) : f.ok K = true :=
  (List.all_eq_true.mp c.also) f (List.mem_of_getElem? at_)
def obsHG (n : Nat) (fx : List Fx) (fa : List Fa) (fn : List DefA) (g : Addr → Option Obj) : He.AlD × Bool := obsH fx fa fn (frG g (asA g n))
def hookH (n : Nat) (fx : List Fx) (fa : List Fa) (fn : List DefA) : PySem.W.Hook where
  α := He.AlD × Bool
  obs s := obsHG n fx fa fn s.heap.get?
  val _ := (valA fn, true)
  says _ h := ∃ K : Frag, K.In h ∧ SaysH fx fa fn K
  of _ _ both := ⟨_, frG_in, congrArg Prod.fst both, congrArg Prod.snd both⟩
  keeps _ _ _ here up := let ⟨K, inH, says⟩ := here; ⟨K, inH.keeps up, says⟩
theorem obsHG_eq {n : Nat} {fx : List Fx} {fa : List Fa} {fn : List DefA} {g : Addr → Option Obj} {s : Shared} (same : ∀ a, g a = s.heap.get? a) : obsHG n fx fa fn g = (hookH n fx fa fn).obs s := congrArg (obsHG n fx fa fn) (funext same)
end HC
/-! own operators, and makers with a star and a keyword -/
namespace HC
open PyProof.Rows PySem L2 PySem.Spec
section
variable {X : Cx} {k : Nat} {C : Addr} {sp : Sp} {m : Str}
/-- an instance's address, as its class asks it -/
theorem instAt {pins : List (Addr × Obj)} {s : Shared} {σ : L2.St} {H : Hp} {a C dx : Addr} {fs : List (Str × V)} (inv : L2.Inv X pins σ H s) (at_ : H a = some (.ins C dx fs)) : ∃ ox od, PySem.W.InstAt s.heap a ox C od := by
  obtain ⟨mA, obj, _⟩ := ins_get inv.hok at_
  obtain ⟨od, is, _⟩ := obj.look
  exact ⟨_, _, is⟩
/-- a value of ours is never NotImplemented -/
theorem cmpBack {pins : List (Addr × Obj)} {σ : L2.St} {Q : VK} {v : Value} {s : Shared} (h : EP X pins σ Q v s) : PySem.W.CmpBack (EP X pins σ Q) v s := by
  obtain ⟨x, H, inv, rel, q⟩ := h
  cases v <;> first | exact ⟨x, H, inv, rel, q⟩ | (cases x <;> simp [L2.RelV] at rel)
/-- x op y by the own method of x's class, both of the class at C -/
def rOwn2 (C : Addr) (sp : Sp) : R2 := fun x y H Q => ∃ a b dx dy fs gs, x = .ref a ∧ y = .ref b ∧ H a = some (.ins C dx fs) ∧ H b = some (.ins C dy gs) ∧ sp [.ref a, .ref b] H Q E0
theorem op_own2 {op : Operator} (M : MethR X.prog X.w X.K X.mg X.base C m k sp) (self : PySem.W.selfFirst X.K C = true) (room : Room k X.A) (nm : PySem.dunder op.info.2 = m := by first | rfl | decide) : OpR X (binaryOp op) (rOwn2 C sp) := by
  rintro pins s σ H _ _ v u Q inv rv ru ⟨a, b, dx, dy, fs, gs, rfl, rfl, ha, hb, owed⟩
  cases rv
  cases ru
  obtain ⟨ox, od, isA⟩ := instAt inv ha
  obtain ⟨oy, od', isB⟩ := instAt inv hb
  obtain ⟨mm, fr⟩ := inv.fr
  have called := run_fnR (us := [.ref a, .ref b]) (vs := [V.ref a, V.ref b]) M.fn room passN inv (.cons (by rfl) (.cons (by rfl) .nil)) owed
  exact PySem.W.binop_K fr inv.mod.kin isA isB.type self (nm ▸ M.at_.at_) M.at_.fn (wpAny_mono (wpAny_call called) (fun _ _ => cmpBack) fun _ _ z => z)
end
theorem callWith_SKW {M : Model} {A : Around} {E : Value → Shared → Prop} {s : Shared} {K : PySem.W.Frag} {env : Env} {pos p : Pos} {f : Value} {first : List Value} {Q : Value → Shared → Prop} {e : Expr} {kws : List Keyword} (kept : PySem.W.keepIn K f = true)
    (named : (backToKw pos (keywordEach kws env)).all (·.1.isSome) = true)
    (h : wpAny M A (eval e env) (fun v s1 => wpAny M A (evalAll ((backToKw pos (keywordEach kws env)).map (·.2))) (fun ks s2 => PySem.W.StarOf M A E v (fun vs s3 => K.In s3.heap ∧ wpAny M A (call f (first ++ vs) (((backToKw pos (keywordEach kws env)).filterMap (·.1)).zip ks)) Q E s3) s2) E s1) E s)
    (one : starEach [.Starred e p] env = [(true, eval e env)] := by rfl) : wpAny M A (callWith pos f first (backTo pos (starEach [.Starred e p] env)) (backToKw pos (keywordEach kws env))) Q E s := by
  rw [one]
  unfold callWith evalArgs
  apply wpAny_bind; apply wpAny_holding
  simp only [named, if_true, backTo]
  simp only [List.map_cons, List.map_nil, if_true]
  refine wpAny_bind (wpAny_bind (wpAny_mono h (fun v s1 h1 => wpAny_bind (wpAny_standAt (wpAny_pure ?_))) fun _ _ z => z))
  refine wpAny_bind (wpAny_pure (wpAny_holding (wpAny_bind (wpAny_mono h1 (fun ks s2 h2 => ?_) fun _ _ z => z))))
  refine wpAny_bind (wpAny_bind (wpAny_mono h2 (fun b s3 hb => ?_) fun _ _ z => z))
  obtain ⟨rfl, hb⟩ := hb
  rw [if_neg (fun z : false = true => nomatch z)]
  refine wpAny_holding (wpAny_mono hb (fun vs s4 done => wpAny_pure ?_) fun _ _ z => z)
  obtain ⟨kin, called⟩ := done
  apply wpAny_bind; apply wpAny_standAt
  obtain ⟨keeper, which, looks⟩ := PySem.W.keeps_K (M := M) kept _ kin
  simp only [List.any_cons, Bool.true_or]
  refine wpAny_bind (looks.here ?_)
  have ends : ∀ {m : Sem Value}, wpAny M A m Q E s4 → wpAny M A (do let r ← m; holding [r] point; pure r) Q E s4 := fun {m} hm =>
    wpAny_bind (wpAny_mono hm (fun r s5 q => wpAny_bind (wpAny_holding (wpAny_point (wpAny_pure q)))) fun _ _ z => z)
  rcases which with rfl | rfl | rfl
  · exact ends (by unfold callMarked; exact Calls.wpAny_keep called)
  · exact ends (wpAny_operating called)
  · exact ends (wpAny_operating called)
section
variable {P : Program} {w : World} {K : PySem.W.Frag}
variable {mg : Str → Option Value} {base : Heap} {k : Nat} {f : Addr} {sp : Sp}
/-- a def called by place and with the keyword kw: sp is told of the keyword's value, then of the others -/
def FnRK (P : Program) (w : World) (K : PySem.W.Frag) (mg : Str → Option Value) (base : Heap) (k : Nat) (f : Addr) (kw : Str) (sp : Sp) : Prop :=
  ∀ (A : Around) (outer : List Env) (s : Shared) (H : Hp) (us : List Value) (vs : List V) (u : Value) (z : V) (Q : VK) (E : XK), Room k A → Env0 P w K mg base A outer s H → Vals vs us → L2.RelV z u → sp (z :: vs) H Q E →
    codeAny (model P w) A (.call (.ref f) ⟨us, [(kw, u)]⟩) (CR (CXW P w) outer P w H s Q E) s
/-- def f(self, *v, kw=..), called with kw -/
theorem fnk_star1 {x qual : Str} {params : Arguments} {body : List Stmt} {scope : Scope} {kws : List (Str × V)} {fd : FuncData} {N : List Str} {p1 pv kw : Str} (F : FunD K x qual params body scope [] kws f fd) (S : FnScope N [p1, kw, pv] scope)
    (h0 : ∀ (kV doc pm : Value) (an : Option Addr) (cdv ct : Value) (a u : Value), bindArgs (PySem.W.fnOf x qual params body scope .none kV doc pm an cdv ct) ⟨[a], [(kw, u)]⟩ = (newTuple [] >>= fun t => pure [(p1, a), (kw, u), (pv, t)]))
    (h1 : ∀ (kV doc pm : Value) (an : Option Addr) (cdv ct : Value) (a u r : Value) (rs : List Value), bindArgs (PySem.W.fnOf x qual params body scope .none kV doc pm an cdv ct) ⟨a :: r :: rs, [(kw, u)]⟩ = (newTuple (r :: rs) >>= fun t => pure [(p1, a), (kw, u), (pv, t)]))
    (owes : ∀ cdv, Owes P w K mg base N qual scope body k f sp cdv) :
    FnRK P w K mg base (k + 1) f kw (fun vs H Q E => ∃ z w0 rest, vs = z :: w0 :: rest ∧ rest.length ≤ sizeLine ∧ ∀ p, H p = none → sp [w0, z, V.ref p] (upd H p (.tup rest)) Q E) := by
  rcases F.ex with ⟨c1, c2, dv, kv, dc, pm, an, cdv, ct, sl, e, at_, code, dfl, _⟩
  subst e
  have dn : dv = .none := dfl.elim (fun z => z.2) (fun z => absurd rfl z.1)
  subst dn
  rintro A outer s H us vs u z Q E room env rel relz ⟨z', w0, rest, ev, size, owed⟩
  injection ev with ez ev
  subst ez ev
  cases rel with
  | @cons _ a _ more ra rmore =>
    have free : H s.heap.objs.size = none := env.hok.fresh (Nat.le_refl _)
    have size' : more.length ≤ sizeLine := rmore.length ▸ size
    have bind : bindArgs (PySem.W.fnOf x qual params body scope .none kv dc pm an cdv ct) ⟨a :: more, [(kw, u)]⟩ = (newTuple more >>= fun t => pure [(p1, a), (kw, u), (pv, t)]) := by
      cases more with
      | nil => exact h0 kv dc pm an cdv ct a u
      | cons r rs => exact h1 kv dc pm an cdv ct a u r rs
    refine StX.run_bnd at_ code S room env (G := fun xs H2 => ∃ p, H p = none ∧ xs = [w0, z, V.ref p] ∧ H2 = upd H p (.tup rest)) ?_ ?_
    · intro A' Ex Q' go
      rw [bind]
      refine wpAny_bind (wpAny_newTuple (wpAny_pure ?_) size')
      have fresh : ObjOk P w (upd H s.heap.objs.size (.tup rest)) (s.heap.push { cls := .type "tuple", data := .seq more.toArray }) s.heap.objs.size (.tup rest) := ⟨size, more, rmore, _, Heap.get?_push_size _ rfl, rfl, _, rfl⟩
      have grown := StX.un_laid (fs := frs outer) (s := s) (o := { cls := .type "tuple", data := .seq more.toArray }) (u := .tup rest) free
      exact go _ _ [w0, z, .ref s.heap.objs.size] [a, u, .ref s.heap.objs.size] (StX.env0_laid env fresh) grown rfl (fun e s' => StX.cxUp outer s H _ _ E e s' grown (fun b o q => Heap.get?_push_of_some _ q) rfl) (.cons ra (.cons relz (.cons rfl .nil))) rfl ⟨_, free, rfl, rfl⟩
    · rintro s2 _ _ ⟨p, hp, rfl, rfl⟩ room'
      exact owes cdv A outer s2 _ _ Q E room' (owed p hp)
end
/-- the class x at C is made by an __init__ that keeps sp, the keyword kw given -/
structure MakeRK (P : Program) (w : World) (K : PySem.W.Frag) (mg : Str → Option Value) (base : Heap) (x : Str) (C : Addr) (k : Nat) (kw : Str) (sp : Sp) : Prop where
  at_ : mg x = some (.ref C)
  ex : ∃ f, Mk K C f ∧ FnRK P w K mg base k f kw sp
section
variable {X : Cx} {k : Nat} {C f : Addr} {sp : Sp} {E : XK} {x kw : Str} {e ke : Expr} {es : List Expr} {te tk : TE} {t : TA} {p pos apos kpos : Pos}
/-- what the maker owes: the new instance and its dict, then __init__ -/
def Makes (C : Addr) (sp : Sp) (E : XK) (Q : VK) (z : V) (vs : List V) (H : Hp) : Prop := ∀ x dx, H x = none → H dx = none → dx ≠ x → sp (z :: V.ref x :: vs) (upd (upd H dx (.own x)) x (.ins C dx [])) (fun v H2 => v = .non ∧ Q (.ref x) H2) E
theorem run_makeRK {pins : List (Addr × Obj)} {σ : L2.St} {H : Hp} {s : Shared} {Q : VK} {us : List Value} {vs : List V} {u : Value} {z : V} (made : Mk X.K C f) (F : FnRK X.prog X.w X.K X.mg X.base k f kw sp) (room : Room (k + 1) X.A) (leave : Passes (CXW X.prog X.w) X E) (inv : L2.Inv X pins σ H s)
    (rel : Vals vs us) (relz : L2.RelV z u) (owed : Makes C sp E Q z vs H) : wpAny (model X.prog X.w) X.A (call (.ref C) us [(kw, u)]) (EP X pins σ Q) X.xe s := by
  have inv2 := Inv.made (C := C) inv
  have here := owed _ _ (inv.hok.fresh (Nat.le_succ _)) (inv.hok.fresh (Nat.le_refl _)) (Nat.ne_of_lt (Nat.lt_succ_self _))
  have run := F _ X.stack _ _ (Value.ref (s.heap.objs.size + 1) :: us) (V.ref (s.heap.objs.size + 1) :: vs) u z _ E (room.make C us [(kw, u)]) (inv2.env0.make C us [(kw, u)]) (.cons rfl rel) relz here
  refine wpAny_call (make_map (f := f) inv.kIn made.makes made.init (beq_iff_eq.mp made.fn) (codeAny_mono run ?_))
  rintro (er | fl) s' got
  · exact leave pins σ _ _ er s' inv2 got
  · cases fl with
    | ret v =>
      obtain ⟨y, H', inv3, ry, ey, q⟩ := inv2.after got
      subst ey
      exact ⟨ry, V.ref (s.heap.objs.size + 1), H', inv3, rfl, q⟩
    | _ => exact got.elim
/-- one keyword's value, then the maker -/
def KwMk (C : Addr) (sp : Sp) (E : XK) (Q : VK) (vs : List V) (zs : List V) (H : Hp) : Prop := ∃ z, zs = [z] ∧ Makes C sp E Q z vs H
/-- C(e, .., kw=v) -/
def tMakeKW (C : Addr) (sp : Sp) (E : XK) (t tk : TA) : TE := fun σ H Q => t σ H fun vs H1 => tk σ H1 (KwMk C sp E Q vs)
theorem pe_makeKW {tk : TA} (M : MakeRK X.prog X.w X.K X.mg X.base x C k kw sp) (room : Room (k + 1) X.A) (leave : Passes (CXW X.prog X.w) X E) (args : PA X (e :: es) t) (key : PK X [⟨some kw, ke, kpos⟩] tk) (glob : Gl X x := by rfl) (nodeb : (x == ("__debug__" : Str)) = false := by decide)
    (named : (backToKw pos (keywordEach [⟨some kw, ke, kpos⟩] X.env)).all (·.1.isSome) = true := by rfl) (nm : (backToKw pos (keywordEach [⟨some kw, ke, kpos⟩] X.env)).filterMap (·.1) = [kw] := by rfl)
    (plain : ((backTo pos (starEach (e :: es) X.env)).any (·.1) || (backToKw pos (keywordEach [⟨some kw, ke, kpos⟩] X.env)).any (·.1.isNone)) = false := by rfl) (one : starEach (e :: es) X.env = (false, eval e X.env) :: starEach es X.env := by rfl) :
    PE X (.Call (.Name x p) (e :: es) [⟨some kw, ke, kpos⟩] pos) (tMakeKW C sp E t tk) := by
  constructor
  intro pn s σ H Q inv h
  obtain ⟨g, made, F⟩ := M.ex
  refine wpAny_Call_Name_kw (ld_glob inv glob M.at_ (PySem.W.callWith_KW (h₀ := X.base) inv.ok.mod.kin made.kp named (thn (args.run pos pn s σ H _ inv h) ?_) plain one) nodeb)
  rintro us s1 ⟨vs, H1, inv1, rel, q⟩
  refine thn (key.run pos pn s1 σ H1 _ inv1 q) ?_
  rintro ws s2 ⟨_, H2, inv2, relz, z, rfl, owed⟩
  obtain ⟨u, rfl, ru⟩ := vals1 relz
  refine ⟨inv2.kIn, ?_⟩
  rw [nm]
  exact run_makeRK made F room leave inv2 rel ru owed
/-- C( *e, kw=v): e's value, the keyword's, then e's items -/
def tMakeSKW (K : PySem.W.Frag) (C : Addr) (sp : Sp) (E : XK) (te : TE) (tk : TA) : TE := fun σ H Q => te σ H fun y H1 => tk σ H1 fun zs H2 => ∃ a xs, y = V.ref a ∧ (SqT K H2 a xs ∨ SqL K H2 a xs) ∧ KwMk C sp E Q xs zs H2
theorem pe_makeSKW {tk : TA} (M : MakeRK X.prog X.w X.K X.mg X.base x C k kw sp) (room : Room (k + 1) X.A) (leave : Passes (CXW X.prog X.w) X E) (arg : PE X e te) (key : PK X [⟨some kw, ke, kpos⟩] tk) (glob : Gl X x := by rfl) (nodeb : (x == ("__debug__" : Str)) = false := by decide)
    (named : (backToKw pos (keywordEach [⟨some kw, ke, kpos⟩] X.env)).all (·.1.isSome) = true := by rfl) (nm : (backToKw pos (keywordEach [⟨some kw, ke, kpos⟩] X.env)).filterMap (·.1) = [kw] := by rfl) (one : starEach [.Starred e apos] X.env = [(true, eval e X.env)] := by rfl) :
    PE X (.Call (.Name x p) [.Starred e apos] [⟨some kw, ke, kpos⟩] pos) (tMakeSKW X.K C sp E te tk) := by
  constructor
  intro pn s σ H Q inv h
  obtain ⟨g, made, F⟩ := M.ex
  refine wpAny_Call_Name_kw (ld_glob inv glob M.at_ (callWith_SKW made.kp named (thn (arg.run pn s σ H _ inv h) ?_) one) nodeb)
  rintro v s1 ⟨y, H1, inv1, rel, q⟩
  refine thn (key.run pos pn s1 σ H1 _ inv1 q) ?_
  rintro ws s2 ⟨_, H2, inv2, relz, a, xs, rfl, sq, z, rfl, owed⟩
  obtain ⟨u, rfl, ru⟩ := vals1 relz
  cases rel
  refine StX.star_any inv2 sq fun us s3 inv3 rv => ⟨inv3.kIn, ?_⟩
  rw [nm]
  exact run_makeRK made F room leave inv3 rv ru owed
end
section
variable {X : Cx} {K : PySem.W.Frag} {H : Hp} {Q : VK} {σ : L2.St} {C : Addr} {sp : Sp} {E : XK} {t tk : TA} {te : TE} {c : Expr}
theorem as_skw (K) (h : PE X c (tMakeSKW X.K C sp E te tk)) (hK : X.K = K := by rfl) : PE X c (tMakeSKW K C sp E te tk) := by subst hK; exact h
theorem n_own2 {a b dx dy : Addr} {fs gs : List (Str × V)} (h1 : H a = some (.ins C dx fs)) (h2 : H b = some (.ins C dy gs)) (h : sp [.ref a, .ref b] H Q E0) : rOwn2 C sp (.ref a) (.ref b) H Q := ⟨a, b, dx, dy, fs, gs, rfl, rfl, h1, h2, h⟩
theorem g_mkw (h : t σ H fun vs H1 => tk σ H1 (KwMk C sp E Q vs)) : tMakeKW C sp E t tk σ H Q := h
/-- the items of what stood behind the star, then the maker -/
def SkwK (K : PySem.W.Frag) (C : Addr) (sp : Sp) (E : XK) (Q : VK) (y : V) (zs : List V) (H : Hp) : Prop := ∃ a xs, y = V.ref a ∧ (SqT K H a xs ∨ SqL K H a xs) ∧ KwMk C sp E Q xs zs H
theorem g_mskw (h : te σ H fun y H1 => tk σ H1 (SkwK K C sp E Q y)) : tMakeSKW K C sp E te tk σ H Q := h
theorem n_mskw {a : Addr} {xs zs : List V} (h1 : SqT K H a xs ∨ SqL K H a xs) (h : KwMk C sp E Q xs zs H) : SkwK K C sp E Q (.ref a) zs H := ⟨a, xs, rfl, h1, h⟩
theorem n_kwmk {vs : List V} {z : V} (h : ∀ x dx H', H x = none → H dx = none → dx ≠ x → Same H H' → H' x = some (.ins C dx []) → H' dx = some (.own x) → sp (z :: .ref x :: vs) H' (fun v H2 => v = .non ∧ Q (.ref x) H2) E) : KwMk C sp E Q vs [z] H :=
  ⟨z, rfl, fun x dx hx hd ne => h x dx _ hx hd ne ((same_new hd).trans (same_new (by rw [upd_ne (Ne.symm ne)]; exact hx))) upd_same (by rw [upd_ne ne]; exact upd_same)⟩
theorem g_add_t {a b : Addr} {xs ys : List V} (h1 : SqT K H a xs) (h2 : SqT K H b ys) (hz : xs.length + ys.length ≤ sizeLine) (h : ∀ p H', Same H H' → SqT K H' p (xs ++ ys) → Q (.ref p) H') : uAdd K (.ref a) (.ref b) H Q := by
  refine .inr (.inr (.inr ⟨a, b, xs, ys, rfl, rfl, h1, h2, hz, fun e => ?_, fun _ e => ?_, fun _ _ p hp => h p _ (same_new hp) (SqT.of upd_same)⟩))
  · subst e
    exact h b H (Same.refl H) h2
  · subst e
    exact h a H (Same.refl H) (by simpa using h1)
end
theorem dpa_app {K : PySem.W.Frag} {H : Hp} : ∀ {vs us : List V} {ds es : List PyData}, DpAll K H vs ds → DpAll K H us es → DpAll K H (vs ++ us) (ds ++ es)
  | _, _, _, _, .nil, b => b
  | _, _, _, _, .cons a r, b => .cons a (dpa_app r b)
theorem dpa_drop {K : PySem.W.Frag} {H : Hp} : ∀ {vs : List V} {ds : List PyData} (n : Nat), DpAll K H vs ds → DpAll K H (vs.drop n) (ds.drop n)
  | _, _, 0, h => h
  | _, _, _ + 1, .nil => .nil
  | _, _, n + 1, .cons _ t => dpa_drop n t
end HC
/-! set(t) of a tuple of texts that differ, and its length -/
namespace HC
open PyProof.Rows PySem L2 PySem.Spec
section
variable {P : Program} {w : World} {A : Around} {E : Value → Shared → Prop} {s : Shared} {I S : Addr} {fp wr : List Addr} {Pv : Nat → Value → Prop} {St : Nat → Heap → Prop} {R : Result → Shared → Prop}
/-- a set is what its own record says -/
theorem setOf_kept {h h' : Heap} {B : Str → Bool} {n : Nat} (has : h.SetOf (PySem.strKind P w) S B n) (same : ∀ o, h.get? S = some o → h'.get? S = some o) : h'.SetOf (PySem.strKind P w) S B n := by
  obtain ⟨o, es, ep, t, at_, rest⟩ := has
  exact ⟨o, es, ep, t, same o at_, rest⟩
/-- one turn of set.update's loop -/
abbrev upTurn (S I : Addr) : Code := .builtin "set.update.loop" ⟨[.ref S, .ref I], []⟩
theorem upIn (h : wpAny (model P w) A.in1 (Builtin.«set.update.loop» ⟨[.ref S, .ref I], []⟩) (fun fin s' => match fin with
    | .done f => R (.ok f) s'
    | .again c => c.quiet = true ∧ codeAny (model P w) A c R s') (fun e s' => R (.error e) s') s) : codeAny (model P w) A (upTurn S I) R s :=
  codeAny_builtin F.entry_set_update_loop (by rw [Around.under_plainId F.plain_set_update_loop]; exact h)
/-- set.update's loop over any walk that gives the texts zs, all new -/
theorem fills {zs : List Str} (W : Walks P w A.in1 I fp wr zs.length Pv St) (off : S ∉ fp) (nz : zs.Nodup) (room : zs.length + 1 < scanBound) (val : ∀ i v, Pv i v → ∃ z t, zs[i]? = some z ∧ v = Value.str z t) (more : Nat) : ∀ (i : Nat) (s : Shared), i + more = zs.length → St i s.heap →
    s.heap.SetOf (PySem.strKind P w) S (fun z => decide (z ∈ zs.take i)) i →
    (∀ h' tk, (∀ b o, b ∉ S :: wr → s.heap.get? b = some o → h'.get? b = some o) → h'.SetOf (PySem.strKind P w) S (fun z => decide (z ∈ zs)) zs.length → R (.ok (.ret .none)) { s with heap := h', toks := tk }) →
    codeAny (model P w) A (upTurn S I) R s := by
  have offw : S ∉ wr := fun z => off (W.sub _ z)
  induction more with
  | zero =>
    intro i s sum now has done
    have last : i = zs.length := sum
    subst last
    rw [List.take_length] at has
    apply upIn
    refine wpAny_bind (W.done s _ _ now fun h' tk same => wpAny_pure (done h' tk (fun b o nb => same b o fun z => nb (List.mem_cons_of_mem _ z)) ?_))
    exact setOf_kept has fun o e => same S o offw e
  | succ more ih =>
    intro i s sum now has done
    have lt : i < zs.length := by omega
    apply upIn
    refine wpAny_bind (W.item i s _ _ lt now fun v h' tk pv now' same => ?_)
    obtain ⟨z, t, hz, rfl⟩ := val i v pv
    have fresh : z ∉ zs.take i := fun hm => by
      have ⟨j, hj⟩ := List.getElem?_of_mem hm
      rw [List.getElem?_take] at hj
      split at hj
      · rename_i ji
        have := (List.getElem?_inj (by omega) nz).mp (hj.trans hz.symm)
        omega
      · cases hj
    have has' : h'.SetOf (PySem.strKind P w) S (fun y => decide (y ∈ zs.take i)) i := setOf_kept has fun o e => same S o offw e
    apply wpAny_bind; apply wpAny_holding
    unfold setAdd
    refine wpAny_holding (wpAny_bind ((PySem.strKind P w).pyHash (k := z) ?_ ?_))
    · exact PySem.strKind_is P w z t
    refine wpAny_setAddHashed_of (knd := PySem.strKind P w) (s := { s with heap := h', toks := tk + 1 }) (PySem.strKind_is P w z t) rfl has' (by omega) fun h2 but has2 => ?_
    rw [decide_eq_false fresh] at has2
    have has3 : h2.SetOf (PySem.strKind P w) S (fun y => decide (y ∈ zs.take (i + 1))) (i + 1) := SetOf_congr has2 (fun y => by rw [List.take_add_one, hz]; simp [List.mem_append]) rfl
    refine wpAny_pure ⟨plainId_quiet F.plain_set_update_loop _, ih (i + 1) _ (by omega) (W.frame _ _ _ now' fun b hb o e => ?_) has3 fun h3 tk3 same3 fin => ?_⟩
    · rw [but.2 b fun q => off (q ▸ hb)]
      exact e
    · refine done h3 tk3 (fun b o nb e => same3 b o nb ?_) fin
      show h2.get? b = some o
      rw [but.2 b fun q => nb (q ▸ List.mem_cons_self)]
      exact same b o (fun q => nb (List.mem_cons_of_mem _ q)) e
/-- T(args) of a built-in class, its __init__ run as it stands -/
theorem callType_by {T newId initId : String} {args : List Value} {Q Q₁ : Value → Shared → Prop} (ft : TypeCalled T newId initId) (fit : checkTypeCall T ⟨args, []⟩ = pure ())
    (new : codeAny (model P w) A.in1 (.call (.builtin newId) ⟨.type T :: args, []⟩) (wants Q₁ E) s)
    (next : ∀ obj s₁, Q₁ obj s₁ → s₁.TypeIs obj T ∧ codeAny (model P w) A.in1 (.call (.builtin initId) ⟨obj :: args, []⟩) (wants (fun r s₂ => r = .none ∧ Q obj s₂) E) s₁) : wpAny (model P w) A (call (.type T) args) Q E s := by
  obtain ⟨first, others, mro⟩ := ft.mro
  have made := ft.made
  have sub := ft.sub
  have notT := ft.notType
  have can := ft.canCreate
  apply wpAny_call
  apply codeAny_of_tree
  change wpAny _ _ (callAny (.type T) _) _ _ _
  apply wpAny_pure
  refine ⟨Code.quiet_builtin _ (by decide +kernel), codeAny_builtin F.entry_type_call ?_⟩
  have same := Around.under_plain (A := A) (weight_type_call_type T args []) (units_type_call_type T args [])
  rw [same]
  repeat any_goals first | assumption | wp_step
  refine codeAny_mono new ?_
  rintro (er | fl) s1 got
  · exact got
  · cases fl with
    | ret obj =>
      obtain ⟨is, run⟩ := next obj s1 got
      have look := ft.init.lookup
      have bound := ft.init.bind obj
      repeat any_goals first | assumption | wp_step
      refine codeAny_mono run ?_
      rintro (er | fl) s2 back
      · exact back
      · cases fl with
        | ret v =>
          obtain ⟨rfl, q⟩ := back
          exact wpAny_pure (wpAny_pure q)
        | _ => exact back
    | _ => exact got
/-- set(t) -/
theorem call_setS {l : Addr} {cells : Array Value} {zs : List Str} {Q : Value → Shared → Prop} (calm : A.handled = none) (tup : s.heap.IsTuple l cells) (size : cells.size = zs.length) (texts : ∀ (i : Nat) (v : Value), cells[i]? = some v → ∃ z t, zs[i]? = some z ∧ v = Value.str z t) (nz : zs.Nodup) (room : zs.length + 1 < scanBound)
    (go : ∀ h' tk, h'.SetOf (PySem.strKind P w) s.heap.objs.size (fun z => decide (z ∈ zs)) zs.length → (∀ b o, s.heap.get? b = some o → h'.get? b = some o) → Q (.ref s.heap.objs.size) { s with heap := h', toks := tk }) :
    wpAny (model P w) A (call (Value.type "set") [Value.ref l]) Q E s := by
  refine callType_by F.called_set (F.typeCall_set_1 _) (code_set_new_1 (.ref l) (Q₁ := fun obj s1 => obj = .ref s.heap.objs.size ∧ ∃ led, s1 = { s with heap := s.heap.push { cls := .type "set", dict := none, data := .set #[] 0 (.fresh 0 0 led) } }) fun led => ⟨rfl, led, rfl⟩) ?_
  rintro _ _ ⟨rfl, led, rfl⟩
  have at_ : (s.heap.push { cls := .type "set", dict := none, data := .set #[] 0 (.fresh 0 0 led) }).get? s.heap.objs.size = some { cls := .type "set", dict := none, data := .set #[] 0 (.fresh 0 0 led) } := Heap.get?_push_size _ rfl
  have is : Shared.TypeIs { s with heap := s.heap.push { cls := .type "set", dict := none, data := .set #[] 0 (.fresh 0 0 led) } } (.ref s.heap.objs.size) "set" := ⟨_, at_, rfl⟩
  have subTS : isSubtype (.type "tuple") (.type "set") = pure false := by rw [isSubtype_type]; kernel_rfl
  have subTF : isSubtype (.type "tuple") (.type "frozenset") = pure false := by rw [isSubtype_type]; kernel_rfl
  have tup' : (s.heap.push { cls := .type "set", dict := none, data := .set #[] 0 (.fresh 0 0 led) }).IsTuple l cells := tup.at fun o e => Heap.get?_push_of_some _ e
  obtain ⟨⟨c, dct, dt, sl⟩, getT, clsT, n, datT⟩ := tup'
  simp only at clsT datT
  subst clsT datT
  refine ⟨is, codeAny_call_builtin F.called_set.init.plain F.entry_set_init (check_set_init_1 is ?_)⟩
  have isT : Heap.IsTuple (s.heap.push { cls := .type "set", dict := none, data := .set #[] 0 (.fresh 0 0 led) }) l cells := ⟨_, getT, rfl, n, rfl⟩
  unfold Builtin.«set.__init__»
  wp_walk using PySem.AutoSeq1.wpAny_loadPart' at_, PySem.AutoSeq1.wpAny_loadPart' getT, wpAny_pyIter_tuple isT
  have sz : (s.heap.push { cls := .type "set", dict := none, data := .set #[] 0 (.fresh 0 0 led) }).objs.size = s.heap.objs.size + 1 := Heap.size_push ..
  have low : l < s.heap.objs.size := by
    obtain ⟨o, z, _⟩ := tup
    exact Heap.lt_size z
  have W := Walks.tuple (prog := P) (w := w) (A := A.in1.in1.in1) calm (s.heap.push { cls := .type "set", dict := none, data := .set #[] 0 (.fresh 0 0 led) }).objs.size l (by rw [sz]; exact Nat.ne_of_lt (Nat.lt_succ_of_lt low)) cells
  rw [size] at W
  refine fills (S := s.heap.objs.size) W ?_ nz room (fun i v h => texts i v h) zs.length 0 _ (Nat.zero_add _) ⟨⟨_, Heap.get?_push_size _ rfl, rfl, rfl⟩, isT.at fun o e => Heap.get?_push_of_some _ e⟩ ?_ ?_
  · simp only [List.mem_cons, List.not_mem_nil, or_false, not_or, sz]
    exact ⟨Nat.ne_of_lt (Nat.lt_succ_self _), Nat.ne_of_gt low⟩
  · exact SetOf_congr ((setObjOf_fresh led).setOf (Heap.get?_push_of_some _ at_) (by decide)) (fun y => by simp) rfl
  · intro h' tk same fin
    refine wpAny_pure (wpAny_pure ⟨rfl, go h' tk fin fun b o e => same b o ?_ (Heap.get?_push_of_some _ (Heap.get?_push_of_some _ e))⟩)
    have lt := Heap.lt_size e
    simp only [List.mem_cons, List.not_mem_nil, or_false, not_or, sz]
    exact ⟨Nat.ne_of_lt lt, Nat.ne_of_lt (Nat.lt_succ_of_lt lt)⟩
end
/-- len(set(e)), e a tuple of texts that differ -/
def tLenSet (K : PySem.W.Frag) (te : TE) : TE := fun σ H Q => te σ H fun y H1 => ∃ (a : Addr) (zs : List Str), y = V.ref a ∧ SqT K H1 a (zs.map V.str) ∧ zs.Nodup ∧ zs.length ≤ 1000 ∧ Q (.int zs.length) H1
theorem pe_lenSet {X : Cx} {e : Expr} {te : TE} {p p2 q pos : Pos} (calm : X.calm = true) (gl : Gl X "len") (ml : X.mg "len" = none) (gs : Gl X "set") (ms : X.mg "set" = none) (arg : PE X e te) (one : starEach [e] X.env = (false, eval e X.env) :: starEach [] X.env := by rfl) :
    PE X (.Call (.Name "len" p) [.Call (.Name "set" p2) [e] [] q] [] pos) (tLenSet X.K te) := by
  constructor
  intro pn s σ H Q inv h
  refine Call_ (ld_blt inv gl ml PySem.boot_len (PyProof.Rows.callWith_builtin1 (PyProof.Rows.args_cons ?_ rfl) rfl rfl))
  refine Call_ (ld_blt inv gs ms PyProof.Rows.boot_set ?_)
  refine PyProof.Rows.callWith_type1 (PyProof.Rows.args_cons (thn (arg.run pn s σ H _ inv h) ?_) one) one rfl
  rintro v s1 ⟨y, H1, inv1, rel, a, zs, rfl, sq, nz, few, q⟩
  cases rel
  apply PyProof.Rows.args_nil
  obtain ⟨cells, vals, tup, _⟩ := inv1.tuple sq
  have len : cells.length = zs.length := by
    have := vals.length
    simpa using this.symm
  refine call_setS (inv1.ok.hd calm) tup (by simpa using len) (fun i v at_ => ?_) nz (by unfold scanBound; omega) fun h' tk has same => ?_
  · rw [List.getElem?_toArray] at at_
    have lt : i < zs.length := by
      have := (List.getElem?_eq_some_iff.mp at_).1
      omega
    obtain ⟨u, hu, ru⟩ := vals.get (i := i) (x := V.str zs[i]) (by simp [lt])
    rw [hu] at at_
    cases at_
    obtain ⟨t, rfl⟩ := ru
    exact ⟨zs[i], t, List.getElem?_eq_getElem lt, rfl⟩
  · apply PyProof.Rows.args_nil
    obtain ⟨o, es, ep, tb, at_, exact_, dat, _, _, _, fits, num⟩ := has
    have inv2 : L2.Inv X pn σ H1 { s1 with heap := h', toks := tk } := inv1.kept same
    refine call_len_set at_ exact_ dat fits (by rw [num]; omega) ⟨V.int zs.length, H1, inv2.tok _, ⟨_, by rw [num]⟩, q⟩
theorem as_lenSet {X : Cx} (K) {c : Expr} {te : TE} (h : PE X c (tLenSet X.K te)) (hK : X.K = K := by rfl) : PE X c (tLenSet K te) := by subst hK; exact h
/-- what len(set( .. )) asks of the tuple -/
def LsK (K : PySem.W.Frag) (Q : VK) : VK := fun y H1 => ∃ (a : Addr) (zs : List Str), y = V.ref a ∧ SqT K H1 a (zs.map V.str) ∧ zs.Nodup ∧ zs.length ≤ 1000 ∧ Q (.int zs.length) H1
theorem g_lenSet {K : PySem.W.Frag} {te : TE} {σ : L2.St} {H : Hp} {Q : VK} (h : te σ H (LsK K Q)) : tLenSet K te σ H Q := h
theorem n_lenSet {K : PySem.W.Frag} {H : Hp} {Q : VK} {a : Addr} {zs : List Str} (h1 : SqT K H a (zs.map V.str)) (h2 : zs.Nodup) (h3 : zs.length ≤ 1000) (h : Q (.int zs.length) H) : LsK K Q (.ref a) H := ⟨a, zs, rfl, h1, h2, h3, h⟩
end HC
/-! facts carried along heaps -/
namespace HC
open PyProof.Rows PySem L2 PySem.Spec
theorem same_at {H H' : Hp} {a : Addr} {o : HO} (e : Same H H') (h : H a = some o) : H' a = some o := e _ _ h
theorem keep_at {H H' : Hp} {d a : Addr} {o : HO} (e : Keep d H H') (n : a ≠ d) (h : H a = some o) : H' a = some o := e _ _ n h
/-- what stood before d was made stands when d changes -/
theorem same_keep {H0 H H' : Hp} {d : Addr} (s : Same H0 H) (n : H0 d = none) (e : Keep d H H') : Same H0 H' := fun b o h => e b o (ne_of_none h n) (s b o h)
theorem same_mid {H0 H1 H : Hp} {d : Addr} (s : Same H0 H1) (n : H1 d = none) : H0 d = none := s.free n
theorem sqt_keep {K : PySem.W.Frag} {H H' : Hp} {d a : Addr} {xs ys : List V} (e : Keep d H H') (hd : H d = some (.lst ys)) (h : SqT K H a xs) : SqT K H' a xs := keep_t e (notT_l hd) h
/-- a chain link of the list at l: items are only added -/
theorem app_tail {α : Type} (l : List α) (i : Nat) {x : α} (h : l[i]? = some x) : l.take (i + 1) = l.take i ++ [x] := by rw [List.take_add_one, h]; rfl
/-! a comprehension with a test: what passes, in order -/
section
variable {α : Type} {K : PySem.W.Frag} {H : Hp} {Q : VK} {σ : L2.St} {g : TG} {tt : TT} {te : TE} {vs : List Nat}
def PFilt (xs : List α) (p : α → Bool) (f : α → V) (H1 : Hp) : Nat → List V → Hp → Prop := fun i acc H' => Same H1 H' ∧ acc = ((xs.take i).filter p).map f
theorem n_filtT {xs : List α} {p : α → Bool} {f : α → V} {H1 : Hp} {C : Addr} {i : Nat} {x : α} {y : V} (hx : xs[i]? = some x) (hp : p x = true) (e : y = f x) (hC : H1 C = none) (h1 : Same H1 H) (h2 : H C = some (.lst (((xs.take i).filter p).map f))) (hn : i < 1000000 := by omega) : LcK C (NxP (PFilt xs p f H1) C (i + 1)) y H := by
  have hl : (((xs.take i).filter p).map f).length ≤ i := by
    rw [List.length_map]
    exact Nat.le_trans (List.length_filter_le _ _) (by rw [List.length_take]; exact Nat.min_le_left _ _)
  refine n_lcK h2 (by omega) (by omega) fun H' k hc => ⟨fun b o e => k _ _ (ne_of_none e hC) (h1 _ _ e), ?_⟩
  rw [app_tail _ _ hx, List.filter_append, List.map_append, e]
  simp [hp]
theorem n_filtF {xs : List α} {p : α → Bool} {f : α → V} {H1 : Hp} {C : Addr} {i : Nat} {x : α} (hx : xs[i]? = some x) (hp : p x = false) (h1 : Same H1 H) (h2 : H C = some (.lst (((xs.take i).filter p).map f))) : NxP (PFilt xs p f H1) C (i + 1) H := by
  have hl : (((xs.take i).filter p).map f).length ≤ i := by
    rw [List.length_map]
    exact Nat.le_trans (List.length_filter_le _ _) (by rw [List.length_take]; exact Nat.min_le_left _ _)
  refine n_lcN h2 (by omega) ⟨h1, ?_⟩
  rw [app_tail _ _ hx, List.filter_append]
  simp [hp]
theorem lc_filt {J : It} {G : Hp → Prop} {Y : Nat → Hp → V → Hp → Prop} (xs : List α) (w : Walk J xs.length G Y) (p : α → Bool) (f : α → V) {H1 : Hp} (hG : ∀ H, Same H1 H → G H)
    (hs : ∀ C i x v H H', H1 C = none → xs[i]? = some x → i < xs.length → Same H1 H → H C = some (.lst (((xs.take i).filter p).map f)) → Y i H v H' → g v (wipe σ vs) H' fun σ2 H2 => wipe σ2 vs = wipe σ vs ∧ tt σ2 H2 (LcIf C te σ2 (NxP (PFilt xs p f H1) C (i + 1))))
    (hd : ∀ C H, H1 C = none → Same H1 H → H C = some (.lst ((xs.filter p).map f)) → Q (.ref C) H) : LcJ J g tt te vs σ Q H1 := by
  refine lc_run w (PFilt xs p f H1) (fun C H' nC s h => ⟨s, by simp⟩) (fun i acc H C nC hC ⟨s, _⟩ => hG H s) ?_ ?_
  · rintro C i acc v H H' nC hi hl hC ⟨s, rfl⟩ y
    exact hs C i xs[i] v H H' nC (List.getElem?_eq_getElem hi) hi s hC y
  · rintro C acc H nC hC ⟨s, rfl⟩
    rw [List.take_length] at hC
    exact hd C H nC s hC
end
/-! keeping lists of data that hold no list -/
theorem dpa_keep {K : PySem.W.Frag} {H H' : Hp} {d : Addr} {ys vs : List V} {xs : List PyData} (e : Keep d H H') (hd : H d = some (.lst ys)) (n : noLs xs = true) (h : DpAll K H vs xs) : DpAll K H' vs xs := dp_keepAll e (notT_l hd) xs vs n h
theorem noLs_map {α : Type} {f : α → PyData} (l : List α) (h : ∀ x, noL (f x) = true) : noLs (l.map f) = true := noLs_of fun d hd => by
  obtain ⟨x, _, rfl⟩ := List.mem_map.mp hd
  exact h x
/-! isinstance(e, (tuple, list)) -/
section
variable {X : Cx} {e : Expr} {te : TE} {p pos p1 p2 tpos : Pos} {kk : Nat} {K : PySem.W.Frag} {H : Hp} {Q : VK} {σ : L2.St}
def tIsTT (K : PySem.W.Frag) (te : TE) : TE := tCB (rIsiT K) (tCons te (tCons (tTup (tCons (tC (.ty "tuple")) (tCons (tC (.ty "list")) tNil))) tNil))
theorem pe_isiTT (K' : PySem.W.Frag) (m : Bts X.mg) (he : PE X e te) (hg : Gl X "isinstance" := by rfl) (hg1 : Gl X "tuple" := by rfl) (hg2 : Gl X "list" := by rfl)
    (hs : starEach [e, .Tuple [.Name "tuple" p1, .Name "list" p2] kk tpos] X.env = (false, eval e X.env) :: starEach [.Tuple [.Name "tuple" p1, .Name "list" p2] kk tpos] X.env := by rfl) (hK : X.K = K' := by rfl) :
    PE X (.Call (.Name "isinstance" p) [e, .Tuple [.Name "tuple" p1, .Name "list" p2] kk tpos] [] pos) (tIsTT K' te) := by
  subst hK
  exact pe_callB (p := p) (pos := pos) call_isiT hg m.isinstance bt_isinstance (pa_cons he (pa_cons (pe_tup (pa_cons (pe_bltn (v := .ty "tuple") hg1 m.tuple bt_tuple rfl (by decide) (by decide)) (pa_cons (pe_bltn (v := .ty "list") hg2 m.list bt_list rfl (by decide) (by decide)) pa_nil))) pa_nil) hs) (by decide) (by decide) hs rfl
def IsTTK (K : PySem.W.Frag) (Q : VK) : VK := fun x H1 => NewT [.ty "tuple", .ty "list"] H1 fun y H2 => rIsiT K [x, y] H2 Q
theorem g_isTT (h : te σ H (IsTTK K Q)) : tIsTT K te σ H Q := h
theorem n_isTT {x : V} {t : String} {b c : Bool} (h0 : ∀ H', Same H H' → TyX K H' x (.type t)) (h1 : kitB t "tuple" = some b) (h2 : kitB t "list" = some c) (h : ∀ H', Same H H' → Q (.bl (b || c)) H') : IsTTK K Q x H := by
  refine ⟨by simp [sizeLine_eq], fun T hT => ?_⟩
  have s := same_new (o := .tup [.ty "tuple", .ty "list"]) hT
  refine ⟨x, T, _, .type t, [.type "tuple", .type "list"], b || c, rfl, upd_same, .cons (.ty _) (.cons (.ty _) .nil), h0 _ s, ?_, h _ s⟩
  refine kitAny_cons (kit_ty h1) (fun e => ?_) (fun e => by rw [e]; rfl)
  subst e
  refine kitAny_cons (kit_ty h2) (fun e => ?_) (fun e => by rw [e]; rfl)
  subst e
  rfl
end
/-- a list or a tuple, by its type's name -/
def SqQ (K : PySem.W.Frag) (H : Hp) (T : String) (a : Addr) (xs : List V) : Prop := (T = "list" ∧ SqL K H a xs) ∨ (T = "tuple" ∧ SqT K H a xs)
theorem SqQ.same {K : PySem.W.Frag} {H H' : Hp} {T : String} {a : Addr} {xs : List V} (e : Same H H') (h : SqQ K H T a xs) : SqQ K H' T a xs := h.imp (fun z => ⟨z.1, same_l e z.2⟩) (fun z => ⟨z.1, same_t e z.2⟩)
theorem SqQ.or {K : PySem.W.Frag} {H : Hp} {T : String} {a : Addr} {xs : List V} (h : SqQ K H T a xs) : SqL K H a xs ∨ SqT K H a xs := h.imp (·.2) (·.2)
end HC
/-! list(text); dicts: made of pairs, read, stored -/
namespace HC
open PyProof.Rows PySem L2 PySem.Spec
/-- the signs of a text, one by one -/
def signs (z : Str) : List Str := z.cps.toList.map fun c => ⟨#[c]⟩
def rListS : List V → Hp → VK → Prop := fun xs H Q => ∃ z : Str, xs = [.str z] ∧ z.cps.size ≤ sizeLine ∧ ∀ l, H l = none → Q (.ref l) (upd H l (.lst ((signs z).map V.str)))
theorem vals_signs {z : Str} {acc : Array Value} (h : ItemsOf (SignAt z) acc z.cps.size) : Vals ((signs z).map V.str) acc.toList := by
  have key : ∀ (cs : List Nat) (us : List Value), cs.length = us.length → (∀ (j : Nat) v, us[j]? = some v → ∃ c u, cs[j]? = some c ∧ v = Value.str ⟨#[c]⟩ u) → Vals (cs.map fun c => V.str ⟨#[c]⟩) us := by
    intro cs
    induction cs with
    | nil => intro us hl _; cases us with | nil => exact .nil | cons _ _ => simp at hl
    | cons c cs ih =>
      intro us hl hj
      cases us with
      | nil => simp at hl
      | cons u us =>
        obtain ⟨c', t, h1, h2⟩ := hj 0 u rfl
        cases h1
        refine .cons ⟨t, h2⟩ (ih us (by simpa using hl) fun j v hv => ?_)
        exact hj (j + 1) v (by simpa using hv)
  have e : (signs z).map V.str = z.cps.toList.map fun c => V.str ⟨#[c]⟩ := by simp [signs]
  rw [e]
  refine key _ _ (by simp [h.1]) fun j v hv => ?_
  obtain ⟨c, u, h1, h2⟩ := h.2 j v (by simpa using hv)
  exact ⟨c, u, by simpa using h1, h2⟩
section
variable {X : Cx} {e o i value : Expr} {te td ty tv : TE} {p pos pos' : Pos} {K : PySem.W.Frag} {H : Hp} {Q : VK} {σ : L2.St} {D : Ends}
theorem call_list_txt (calm : X.calm = true) : CallR X (.type "list") rListS := by
  rintro pins s σ H xs us Q inv rel ⟨z, rfl, hz, q⟩
  obtain ⟨_, rfl, t, rfl⟩ := vals1 rel
  refine call_list_str (inv.ok.hd calm) z t (fun h' tk acc c kept at_ items => ?_) hz
  have rv := vals_signs items
  have len : ((signs z).map V.str).length ≤ sizeLine := by simpa [signs] using hz
  exact ⟨.ref s.heap.objs.size, _, inv.laid (t' := tk) kept (Nat.le_refl _) (show ObjOk X.prog X.w _ h' _ (.lst _) from ⟨len, acc.toList, c, rv, at_⟩), rfl, q _ (inv.hok.fresh (Nat.le_refl _))⟩
theorem pe_listTxt (m : Bts X.mg) (he : PE X e te) (calm : X.calm = true := by rfl) (hg : Gl X "list" := by rfl) (hs : starEach (e :: []) X.env = (false, eval e X.env) :: starEach [] X.env := by rfl) : PE X (.Call (.Name "list" p) [e] [] pos) (tCB rListS (tCons te tNil)) :=
  pe_callTy (call_list_txt calm) hg m.list bt_list (pa_cons he pa_nil hs) (by decide) (by decide) hs rfl
theorem g_listS {z : Str} (hz : z.cps.size ≤ sizeLine) (h : ∀ l H', H l = none → Same H H' → H' l = some (.lst ((signs z).map V.str)) → Q (.ref l) H') : rListS [.str z] H Q := ⟨z, rfl, hz, fun l hl => h l _ hl (same_new hl) upd_same⟩
/-! dicts -/
def rDictP (K : PySem.W.Frag) : List V → Hp → VK → Prop := fun xs H Q => ∃ (a : Addr) (ps : List Addr) (kvs : List (Key × V)), xs = [.ref a] ∧ SqL K H a (ps.map V.ref) ∧ Paired (fun p kv => SqT K H p [kV kv.1, kv.2]) ps kvs ∧ ∀ p, H p = none → Q (.ref p) (upd H p (.dK (mergeK [] kvs)))
theorem pe_dictP (K' : PySem.W.Frag) (m : Bts X.mg) (he : PE X e te) (calm : X.calm = true := by rfl) (hg : Gl X "dict" := by rfl) (hs : starEach (e :: []) X.env = (false, eval e X.env) :: starEach [] X.env := by rfl) (hK : X.K = K' := by rfl) : PE X (.Call (.Name "dict" p) [e] [] pos) (tCB (rDictP K') (tCons te tNil)) := by
  subst hK
  exact pe_callTy (call_dictP calm) hg m.dict bt_dict (pa_cons he pa_nil hs) (by decide) (by decide) hs rfl
theorem g_dictP {a : Addr} {ps : List Addr} {kvs : List (Key × V)} (h1 : SqL K H a (ps.map V.ref)) (h2 : Paired (fun p kv => SqT K H p [kV kv.1, kv.2]) ps kvs) (h : ∀ l H', H l = none → Same H H' → H' l = some (.dK (mergeK [] kvs)) → Q (.ref l) H') : rDictP K [.ref a] H Q := ⟨a, ps, kvs, rfl, h1, h2, fun l hl => h l _ hl (same_new hl) upd_same⟩
/-- d[y]: what is asked of the dict -/
def DgK (y : V) (Q : VK) (x : V) : Hp → Prop := fun H => ∃ a v, x = .ref a ∧ DGet H a y (some v) ∧ Q v H
theorem g_dget (h : td σ H fun x H1 => ty σ H1 fun y H2 => DgK y Q x H2) : tDGet td ty σ H Q := h
theorem n_dget {a : Addr} {kvs : List (Key × V)} {k : Key} {v : V} (h1 : H a = some (.dK kvs)) (h2 : valV kvs k = some v) (h : Q v H) : DgK (kV k) Q (.ref a) H := ⟨a, v, rfl, h2 ▸ DGet.k h1, h⟩
theorem n_dgetS {a : Addr} {kvs : List (Key × V)} {k : Str} {v : V} (h1 : H a = some (.dK kvs)) (h2 : valV kvs (.inr k) = some v) (h : Q v H) : DgK (.str k) Q (.ref a) H := n_dget (k := .inr k) h1 h2 h
def DpK (y v : V) (D : Ends) (σ : L2.St) (x : V) : Hp → Prop := fun H => ∃ a H4, x = .ref a ∧ DPut H a y v H4 ∧ D.nx σ H4
theorem g_dput (h : tv σ H fun v H1 => td σ H1 fun x H2 => ty σ H2 fun y H3 => DpK y v D σ x H3) : sDPut td ty tv D σ H := h
theorem n_dput {a : Addr} {kvs : List (Key × V)} {k : Key} {v : V} (h1 : H a = some (.dK kvs)) (hz : kvs.length < sizeLine) (h : ∀ H', Keep a H H' → H' a = some (.dK (putK kvs k v)) → D.nx σ H') : DpK (kV k) v D σ (.ref a) H := ⟨a, _, rfl, DPut.k h1 hz, h _ keep_upd upd_same⟩
theorem n_dputS {a : Addr} {kvs : List (Key × V)} {k : Str} {v : V} (h1 : H a = some (.dK kvs)) (hz : kvs.length < sizeLine) (h : ∀ H', Keep a H H' → H' a = some (.dK (putK kvs (.inr k) v)) → D.nx σ H') : DpK (.str k) v D σ (.ref a) H := n_dput (k := .inr k) h1 hz h
theorem units2 {k : Nat} {A : Around} (hr : Room k A) : A.units + 1 < cLine := by have := units65 hr; omega
end
theorem notT_d {H : Hp} {d : Addr} {kvs : List (Key × V)} (h : H d = some (.dK kvs)) : NotT (H d) := by rw [h]; trivial
end HC
/-! the head's facts, further ones as tests of the written part -/
namespace HC
open PySem PySem.W PySem.Calls PyProof.Rows He He5 L2
abbrev Tst := Frag → Bool
/-- the library's observation of facts and defs, and these tests beside it -/
def obsJ (fx : List Tst) (fa : List Fa) (fn : List DefA) (K : Frag) : He.AlD × Bool := (obsA fa fn K, fx.all fun t => t K)
structure SaysJ (fx : List Tst) (fa : List Fa) (fn : List DefA) (K : Frag) : Prop where
  base : SaysA fa fn K
  also : (fx.all fun t => t K) = true
theorem SaysJ.more {fx : List Tst} {fa : List Fa} {fn : List DefA} {K : Frag} (c : SaysJ fx fa fn K) (i : Nat) {f : Tst} (at_ : fx[i]? = some f := by rfl) : f K = true :=
  (List.all_eq_true.mp c.also) f (List.mem_of_getElem? at_)
def obsJG (n : Nat) (fx : List Tst) (fa : List Fa) (fn : List DefA) (g : Addr → Option Obj) : He.AlD × Bool := obsJ fx fa fn (frG g (asA g n))
def hookJ (n : Nat) (fx : List Tst) (fa : List Fa) (fn : List DefA) : PySem.W.Hook where
  α := He.AlD × Bool
  obs s := obsJG n fx fa fn s.heap.get?
  val _ := (valA fn, true)
  says _ h := ∃ K : Frag, K.In h ∧ SaysJ fx fa fn K
  of _ _ both := ⟨_, frG_in, congrArg Prod.fst both, congrArg Prod.snd both⟩
  keeps _ _ _ here up := let ⟨K, inH, says⟩ := here; ⟨K, inH.keeps up, says⟩
theorem obsJG_eq {n : Nat} {fx : List Tst} {fa : List Fa} {fn : List DefA} {g : Addr → Option Obj} {s : Shared} (same : ∀ a, g a = s.heap.get? a) : obsJG n fx fa fn g = (hookJ n fx fa fn).obs s := congrArg (obsJG n fx fa fn) (funext same)
end HC
/-! generators: if and for in their bodies; defs and methods that are generators -/
namespace HC
open PyProof.Rows PySem L2 PySem.Spec GenW
section
variable {X : Cx} {test tg iter : Expr} {body orelse : List Stmt} {pos : Pos}
/-- if in a generator -/
def tGIf (c : TT) (t u : TGn) : TGn := fun D ys σ H => c σ H fun b H1 => if b = true then t D ys σ H1 else u D ys σ H1
theorem gs_if {tc : TT} {t u : TGn} (hc : PT X test tc) (yes : GSs X body t) (no : GSs X orelse u) : GS X (.If test body orelse pos) (tGIf tc t u) := by
  constructor
  intro A S ip R n ys s₀ c fs K J gd lv s σ H D g size k now owed
  obtain ⟨acc, cc, rel, inv⟩ := now
  rw [arm_exec_If]
  refine seg_at (seg_bind_wrap (wpAny_pure (seg_bind_wrap ?_)))
  rw [g.over]
  refine wpAny_mono (hc.run _ s σ H _ inv owed) ?_ fun e s' raised => k.exc n s₀ e s' raised
  rintro b s' ⟨H1, inv1, q⟩
  cases b
  · exact no.run A S ip R n ys s₀ c fs K J gd lv s' σ H1 D g size k ⟨acc, cc, rel, inv1⟩ (by simpa using q)
  · exact yes.run A S ip R n ys s₀ c fs K J gd lv s' σ H1 D g size k ⟨acc, cc, rel, inv1⟩ (by simpa using q)
/-- for in a generator: ys is what is out so far -/
def tGFor (wi : TI) (g : TG) (tb : TGn) : TGn := fun D ys σ H => wi σ H fun J H1 => ∃ W : Nat → Nat → List V → L2.St → Hp → Prop, (∃ m, W 0 m ys σ H1) ∧ ∀ i m ys σ H, W i m ys σ H →
  (J.stop i H ∧ D.nx ys σ H) ∨ (J.go i H ∧ ∃ N : List V → L2.St → Hp → Prop, (∀ ys' σ' H', N ys' σ' H' → ∃ m', m' < m ∧ W (i + 1) m' ys' σ' H') ∧ ∀ x H', J.yld i H x H' → g x σ H' fun σ2 H2 => tb { D with nx := N, ct := N, bk := D.nx } ys σ2 H2)
/-- what the code of a loop does with an exception: it is noted, then it leaves -/
abbrev noted (env : Env) (e : Value) : Sem PySem.Fin := (do noteFrame e env; theTreesLotGoes e : Sem Unit).wrap (fun _ => .raise e) .raise id id
theorem noted_eq (env : Env) (e : Value) : ((do noteFrame e env; theTreesLotGoes e : Sem Unit).bind fun _ => (.raise e : Sem PySem.Fin)) = noted env e := Sem.bind_eq_wrap _ _
/-- a turn of the loop's code -/
theorem seg_forTurn {prog : Program} {w : World} {A : Around} {R : GenEnd} {Y : Protocol} {n : Nat} {s₀ s : Shared} {fs : List Frame} {env : Env} {it : Value}
    (h : wpAny (model prog w) (A.over (.forLoop tg it body [] env) fs) (pyNext it) (fun r s1 => match r with
        | none => Seg (model prog w) A R Y n s₀ (.forLoop tg it body [] env) (.pure (.again (.block [] env))) fs s1
        | some v => wpAny (model prog w) (A.over (.forLoop tg it body [] env) fs) (letOwnedTupleGo tg it v) (fun _ s2 => wpAny (model prog w) (A.over (.forLoop tg it body [] env) fs) (assign tg env v) (fun _ s3 =>
            Seg (model prog w) A R Y n s₀ (.forLoop tg it body [] env) ((execs body env).wrap (fun f => match f with
              | .next | .cont => .pure (.again (.forLoop tg it body [] env))
              | .brk => .pure (.done .next)
              | .ret v => .pure (.done (.ret v))) (noted env) id id) fs s3)
          (fun e s' => Seg (model prog w) A R Y n s₀ (.forLoop tg it body [] env) (noted env e) fs s') s2)
          (fun e s' => Seg (model prog w) A R Y n s₀ (.forLoop tg it body [] env) (noted env e) fs s') s1)
      (fun e s' => Seg (model prog w) A R Y n s₀ (.forLoop tg it body [] env) (noted env e) fs s') s) :
    Seg (model prog w) A R Y n s₀ (.forLoop tg it body [] env) ((model prog w).den (.forLoop tg it body [] env)) fs s := by
  show Seg _ A R Y n s₀ _ ((forTurn tg it body [] env).onRaise (fun x => do noteFrame x env; theTreesLotGoes x)) fs s
  unfold forTurn
  rw [Sem.onRaise_eq_wrap]
  simp only [noted_eq]
  refine seg_at (seg_bind_wrap (wpAny_pure (seg_bind_wrap (wpAny_onRaise (wpAny_mono h ?_ fun e s' z => wpAny_standAt z)))))
  rintro (_ | v) s1 h1
  · exact h1
  · refine seg_bind_wrap (wpAny_mono h1 ?_ fun e s' z => z)
    intro _ s2 h2
    refine seg_bind_wrap (wpAny_mono h2 ?_ fun e s' z => z)
    intro _ s3 h3
    rw [Sem.bind_eq_wrap', Sem.wrap_wrap]
    refine (congrArg (fun t => Seg (model prog w) A R Y n s₀ (.forLoop tg it body [] env) t fs s3) (Sem.wrap_congr (execs body env) _ _ (fun f => ?_) (fun e => ?_))).mpr h3
    · cases f <;> rfl
    · rfl
theorem gs_for {wi : TI} {g : TG} {tb : TGn} (hp : PassesOwn (model X.prog X.w) X.A X.env X.xe) (calm : X.calm = true) (hi : PI X tg iter wi) (hg : PG X tg g) (hb : GSs X body tb) (hs : ∀ x, foldedSetIterable iter X.env x = pure x := by intro _; rfl) : GS X (.For tg iter body [] pos) (tGFor wi g tb) := by
  constructor
  intro A S ip R n ys s₀ c fs K J gd lv s σ H D gc size k now owed
  obtain ⟨acc, cc, rel, inv⟩ := now
  rw [arm_exec_For]
  refine seg_at (seg_bind_wrap (wpAny_pure (seg_bind_wrap ?_)))
  rw [gc.over]
  refine wpAny_mono (hi.run _ s σ H _ inv owed) ?_ fun e s' raised => k.exc n s₀ e s' raised
  intro v s1 h1
  rw [hs v]
  refine seg_at (seg_bind_wrap (wpAny_pure (seg_bind_wrap ?_)))
  rw [gc.over]
  refine wpAny_holding (wpAny_mono h1 ?_ fun e s' raised => k.exc n s₀ e s' raised)
  rintro itv s2 ⟨it, fp, tn, J', H2, rfl, inv2, T, st, ok, W, ⟨m0, w0⟩, turn⟩
  have offS : ∀ b ∈ fp, S ≠ b := fun b hb => (ok b hb).2.2.2.2.2 (S, lstObj acc cc) (List.mem_append_right _ List.mem_cons_self)
  have still : ∀ {H' : Hp} {acc' : Array Value} {cc' : Nat}, (∀ b ∈ fp, H' b = none) → ∀ b ∈ fp, FpOk X ((S, lstObj acc' cc') :: ip) H' b := by
    intro H' acc' cc' free b hb
    obtain ⟨_, o1, o2, o3, o4, o5⟩ := ok b hb
    refine ⟨free b hb, o1, o2, o3, o4, fun p hm => ?_⟩
    rcases List.mem_append.mp hm with z | z
    · exact o5 p (List.mem_append_left _ z)
    · rcases List.mem_cons.mp z with rfl | z
      · exact offS b hb
      · exact o5 p (List.mem_append_right _ (List.mem_cons_of_mem _ z))
  refine seg_call fun p => ?_
  have here := fun (kk : Result → Sem PySem.Fin) => gc_loop (k := kk) (c' := .forLoop tg (.ref it) body [] X.env) (l := lv []) (kp := []) (p := p) gc rfl rfl
  have out : ∀ (n : Nat) (s₀ : Shared) (e : Value) (s' : Shared), X.xe e s' → Seg (model X.prog X.w) A R (GY X S) n s₀ (.forLoop tg (.ref it) body [] X.env) (noted X.env e)
      (.ret (fun r => ((match r with
        | .ok f => (.pure f : Sem Flow)
        | .error e => .raise e).onRaise (cameBack X.env)).wrap K J gd lv) none (gd false) (lv []) c p [] :: fs) s' := by
    intro n s₀ e s' raised
    apply seg_wrap
    rw [(here _).over]
    apply wpAny_bind
    refine wpAny_mono (hp e s' raised) (fun _ s3 back => wpAny_theTreesLotGoes ?_) fun e2 s3 back => ?_
    · exact seg_leaf (.error e) (seg_cameBack gc k back)
    · exact seg_leaf (.error e2) (seg_cameBack gc k back)
  have loop : ∀ (m n i : Nat) (ys : List V) (s₀ s : Shared) (σ : L2.St) (H : Hp) (acc : Array Value) (cc : Nat), n + ys.length = sizeLine → W i m ys σ H → Vals ys acc.toList → L2.Inv X ((S, lstObj acc cc) :: ip) σ H s → tn i s.heap → (∀ b ∈ fp, H b = none) →
      Seg (model X.prog X.w) A R (GY X S) n s₀ (.forLoop tg (.ref it) body [] X.env) ((model X.prog X.w).den (.forLoop tg (.ref it) body [] X.env))
        (.ret (fun r => ((match r with
        | .ok f => (.pure f : Sem Flow)
        | .error e => .raise e).onRaise (cameBack X.env)).wrap K J gd lv) none (gd false) (lv []) c p [] :: fs) s := by
    intro m
    induction m using Nat.strongRecOn with | ind m ih =>
      intro n i ys s₀ s σ H acc cc size w rel inv st free
      apply seg_forTurn
      rw [(here _).over]
      rcases turn i m ys σ H w with ⟨stop, q⟩ | ⟨go, N, back, step⟩
      · refine wpAny_mono (T.done X rfl rfl rfl calm i _ s σ H X.xe inv (still free) st stop) ?_ fun e s' raised => out n s₀ e s' raised
        rintro r s4 ⟨rfl, inv4⟩
        refine seg_again rfl ?_
        exact seg_leaf (.ok .next) (k.ok n ys s₀ s4 .next size ⟨σ, H, ⟨acc, cc, rel, inv4⟩, q⟩)
      · refine wpAny_mono (T.item X rfl rfl rfl calm i _ s σ H X.xe inv (still free) st go) ?_ fun e s' raised => out n s₀ e s' raised
        rintro r s4 ⟨u, rfl, h4⟩
        refine wpAny_mono h4 ?_ fun e s' raised => out n s₀ e s' raised
        rintro _ s5 ⟨x, H5, inv5, ru, yl, st5, free5⟩
        refine wpAny_mono (hg.run _ s5 σ H5 x u _ (inv5.pinned (still free5) (T.obj _ _ st5)) ru (step x H5 yl)) ?_ fun e s' raised => out n s₀ e s' raised
        rintro _ s6 ⟨σ6, H6, inv6, q6⟩
        have again : ∀ {n' : Nat} {ys' : List V} {s₀' s7 : Shared} {σ7 : L2.St} {H7 : Hp}, n' + ys'.length = sizeLine → GI X S (ip ++ pinsAt fp s5.heap) ys' σ7 H7 s7 → N ys' σ7 H7 →
            Seg (model X.prog X.w) A R (GY X S) n' s₀' (.forLoop tg (.ref it) body [] X.env) (.pure (.again (.forLoop tg (.ref it) body [] X.env)))
              (.ret (fun r => ((match r with
        | .ok f => (.pure f : Sem Flow)
        | .error e => .raise e).onRaise (cameBack X.env)).wrap K J gd lv) none (gd false) (lv []) c p [] :: fs) s7 := by
          rintro n' ys' s₀' s7 σ7 H7 size' ⟨acc7, cc7, rel7, inv7⟩ n7
          obtain ⟨m', lt, w7⟩ := back ys' σ7 H7 n7
          have pin : ∀ b ∈ fp, ∀ o, s5.heap.get? b = some o → s7.heap.get? b = some o ∧ H7 b = none := fun b hb o at_ =>
            have z := inv7.pin (b, o) (List.mem_append_right _ (List.mem_cons_of_mem _ (List.mem_append_right _ (mem_pinsAt hb at_))))
            ⟨z.1, z.2.1⟩
          refine seg_again rfl (ih m' lt n' (i + 1) ys' s₀' s7 σ7 H7 acc7 cc7 size' w7 rel7 (Inv.unpinned (pins := (S, lstObj acc7 cc7) :: ip) (pl := pinsAt fp s5.heap) inv7) (T.keep _ _ _ st5 fun b hb o at_ => (pin b hb o at_).1) fun b hb => ?_)
          obtain ⟨o, at_, _⟩ := T.obj _ _ st5 b hb
          exact (pin b hb o at_).2
        refine hb.run A S (ip ++ pinsAt fp s5.heap) R n ys s₀ _ _ _ _ id id s6 σ6 H6 { D with nx := N, ct := N, bk := D.nx } ⟨gc.pn, fun q hq => ?_, gc.apart, (here _).over, (here _).split, (here _).guard, rfl⟩ size ⟨fun n' ys' s₀' s7 f size' got => ?_, fun n' s₀' e s7 raised => out n' s₀' e s7 raised⟩ ⟨acc, cc, rel, inv6⟩ q6
        · rcases List.mem_append.mp hq with z | z
          · exact gc.ip q z
          · exact (offS _ (of_pinsAt z).1).symm
        · cases f with
          | next =>
            obtain ⟨σ7, H7, G7, n7⟩ := got
            exact again size' G7 n7
          | cont =>
            obtain ⟨σ7, H7, G7, n7⟩ := got
            exact again size' G7 n7
          | brk =>
            obtain ⟨σ7, H7, ⟨acc7, cc7, rel7, inv7⟩, n7⟩ := got
            exact seg_leaf (.ok .next) (k.ok n' ys' s₀' s7 .next size' ⟨σ7, H7, ⟨acc7, cc7, rel7, Inv.unpinned (pins := (S, lstObj acc7 cc7) :: ip) (pl := pinsAt fp s5.heap) inv7⟩, n7⟩)
          | ret v =>
            obtain ⟨x7, σ7, H7, ⟨acc7, cc7, rel7, inv7⟩, r7, n7⟩ := got
            exact seg_leaf (.ok (.ret v)) (k.ok n' ys' s₀' s7 (.ret v) size' ⟨x7, σ7, H7, ⟨acc7, cc7, rel7, Inv.unpinned (pins := (S, lstObj acc7 cc7) :: ip) (pl := pinsAt fp s5.heap) inv7⟩, r7, n7⟩)
  exact loop m0 n 0 ys s₀ s2 σ H2 acc cc size w0 rel inv2 st fun b hb => (ok b hb).1
end
end HC
/-! signs of own classes: x op int, x[i], x(..), x != y and x == y by an own __eq__ -/
namespace HC
open PyProof.Rows PySem L2 PySem.Spec
/-- what op between an instance of C and an int asks of the written part -/
structure BinI (K : PySem.W.Frag) (C : Addr) (nm : Str × Str) : Prop where
  self : PySem.W.selfFirst K C = true
  noR : PySem.W.findIn K (.ref C) nm.2 = some none
  i1 : ∃ fo, PySem.W.findIn K (.type "int") nm.1 = some fo
  i2 : ∃ ro, PySem.W.findIn K (.type "int") nm.2 = some ro
  sub : PySem.W.subIn K (.type "int") (.ref C) = some false
def binIB (K : PySem.W.Frag) (C : Addr) (nm : Str × Str) : Bool := PySem.W.selfFirst K C && (decide (PySem.W.findIn K (.ref C) nm.2 = some none) && ((PySem.W.findIn K (.type "int") nm.1).isSome && ((PySem.W.findIn K (.type "int") nm.2).isSome && decide (PySem.W.subIn K (.type "int") (.ref C) = some false))))
theorem binIB_ok {K : PySem.W.Frag} {C : Addr} {nm : Str × Str} (h : binIB K C nm = true) : BinI K C nm := by
  simp only [binIB, Bool.and_eq_true, decide_eq_true_eq] at h
  exact ⟨h.1, h.2.1, Option.isSome_iff_exists.mp h.2.2.1, Option.isSome_iff_exists.mp h.2.2.2.1, h.2.2.2.2⟩
section
variable {X : Cx} {k : Nat} {C : Addr} {sp : Sp} {m : Str}
def rOwnI (C : Addr) (sp : Sp) : R2 := fun x y H Q => ∃ a dx fs i, x = .ref a ∧ y = .int i ∧ H a = some (.ins C dx fs) ∧ sp [.ref a, .int i] H Q E0
theorem op_ownI {op : Operator} {nm : Str × Str} (M : MethR X.prog X.w X.K X.mg X.base C m k sp) (B : BinI X.K C nm) (room : Room k X.A) (h1 : PySem.dunder op.info.2 = m := by first | rfl | decide) (h2 : PySem.dunder op.info.2 = nm.1 := by first | rfl | decide) (h3 : PySem.dunderR op.info.2 = nm.2 := by first | rfl | decide) : OpR X (binaryOp op) (rOwnI C sp) := by
  rintro pins s σ H _ _ v u Q inv rv ru ⟨a, dx, fs, i, rfl, rfl, ha, owed⟩
  cases rv
  obtain ⟨t, rfl⟩ := ru
  obtain ⟨ox, od, isA⟩ := instAt inv ha
  obtain ⟨mm, fr⟩ := inv.fr
  obtain ⟨fo, i1⟩ := B.i1
  obtain ⟨ro, i2⟩ := B.i2
  have called := run_fnR (us := [.ref a, .int i t]) (vs := [V.ref a, V.int i]) M.fn room passN inv (.cons (by rfl) (.cons ⟨t, rfl⟩ .nil)) owed
  exact PySem.W.ksp_binT (T := "int") fr inv.mod.kin isA rfl B.self (h1 ▸ M.at_.at_) M.at_.fn (h3 ▸ B.noR) (.inl rfl) (h2 ▸ i1) (h3 ▸ i2) B.sub (wpAny_mono (wpAny_call called) (fun _ _ => cmpBack) fun _ _ z => z)
theorem n_ownI {H : Hp} {Q : VK} {a dx : Addr} {fs : List (Str × V)} {i : Int} (h1 : H a = some (.ins C dx fs)) (h : sp [.ref a, .int i] H Q E0) : rOwnI C sp (.ref a) (.int i) H Q := ⟨a, dx, fs, i, rfl, rfl, h1, h⟩
/-- o[i] by an own __getitem__ -/
def tOwnIx (C : Addr) (sp : Sp) (to ti : TE) : TE := fun σ H Q => to σ H fun x H1 => ti σ H1 fun i H2 => ∃ a dx fs, x = V.ref a ∧ H2 a = some (.ins C dx fs) ∧ sp [x, i] H2 Q E0
theorem pe_ownIx {o i : Expr} {to ti : TE} {pos : Pos} (M : MethR X.prog X.w X.K X.mg X.base C "__getitem__" k sp) (fi : ∀ f, Meth X.K C "__getitem__" f → PySem.W.fnIn X.K f = true) (room : Room (k + 1) X.A) (ho : PE X o to) (hi : PE X i ti)
    (plain : ∀ (a : Addr) (v : Value), subscripted i true (.ref a) v = runValue (.builtin "lifetime.subscript" ⟨[.ref a, v], []⟩) := by intro _ _; rfl) : PE X (.Subscript o i pos) (tOwnIx C sp to ti) := by
  constructor
  intro pn s σ H Q inv h
  refine Subscript_ (thn (ho.run pn s σ H _ inv h) ?_)
  rintro u s1 ⟨x, H1, inv1, rx, q1⟩
  refine thn (hi.run pn s1 σ H1 _ inv1 q1) ?_
  rintro v s2 ⟨y, H2, inv2, ry, a, dx, fs, rfl, ha, owed⟩
  cases rx
  obtain ⟨ox, od, isA⟩ := instAt inv2 ha
  obtain ⟨mm, fr⟩ := inv2.fr
  have called := M.fn X.A.in1 X.stack s2 H2 [.ref a, v] [.ref a, y] Q E0 room.in1 inv2.env0.in1 (.cons rfl (.cons ry .nil)) owed
  refine PySem.W.sub_K fr inv2.mod.kin isA M.at_.at_ (fi _ M.at_) M.at_.fn (wpAny_call (codeAny_mono called ?_)) (plain a v)
  rintro (er | fl) s3 got
  · rcases got with ⟨_, _, _, _, _, _, _, _, _, _, _, _, none_leaves⟩
    exact none_leaves.elim
  · cases fl with
    | ret val => exact inv2.after got
    | _ => exact got.elim
def OixK (C : Addr) (sp : Sp) (Q : VK) (x : V) : VK := fun i H2 => ∃ a dx fs, x = V.ref a ∧ H2 a = some (.ins C dx fs) ∧ sp [x, i] H2 Q E0
theorem g_ownIx {to ti : TE} {σ : L2.St} {H : Hp} {Q : VK} (h : to σ H fun x H1 => ti σ H1 (OixK C sp Q x)) : tOwnIx C sp to ti σ H Q := h
theorem n_ownIx {H : Hp} {Q : VK} {a dx : Addr} {fs : List (Str × V)} {i : V} (h1 : H a = some (.ins C dx fs)) (h : sp [.ref a, i] H Q E0) : OixK C sp Q (.ref a) i H := ⟨a, dx, fs, rfl, h1, h⟩
/-! == and != by an own __eq__ -/
structure EqO (K : PySem.W.Frag) (C : Addr) : Prop where
  ne : PySem.W.findIn K (.ref C) "__ne__" = some (some (.builtin "object.__ne__"))
  obj : PySem.W.subIn K (.ref C) (.type "object") = some true
def eqOB (K : PySem.W.Frag) (C : Addr) : Bool := decide (PySem.W.findIn K (.ref C) "__ne__" = some (some (.builtin "object.__ne__"))) && decide (PySem.W.subIn K (.ref C) (.type "object") = some true)
theorem eqOB_ok {K : PySem.W.Frag} {C : Addr} (h : eqOB K C = true) : EqO K C := by
  simp only [eqOB, Bool.and_eq_true, decide_eq_true_eq] at h
  exact ⟨h.1, h.2⟩
/-- both of the class at C; b: the answer of __eq__ -/
def rOwnEq (neg : Bool) (C : Addr) (sp : Sp) : R2 := fun x y H Q => ∃ a b dx dy fs gs, x = .ref a ∧ y = .ref b ∧ H a = some (.ins C dx fs) ∧ H b = some (.ins C dy gs) ∧ sp [.ref a, .ref b] H (fun v H' => ∃ r : Bool, v = .bl r ∧ Q (.bl (if neg then !r else r)) H') E0
theorem notFirst_self {K : PySem.W.Frag} {C : Addr} : PySem.W.notFirst K C (.ref C) = true := by unfold PySem.W.notFirst; simp
theorem ne_bind (self : Value) : bindSpecial (.builtin "object.__ne__") self = pure (.builtin "object.__ne__", [self]) := by kernel_rfl
theorem op_ownEq (M : MethR X.prog X.w X.K X.mg X.base C "__eq__" k sp) (room : Room (k + 1) X.A) : OpR X (compareOp .Eq) (rOwnEq false C sp) := by
  rintro pins s σ H _ _ v u Q inv rv ru ⟨a, b, dx, dy, fs, gs, rfl, rfl, ha, hb, owed⟩
  cases rv
  cases ru
  obtain ⟨ox, od, isA⟩ := instAt inv ha
  obtain ⟨oy, od', isB⟩ := instAt inv hb
  obtain ⟨mm, fr⟩ := inv.fr
  have called := run_fnR (us := [.ref a, .ref b]) (vs := [V.ref a, V.ref b]) M.fn (room.mono (Nat.le_succ k)) passN inv (.cons (by rfl) (.cons (by rfl) .nil)) owed
  show wpAny _ _ (richCompare .Eq (.ref a) (.ref b)) _ _ _
  refine PySem.W.cmp_K (by have := units65 room; omega) fr inv.mod.kin isA isB.type notFirst_self M.at_.at_ M.at_.fn (wpAny_mono (wpAny_call called) ?_ fun _ _ z => z)
  rintro r s1 ⟨x, H1, inv1, rx, br, rfl, q⟩
  obtain rfl : r = Value.bool br := rx
  exact ⟨.bl br, H1, inv1, rfl, by simpa using q⟩
theorem op_ownNe (M : MethR X.prog X.w X.K X.mg X.base C "__eq__" k sp) (O : EqO X.K C) (room : Room (k + 1) X.A) : OpR X (compareOp .NotEq) (rOwnEq true C sp) := by
  rintro pins s σ H _ _ v u Q inv rv ru ⟨a, b, dx, dy, fs, gs, rfl, rfl, ha, hb, owed⟩
  cases rv
  cases ru
  obtain ⟨ox, od, isA⟩ := instAt inv ha
  obtain ⟨oy, od', isB⟩ := instAt inv hb
  have un := units65 room
  have called := M.fn X.A.in1 X.stack s H [.ref a, .ref b] [.ref a, .ref b] _ E0 room.in1 inv.env0.in1 (.cons rfl (.cons rfl .nil)) owed
  have look : PySem.W.Looks (model X.prog X.w) s.heap (specialOf (.ref a) "__ne__") (some (.builtin "object.__ne__")) := isA.type.andThen (PySem.W.looks_findIn inv.kIn O.ne)
  have isObj : PySem.W.Looks (model X.prog X.w) s.heap (isInstance (.ref a) (.type "object")) true := isA.type.andThen (PySem.W.looks_subIn inv.kIn O.obj)
  have inner : wpAny (model X.prog X.w) X.A.in1 (Builtin.«object.__ne__» ⟨[.ref a, .ref b], []⟩) (fun fin s' => ∃ r : Bool, fin = .done (.ret (.bool r)) ∧ EP X pins σ Q (.bool r) s') X.xe s := by
    unfold Builtin.«object.__ne__»; refine wpAny_bind (wpAny_pure (wpAny_bind (wpAny_cRoomFor (by show X.A.in1.units < cLine; exact Nat.lt_of_le_of_lt (Nat.le_of_eq rfl) (by have : X.A.in1.units ≤ X.A.units + 1 := Nat.le_of_eq rfl; omega)) (wpAny_bind (PySem.W.ifBound_K inv.kIn isA M.at_.at_ M.at_.fn (wpAny_call (codeAny_mono called ?_)))))))
    rintro (er | fl) s1 got
    · rcases got with ⟨_, _, _, _, _, _, _, _, _, _, _, _, none_leaves⟩
      exact none_leaves.elim
    · cases fl with
      | ret val =>
        obtain ⟨x, H1, inv1, rx, br, rfl, q⟩ := inv.after got
        obtain rfl : val = Value.bool br := rx
        refine wpAny_bind (wpAny_truthy_bool (wpAny_pure ⟨!br, rfl, .bl (!br), H1, inv1, rfl, by simpa using q⟩))
      | _ => exact got.elim
  show wpAny _ _ (richCompare .NotEq (.ref a) (.ref b)) _ _ _
  unfold richCompare
  simp only [oneThing_ref]
  refine wpAny_holding (wpAny_bind (wpAny_cRoomFor (by omega) (wpAny_bind (isA.type.here (wpAny_bind (isB.type.here ?_))))))
  simp only [bne_self_eq_false, Bool.false_eq_true, if_false, Bool.false_and]
  refine wpAny_bind (wpAny_pure (show _ from ?_)); simp only [Bool.false_eq_true, if_false]; unfold tryCompare
  refine wpAny_bind (wpAny_bind (NtL.csib look (ne_bind _) ?_))
  refine wpAny_call (codeAny_call_builtin (by decide +kernel) F.cmpEntry_ne (PySem.W.check_slot F.cmpKind_ne F.cmpSplit_ne isObj (F.cmpArgs_ne _ _) (wpAny_mono inner ?_ fun _ _ z => z)))
  rintro fin s1 ⟨r, rfl, q⟩
  exact wpAny_pure (wpAny_pure q)
theorem n_ownEq {neg : Bool} {H : Hp} {Q : VK} {a b dx dy : Addr} {fs gs : List (Str × V)} (h1 : H a = some (.ins C dx fs)) (h2 : H b = some (.ins C dy gs)) (h : sp [.ref a, .ref b] H (fun v H' => ∃ r : Bool, v = .bl r ∧ Q (.bl (if neg then !r else r)) H') E0) : rOwnEq neg C sp (.ref a) (.ref b) H Q := ⟨a, b, dx, dy, fs, gs, rfl, rfl, h1, h2, h⟩
end
end HC
/-! head, *rest = list; str(int), int(text), text.split(text), f-strings -/
namespace HC
open PyProof.Rows PySem L2 PySem.Spec
/-- a list taken apart: its first item, and a new list of the others; nothing else is touched -/
theorem unpack_head {prog : Program} {w : World} {A : Around} {E : Value → Shared → Prop} {s : Shared} {l : Addr} {v : Value} {vs : List Value} {Q : List Value → Shared → Prop} (is : s.heap.IsList l (v :: vs).toArray) (calm : A.handled = none) (short : vs.length + 1 ≤ sizeLine)
    (go : ∀ (h' : Heap) (tk : Nat), (∀ b o, s.heap.get? b = some o → h'.get? b = some o) → Q [v, .ref h'.objs.size] { s with heap := h'.push { cls := .type "list", data := .seq vs.toArray }, toks := tk }) : wpAny (model prog w) A (unpackItems (.ref l) 2 (some 1)) Q E s := by
  obtain ⟨ol, at_, _⟩ := id is
  have low := Heap.lt_size at_
  have off : l ≠ s.heap.objs.size := Nat.ne_of_lt low
  unfold unpackItems notIterableAtAll
  refine wpAny_bind (wpAny_bind (wpAny_specialOf is.typeIs PySem.F.slot_list_iter.lookup (wpAny_pure ?_)))
  rw [if_neg (fun z : false = true => nomatch z)]
  refine wpAny_bind (wpAny_holding (wpAny_pyIter_list is (wpAny_bind (wpAny_holding (PySem.W.kun_draw off 1 0 _ _ ⟨_, Heap.get?_push_size _ rfl, rfl, rfl⟩ (is.push _) (by simp) fun h1 it1 same1 => ?_)))))
  have is1 : h1.IsList l (v :: vs).toArray := (is.push _).extBut same1.extBut off
  obtain ⟨oi, ati, _⟩ := id it1
  obtain ⟨ol1, at1, _⟩ := id is1
  refine wpAny_bind (wpAny_holding (PySem.W.kun_collect (s := { s with heap := h1 }) (T := "list_iterator") (items := (v :: vs).toArray) (.inr (.inr (.inl rfl))) (Walks.list (A := A.in1) calm s.heap.objs.size l off _) (fun j u st => st.1.typeIs) (k := 1) (by simp) ⟨it1, is1⟩ (Heap.lt_size ati) (Heap.lt_size at1) (fun h2 tk kept => ?_) (by simpa using short)))
  have all : ∀ b o, s.heap.get? b = some o → h2.get? b = some o := fun b o e => kept b o (Nat.ne_of_lt (Heap.lt_size e)) (same1.extBut b o (Nat.ne_of_lt (Heap.lt_size e)) (Heap.get?_push_of_some _ e))
  have cut : (((v :: vs).toArray.toList.drop 1).length - (2 - 1 - 1)) = vs.length := by simp
  show wpAny _ _ (if ((v :: vs).toArray.toList.drop 1).length < 2 - 1 - 1 then _ else _) _ _ _
  rw [if_neg (by simp)]
  show wpAny _ _ (newList (((v :: vs).toArray.toList.drop 1).take (((v :: vs).toArray.toList.drop 1).length - (2 - 1 - 1))) >>= fun d => pure (((v :: vs).toArray.toList.drop 0).take 1 ++ [d] ++ ((v :: vs).toArray.toList.drop 1).drop (((v :: vs).toArray.toList.drop 1).length - (2 - 1 - 1)))) _ _ _
  rw [cut]
  have e1 : ((v :: vs).toArray.toList.drop 1).take vs.length = vs := by simp
  have e2 : ((v :: vs).toArray.toList.drop 1).drop vs.length = [] := by simp
  rw [e1, e2]
  exact wpAny_bind (wpAny_newList (s := { s with heap := h2, toks := tk }) (wpAny_pure (by simpa using go h2 tk all)) (by omega))
section
variable {X : Cx} {e o t1 t2 : Expr} {te to : TE} {p q pos apos : Pos} {k : Nat} {K : PySem.W.Frag} {H : Hp} {Q : VK} {σ : L2.St}
/-- t1, *t2 = list -/
def gStar1 (K : PySem.W.Frag) (g : TGs) : TG := fun v σ H Q => ∃ a x xs, v = .ref a ∧ SqL K H a (x :: xs) ∧ ∀ p, H p = none → g [x, .ref p] σ (upd H p (.lst xs)) Q
theorem pg_star1 (K' : PySem.W.Frag) {g : TGs} (calm : X.calm = true) (h : PGs X [t1, t2] g) (e1 : (assignEach [t1, .Starred t2 p] X.env).map (·.2) = (assignEach [t1, t2] X.env).map (·.2) := by rfl) (e2 : (assignEach [t1, .Starred t2 p] X.env).length = 2 := by rfl) (e3 : (assignEach [t1, .Starred t2 p] X.env).findIdx? (·.1) = some 1 := by rfl) (hK : X.K = K' := by rfl) :
    PG X (.Tuple [t1, .Starred t2 p] k pos) (gStar1 K' g) := by
  subst hK
  constructor
  rintro pins s σ H _ u Q inv rel ⟨a, x, xs, rfl, sq, owed⟩
  cases rel
  obtain ⟨its, rv, pl, hz⟩ := inv.list sq
  cases rv with
  | @cons _ v _ vs rx rxs =>
    rw [assign_Tuple]
    refine wpAny_bind (wpAny_standAt ?_); unfold unpack
    rw [e2, e3, e1]
    refine wpAny_bind (wpAny_holding (unpack_head pl.isList (inv.ok.hd calm) (by have := rxs.length; simpa [← this] using hz) fun h' tk kept => ?_))
    have inv1 : L2.Inv X pins σ H { s with heap := h', toks := tk } := inv.kept kept
    have free : H h'.objs.size = none := inv1.hok.fresh (Nat.le_refl _)
    have len : xs.length ≤ sizeLine := Nat.le_trans (Nat.le_succ _) (by simpa using hz)
    have ok : ObjOk X.prog X.w (upd H h'.objs.size (.lst xs)) (h'.push { cls := .type "list", data := .seq vs.toArray }) h'.objs.size (.lst xs) := ⟨len, vs, 0, rxs, Heap.get?_push_size _ rfl⟩
    have inv2 := inv1.laid (t' := tk) (a := h'.objs.size) (o := .lst xs) (h' := h'.push { cls := .type "list", data := .seq vs.toArray }) (fun b o z => Heap.get?_push_of_some _ z) (Nat.le_refl _) ok
    exact h.run pins _ σ _ [x, V.ref h'.objs.size] _ Q inv2 (.cons rx (.cons rfl .nil)) (owed _ free)
theorem n_star1P {g : TGs} {a : Addr} {x : V} {xs : List V} {Q : L2.St → Hp → Prop} (h1 : SqL K H a (x :: xs)) (h : ∀ p H', H p = none → Same H H' → H' p = some (.lst xs) → g [x, .ref p] σ H' Q) : gStar1 K g (.ref a) σ H Q := ⟨a, x, xs, rfl, h1, fun p hp => h p _ hp (same_new hp) upd_same⟩
/-- the text of a number -/
def numS (i : Int) : Str := Str.ofString (toString i)
def rStr1 : List V → Hp → VK → Prop := fun xs H Q => ∃ i, xs = [.int i] ∧ i.natAbs.log2 < 1920 ∧ Q (.str (numS i)) H
theorem call_strI : CallR X (.type "str") rStr1 := by
  rintro pins s σ H xs us Q inv rel ⟨i, rfl, small, q⟩
  obtain ⟨_, rfl, t, rfl⟩ := vals1 rel
  exact PySem.P.str_of_int small ⟨.str (numS i), H, inv.tok _, ⟨_, rfl⟩, q⟩
theorem pe_strI (m : Bts X.mg) (he : PE X e te) (hg : Gl X "str" := by rfl) (hs : starEach (e :: []) X.env = (false, eval e X.env) :: starEach [] X.env := by rfl) : PE X (.Call (.Name "str" p) [e] [] pos) (tCB rStr1 (tCons te tNil)) :=
  pe_callTy call_strI hg m.str bt_str (pa_cons he pa_nil hs) (by decide) (by decide) hs rfl
theorem g_strI {i : Int} (h1 : i.natAbs.log2 < 1920) (h : Q (.str (numS i)) H) : rStr1 [.int i] H Q := ⟨i, rfl, h1, h⟩
def rIntS : List V → Hp → VK → Prop := fun xs H Q => ∃ a n, xs = [.str a] ∧ PySem.intText? a = some n ∧ a.length ≤ 640 ∧ Q (.int n) H
theorem pe_intS (m : Bts X.mg) (he : PE X e te) (hg : Gl X "int" := by rfl) (hs : starEach (e :: []) X.env = (false, eval e X.env) :: starEach [] X.env := by rfl) : PE X (.Call (.Name "int" p) [e] [] pos) (tCB rIntS (tCons te tNil)) :=
  pe_callTy call_int_str hg m.int bt_int (pa_cons he pa_nil hs) (by decide) (by decide) hs rfl
theorem g_intS {a : Str} {n : Int} (h1 : PySem.intText? a = some n) (h2 : a.length ≤ 640) (h : Q (.int n) H) : rIntS [.str a] H Q := ⟨a, n, rfl, h1, h2, h⟩
theorem num_small {i : Int} (h0 : 0 ≤ i) (h1 : i < 2 ^ 64) : i.natAbs.log2 < 1920 := by
  have : i.natAbs < 2 ^ 1920 := Nat.lt_of_lt_of_le (by omega : i.natAbs < 2 ^ 64) (Nat.pow_le_pow_right (by decide) (by decide))
  by_cases z : i.natAbs = 0
  · rw [z]; decide
  · exact (Nat.log2_lt z).mpr this
/-- text.split(text) -/
def rSplit : V → List V → Hp → VK → Prop := fun x xs H Q => ∃ a b, x = .str a ∧ xs = [.str b] ∧ (b.length == 0) = false ∧ a.length + 2 ≤ sizeLine ∧ rNewStrs (Txt.split a b) H Q
theorem g_split {a b : Str} (h1 : (b.length == 0) = false) (h2 : a.length + 2 ≤ sizeLine) (h : ∀ p H', H p = none → Same H H' → H' p = some (.lst ((Txt.split a b).map V.str)) → Q (.ref p) H') : rSplit (.str a) [.str b] H Q := ⟨a, b, rfl, rfl, h1, h2, fun p hp => h p _ hp (same_new hp) upd_same⟩
/-- f'..' of two parts and more -/
def tFs (ts : List TE) : TE := fun σ H Q => tJs ts Str.empty σ H fun out H1 => Q (.str out) H1
def FsK (ts : List TE) (acc : Str) (σ : L2.St) (Q : VK) : VK := fun x H1 => ∃ y : Str, x = .str y ∧ (acc ++ y).length ≤ sizeLine ∧ tJs ts (acc ++ y) σ H1 fun out H2 => Q (.str out) H2
theorem g_fs {t : TE} {ts : List TE} (h : t σ H (FsK ts Str.empty σ Q)) : tFs (t :: ts) σ H Q := h
theorem n_fs0 {acc y : Str} (hz : (acc ++ y).length ≤ sizeLine) (h : Q (.str (acc ++ y)) H) : FsK [] acc σ Q (.str y) H := ⟨y, rfl, hz, h⟩
theorem n_fs {acc y : Str} {t : TE} {ts : List TE} (hz : (acc ++ y).length ≤ sizeLine) (h : t σ H (FsK ts (acc ++ y) σ Q)) : FsK (t :: ts) acc σ Q (.str y) H := ⟨y, rfl, hz, h⟩
def FmK (Q : VK) : VK := fun x H1 => (∃ y : Str, x = .str y ∧ y.length ≤ sizeLine ∧ Q (.str y) H1) ∨ ∃ i : Int, x = .int i ∧ i.natAbs.log2 < 1920 ∧ Q (.str (numS i)) H1
theorem g_fmt (h : te σ H (FmK Q)) : tFmt te σ H Q := h
theorem n_fmtS {y : Str} (hz : y.length ≤ sizeLine) (h : Q (.str y) H) : FmK Q (.str y) H := .inl ⟨y, rfl, hz, h⟩
theorem n_fmtI {i : Int} (hz : i.natAbs.log2 < 1920) (h : Q (.str (numS i)) H) : FmK Q (.int i) H := .inr ⟨i, rfl, hz, h⟩
end
end HC
/-! generator methods: their promises, list(o.m(..)); instances called; steps of generator bodies -/
namespace HC
open PyProof.Rows PySem L2 PySem.Spec
section
variable {K : PySem.W.Frag} {P : Program} {w : World} {base : Heap} {mg : Str → Option Value}
/-- the method m of the class at C is a generator that keeps sp -/
structure MethG (P : Program) (w : World) (K : PySem.W.Frag) (mg : Str → Option Value) (base : Heap) (C : Addr) (m : Str) (k : Nat) (sp : SpG) : Prop where
  cl : Cls K C
  ex : ∃ f fd ps, Meth K C m f ∧ GFn P w K mg base k f fd ps sp ∧ Binds K fd ps []
theorem gfn_body {x qual : Str} {params : Arguments} {body : List Stmt} {scope : Scope} {f : Addr} {fd : FuncData} {N ps : List Str} {k : Nat} {sp : SpG} (F : FunD K x qual params body scope [] [] f fd) (S : GScope N ps scope) (len : ∀ vs H Q E, sp vs H Q E → vs.length = ps.length)
    (owes : ∀ (cdv : Value) (A : Around) (outer : List Env) (s : Shared) (H : Hp) (vs : List V) (Q : List V → Hp → Prop) (E : XK) (pn : List (Addr × Obj)), Room k (A.deeper (envOfC qual scope s.heap.objs.size f cdv)) → sp vs H Q E →
      ∃ t, GSs (gcxOf P w K mg base N qual scope f cdv A outer s H E pn) body t ∧ t { nx := fun ys _ H' => Q ys H', rt := fun ys v H' => v = .non ∧ Q ys H' } [] (start N vs) H) : GFn P w K mg base (k + 1) f fd ps sp := by
  rcases F.ex with ⟨c1, c2, dv, kv, dc, pm, an, cdv, ct, sl, e, at_, code, _⟩
  subst e
  exact gfn_of at_ code S len (owes cdv)
end
section
variable {X : Cx} {k : Nat} {C : Addr} {sp : SpG} {m : Str} {o e : Expr} {es : List Expr} {to : TE} {t : TA} {p q pos apos : Pos} {K : PySem.W.Frag} {H : Hp} {Q : VK} {σ : L2.St}
theorem noStop0 : NoStop X.K E0 := fun _ _ _ z => z.elim
/-- list(o.m(e, ..)), m a generator method -/
theorem pe_listM {pl : Sem Bool} (M : MethG X.prog X.w X.K X.mg X.base C m k sp) (room : Room (k + 3) X.A) (b : Bts X.mg) (ho : PE X o to) (ha : PA X (e :: es) t) (hg : Gl X "list" := by rfl)
    (hs : starEach [.Call (.Attribute o m apos) (e :: es) [] q] X.env = (false, eval (.Call (.Attribute o m apos) (e :: es) [] q) X.env) :: starEach [] X.env := by rfl)
    (hst : starEach (e :: es) X.env = (false, eval e X.env) :: starEach es X.env := by rfl) (hpl : (backTo q (starEach es X.env)).any (·.1) = false := by rfl)
    (ht : eval (.Call (.Attribute o m apos) (e :: es) [] q) X.env = (do
      let ov ← eval o X.env
      standAt apos.atName
      let (fn, rest) ← holding [ov] (getMethod ov m pl)
      callWith q fn rest (backTo q (starEach (e :: es) X.env)) (backToKw q (keywordEach [] X.env))) := by rfl) :
    PE X (.Call (.Name "list" p) [.Call (.Attribute o m apos) (e :: es) [] q] [] pos) (tListG (tMethG C m sp [] E0 to t)) := by
  obtain ⟨f, fd, ps, at_, F, bnd⟩ := M.ex
  exact pe_listG (pgen_meth (pl := pl) ho M.cl at_ F (room.mono (by omega)) bnd .nil ha hst hpl ht) passN noStop0 room hg b.list bt_list (by decide) (by decide) hs
/-- the object, then the arguments, then what the generator promises -/
def GmK (C : Addr) (m : Str) (sp : SpG) (t : TA) (σ : L2.St) (Q : VK) : VK := fun x H1 => ∃ a dx fs, x = .ref a ∧ H1 a = some (.ins C dx fs) ∧ fs.lookup m = none ∧ t σ H1 fun vs H2 => sp (x :: (vs ++ [])) H2 (fun out H3 => ∀ p, H3 p = none → Q (.ref p) (upd H3 p (.lst out))) E0
theorem g_listM (h : to σ H (GmK C m sp t σ Q)) : tListG (tMethG C m sp [] E0 to t) σ H Q := h
theorem n_listM {a dx : Addr} {fs : List (Str × V)} (h1 : H a = some (.ins C dx fs)) (h2 : fs.lookup m = none) (h : t σ H fun vs H2 => sp (V.ref a :: (vs ++ [])) H2 (fun out H3 => ∀ p, H3 p = none → Q (.ref p) (upd H3 p (.lst out))) E0) : GmK C m sp t σ Q (.ref a) H := ⟨a, dx, fs, rfl, h1, h2, h⟩
end
section
variable {X : Cx} {k : Nat} {C : Addr} {sp : Sp} {fe e : Expr} {es : List Expr} {tf : TE} {t : TA} {p pos : Pos} {H : Hp} {Q : VK} {σ : L2.St}
/-- x(e, ..), x an instance of the class at C -/
theorem pe_callI (M : MethR X.prog X.w X.K X.mg X.base C "__call__" k sp) (fi : ∀ f, Meth X.K C "__call__" f → PySem.W.fnIn X.K f = true) (room : Room k X.A) (hf : PE X fe tf) (ha : PA X (e :: es) t)
    (ht : eval (.Call fe (e :: es) [] pos) X.env = (do
      callWith pos (← eval fe X.env) [] (backTo pos (starEach (e :: es) X.env)) (backToKw pos (keywordEach [] X.env))) := by rfl) (he : starEach (e :: es) X.env = (false, eval e X.env) :: starEach es X.env := by rfl) (hpl : (backTo pos (starEach es X.env)).any (·.1) = false := by rfl) : PE X (.Call fe (e :: es) [] pos) (StX.tCallO X C sp E0 tf t) :=
  StX.pe_callO hf ⟨M.at_.at_, M.at_.fn, fi _ M.at_⟩ M.fn room passN ha ht he hpl
def CiK (X : Cx) (C : Addr) (sp : Sp) (t : TA) (σ : L2.St) (Q : VK) : VK := fun y H1 => ∃ a, y = V.ref a ∧ t σ H1 fun vs H2 => StX.InsC X H2 a C ∧ sp (V.ref a :: vs) H2 Q E0
theorem g_callI (h : tf σ H (CiK X C sp t σ Q)) : StX.tCallO X C sp E0 tf t σ H Q := h
theorem n_callI {a : Addr} (h : t σ H fun vs H2 => StX.InsC X H2 a C ∧ sp (V.ref a :: vs) H2 Q E0) : CiK X C sp t σ Q (.ref a) H := ⟨a, rfl, h⟩
theorem insC_of {a dx : Addr} {fs : List (Str × V)} (h : H a = some (.ins C dx fs)) : StX.InsC X H a C := .inr ⟨dx, fs, h⟩
theorem pe_splitH {o : Expr} {to te : TE} {apos : Pos} (ho : PE X o to) (he : PE X e te) (hs : starEach [e] X.env = [(false, eval e X.env)] := by rfl) (hbase : attributeBase o "split" X.env (eval o X.env) = eval o X.env := by rfl) (hline : (apos.endLine == pos.line) = true := by rfl) :
    PE X (.Call (.Attribute o "split" apos) [e] [] pos) (tM1 rSplit to te) := pe_split ho he hs hbase hline
theorem pe_fs {v1 v2 : Expr} {rest : List Expr} {ts : List TE} (h : PJ X (v1 :: v2 :: rest) ts) : PE X (.JoinedStr (v1 :: v2 :: rest) pos) (tFs ts) := pe_joined h
end
/-! steps of a generator's body -/
section
variable {D : GEnds} {ys : List V} {σ : L2.St} {H : Hp} {t u : TGn} {te : TE} {tp : TS} {tc : TT} {g : TG} {ts : TA}
theorem g_gthen (h : t { D with nx := fun ys' σ' H' => u D ys' σ' H' } ys σ H) : tGThen t u D ys σ H := h
theorem g_gplain (h : tp { nx := D.nx ys, rt := D.rt ys, bk := D.bk ys, ct := D.ct ys } σ H) : tPlain tp D ys σ H := h
theorem g_gif (h : tc σ H fun b H1 => if b = true then t D ys σ H1 else u D ys σ H1) : tGIf tc t u D ys σ H := h
theorem g_g0 (h : D.nx ys σ H) : tG0 D ys σ H := h
theorem n_yield (hz : ys.length < sizeLine) (h : te σ H fun x H1 => D.nx (ys ++ [x]) σ H1) : tGYield te D ys σ H := ⟨hz, h⟩
def GiR2 (g : TG) (tb : TGn) (D : GEnds) (ys : List V) (σ : L2.St) (vs : List V) (H1 : Hp) : Prop := ∃ lo hi, vs = [.int lo, .int hi] ∧ (-(2 ^ 62) ≤ lo ∧ lo < 2 ^ 62 ∧ -(2 ^ 62) ≤ hi ∧ hi < 2 ^ 62) ∧ tGFor (fun _ H2 R => R (Itr lo (hi - lo).toNat) H2) g tb D ys σ H1
theorem g_gforR2 (h : ts σ H (GiR2 g t D ys σ)) : tGFor (iRng2 ts) g t D ys σ H := h
theorem n_gforR2 {lo hi : Int} (h1 : -(2 ^ 62) ≤ lo) (h2 : lo < 2 ^ 62) (h3 : -(2 ^ 62) ≤ hi) (h4 : hi < 2 ^ 62) (Pv : Nat → List V → L2.St → Hp → Prop) (h0 : Pv 0 ys σ H)
    (hs : ∀ (i : Nat) ys σ H, i < (hi - lo).toNat → Pv i ys σ H → g (.int (lo + i)) σ H fun σ2 H2 => t { D with nx := Pv (i + 1), ct := Pv (i + 1), bk := D.nx } ys σ2 H2) (hd : ∀ ys σ H, Pv (hi - lo).toNat ys σ H → D.nx ys σ H) : GiR2 g t D ys σ [.int lo, .int hi] H := by
  refine ⟨lo, hi, rfl, ⟨h1, h2, h3, h4⟩, fun i m ys σ H => m = (hi - lo).toNat - i ∧ i ≤ (hi - lo).toNat ∧ Pv i ys σ H, ⟨_, rfl, Nat.zero_le _, h0⟩, ?_⟩
  rintro i m ys σ H ⟨rfl, le, p⟩
  have W := walk_range (lo := lo) (n := (hi - lo).toNat)
  by_cases lt : i < (hi - lo).toNat
  · refine .inr ⟨W.goes i H lt trivial, Pv (i + 1), fun ys' σ' H' p' => ⟨_, by omega, rfl, lt, p'⟩, fun x H' y => ?_⟩
    obtain ⟨rfl, rfl⟩ := W.yields i H x H' lt trivial y
    exact hs i ys σ H' lt p
  · obtain rfl : i = (hi - lo).toNat := by omega
    exact .inl ⟨W.stops H trivial, hd ys σ H p⟩
end
end HC
/-! def f(self, *v, kw=d), called without kw -/
namespace HC
open PyProof.Rows PySem L2 PySem.Spec
/-- the binder looks one name up in the dict at D, then goes on as g tells -/
def Looks1 {α : Type} (D : Addr) (kw : Str) (t : Sem α) (g : Value → Sem α) : Prop := ∃ (β γ : Type) (k1 : Option Value → Sem β) (k2 : β → Sem γ) (k3 : γ → Sem α), t = ((nsGet D kw >>= k1) >>= k2) >>= k3 ∧ ∀ u, ∃ b, k1 (some u) = pure b ∧ (k2 b >>= k3) = g u
theorem looks1_run {α : Type} {M : Model} {A : Around} {E : Value → Shared → Prop} {s : Shared} {K : PySem.W.Frag} {D : Addr} {kw : Str} {t : Sem α} {g : Value → Sem α} {u : Value} {Q : α → Shared → Prop} (X : K.In s.heap) (at_ : PySem.W.nsIn K D kw = some (some u)) (l : Looks1 D kw t g) (h : wpAny M A (g u) Q E s) : wpAny M A t Q E s := by
  obtain ⟨β, γ, k1, k2, k3, rfl, more⟩ := l
  obtain ⟨b, e1, e2⟩ := more u
  have one : PySem.W.Looks M s.heap (nsGet D kw >>= k1) b := (PySem.W.looks_nsIn X at_).andThen (PySem.W.Looks.of_pure e1)
  rw [bind_assoc]
  refine wpAny_bind (one.here ?_)
  show wpAny M A (k2 b >>= k3) Q E s
  rw [e2]
  exact h
section
variable {P : Program} {w : World} {K : PySem.W.Frag} {mg : Str → Option Value} {base : Heap} {k : Nat} {f : Addr} {sp : Sp}
theorem fnd_star1 {x qual : Str} {params : Arguments} {body : List Stmt} {scope : Scope} {dv : V} {fd : FuncData} {N : List Str} {p1 pv kw : Str} (F : FunD K x qual params body scope [] [(kw, dv)] f fd) (S : FnScope N [p1, kw, pv] scope)
    (h0 : ∀ (D : Addr) (doc pm : Value) (an : Option Addr) (cdv ct : Value) (a : Value), Looks1 D kw (bindArgs (PySem.W.fnOf x qual params body scope .none (.ref D) doc pm an cdv ct) ⟨[a], []⟩) fun u => newTuple [] >>= fun t => pure [(p1, a), (kw, u), (pv, t)])
    (h1 : ∀ (D : Addr) (doc pm : Value) (an : Option Addr) (cdv ct : Value) (a r : Value) (rs : List Value), Looks1 D kw (bindArgs (PySem.W.fnOf x qual params body scope .none (.ref D) doc pm an cdv ct) ⟨a :: r :: rs, []⟩) fun u => newTuple (r :: rs) >>= fun t => pure [(p1, a), (kw, u), (pv, t)])
    (owes : ∀ cdv, Owes P w K mg base N qual scope body k f sp cdv) :
    FnR P w K mg base (CXW P w) (k + 1) f (fun vs H Q E => ∃ w0 rest, vs = w0 :: rest ∧ rest.length ≤ sizeLine ∧ ∀ p, H p = none → sp [w0, dv, V.ref p] (upd H p (.tup rest)) Q E) := by
  rcases F.ex with ⟨c1, c2, dV, kV, dc, pm, an, cdv, ct, sl, e, at_, code, dfl, kwd⟩
  subst e
  have dn : dV = .none := dfl.elim (fun z => z.2) (fun z => absurd rfl z.1)
  subst dn
  rcases kwd with z | ⟨D, rfl, has⟩
  · exact absurd z (by simp)
  obtain ⟨u, atD, ru⟩ := has (kw, dv) (by simp)
  rintro A outer s H us vs Q E room env rel ⟨w0, rest, rfl, size, owed⟩
  cases rel with
  | @cons _ a _ more ra rmore =>
    have free : H s.heap.objs.size = none := env.hok.fresh (Nat.le_refl _)
    have size' : more.length ≤ sizeLine := rmore.length ▸ size
    have KX : K.In s.heap := env.mod.kin.keeps fun b o e => (env.bs b o e).1
    have bind : Looks1 D kw (bindArgs (PySem.W.fnOf x qual params body scope .none (.ref D) dc pm an cdv ct) ⟨a :: more, []⟩) fun u => newTuple more >>= fun t => pure [(p1, a), (kw, u), (pv, t)] := by
      cases more with
      | nil => exact h0 D dc pm an cdv ct a
      | cons r rs => exact h1 D dc pm an cdv ct a r rs
    refine StX.run_bnd at_ code S room env (G := fun xs H2 => ∃ p, H p = none ∧ xs = [w0, dv, V.ref p] ∧ H2 = upd H p (.tup rest)) ?_ ?_
    · intro A' Ex Q' go
      refine looks1_run KX atD bind (wpAny_bind (wpAny_newTuple (wpAny_pure ?_) size'))
      have fresh : ObjOk P w (upd H s.heap.objs.size (.tup rest)) (s.heap.push { cls := .type "tuple", data := .seq more.toArray }) s.heap.objs.size (.tup rest) := ⟨size, more, rmore, _, Heap.get?_push_size _ rfl, rfl, _, rfl⟩
      have grown := StX.un_laid (fs := frs outer) (s := s) (o := { cls := .type "tuple", data := .seq more.toArray }) (u := .tup rest) free
      exact go _ _ [w0, dv, .ref s.heap.objs.size] [a, u, .ref s.heap.objs.size] (StX.env0_laid env fresh) grown rfl (fun e s' => StX.cxUp outer s H _ _ E e s' grown (fun b o q => Heap.get?_push_of_some _ q) rfl) (.cons ra (.cons ru (.cons rfl .nil))) rfl ⟨_, free, rfl, rfl⟩
    · rintro s2 _ _ ⟨p, hp, rfl, rfl⟩ room'
      exact owes cdv A outer s2 _ _ Q E room' (owed p hp)
end
end HC
/-! exceptions of own classes whose __init__ takes keywords alone -/
namespace HC
open PyProof.Rows PySem Spec HandSPX
/-- at C stands an own class below ValueError; what its line of classes holds -/
structure VeAt (h : Heap) (C : Addr) (o : Obj) (bm : List Value) : Prop where
  obj : ∃ nm q N bs hdct sn sub ab col dd k0 k1 k2 k3 k5, o = excClassObj nm q C N bs bm hdct sn sub ab col dd k0 k1 k2 k3 k5 "ValueError.__new__"
  at_ : h.get? C = some o
  ve : (Value.ref C :: bm).contains (.type "ValueError") = true
  ae : (Value.ref C :: bm).contains (.type "AttributeError") = false
  ne : (Value.ref C :: bm).contains (.type "NameError") = false
  me : (Value.ref C :: bm).contains (.ref C) = true
theorem veAt {h : Heap} {C : Addr} {nm q : Str} {N : Addr} {bs bm sub : List Value} {hdct ab : Bool} {sn : List Str} {col : Option Bool} {dd : Option Addr} {k0 k1 k2 k3 k5 : Option Value}
    (at_ : h.get? C = some (excClassObj nm q C N bs bm hdct sn sub ab col dd k0 k1 k2 k3 k5 "ValueError.__new__")) (tail : refsVE bm = true) : VeAt h C (excClassObj nm q C N bs bm hdct sn sub ab col dd k0 k1 k2 k3 k5 "ValueError.__new__") bm := by
  have key : ∀ T : String, (Value.ref C :: bm).contains (.type T) = veTail.contains (.type T) := fun T => by rw [List.contains_cons, refsVE_contains T bm tail]; rfl
  exact ⟨⟨_, _, _, _, _, _, _, _, _, _, _, _, _, _, _, rfl⟩, at_, by rw [key]; decide +kernel, by rw [key]; decide +kernel, by rw [key]; decide +kernel, by simp⟩
section
variable {prog : Program} {w : World} {A : Around} {h : Heap} {C : Addr} {o : Obj} {bm : List Value} {kw : List (Str × Value)} {g : Array GenState} {d : Drawn} {t : Nat} {os : OsState}
/-- the object that C(k=v, ..) makes, no argument by place -/
abbrev bare (h : Heap) (C : Addr) : Heap := (h.push (W.kdv_tup [])).push (excO C h.objs.size)
theorem new_bare {R : Result → Shared → Prop} (V : VeAt h C o bm) (k : R (.ok (.ret (.ref (h.objs.size + 1)))) ⟨bare h C, g, d, t, os⟩) : codeAny (model prog w) A (.builtin "ValueError.__new__" ⟨[.ref C], kw⟩) R ⟨h, g, d, t, os⟩ := by
  obtain ⟨nm, q, N, bs, hdct, sn, sub, ab, col, dd, k0, k1, k2, k3, k5, rfl⟩ := V.obj
  have cl := V.at_
  have p := V.ve; have a := V.ae; have n := V.ne; have m := V.me
  have fin := PySem.F.excBase_ValueError.ends
  refine codeAny_builtinAt PySem.F.excBase_ValueError.entry (show PySem.wpAt _ _ _ (Builtin.«BaseException.__new__» _) _ _ _ from ?_)
  unfold Builtin.«BaseException.__new__»; refine PySem.wpAt_bind (show PySem.wpAt _ _ _ (stack >>= _) _ _ _ from PySem.wpAt_bind (PySem.wpAt_stack fun _ _ => PySem.wpAt_of_wpAny ?_))
  wp_walk
  refine PySem.wpAt_of_wpAny ?_
  rw [PySem.F.excBase_ValueError.owner]
  repeat (first
    | with_reducible refine wpAny_madeHere_exc PySem.F.excBase_ValueError.canon cl ?_ | with_reducible refine wpAny_madeBy_exc cl ?_ | with_reducible refine wpAny_staticBase_exc cl ?_ | with_reducible refine wpAny_loadPart_at cl ?_
    | ((with_reducible refine wpAny_isSubtype_exc cl ?_); first | rw [p] | rw [a] | rw [n] | rw [m]) | simp only [bne_self_eq_false, Bool.false_eq_true, if_false] | wp_step)
  rw [Heap.size_push]
  exact k
theorem call_bare {R : Result → Shared → Prop} {fI : Addr} (V : VeAt h C o bm) (hi : W.Looks (model prog w) h (typeLookup (.ref C) "__init__") (some (.ref fI))) (hb : ∀ self, W.Looks (model prog w) h (bindSpecial (.ref fI) self) (.ref fI, [self]))
    (k : codeAny (model prog w) (A.under (.builtin "type.__call__" ⟨[.ref C], kw⟩)) (.call (.ref fI) ⟨[.ref (h.objs.size + 1)], kw⟩) (W.InitBack (h.objs.size + 1) R) ⟨bare h C, g, d, t, os⟩) :
    codeAny (model prog w) A (.call (.ref C) ⟨[], kw⟩) R ⟨h, g, d, t, os⟩ := by
  obtain ⟨nm, q, N, bs, hdct, sn, sub, ab, col, dd, k0, k1, k2, k3, k5, rfl⟩ := V.obj
  have cl := V.at_
  have p := V.ve; have a := V.ae; have n := V.ne; have m := V.me
  have up : ∀ b u, h.get? b = some u → (bare h C).get? b = some u := fun b u e => Heap.get?_push_of_some _ (Heap.get?_push_of_some _ e)
  have cl' := up _ _ cl
  have mine : (bare h C).get? (h.objs.size + 1) = some (excO C h.objs.size) := by heap_get
  have lk := tc_lookup
  have bn := tc_bind (.ref C)
  have ty : (⟨h, g, d, t, os⟩ : Shared).TypeIs (.ref C) "type" := ⟨_, cl, rfl⟩
  have may : ∀ {M : Model} {B : Around} {E : Value → Shared → Prop} {Q : Unit → Shared → Prop}, Q () ⟨h, g, d, t, os⟩ → wpAny M B (checkBuiltinCall "ValueError.__new__" ⟨[.ref C], kw⟩) Q E ⟨h, g, d, t, os⟩ := fun {M B E Q} ok => by
    have st := PySem.F.excBase_ValueError.noStar
    simp only [checkBuiltinCall, PySem.F.excBase_ValueError.newSplit, PySem.F.excBase_ValueError.newKind, PySem.F.excBase_ValueError.newRow]
    repeat (first
    | with_reducible refine wpAny_madeHere_exc PySem.F.excBase_ValueError.canon cl ?_ | with_reducible refine wpAny_madeBy_exc cl ?_ | with_reducible refine wpAny_staticBase_exc cl ?_ | with_reducible refine wpAny_loadPart_at cl ?_
    | ((with_reducible refine wpAny_isSubtype_exc cl ?_); first | rw [p] | rw [a] | rw [n] | rw [m]) | simp only [bne_self_eq_false, Bool.false_eq_true, if_false] | wp_step)
    exact ok
  have typ : ∀ {Q : Fin → Shared → Prop} {E : Value → Shared → Prop}, codeAny (model prog w) (A.under (.builtin "type.__call__" ⟨[.ref C], kw⟩)) (.call (.ref fI) ⟨[.ref (h.objs.size + 1)], kw⟩)
      (fun r s' => match r with | .error e => E e s' | .ok (.ret v) => v = .none ∧ Q (.done (.ret (.ref (h.objs.size + 1)))) s' | .ok _ => False) ⟨bare h C, g, d, t, os⟩ →
      wpAny (model prog w) (A.under (.builtin "type.__call__" ⟨[.ref C], kw⟩)) (Builtin.«type.__call__» ⟨[.ref C], kw⟩) Q E ⟨h, g, d, t, os⟩ := fun {Q E} z => by
    repeat (first
    | with_reducible refine wpAny_madeHere_exc PySem.F.excBase_ValueError.canon cl ?_ | with_reducible refine wpAny_madeBy_exc cl ?_ | with_reducible refine wpAny_staticBase_exc cl ?_ | with_reducible refine wpAny_loadPart_at cl ?_
    | ((with_reducible refine wpAny_isSubtype_exc cl ?_); first | rw [p] | rw [a] | rw [n] | rw [m]) | simp only [bne_self_eq_false, Bool.false_eq_true, if_false] | wp_step)
    refine codeAny_call_builtin_code (Code.quiet_builtin _ PySem.F.excBase_ValueError.quiet) (may (new_bare V ?_))
    show wpAny _ _ _ _ _ _
    unfold isInstance
    repeat (first | with_reducible refine wpAny_loadPart_at mine ?_ | (with_reducible refine wpAny_isSubtype_exc cl' ?_; rw [m]) | wp_step)
    refine (show wpAny _ _ (typeLookup (.ref C) _) _ _ _ from (hi.keeps up).at (wpAny_holding (wpAny_bind (((hb _).keeps up).at (wpAny_bind (wpAny_call (codeAny_mono z ?_)))))))
    intro r s' got
    match r, got with
    | .error e, got => exact got
    | .ok (.ret v), got =>
      obtain ⟨rfl, got⟩ := got
      first | exact wpAny_pure (wpAny_pure got) | (wp_walk; exact got)
    | .ok .next, got => exact got.elim
    | .ok .brk, got => exact got.elim
    | .ok .cont, got => exact got.elim
  refine codeAny_of_tree (show wpAny _ _ (callAny (.ref C) _) _ _ _ from ?_)
  repeat (any_goals (first | assumption | with_reducible refine wpAny_loadPart_at cl ?_ | wp_step))
  refine ⟨rfl, codeAny_call_builtin_at (Code.quiet_builtin _ (by decide +kernel)) entry_typeCall (wpAny_check_type_call_sub cl (typ (codeAny_mono k ?_)))⟩
  intro r s' got
  match r, got with
  | .error e, got => exact got
  | .ok (.ret v), got => exact got
  | .ok .next, got => exact got
  | .ok .brk, got => exact got
  | .ok .cont, got => exact got
end
end HC
namespace HC
open PyProof.Rows PySem L2 PySem.Spec
/-- C.__init__ is ValueError's, C an own class -/
structure InitV (K : PySem.W.Frag) (mg : Str → Option Value) (b : Str) : Prop where
  ex : ∃ B, mg b = some (.ref B) ∧ PySem.W.typeIn K (.ref B) = some (.type "type") ∧ ClX.CRead K B (.type "type") ∧ PySem.W.findCls K (.ref B) (.type "type") "__init__" = some (.val (.builtin "ValueError.__init__"))
section
variable {X : Cx} {e : Expr} {es : List Expr} {ta : TA} {b x fld : Str} {p p1 p2 pos kpos : Pos}
/-- b.__init__(e, ..), b such a class -/
theorem pe_binit {pl : Sem Bool} (V : InitV X.K X.mg b) (ha : PA X (e :: es) ta) (hg : Gl X b := by rfl) (nodeb : (b == ("__debug__" : Str)) = false := by decide)
    (form : eval (.Call (.Attribute (.Name b p1) "__init__" p2) (e :: es) [] pos) X.env = (do
      let ov ← eval (.Name b p1) X.env
      standAt p2.atName
      let (fn, more) ← holding [ov] (getMethod ov "__init__" pl)
      callWith pos fn more (backTo pos (starEach (e :: es) X.env)) (backToKw pos (keywordEach [] X.env))) := by rfl)
    (one : starEach (e :: es) X.env = (false, eval e X.env) :: starEach es X.env := by rfl) (plain : (backTo pos (starEach es X.env)).any (·.1) = false := by rfl) :
    PE X (.Call (.Attribute (.Name b p1) "__init__" p2) (e :: es) [] pos) (tVeI X.K ta) := by
  obtain ⟨B, at_, ty, rd, fi⟩ := V.ex
  constructor
  intro pn s σ H Q inv h
  refine PySem.W.methodCall_KW (ld_glob inv hg at_ ?_ nodeb) form
  have fr := inv.fr.choose_spec
  refine PySem.W.method_of_cls fr inv.ok.mod.kin rd.ga (PySem.W.cls_val fr inv.ok.mod.kin ty rd.rd fi (by decide +kernel) ?_)
  show wpAny _ _ (callWith pos (Value.builtin "ValueError.__init__") [] (backTo pos (starEach (e :: es) X.env)) []) _ _ _; refine PyProof.Rows.callWith_method1 (thn (ha.run pos pn _ σ H _ (inv.tok _) h) ?_) one plain
  rintro us s1 ⟨vs, H1, inv1, rel, a, C, ws, rfl, few, T, at1, q⟩
  cases rel with
  | @cons _ u0 _ more ra rm =>
    cases ra
    have len : more.length ≤ sizeLine := by
      have := Paired.length rm
      rw [sizeLine_eq]
      omega
    exact oinit_ok T inv1 at1 len fun s' inv2 => ⟨.non, H1, inv2, rfl, q⟩
/-- what the __init__ of an exception with the one field fld keeps -/
def sp_init1 (K : PySem.W.Frag) (C : Addr) (fld : Str) : Sp := fun vs H Q _ => ∃ a v, vs = [.ref a, v] ∧ H a = some (exo a C none) ∧ ∀ dx, H dx = none → dx ≠ a → Q .non (upd (upd H dx (exd dx [(fld, v)])) a (exo a C (some dx)))
end
/-- the exception class x at C: made by C(fld=..), which lays the field and nothing else -/
structure ExcR (P : Program) (w : World) (K : PySem.W.Frag) (mg : Str → Option Value) (base : Heap) (x : Str) (C : Addr) (k : Nat) (fld : Str) : Prop where
  at_ : mg x = some (.ref C)
  oex : OexC K C
  ex : ∃ fI fd, PySem.W.findIn K (.ref C) "__init__" = some (some (.ref fI)) ∧ PySem.W.typeIn K (.ref fI) = some (.type "function") ∧ FnOk P w K mg base (CXW P w) k fI fd ["self", fld] (sp_init1 K C fld) ∧
    KBn K fd ["self", fld] 1 [fld] (fun us ws => us ++ ws) (fun vs zs => vs ++ zs)
section
variable {P : Program} {w : World} {K : PySem.W.Frag} {mg : Str → Option Value} {base : Heap} {f C : Addr} {fd : FuncData} {qual b fld msg : Str} {params : Arguments} {scope : Scope} {j : Nat} {p1 p2 p3 p4 p5 p6 p7 p8 p9 p10 : Pos}
/-- def __init__(self, *, fld): b.__init__(self, msg); self.fld = fld -/
theorem init1_ok (T : OexC K C) (no : PySem.W.findIn K (.ref C) fld = some none) (V : InitV K mg b)
    (F : FunD K "__init__" qual params [.Expr (.Call (.Attribute (.Name b p1) "__init__" p2) [.Name "self" p3, .Constant (.str msg) j p4] [] p5) p6, .Assign [.Attribute (.Name "self" p7) fld p8] (.Name fld p9) p10] scope [] [] f fd)
    (S : FnScope ["self", fld] ["self", fld] scope) (gl : scope.names.lookup b = some .globalImplicit) (vs : Vis scope "self") (vf : Vis scope fld) (nb : (b == ("__debug__" : Str)) = false) (nf : (fld == ("__debug__" : Str)) = false) (nf2 : (fld == ("__classdict__" : Str)) = false)
    (pl : Env → Sem Bool) (form : ∀ env : Env, eval (.Call (.Attribute (.Name b p1) "__init__" p2) [.Name "self" p3, .Constant (.str msg) j p4] [] p5) env = (do
      let ov ← eval (.Name b p1) env
      standAt p2.atName
      let (fn, more) ← holding [ov] (getMethod ov "__init__" (pl env))
      callWith p5 fn more (backTo p5 (starEach [.Name "self" p3, .Constant (.str msg) j p4] env)) (backToKw p5 (keywordEach [] env)))) :
    FnOk P w K mg base (CXW P w) 2 f fd ["self", fld] (sp_init1 K C fld) := by
  refine F.ok S ?_ (fun cdv A outer s H vs Q E hr h => ?_)
  · rintro vs H Q E ⟨a, v, rfl, _⟩; rfl
  · obtain ⟨a, v, rfl, at_, k⟩ := h
    refine ⟨_, pss_cons (ps_expr (pe_binit V (pa_cons (pe_var (i := 0) rfl vs (by decide) (by decide)) (pa_cons pe_str pa_nil)) gl nb (form _))) (pss_one (ps_ost (pe_var (i := 0) rfl vs (by decide) (by decide)) (pe_var (i := 1) rfl vf nf nf2))), ?_⟩
    refine ⟨_, rfl, a, C, [.str msg], rfl, ?_, T, at_, ?_⟩
    · show 1 ≤ 1000
      decide
    · refine ⟨_, rfl, _, rfl, a, C, rfl, T, no, .inl ⟨at_, fun dx n ne => ?_⟩⟩
      exact k dx n ne
end
section
variable {X : Cx} {x fld : Str} {C : Addr} {k : Nat} {ke : Expr} {tk : TA} {p pos kpos : Pos}
/-- C(fld=e), an exception -/
def tMkX (C : Addr) (fld : Str) (tk : TA) : L2.St → Hp → XK → Prop := fun σ H Q => tk σ H fun zs H1 => ∃ v, zs = [v] ∧ ∀ d, H1 d = none → Q (.ref C) (some d) (upd H1 d (.xd [(fld, v)]))
theorem pmk_kx (R : ExcR X.prog X.w X.K X.mg X.base x C k fld) (room : Room (k + 1) X.A) (key : PK X [⟨some fld, ke, kpos⟩] tk) (glob : Gl X x := by rfl) (nodeb : (x == ("__debug__" : Str)) = false := by decide)
    (all : (backToKw pos (keywordEach [⟨some fld, ke, kpos⟩] X.env)).all (·.1.isSome) = true := by rfl) (names : (backToKw pos (keywordEach [⟨some fld, ke, kpos⟩] X.env)).filterMap (·.1) = [fld] := by rfl)
    (plain : ((backTo pos (starEach [] X.env)).any (·.1) || (backToKw pos (keywordEach [⟨some fld, ke, kpos⟩] X.env)).any (·.1.isNone)) = false := by rfl) :
    PMk X (.Call (.Name x p) [] [⟨some fld, ke, kpos⟩] pos) (tMkX C fld tk) := by
  obtain ⟨fI, fd, i1, i2, F1, B1⟩ := R.ex
  intro pn s σ H Q inv h
  obtain ⟨nm, q, N, bs, bm, sn, sub, ab, col, dd, k0, k1, k2, k3, k5, cls, tail⟩ := R.oex.cls
  refine wpAny_Call_Name_kw (ld_glob inv glob R.at_ ?_ nodeb)
  refine PySem.W.callWith_KW0 (h₀ := X.base) inv.ok.mod.kin R.oex.kC all ?_ plain
  refine thn (key.run pos pn s σ H _ inv h) ?_
  rintro ws s1 ⟨zs, H1, inv1, rel, v, rfl, q1⟩
  refine ⟨inv1.kIn, ?_⟩
  rw [names]
  obtain ⟨u, rfl, ru⟩ : ∃ u, ws = [u] ∧ L2.RelV v u := by
    cases rel with
    | cons a b => cases b; exact ⟨_, rfl, a⟩
  show wpAny _ _ (call (.ref C) [] [(fld, u)]) _ _ _
  obtain ⟨hp, g, dr, tk1, os⟩ := s1
  have up : hp.objs.size ≤ hp.objs.size + 1 := Nat.le_succ _
  have new : H1 (hp.objs.size + 1) = none := inv1.hok.fresh up
  have kk : ∀ b o, hp.get? b = some o → ((hp.push (PySem.W.kdv_tup [])).push (PySem.HandSPX.excO C hp.objs.size)).get? b = some o := fun b o e => Heap.get?_push_of_some _ (Heap.get?_push_of_some _ e)
  have own : ((hp.push (PySem.W.kdv_tup [])).push (PySem.HandSPX.excO C hp.objs.size)).get? (hp.objs.size + 1) = some (PySem.HandSPX.excO C hp.objs.size) := by heap_get
  have inv2 : L2.Inv X pn σ (upd H1 (hp.objs.size + 1) (exo (hp.objs.size + 1) C none)) ⟨(hp.push (PySem.W.kdv_tup [])).push (PySem.HandSPX.excO C hp.objs.size), g, dr, tk1, os⟩ :=
    inv1.laid (t' := tk1) (a := hp.objs.size + 1) (o := exo (hp.objs.size + 1) C none) (h' := (hp.push (PySem.W.kdv_tup [])).push (PySem.HandSPX.excO C hp.objs.size)) kk up (exo_ok own)
  have r2 : Vals [V.ref (hp.objs.size + 1), v] [Value.ref (hp.objs.size + 1), u] := .cons rfl (.cons ru .nil)
  have hq : sp_init1 X.K C fld [V.ref (hp.objs.size + 1), v] (upd H1 (hp.objs.size + 1) (exo (hp.objs.size + 1) C none))
      (fun y H2 => y = .non ∧ ∃ (d : Addr) (fs : List (Str × V)), H2 (hp.objs.size + 1) = some (exo (hp.objs.size + 1) C (some d)) ∧ H2 d = some (exd d fs) ∧ H1 d = none ∧ Q (.ref C) (some d) (upd (del H2 (hp.objs.size + 1)) d (.xd fs))) E0 := by
    refine ⟨_, _, rfl, upd_same, fun dx n ne => ⟨rfl, dx, [(fld, v)], upd_same, ?_, ?_, ?_⟩⟩
    · rw [upd_ne ne]; exact upd_same
    · rw [upd_ne ne] at n; exact n
    · have n1 : H1 dx = none := by rw [upd_ne ne] at n; exact n
      have e : upd (del (upd (upd (upd H1 (hp.objs.size + 1) (exo (hp.objs.size + 1) C none)) dx (exd dx [(fld, v)])) (hp.objs.size + 1) (exo (hp.objs.size + 1) C (some dx))) (hp.objs.size + 1)) dx (.xd [(fld, v)]) = upd H1 dx (.xd [(fld, v)]) := by
        funext c
        by_cases c1 : c = dx
        · rw [c1, upd_same, upd_same]
        · rw [upd_ne c1, upd_ne c1]
          by_cases c2 : c = hp.objs.size + 1
          · rw [c2, del_same, new]
          · rw [del_ne c2, upd_ne c2, upd_ne c1, upd_ne c2]
      rw [e]
      exact q1 dx n1
  refine wpAny_call (call_bare (veAt (inv1.kIn _ _ cls) tail) (PySem.W.looks_findIn inv1.kIn i1) (fun self => PySem.W.bind_fn inv1.kIn self i2)
    (codeAny_mono (F1.run _ X.stack _ _ ⟨[Value.ref (hp.objs.size + 1)], [(fld, u)]⟩ [Value.ref (hp.objs.size + 1), u] _ _ E0 (room.make C [] [(fld, u)]) (inv2.env0.make C [] [(fld, u)]) (B1.to _ [Value.ref (hp.objs.size + 1)] [u] inv2.kIn rfl rfl) r2 hq) ?_))
  rintro (er | fl) s' got
  · exact passN pn σ _ _ er s' inv2 got
  · cases fl with
    | ret y =>
      obtain ⟨v2, H2, os2, bare2, un2, hok2, rv, rfl, d, fs, e1, e2, e3, q2⟩ := got
      obtain ⟨hp2, g2, d2, t2, os2'⟩ := s'
      exact ⟨rv, mk_end (raises_own R.oex.exC R.oex.tyC) inv1 up kk un2 hok2 os2 bare2 e1 e2 e3 q2⟩
    | _ => exact got.elim
end
end HC
/-! lambdas as values: without a parameter, or with one that has a default; a def that calls what it is given -/
namespace HC
open PyProof.Rows PySem L2 PySem.Spec LamX
/-- a lambda's text -/
structure LF where
  params : Arguments
  body : Expr
  scope : Scope
def LamO (f : Addr) (q : Str) (l : LF) (cl : List (Str × Addr)) (dV : Value) (c : Addr) : HO := .ext fun h => ∃ doc pm ctv : Value, h.get? f = some (PySem.W.kdv_obj "<lambda>" q l.params (.expr l.body) l.scope cl dV doc pm c ctv)
theorem lamO_ne {f c : Addr} {q : Str} {l : LF} {cl : List (Str × Addr)} {dV : Value} (ps : Array Value) : LamO f q l cl dV c ≠ .tbl ps := fun z => by
  unfold LamO at z
  cases z
/-- the value f is the lambda l of the frame env, its default d -/
def IsLam (env : Env) (H : Hp) (f : Addr) (l : LF) (d : Option V) : Prop := ∃ (c : Addr) (dV : Value), H f = some (LamO f (env.qual ++ "<lambda>") l (cloFrom env.cells l.scope.names []) dV c) ∧ H c = some (CodeO c (env.qual ++ "<lambda>")) ∧
  (d = none ∧ dV = .none ∨ ∃ v T0, d = some v ∧ dV = .ref T0 ∧ H T0 = some (.tup [v]))
theorem IsLam.ext {env : Env} {H H' : Hp} {f : Addr} {l : LF} {d : Option V} (x : IsLam env H f l d) (e : ExtN H H') : IsLam env H' f l d := by
  obtain ⟨c, dV, h1, h2, h3⟩ := x
  refine ⟨c, dV, e _ _ h1 lamO_ne, e _ _ h2 codeO_ne, h3.imp id fun ⟨v, T0, a, b, z⟩ => ⟨v, T0, a, b, e _ _ z nofun⟩⟩
section
variable {X : Cx} {σ : L2.St} {H : Hp} {s : Shared} {pins : List (Addr × Obj)}
theorem nofr_new (inv : L2.Inv X pins σ H s) {h' : Heap} (hsz : s.heap.objs.size ≤ h'.objs.size) : H h'.objs.size = none := inv.hok.fresh hsz
/-- the object of the lambda is laid and known -/
theorem lam_lay {q : Str} {l : LF} {cl : List (Str × Addr)} {dV doc pm ctv : Value} {c : Addr} {t' : Nat} (inv : L2.Inv X pins σ H s) :
    L2.Inv X pins σ (upd H s.heap.objs.size (LamO s.heap.objs.size q l cl dV c)) { s with heap := s.heap.push (PySem.W.kdv_obj "<lambda>" q l.params (.expr l.body) l.scope cl dV doc pm c ctv), toks := t' } := by
  refine inv.laid (a := s.heap.objs.size) (fun b u e => Heap.get?_push_of_some _ e) (Nat.le_refl _) ?_
  have at_ : (s.heap.push (PySem.W.kdv_obj "<lambda>" q l.params (.expr l.body) l.scope cl dV doc pm c ctv)).get? s.heap.objs.size = some (PySem.W.kdv_obj "<lambda>" q l.params (.expr l.body) l.scope cl dV doc pm c ctv) := Heap.get?_push_size _ rfl
  exact ⟨⟨doc, pm, ctv, at_⟩, ⟨_, at_⟩, fun h1 h2 ⟨a, b, d, z⟩ st => ⟨a, b, d, st _ z⟩⟩
theorem extN_new {H : Hp} {f : Addr} {o : HO} (h : H f = none) : ExtN H (upd H f o) := ExtN.of fun b u e => by rw [upd_ne (ne_of_none e h)]; exact e
theorem tabs_new {T : List (Addr × Str)} {H : Hp} {f : Addr} {o : HO} (h : H f = none) (t : Tabs T H) : Tabs T (upd H f o) := t.ext fun b u e => by rw [upd_ne (ne_of_none e h)]; exact e
theorem lam_tail {T : List (Addr × Str)} {c P : Addr} {l : LF} {dV : Value} {pos : Pos} {E : Value → Shared → Prop} {Q : Value → Shared → Prop} (inv : L2.Inv X pins σ H s) (TB : TabB X.base X.mg c P) (code : X.env.code = .ref c)
    (mem : (P, X.env.qual ++ "<lambda>") ∈ T) (one : ∀ p ∈ T, p.1 = P → p.2 = X.env.qual ++ "<lambda>") (tabs : Tabs T H) (free : ∀ y ∈ l.scope.names, y.2 = .free → ∃ c, X.env.cells.lookup y.1 = some c)
    (h : ∀ (f c' : Addr) (H1 : Hp) (s' : Shared), L2.Inv X pins σ H1 s' → H f = none → ExtN H H1 → Tabs T H1 → H1 f = some (LamO f (X.env.qual ++ "<lambda>") l (cloFrom X.env.cells l.scope.names []) dV c') → H1 c' = some (CodeO c' (X.env.qual ++ "<lambda>")) → Q (.ref f) s') :
    wpAny (model X.prog X.w) X.A (makeTail "<lambda>" (X.env.qual ++ "<lambda>") l.params (.expr l.body) l.scope X.env dV .none none pos pos.line) Q E s := by
  obtain ⟨ps, atP, trip, among⟩ := tabs _ mem
  have bP : s.heap.BuiltinsAt X.mg P := TB.bm.keeps inv.bk
  have realP : s.heap.get? P = some { cls := .none, data := .fields ps } := inv.hok P _ atP
  cases found : codeAmong pos ps.toList with
  | none =>
    refine PySem.W.kdv_makeTail (mg := X.mg) (c := c) (P := P) (ps := ps) (closure_ok free) inv.ok.glob (inv.mod.glob.keeps inv.bk) code (TB.code.keeps inv.bk) realP trip found TB.gP bP fun c' ctv doc h' tk but ge lt rec_ tab => ?_
    obtain ⟨c2, oc, vs, t, e2, oc2, dat, val⟩ := rec_
    cases e2
    have size : s.heap.objs.size ≤ h'.objs.size := Nat.le_trans ge (Nat.le_of_lt lt)
    have newC : H c' = none := inv.hok.fresh ge
    have inv1 := inv_table (t' := tk) (more := #[rawInt pos.line, rawInt pos.col, .ref c']) (h' := h') inv atP (fun b o nb e => but b o nb e) tab ge ⟨oc, vs, t, oc2, dat, val⟩
    have ext1 : ExtN H (upd (upd H P (.tbl (ps ++ #[rawInt pos.line, rawInt pos.col, .ref c']))) c' (CodeO c' (X.env.qual ++ "<lambda>"))) := fun b o e n => by
      rw [upd_ne (ne_of_none e newC), upd_ne (fun z => n ps (Option.some.inj (e.symm.trans (by rw [z]; exact atP))))]
      exact e
    have asL : (ps ++ #[rawInt pos.line, rawInt pos.col, .ref c']).toList = ps.toList ++ [rawInt pos.line, rawInt pos.col, .ref c'] := by simp
    have tabs1 : Tabs T (upd (upd H P (.tbl (ps ++ #[rawInt pos.line, rawInt pos.col, .ref c']))) c' (CodeO c' (X.env.qual ++ "<lambda>"))) := fun p hp => by
      by_cases hb : p.1 = P
      · rw [one p hp hb, hb]
        refine ⟨_, by rw [upd_ne (ne_of_none atP newC), upd_same], by rw [asL]; exact PySem.TriplesOk_snoc _ _ _ _ trip, fun p' cv at_ => ?_⟩
        rw [asL] at at_
        rcases among_app _ trip at_ with z | z
        · obtain ⟨c0, e1, e2⟩ := among p' cv z
          exact ⟨c0, e1, ext1 _ _ e2 codeO_ne⟩
        · exact ⟨c', z, upd_same⟩
      · obtain ⟨ps', a1, a2, a3⟩ := tabs p hp
        refine ⟨ps', by rw [upd_ne (ne_of_none a1 newC), upd_ne hb]; exact a1, a2, fun p' cv at_ => ?_⟩
        obtain ⟨c0, e1, e2⟩ := a3 p' cv at_
        exact ⟨c0, e1, ext1 _ _ e2 codeO_ne⟩
    have newF : (upd (upd H P (.tbl (ps ++ #[rawInt pos.line, rawInt pos.col, .ref c']))) c' (CodeO c' (X.env.qual ++ "<lambda>"))) h'.objs.size = none := inv1.hok.fresh (Nat.le_refl _)
    have inv2 := lam_lay (q := X.env.qual ++ "<lambda>") (l := l) (cl := cloFrom X.env.cells l.scope.names []) (dV := dV) (doc := doc) (pm := (X.mg "__name__").getD .none) (ctv := ctv) (c := c') (t' := tk) inv1
    refine h h'.objs.size c' _ _ inv2 (inv.hok.fresh size) (ext1.trans (extN_new newF)) (tabs_new newF tabs1) upd_same ?_
    rw [upd_ne (Nat.ne_of_lt lt)]
    exact upd_same
  | some cv =>
    obtain ⟨c', e, at_⟩ := among pos cv found
    subst e
    refine PySem.W.kdv_makeTailHit (mg := X.mg) (c := c) (P := P) (ps := ps) (closure_ok free) inv.ok.glob (inv.mod.glob.keeps inv.bk) code (TB.code.keeps inv.bk) realP trip found bP fun ctv doc h' tk keep size => ?_
    have inv1 : L2.Inv X pins σ H { s with heap := h', toks := tk } := inv.kept keep
    have newF : H h'.objs.size = none := inv1.hok.fresh (Nat.le_refl _)
    have inv2 := lam_lay (q := X.env.qual ++ "<lambda>") (l := l) (cl := cloFrom X.env.cells l.scope.names []) (dV := dV) (doc := doc) (pm := (X.mg "__name__").getD .none) (ctv := ctv) (c := c') (t' := tk) inv1
    refine h h'.objs.size c' _ _ inv2 newF (extN_new newF) (tabs_new newF tabs) upd_same ?_
    rw [upd_ne (ne_of_none at_ newF)]
    exact at_
end
/-! ### the lambda's names -/
/-- no name of its own but a parameter that the maker has not: captured ones and globals -/
structure LamN (N : List Str) (sc scope : Scope) : Prop where
  kind : scope.kind = .function
  noco : scope.isCoroutine = false
  nogen : scope.isGenerator = false
  own : ∀ y ∈ scope.names, y.2 ≠ .cell ∧ (y.2 = .local → y.1 ∉ N)
  caught : ∀ y ∈ scope.names, y.2 = .free → sc.names.lookup y.1 = some .cell ∨ sc.names.lookup y.1 = some .free
def lamNB (N : List Str) (sc scope : Scope) : Bool :=
  decide (scope.kind = .function) && !scope.isCoroutine && !scope.isGenerator && scope.names.all fun y => !decide (y.2 = .cell) && (!decide (y.2 = .local) || !N.contains y.1) && (!decide (y.2 = .free) || decide (sc.names.lookup y.1 = some .cell) || decide (sc.names.lookup y.1 = some .free))
theorem lamN_by {N : List Str} {sc scope : Scope} (h : lamNB N sc scope = true) : LamN N sc scope := by
  unfold lamNB at h
  simp only [Bool.and_eq_true, Bool.or_eq_true, Bool.not_eq_true', List.all_eq_true, decide_eq_true_eq, decide_eq_false_iff_not] at h
  rcases h with ⟨⟨⟨h1, h2⟩, h3⟩, h4⟩
  refine ⟨h1, h2, h3, fun y hy => ⟨(h4 y hy).1.1, fun e m => ?_⟩, fun y hy e => ?_⟩
  · rcases (h4 y hy).1.2 with z | z
    · exact z e
    · rw [List.contains_iff_mem.mpr m] at z
      cases z
  · rcases (h4 y hy).2 with (z | z) | z
    · exact absurd e z
    · exact .inl z
    · exact .inr z
theorem LamN.has {X : Cx} {scope : Scope} (L : LamN X.N X.env.scope scope) (ok : X.Ok) : ∀ y ∈ scope.names, y.2 = .free → ∃ c, X.env.cells.lookup y.1 = some c := fun y hy e => (L.caught y hy e).elim (fun k => ok.has _ (.inl k)) fun k => ok.has _ (.inr k)
/-- a lambda -/
def tLamV (T : List (Addr × Str)) (env : Env) (l : LF) (d : Option V) : TE := fun σ H Q => Tabs T H ∧ ∀ f H1, H f = none → ExtN H H1 → Tabs T H1 → IsLam env H1 f l d → Q (.ref f) H1
section
variable {X : Cx} {T : List (Addr × Str)} {c P : Addr} {params : Arguments} {body : Expr} {scope : Scope} {pos : Pos}
/-- lambda: e -/
theorem pe_lam0 (TB : TabB X.base X.mg c P) (code : X.env.code = .ref c) (mem : (P, X.env.qual ++ "<lambda>") ∈ T) (one : ∀ p ∈ T, p.1 = P → p.2 = X.env.qual ++ "<lambda>") (L : LamN X.N X.env.scope scope) (nod : defaultsOf params X.env = ([], []) := by rfl) :
    PE X (.Lambda params body scope pos) (tLamV T X.env ⟨params, body, scope⟩ none) := by
  constructor
  rintro pn s σ H Q inv ⟨tabs, k⟩
  refine PySem.W.kla_eval nod ?_
  rw [makeFunction_eq]; simp only [List.zip_nil_right, List.filterMap_nil, List.isEmpty_nil, if_true, pure_bind]
  refine lam_tail (l := ⟨params, body, scope⟩) inv TB code mem one tabs (L.has inv.ok) fun f c' H1 s' inv1 new ext tabs1 at1 at2 => ?_
  exact ⟨.ref f, H1, inv1, rfl, k f H1 new ext tabs1 ⟨c', .none, at1, at2, .inl ⟨rfl, rfl⟩⟩⟩
/-- lambda y=i: e, i a number -/
theorem pe_lam1 {i : Int} {j : Nat} {ip : Pos} (TB : TabB X.base X.mg c P) (code : X.env.code = .ref c) (mem : (P, X.env.qual ++ "<lambda>") ∈ T) (one : ∀ p ∈ T, p.1 = P → p.2 = X.env.qual ++ "<lambda>") (L : LamN X.N X.env.scope scope)
    (dfl : params.defaults = [.Constant (.int i) j ip] := by rfl) (nok : params.kw_defaults = [] := by rfl) : PE X (.Lambda params body scope pos) (tLamV T X.env ⟨params, body, scope⟩ (some (.int i))) := by
  constructor
  rintro pn s σ H Q inv ⟨tabs, k⟩
  refine PySem.W.kdv_lam (by rw [dfl]; rfl) nok ?_
  rw [dfl]
  have ci : PE X (.Constant (.int i) j ip) (tC (.int i)) := pe_int
  refine PySem.W.kdv_all1 (thn (ci.run pn s σ H (fun v H1 => v = .int i ∧ H1 = H) inv ⟨rfl, rfl⟩) ?_)
  rintro u s1 ⟨v, H1, inv1, rel, rfl, rfl⟩
  refine PySem.W.kdv_all0 ?_
  rw [makeFunction_eq]
  simp only [List.zip_nil_right, List.filterMap_nil, List.isEmpty_nil, if_true, pure_bind, List.isEmpty_cons, Bool.false_eq_true, if_false]
  refine wpAny_bind (wpAny_newTextTuple (show _ from ?_))
  have newT : H1 s1.heap.objs.size = none := inv1.hok.fresh (Nat.le_refl _)
  have laid : L2.Inv X pn σ (upd H1 s1.heap.objs.size (.tup [.int i])) { s1 with heap := s1.heap.push { cls := .type "tuple", data := .seq [u].toArray } } := by
    refine inv1.laid (t' := s1.toks) (a := s1.heap.objs.size) (fun b o e => Heap.get?_push_of_some _ e) (Nat.le_refl _) ⟨?_, [u], .cons rel .nil, ?_⟩
    · show 1 ≤ sizeLine
      rw [sizeLine_eq]; omega
    · exact ⟨_, Heap.get?_push_size _ rfl, rfl, _, rfl⟩
  refine lam_tail (l := ⟨params, body, scope⟩) laid TB code mem one (tabs_new newT tabs) (L.has inv.ok) fun f c' H2 s' inv2 new ext tabs1 at1 at2 => ?_
  have newF : H1 f = none := by
    cases z : H1 f with
    | none => rfl
    | some o => rw [upd_ne (ne_of_none z newT), z] at new; cases new
  exact ⟨.ref f, H2, inv2, rfl, k f H2 newF ((extN_new newT).trans ext) tabs1 ⟨c', _, at1, at2, .inr ⟨_, _, rfl, rfl, ext _ _ upd_same nofun⟩⟩⟩
end

/-! ### the lambda, called -/
/-- how the lambda's parameter is bound, nothing being given -/
def LamB (l : LF) : Option V → Prop
  | none => ∀ (q : Str) (cl : List (Str × Addr)) (doc pm cv ctv : Value), bindArgs (PySem.W.kdv_fn "<lambda>" q l.params (.expr l.body) l.scope cl .none doc pm cv ctv) ⟨[], []⟩ = pure []
  | some _ => ∃ y : Str, l.scope.names.lookup y = some .local ∧ ∀ (q : Str) (cl : List (Str × Addr)) (T0 : Addr) (doc pm cv ctv u : Value), ∃ k, bindArgs (PySem.W.kdv_fn "<lambda>" q l.params (.expr l.body) l.scope cl (.ref T0) doc pm cv ctv) ⟨[], []⟩ = seqItems? (.ref T0) >>= k ∧ k (some #[u]) = pure [(y, u)]
/-- the lambda's body reads as t, in the maker's slots -/
structure BodyR (X : Cx) (k : Nat) (l : LF) (d : Option V) (t : XK → TE) : Prop where
  nm : LamN X.N X.env.scope l.scope
  bd : LamB l d
  rd : ∀ (A : Around) (outer : List Env) (s : Shared) (H : Hp) (E : XK) (f c' : Addr), Room k (A.deeper (lamEnv X l.scope s.heap.objs.size f c')) → PE (lamCx X A outer s H E l.scope f c') l.body (t E)
/-- the maker's cells stand from s to s1 -/
structure KeptC (X : Cx) (s : Shared) (HZ : Hp) (s1 : Shared) : Prop where
  cell : ∀ y c v, X.env.cells.lookup y = some c → s.heap.IsCell c v → s1.heap.IsCell c v
  free : ∀ y c, X.env.cells.lookup y = some c → HZ c = none
section
variable {X : Cx} {σ : L2.St} {H HZ : Hp} {s s1 : Shared} {pins : List (Addr × Obj)}
theorem KeptC.refl (inv : L2.Inv X pins σ H s) : KeptC X s H s := ⟨fun _ _ _ _ z => z, fun y c e => inv.freeC y c e⟩
/-- .. and over a call, or a block whose iterator is none of them -/
theorem KeptC.un {H1 : Hp} {s2 : Shared} {fs fp : List Addr} (k : KeptC X s H1 s1) (inv : L2.Inv X pins σ H s) (un : Un fs fp H1 HZ s1.heap s2.heap) (off : ∀ b ∈ fp, ∀ y c, X.env.cells.lookup y = some c → b ≠ c) : KeptC X s HZ s2 := by
  have out : ∀ y c, X.env.cells.lookup y = some c → c ∉ fp := fun y c e m => off c m y c e rfl
  refine ⟨fun y c v e z => ?_, fun y c e => ?_⟩
  · obtain ⟨o, ho, hd⟩ := k.cell y c v e z
    obtain ⟨sl, q⟩ := un.any ho (k.free y c e) (out y c e)
    exact ⟨_, q, hd⟩
  · obtain ⟨v, z⟩ := inv.cell y c e
    obtain ⟨o, ho, hd⟩ := k.cell y c v e z
    exact un.free c o ho (k.free y c e) (out y c e)
/-- what the lambda caught is the maker's -/
theorem clo_back {scope : Scope} {y : Str} {c : Addr} (inv : L2.Inv X pins σ H s) (L : LamN X.N X.env.scope scope) (e : (cloFrom X.env.cells scope.names []).lookup y = some c) : X.env.cells.lookup y = some c := by
  cases cloFrom_mem (PySem.mem_of_lookup e) with
  | inl no => cases no
  | inr both =>
    obtain ⟨c1, z⟩ := L.has inv.ok _ both.1 rfl
    have z : X.env.cells.lookup y = some c1 := z
    rw [z, show c = c1 by rw [both.2, z] <;> rfl]
theorem clo_has {cells : List (Str × Addr)} {scope : Scope} {y : Str} (e : scope.names.lookup y = some .free) : ∃ c, (cloFrom cells scope.names []).lookup y = some c := mem_lookup (cloFrom_has (PySem.mem_of_lookup e))
theorem lam_okX {A : Around} {outer : List Env} {E : XK} {scope : Scope} {f c' : Addr} (inv : L2.Inv X pins σ H s) (L : LamN X.N X.env.scope scope) (e0 : Env0 X.prog X.w X.K X.mg X.base A outer s1 HZ) (calm : A.handled = none) : (lamCx X A outer s1 HZ E scope f c').Ok where
  mod := e0.mod
  kind := L.kind
  glob := rfl
  blt := rfl
  above := Nat.le_refl _
  inj y z c e1 e2 := inv.ok.inj y z c (clo_back inv L e1) (clo_back inv L e2)
  has y k := k.elim (fun z => absurd rfl (L.own _ (PySem.mem_of_lookup z)).1) fun z => clo_has z
  cab _ _ z _ := nomatch (show false = true from z)
  hd _ := calm
  frames := Around.frames_deeper e0.frames
  stk := .inr ⟨rfl, rfl⟩
  exf _ z := nomatch z
  bs := e0.bs
  bsz := e0.bsz
  noex _ _ _ z := nomatch z
  exfs _ z := nomatch z
  funs := e0.funs
  frf := e0.frf
theorem lam_start3 {A : Around} {outer : List Env} {E : XK} {scope : Scope} {f c' : Addr} {h₁ : Heap} {tk : Nat} {m : Str → Option Value} (inv : L2.Inv X pins σ H s) (L : LamN X.N X.env.scope scope) (e0 : Env0 X.prog X.w X.K X.mg X.base A outer s1 HZ) (calm : A.handled = none)
    (kc : KeptC X s HZ s1) (ns : h₁.Ns s1.heap.objs.size m) (kp : ∀ b o, s1.heap.get? b = some o → h₁.get? b = some o) :
    L2.Inv (lamCx X A outer s1 HZ E scope f c') [] σ HZ { s1 with heap := h₁, toks := tk } where
  ok := lam_okX inv L e0 calm
  os := rfl
  bare := e0.bare
  base := Un.kept kp
  loc := by
    refine ⟨m, ns, fun i y v at_ val vis => ?_⟩
    have at_ : X.N[i]? = some y := at_
    rcases (show Vis scope y from vis) with k | k | k
    · exact absurd (List.mem_of_getElem? at_) ((L.own _ (PySem.mem_of_lookup k)).2 rfl)
    · exact absurd rfl (LamN.own L _ (PySem.mem_of_lookup k)).1
    · have mine := L.caught _ (PySem.mem_of_lookup k) rfl
      obtain ⟨_, _, all⟩ := inv.loc
      obtain ⟨u, ru, way⟩ := all i y v at_ val (.inr mine)
      obtain ⟨c2, e2⟩ := clo_has (cells := X.env.cells) k
      have e1 := clo_back inv L e2
      refine ⟨u, ru, .inr ⟨.inr k, c2, e2, ?_⟩⟩
      rcases way with ⟨own, _⟩ | ⟨_, c3, e3, cell⟩
      · rcases mine with z | z <;> exact nomatch z.symm.trans own
      · obtain rfl : c2 = c3 := Option.some.inj (e1.symm.trans e3)
        obtain ⟨o, ho, dat⟩ := kc.cell y c2 _ e1 cell
        exact ⟨o, kp _ _ ho, dat⟩
  cell y c e := by
    obtain ⟨v, z⟩ := inv.cell y c (clo_back inv L e)
    obtain ⟨o, ho, dat⟩ := kc.cell y c v (clo_back inv L e) z
    exact ⟨v, o, kp _ _ ho, dat⟩
  free := e0.hok.fresh (Nat.le_refl _)
  freeC y c e := kc.free y c (clo_back inv L e)
  pin _ z := nomatch z
  hok := e0.hok.kept kp
  len := inv.len
/-- x(), in the def that got the lambda: Z is that def's context, entered at s0 from the frames st -/
theorem pe_act3 {CXg : CXT} {Eg : XK} {Ng : List Str} {qg : Str} {sg : Scope} {g f : Addr} {cdg : Value} {l : LF} {d : Option V} {k i : Nat} {a : Str} {pn : List (Addr × Obj)} {xe : Value → Shared → Prop} {W : WX} {E : XK} {t : XK → TE} {p1 p2 : Pos} {A0 : Around} {st : List Env} {s0 : Shared} {H0 : Hp}
    (inv : L2.Inv X pins σ H s) (kc : KeptC X s H0 s0) (B : BodyR X k l d t)
    (tk : Takes ((cxOf CXg X.prog X.w X.K X.mg X.base Ng qg sg g cdg A0 st s0 H0 Eg).tr pn xe) W) (room : Room (k + 1) (A0.deeper (envOfC qg sg s0.heap.objs.size g cdg)))
    (hN : Ng[i]? = some a) (hv : Vis sg a) (hd : (a == ("__debug__" : Str)) = false := by decide) (hcd : (a == ("__classdict__" : Str)) = false := by decide) : PE ((cxOf CXg X.prog X.w X.K X.mg X.base Ng qg sg g cdg A0 st s0 H0 Eg).tr pn xe) (.Call (.Name a p1) [] [] p2)
      (fun σZ HZ Q => (∀ cls d H', E cls d H' → W cls d σZ H') ∧ σZ[i]? = some (some (.ref f)) ∧ IsLam X.env HZ f l d ∧ t E σ HZ Q) := by
  constructor
  rintro pinsZ sZ σZ HZ Q invZ ⟨hW, slot, ⟨c', dV, atF, atC, dfl⟩, go⟩
  refine wpAny_Call_Name_kw (thn ((pe_var (pos := p1) (i := i) hN hv hd hcd).run pinsZ sZ σZ HZ (fun v H1 => v = .ref f ∧ H1 = HZ) invZ ⟨.ref f, slot, rfl, rfl⟩) ?_)
  rintro u s1 ⟨v, H1, inv1, rel, rfl, rfl⟩
  cases rel
  obtain ⟨⟨doc, pm, ctv, realF⟩, _, _⟩ := inv1.hok f _ atF
  obtain ⟨⟨oc, vs, tk0, hoc, hdc, hvc⟩, _, _⟩ := inv1.hok c' _ atC
  refine PySem.W.callWith_F0 ⟨_, _, _, _, realF⟩ ?_
  have kc1 : KeptC X s H1 s1 := kc.un inv (fs := frs st) (fp := []) inv1.base (fun b hb => absurd hb (by simp))
  have rc : codeAny (model X.prog X.w) (A0.deeper (envOfC qg sg s0.heap.objs.size g cdg)) (.call (.ref f) ⟨[], []⟩) (CR (L2.CX X.prog X.w) (envOfC qg sg s0.heap.objs.size g cdg :: st) X.prog X.w H1 s1 Q E) s1 := by
    refine PySem.W.kla_callFunE room.depth realF rfl B.nm.noco B.nm.nogen rfl ⟨c', oc, vs, tk0, rfl, hoc, hdc, hvc⟩ ?_
    have enter : ∀ (binds : List (Str × Value)), (∀ y ∈ binds, l.scope.names.lookup y.1 = some .local) →
        wpAny (model X.prog X.w) (A0.deeper (envOfC qg sg s0.heap.objs.size g cdg)).in1 (newFunctionEnv l.scope mainGlobals (cloFrom X.env.cells l.scope.names []) binds ((X.env.qual ++ "<lambda>") ++ ".<locals>.") (some f) (.ref c') none builtinsNs)
          (fun env s₂ => s₂.heap.NoLimit ∧ codeAny (model X.prog X.w) (A0.deeper (envOfC qg sg s0.heap.objs.size g cdg)) (.expr l.body env) (CR (L2.CX X.prog X.w) (envOfC qg sg s0.heap.objs.size g cdg :: st) X.prog X.w H1 s1 Q E) s₂)
          (fun e s' => CR (L2.CX X.prog X.w) (envOfC qg sg s0.heap.objs.size g cdg :: st) X.prog X.w H1 s1 Q E (.error e) s') s1 := fun binds loc => by
      refine wpAny_newFunctionEnv (fun y hy => (B.nm.own y hy).1) loc (fun h₁ ns sb => ⟨inv1.nolimit.fresh _ sb, ?_⟩) B.nm.kind
      show codeAny _ _ (.expr l.body (lamEnv X l.scope s1.heap.objs.size f c')) _ _
      have kp : ∀ b o, s1.heap.get? b = some o → h₁.get? b = some o := fun b o e => sb.extBut b o (Nat.ne_of_lt (Heap.lt_size e)) (Heap.get?_push_of_some _ e)
      have J : L2.Inv (lamCx X (A0.deeper (envOfC qg sg s0.heap.objs.size g cdg)) (envOfC qg sg s0.heap.objs.size g cdg :: st) s1 H1 E l.scope f c') [] σ H1 { s1 with heap := h₁, toks := s1.toks + binds.length } :=
        lam_start3 inv B.nm inv1.env0 room.hd kc1 ns kp
      refine PySem.W.kla_codeExpr (wpAny_mono ((B.rd _ _ s1 H1 E f c' (room.deeper _)).run [] _ _ H1 Q J go) ?_ fun e s' hq => hq)
      rintro v s' ⟨w', H', J', rv, q⟩
      exact ⟨w', _, J'.os, J'.bare, J'.base, J'.hok, rv, q⟩
    have bd := B.bd
    rcases dfl with ⟨rfl, rfl⟩ | ⟨v, T0, rfl, rfl, atT⟩
    · rw [bd]
      exact wpAny_pure (enter [] (by simp))
    · obtain ⟨y, loc, binds⟩ := bd
      obtain ⟨cells, vals, ⟨oT, hT, cT, nT, dT⟩, _⟩ := inv1.tuple (SqT.of atT)
      obtain ⟨u, e, ru⟩ : ∃ u, cells = [u] ∧ L2.RelV v u := by
        cases vals with
        | cons a b => cases b; exact ⟨_, rfl, a⟩
      subst e
      obtain ⟨kk, e1, e2⟩ := binds (X.env.qual ++ "<lambda>") (cloFrom X.env.cells l.scope.names []) T0 doc pm (.ref c') ctv u
      rw [e1]
      refine wpAny_bind (wpAny_seqItems hT dT ?_)
      rw [show ([u].toArray) = #[u] from rfl, e2]
      exact wpAny_pure (enter [(y, u)] (fun z hz => by rw [List.mem_singleton.mp hz]; exact loc))
  refine wpAny_call (codeAny_mono rc ?_)
  rintro (er | fl) s' got
  · exact tk er s' (XE.of_call inv1 (fun cls d H' z => hW cls d H' z) got)
  · cases fl with
    | ret u => exact inv1.after got
    | _ => exact got.elim
end
end HC
/-! a def that tells what a lambda does -/
namespace HC
open PyProof.Rows PySem L2 PySem.Spec LamX
/-! ### a def that calls what it is given -/
/-- the def's body, entered from X with the lambda f: TT, what it makes of the lambda's reading; IsL, what is known of f -/
def Gives (X : Cx) (Ng : List Str) (x : Str) (sg : Scope) (g : Addr) (cdg : Value) (bg : List Stmt) (a : Str) (TT : (XK → Hp → VK → Prop) → Hp → VK → Prop) : Prop :=
  ∀ (f : Addr) (s : Shared) (H : Hp) (Q : VK) (IsL : Hp → Prop) (tl : XK → Hp → VK → Prop),
    (∀ (W : WX) (pn : List (Addr × Obj)) (xe : Value → Shared → Prop) (E : XK) (p1 p2 : Pos), Takes ((cxOf C8.CX0 X.prog X.w X.K X.mg X.base Ng x sg g cdg X.A X.stack s H C8.E0).tr pn xe) W →
      PE ((cxOf C8.CX0 X.prog X.w X.K X.mg X.base Ng x sg g cdg X.A X.stack s H C8.E0).tr pn xe) (.Call (.Name a p1) [] [] p2) (fun σZ HZ Q => (∀ cls d H', E cls d H' → W cls d σZ H') ∧ σZ[0]? = some (some (.ref f)) ∧ IsL HZ ∧ tl E HZ Q)) →
    IsL H → TT tl H Q →
    ∃ ts, PSs (cxOf C8.CX0 X.prog X.w X.K X.mg X.base Ng x sg g cdg X.A X.stack s H C8.E0).nox bg ts ∧ ts { nx := fun _ H' => Q .non H', rt := Q } (L2.start Ng [.ref f]) H
def onOne (R : V → Hp → Prop) : List V → Hp → Prop
  | [v], H => R v H
  | _, _ => False
theorem onOne_inv {R : V → Hp → Prop} {vs : List V} {H : Hp} (h : onOne R vs H) : ∃ v, vs = [v] ∧ R v H :=
  match vs, h with
  | [v], h => ⟨v, rfl, h⟩
def tOut (X : Cx) (k : Nat) (TT : (XK → Hp → VK → Prop) → Hp → VK → Prop) (te : TE) (σ0 : L2.St) : TE := fun σ H Q => te σ H fun v H1 => ∃ f l d t, v = V.ref f ∧ BodyR X k l d t ∧ IsLam X.env H1 f l d ∧ TT (fun E H' Q' => t E σ0 H' Q') H1 Q
section
variable {X : Cx} {TT : (XK → Hp → VK → Prop) → Hp → VK → Prop} {x a : Str} {g : Addr} {fd : FuncData} {k : Nat} {pg : Arguments} {bg : List Stmt} {sg : Scope} {Ng : List Str} {e : Expr} {te : TE} {p pos : Pos}
variable {s0 : Shared} {H0 : Hp} {pins0 : List (Addr × Obj)} {σ0 : L2.St} {scope : Scope} {cenv : Env} {fp : List Addr}
/-- x(e) in a block of X -/
theorem pe_out (at_ : X.mg x = some (.ref g)) (F : FunD X.K x x pg bg sg [] [] g fd) (B : L2.Binds X.K fd [a] []) (Sg : FnScope Ng [a] sg) (hNg : Ng[0]? = some a) (hva : Vis sg a) (hG : ∀ cdg, Gives X Ng x sg g cdg bg a TT) (room : Room (k + 2) X.A)
    (inv0 : L2.Inv X pins0 σ0 H0 s0) (off : ∀ b ∈ fp, ∀ y c, X.env.cells.lookup y = some c → b ≠ c) (he : PE (X.blk s0 H0 scope cenv fp) e te)
    (glob : Gl (X.blk s0 H0 scope cenv fp) x := by rfl) (nodeb : (x == ("__debug__" : Str)) = false := by decide) (hd : (a == ("__debug__" : Str)) = false := by decide) (hcd : (a == ("__classdict__" : Str)) = false := by decide) (one : starEach [e] cenv = [(false, eval e cenv)] := by rfl) :
    PE (X.blk s0 H0 scope cenv fp) (.Call (.Name x p) [e] [] pos) (tOut X k TT te σ0) := by
  obtain ⟨oc, od, dV, kV, doc, pm, an, cdv, ct, osl, rfl, lk, code, _, _⟩ := F.ex
  constructor
  intro pn s σ H Q inv h
  refine wpAny_Call_Name_kw (ld_glob inv glob at_ ?_ nodeb)
  refine PySem.W.callWith_K (h₀ := X.base) inv.ok.mod.kin F.kp (thn ((pa_cons he pa_nil one).run pos pn s σ H (onOne fun v H1 => ∃ f l d t, v = V.ref f ∧ BodyR X k l d t ∧ IsLam X.env H1 f l d ∧ TT (fun E H' Q' => t E σ0 H' Q') H1 Q) inv h) ?_) one (by rfl)
  · rintro us s1 ⟨vs, H1, inv1, rel, one1⟩
    obtain ⟨v, rfl, f, l, d, t, rfl, body, isl, q⟩ := onOne_inv one1
    obtain ⟨_, rfl, rfl⟩ := vals1 rel
    refine ⟨inv1.kIn, ?_⟩
    have kc : KeptC X s0 H1 s1 := (KeptC.refl inv0).un inv0 (fs := frs X.stack) inv1.base off
    have rc : codeAny (model X.prog X.w) X.A (.call (.ref g) ⟨[.ref f], []⟩) (CR C8.CX0 X.stack X.prog X.w H1 s1 Q C8.E0) s1 := by
      refine run_ofS (N := Ng) (ps := [a]) (us := [.ref f]) (vs := [.ref f]) lk code Sg room inv1.env0 (B s1 [.ref f] inv1.kIn rfl) (.cons rfl .nil) rfl fun room' => ?_
      obtain ⟨t', ht', hq'⟩ := hG cdv f s1 H1 Q (fun HZ => IsLam X.env HZ f l d) (fun E H' Q' => t E σ0 H' Q') (fun W pn xe E p1 p2 tk => pe_act3 (i := 0) inv0 kc body tk room' hNg hva hd hcd) isl q
      exact ⟨t', ht'.nox, hq'⟩
    refine wpAny_call (codeAny_mono rc ?_)
    rintro (er | fl) s' got
    · exact (show False from got).elim
    · cases fl with
      | ret u => exact inv1.after got
      | _ => exact got.elim
end
/-! ### a comprehension whose element looks back at the def -/
section
variable {X : Cx}
theorem pe_lcY {elt tg iter : Expr} {ifs : List Expr} {scope : Scope} {own : List (Str × Nat)} {pos : Pos} {wi : TI} {g : TG} {tt : L2.St → TT} {te : L2.St → TE} (calm : X.calm = true) (nodup : X.N.Nodup) (hi : PI X tg iter wi) (ok : BlkOk X.N X.env.scope scope own)
    (hg : ∀ (s : Shared) (H : Hp) (C : Addr) (cl : List (Str × Addr)) (fp : List Addr), PG (X.blk s H scope (compEnvC scope cl C X.env) fp) tg g)
    (ht : ∀ (pins : List (Addr × Obj)) (σ : L2.St) (s : Shared) (H : Hp) (C : Addr) (cl : List (Str × Addr)) (fp : List Addr), L2.Inv X pins σ H s → (∀ b ∈ fp, (b ∈ X.ex ∨ X.s_0.heap.objs.size ≤ b) ∧ ∀ y c, X.env.cells.lookup y = some c → b ≠ c) → PTs (X.blk s H scope (compEnvC scope cl C X.env) fp) ifs (tt σ))
    (he : ∀ (pins : List (Addr × Obj)) (σ : L2.St) (s : Shared) (H : Hp) (C : Addr) (cl : List (Str × Addr)) (fp : List Addr), L2.Inv X pins σ H s → (∀ b ∈ fp, (b ∈ X.ex ∨ X.s_0.heap.objs.size ≤ b) ∧ ∀ y c, X.env.cells.lookup y = some c → b ≠ c) → PE (X.blk s H scope (compEnvC scope cl C X.env) fp) elt (te σ))
    (folds : ∀ x, foldedSetIterable iter X.env x = pure x := by intro _; rfl) :
    PE X (.ListComp elt [⟨tg, iter, ifs, 0⟩] scope pos) (fun σ H Q => tLc wi g (tt σ) (te σ) (own.map (·.2)) σ H Q) := by
  constructor
  intro pins s σ H Q inv h
  rw [eval_ListComp]
  have closed : ∀ y ∈ scope.names, y.2 = .free → ∃ c, X.env.cells.lookup y.1 = some c := fun y hy e => (ok.free y hy e).elim (fun z => inv.ok.has _ (.inl z)) fun z => inv.ok.has _ (.inr z)
  refine wpAny_comprehension_free (use := none) rfl folds (closure_ok closed) ok.kind (fun y hy e => by rw [ok.uniq y hy, e]) (thn (hi.run pins s σ H _ inv h) fun xv s1 got => thn got ?_)
  rintro _ s2 ⟨it, fp, tn, J, H2, rfl, inv2, turns, now, off, q⟩
  refine wpAny_newObj_type (newEnv_comp (show _ from ?_)) (by show 0 ≤ sizeLine; decide)
  obtain ⟨W, ⟨m0, w0⟩, turn⟩ := q s2.heap.objs.size (inv2.hok.fresh (Nat.le_refl _))
  have keep3 : ∀ b o, s2.heap.get? b = some o → (s2.heap.push { cls := .type "list", data := .seq ([] : List Value).toArray }).get? b = some o := fun b o e => Heap.get?_push_of_some _ e
  obtain ⟨s3, e3, D, eD⟩ : ∃ s3 : Shared, s3 = { s2 with heap := s2.heap.push { cls := .type "list", data := .seq ([] : List Value).toArray } } ∧ ∃ D, D = s2.heap.objs.size := ⟨_, rfl, _, rfl⟩
  rw [← e3]
  rw [← eD] at w0 turn ⊢
  have inv3 : L2.Inv X pins σ (upd H2 D (.lst [])) s3 := by
    rw [e3, eD]
    exact inv2.laid (t' := s2.toks) keep3 (Nat.le_refl _) ⟨Nat.zero_le _, [], 0, .nil, Heap.get?_push_size _ rfl⟩
  have keep3' : ∀ b o, s2.heap.get? b = some o → s3.heap.get? b = some o := by rw [e3]; exact keep3
  have low : ∀ b ∈ fp, b < s2.heap.objs.size := fun b hb => Heap.lt_size (turns.obj _ _ now b hb).choose_spec.1
  have off3 : ∀ b ∈ fp, FpOk X pins (upd H2 D (.lst [])) b ∧ b < s3.heap.objs.size := fun b hb => by
    refine ⟨⟨?_, (off b hb).2⟩, ?_⟩
    · rw [upd_ne (by rw [eD]; exact Nat.ne_of_lt (low b hb))]
      exact (off b hb).1
    · obtain ⟨o, z, _⟩ := turns.obj _ _ now b hb
      exact Heap.lt_size (keep3' b o z)
  have now3 : tn 0 s3.heap := turns.keep _ _ _ now fun b _ o e => keep3' b o e
  have cells : ∀ b ∈ fp, (b ∈ X.ex ∨ X.s_0.heap.objs.size ≤ b) ∧ ∀ y c, X.env.cells.lookup y = some c → b ≠ c := fun b hb => ⟨(off3 b hb).1.2.2.2.1, fun y c e => ((off3 b hb).1.2.2.2.2.1 y c e).symm⟩
  have blk := block_start inv3 ok nodup off3
  obtain ⟨H3, eH⟩ : ∃ H3, H3 = upd H2 D (.lst []) := ⟨_, rfl⟩
  rw [← eH] at w0 inv3 off3 blk
  obtain ⟨cl, ecl⟩ : ∃ cl, cl = cellsFrom (s3.heap.objs.size + 1) scope.names (cloFrom X.env.cells scope.names []) := ⟨_, rfl⟩
  have pg := hg s3 H3 s3.heap.objs.size cl fp
  have pe := he pins σ s3 H3 s3.heap.objs.size cl fp inv3 cells
  have yes := ht pins σ s3 H3 s3.heap.objs.size cl fp inv3 cells
  rw [← ecl] at blk
  show codeAny _ _ (.compStart (.ListComp elt [⟨tg, iter, ifs, 0⟩] scope pos) 0 (.ref it) (.ref D) (compEnvC scope (cellsFrom (s3.heap.objs.size + 1) scope.names (cloFrom X.env.cells scope.names [])) s3.heap.objs.size X.env)) _ { s3 with heap := pushCells (s3.heap.push { cls := .type "dict", data := .dict #[] }) scope.names }
  rw [← ecl]
  obtain ⟨ce, ece, cL⟩ : ∃ ce, ce = compEnvC scope cl s3.heap.objs.size X.env ∧ ce.locals = s3.heap.objs.size := ⟨_, rfl, rfl⟩
  rw [← ece] at blk pg pe yes ⊢
  obtain ⟨s4, e4⟩ : ∃ s4 : Shared, s4 = { s3 with heap := pushCells (s3.heap.push { cls := .type "dict", data := .dict #[] }) scope.names } := ⟨_, rfl⟩
  rw [← e4] at blk ⊢
  have now4 : tn 0 s4.heap := turns.keep _ _ _ now3 fun b _ o e => by rw [e4]; exact pushCells_keeps _ _ _ _ (Heap.get?_push_of_some _ e)
  have none3 : ∀ b ∈ fp, H3 b = none := fun b hb => (off3 b hb).1.1
  have still : ∀ {σ' : L2.St} {H' : Hp} {s' : Shared}, L2.Inv (X.blk s3 H3 scope ce fp) [] σ' H' s' → (∀ b ∈ fp, H' b = none) → ∀ b ∈ fp, FpOk (X.blk s3 H3 scope ce fp) [] H' b := fun {σ' H' s'} i' hn b hb =>
    ⟨hn b hb, (i'.ok.exf b hb).1, i'.ok.exfs b hb, .inl hb, (i'.ok.exf b hb).2, fun p hp => absurd (show p ∈ ([] : List (Addr × Obj)) ++ [] from hp) (by simp)⟩
  have back : ∀ (s6 : Shared) (H5 : Hp) (m : Str → Option Value), L2.Inv X pins σ H5 s6 → Q (.ref D) H5 → s6.heap.Ns s3.heap.objs.size m → FpOk X pins H5 s3.heap.objs.size → compPost (model X.prog X.w) X.A X.xe none (EP X pins σ Q) (.ref D) s3.heap.objs.size (.ok .next) s6 := by
    rintro s6 H5 m i6 q6 ns ⟨f0, f1, f2, f3, f4, f5⟩
    exact ⟨m, ns, fun h'' sb => ⟨.ref D, H5, i6.turned (t' := s6.toks) (fun b o hb e => (sb.2 b hb).trans e) f0 f1 f3 f4 f5, rfl, q6⟩⟩
  have loop : codeAny (model X.prog X.w) X.A (.compLoop (.ListComp elt [⟨tg, iter, ifs, 0⟩] scope pos) 0 (.ref it) (.ref D) ce) (compPost (model X.prog X.w) X.A X.xe none (EP X pins σ Q) (.ref D) s3.heap.objs.size) s4 := by
    refine compLoop_any (fun n s' => ∃ i H', L2.Inv (X.blk s3 H3 scope ce fp) [] (wipe σ (own.map (·.2))) H' s' ∧ tn i s'.heap ∧ (∀ b ∈ fp, H' b = none) ∧ W i n H') ?_ m0 ⟨0, H3, blk, now4, none3, w0⟩
    rintro n s5 ⟨i, H5, inv5, now5, none5, w5⟩
    rcases turn i n H5 w5 with ⟨stop, qq⟩ | ⟨go, Nx, less, step⟩
    · refine thnF (turns.done (X.blk s3 H3 scope ce fp) rfl rfl rfl calm i [] s5 _ H5 (fun _ _ => False) inv5 (still inv5 none5) now5 stop) ?_
      rintro _ s6 ⟨rfl, inv6⟩
      obtain ⟨m, ns, _⟩ := inv6.loc
      have ns : s6.heap.Ns ce.locals m := ns
      have nC : H5 ce.locals = none := inv6.free
      rw [cL] at ns nC
      refine back s6 H5 m (inv3.call' (ch := fp) inv6.os inv6.base inv6.hok inv6.bare fun b hb => ?_) qq ns (inv3.fpOk (Nat.le_refl _) nC)
      obtain ⟨_, a1, a2, a3, a4, a5⟩ := (off3 b hb).1
      exact ⟨a3, a1, a4, a5⟩
    · refine thnF (turns.item (X.blk s3 H3 scope ce fp) rfl rfl rfl calm i [] s5 _ H5 (fun _ _ => False) inv5 (still inv5 none5) now5 go) ?_
      rintro _ s6 ⟨u, rfl, h6⟩
      refine thnF h6 ?_
      rintro _ s7 ⟨x, H7, inv7, r7, y7, now7, none7⟩
      refine thnF (pg.run _ s7 _ H7 x u _ (inv7.pinned (still inv7 none7) (turns.obj _ _ now7)) r7 (step x H7 y7)) ?_
      rintro _ s8 ⟨σ8, H8, inv8, wiped, q8⟩
      refine thnF (yes.run _ s8 σ8 H8 _ inv8 q8) ?_
      rintro b s9 ⟨H9, inv9, q9⟩
      have fin : ∀ {s' : Shared} {H' : Hp}, L2.Inv (X.blk s3 H3 scope ce fp) ([] ++ pinsAt fp s7.heap) σ8 H' s' → Nx H' → ∃ m, m < n ∧ ∃ i H', L2.Inv (X.blk s3 H3 scope ce fp) [] (wipe σ (own.map (·.2))) H' s' ∧ tn i s'.heap ∧ (∀ b ∈ fp, H' b = none) ∧ W i m H' := fun {s' H'} i' nx => by
        obtain ⟨m', lt, w'⟩ := less H' nx
        have pin' : ∀ b ∈ fp, ∀ o, s7.heap.get? b = some o → s'.heap.get? b = some o ∧ H' b = none := fun b hb o e => by
          have z := i'.pin (b, o) (List.mem_append_right _ (List.mem_append_right _ (mem_pinsAt hb e)))
          exact ⟨z.1, z.2.1⟩
        have len : (wipe σ (own.map (·.2))).length = σ8.length := by rw [← wiped, wipe_length]
        refine ⟨m', lt, i + 1, H', (i'.unpinned (pins := [])).weak len (fun j v e => ?_), turns.keep _ _ _ now7 fun b hb o e => (pin' b hb o e).1, fun b hb => ?_, w'⟩
        · rw [← wiped] at e
          exact (wipe_some e).1
        · exact (pin' b hb _ (turns.obj _ _ now7 b hb).choose_spec.1).2
      cases b with
      | false =>
        rw [if_neg (by decide)] at q9
        exact fin inv9 q9
      | true =>
        rw [if_pos rfl] at q9
        refine thnF (pe.run _ s9 σ8 H9 _ inv9 q9) ?_
        rintro z s10 ⟨yv, H10, inv10, r10, acc, at10, few, nx⟩
        exact app_ok (X := X.blk s3 H3 scope ce fp) inv10 at10 few r10 fun s11 inv11 => fin inv11 nx
  exact codeAny_compStart_list loop (turns.self X.A 0 _ _ _ now4 loop)
theorem pe_lcX {elt tg iter : Expr} {scope : Scope} {own : List (Str × Nat)} {pos : Pos} {wi : TI} {g : TG} {te : L2.St → TE} (calm : X.calm = true) (nodup : X.N.Nodup) (hi : PI X tg iter wi) (ok : BlkOk X.N X.env.scope scope own)
    (hg : ∀ (s : Shared) (H : Hp) (C : Addr) (cl : List (Str × Addr)) (fp : List Addr), PG (X.blk s H scope (compEnvC scope cl C X.env) fp) tg g)
    (he : ∀ (pins : List (Addr × Obj)) (σ : L2.St) (s : Shared) (H : Hp) (C : Addr) (cl : List (Str × Addr)) (fp : List Addr), L2.Inv X pins σ H s → (∀ b ∈ fp, ∀ y c, X.env.cells.lookup y = some c → b ≠ c) → PE (X.blk s H scope (compEnvC scope cl C X.env) fp) elt (te σ))
    (folds : ∀ x, foldedSetIterable iter X.env x = pure x := by intro _; rfl) :
    PE X (.ListComp elt [⟨tg, iter, [], 0⟩] scope pos) (fun σ H Q => tLc wi g tYes (te σ) (own.map (·.2)) σ H Q) :=
  pe_lcY (tt := fun _ => tYes) calm nodup hi ok hg (fun _ _ _ _ _ _ _ _ _ => pts_nil) (fun pins σ s H C cl fp inv off => he pins σ s H C cl fp inv fun b hb => (off b hb).2) folds
end
end HC
/-! the head's facts where lambdas are made: the tables of some defs' code objects are empty; tests of exception classes -/
namespace HC
open PySem PySem.W PySem.Calls PyProof.Rows He He5 L2
def obsL (fx : List Tst) (fa : List Fa) (fn : List DefA) (tf : List He.Defn) (g : Addr → Option Obj) (K : Frag) : He.AlD × Bool := (obsA fa fn K, (fx.all fun t => t K) && He.tabsB g tf K)
structure SaysL (fx : List Tst) (fa : List Fa) (fn : List DefA) (tf : List He.Defn) (h : Heap) (K : Frag) : Prop where
  j : SaysJ fx fa fn K
  hd : ∀ p ∈ tf, codeHdIn K (He.cT K p).1 (He.cT K p).2 = true
  out : ∀ p ∈ tf, K.lookup (He.cT K p).2 = none
  empty : ∀ p ∈ tf, h.get? (He.cT K p).2 = some { cls := .none, data := .fields #[] }
def obsLG (n : Nat) (fx : List Tst) (fa : List Fa) (fn : List DefA) (tf : List He.Defn) (g : Addr → Option Obj) : He.AlD × Bool := obsL fx fa fn tf g (He.frT g (asA g n))
theorem saysL_of {n : Nat} {fx : List Tst} {fa : List Fa} {fn : List DefA} {tf : List He.Defn} {h : Heap} (e : obsLG n fx fa fn tf h.get? = (valA fn, true)) : SaysL fx fa fn tf h (He.frT h.get? (asA h.get? n)) := by
  have e1 : obsA fa fn (He.frT h.get? (asA h.get? n)) = valA fn := congrArg Prod.fst e
  have e2 : ((fx.all fun t => t (He.frT h.get? (asA h.get? n))) && He.tabsB h.get? tf (He.frT h.get? (asA h.get? n))) = true := congrArg Prod.snd e
  obtain ⟨h1, h2⟩ := ba e2
  have key : ∀ p ∈ tf, codeHdIn (He.frT h.get? (asA h.get? n)) (He.cT (He.frT h.get? (asA h.get? n)) p).1 (He.cT (He.frT h.get? (asA h.get? n)) p).2 = true ∧ ∃ o, h.get? (He.cT (He.frT h.get? (asA h.get? n)) p).2 = some o ∧ He.emptyTab o = true := fun p hp => by
    have ⟨h3, h4⟩ := ba (List.all_eq_true.mp h2 p hp)
    refine ⟨h3, ?_⟩
    split at h4
    · rename_i o q
      exact ⟨o, q, h4⟩
    · cases h4
  refine ⟨⟨e1, h1⟩, fun p hp => (key p hp).1, fun p hp => ?_, fun p hp => ?_⟩
  · obtain ⟨_, o, q, z⟩ := key p hp
    exact He.frT_none q z
  · obtain ⟨_, o, q, z⟩ := key p hp
    rw [q, He.emptyTab_eq z]
def hookL (n : Nat) (fx : List Tst) (fa : List Fa) (fn : List DefA) (tf : List He.Defn) : PySem.W.Hook where
  α := He.AlD × Bool
  obs s := obsLG n fx fa fn tf s.heap.get?
  val _ := (valA fn, true)
  says _ h := ∃ K : Frag, K.In h ∧ SaysL fx fa fn tf h K
  of _ _ both := ⟨_, He.frT_in, saysL_of both⟩
  keeps _ _ _ here up := let ⟨K, inH, says⟩ := here; ⟨K, inH.keeps up, says.j, says.hd, says.out, fun p hp => up _ _ (says.empty p hp)⟩
theorem obsLG_eq {n : Nat} {fx : List Tst} {fa : List Fa} {fn : List DefA} {tf : List He.Defn} {g : Addr → Option Obj} {s : Shared} (same : ∀ a, g a = s.heap.get? a) : obsLG n fx fa fn tf g = (hookL n fx fa fn tf).obs s := congrArg (obsLG n fx fa fn tf) (funext same)
/-- the code of a def of K, known by its place -/
theorem code_at {K : Frag} {p : He.Defn} {x q : PySem.Str} {params : Arguments} {body : List Stmt} {scope : Scope} {dvs : List V} {kws : List (PySem.Str × V)} {fd : FuncData} (F : FunD K x q params body scope dvs kws (He.fAd K p) fd) : fd.code = .ref (He.cT K p).1 := by
  obtain ⟨oc, od, dV, kV, doc, pm, an, cdv, ct, osl, rfl, lk, code, _, _⟩ := F.ex
  obtain ⟨c, e⟩ := He.codeIn_ref code
  have z := He.codeOf_eq lk e
  show cdv = .ref (He.codeOf K p)
  rw [z, e]
/-- the layer's rule for a def, its code object told -/
theorem FunD_okC {P : Program} {w : World} {K : Frag} {mg : PySem.Str → Option Value} {base : Heap} {x qual : PySem.Str} {params : Arguments} {body : List Stmt} {scope : Scope} {dvs : List V} {kws : List (PySem.Str × V)} {f : Addr} {fd : FuncData} {CX : CXT} {N ps : List PySem.Str} {k : Nat} {sp : Sp}
    (F : FunD K x qual params body scope dvs kws f fd) (S : FnScope N ps scope) (len : ∀ vs H Q E, sp vs H Q E → vs.length = ps.length)
    (hbody : ∀ (A : Around) (outer : List Env) (s : Shared) (H : Hp) (vs : List V) (Q : VK) (E : XK), Room k (A.deeper (envOfC qual scope s.heap.objs.size f fd.code)) → sp vs H Q E →
      ∃ t, PSs (cxOf CX P w K mg base N qual scope f fd.code A outer s H E) body t ∧ t { nx := fun _ H' => Q .non H', rt := Q } (start N vs) H) : FnOk P w K mg base CX (k + 1) f fd ps sp := by
  obtain ⟨oc, od, dV, kV, doc, pm, an, cdv, ct, sl, rfl, lk, hcd, _, _⟩ := F.ex
  exact fn_of lk hcd S len fun A outer s H vs Q E hr hsp => hbody A outer s H vs Q E hr hsp
/-! ### tests -/
def oexB (K : Frag) (C : Addr) : Bool := (match K.lookup C with
  | some ⟨.type c, _, .cls cd, sl⟩ => decide (c = "type") && (match cd.mro, sl.toList with
    | .ref C' :: bm, [_, _, _, _, some (.builtin n), _] => decide (C' = C) && (decide (n = "ValueError.__new__") && (!cd.hasDel && (cd.hasDict && HandSPX.refsVE bm)))
    | _, _ => false)
  | _ => false) && (eqO (findIn K (.ref C) "__setattr__") (some (some (.builtin "object.__setattr__"))) && (decide (subIn K (.ref C) (.type "BaseException") = some true) && (decide (typeIn K (.ref C) = some (.type "type")) && keepIn K (.ref C))))
theorem oexB_ok {K : Frag} {C : Addr} (h : oexB K C = true) : OexC K C := by
  obtain ⟨h1, h⟩ := ba h
  obtain ⟨h2, h⟩ := ba h
  obtain ⟨h3, h⟩ := ba h
  obtain ⟨h4, h5⟩ := ba h
  refine ⟨?_, eqO_ok h2, of_decide_eq_true h3, of_decide_eq_true h4, h5⟩
  split at h1
  · rename_i c od cd sl lk
    obtain ⟨hc, h1⟩ := ba h1
    split at h1
    · rename_i C' bm k0 k1 k2 k3 n k5 em es
      obtain ⟨i1, i⟩ := ba h1
      obtain ⟨i2, i⟩ := ba i
      obtain ⟨i3, i⟩ := ba i
      obtain ⟨i4, i5⟩ := ba i
      have e1 := of_decide_eq_true i1
      have e2 := of_decide_eq_true i2
      have e3 : cd.hasDel = false := by simpa using i3
      have e0 := of_decide_eq_true hc
      subst e0 e1 e2
      obtain ⟨nm, bs, mro, ns, qn, hdc, sn, sub, ab, col, hdl⟩ := cd
      have em : mro = _ := em
      have e3 : hdl = false := e3
      have i4 : hdc = true := i4
      subst em e3 i4
      have e4 : sl = #[k0, k1, k2, k3, some (.builtin "ValueError.__new__"), k5] := by
        cases sl
        simpa using es
      subst e4
      exact ⟨nm, qn, ns, bs, bm, sn, sub, ab, col, od, k0, k1, k2, k3, k5, lk, i5⟩
    · cases h1
  · cases h1
def initB (K : Frag) (B : Addr) : Bool := decide (typeIn K (.ref B) = some (.type "type")) && (readsIn K B (.type "type") && (eqO (specialIn K (.ref B) "__getattribute__") (some (some (.builtin "type.__getattribute__"))) &&
  (match findCls K (.ref B) (.type "type") "__init__" with
  | some (.val (.builtin n)) => decide (n = "ValueError.__init__")
  | _ => false)))
theorem initB_ok {K : Frag} {mg : PySem.Str → Option Value} {b : PySem.Str} {B : Addr} (at_ : mg b = some (.ref B)) (h : initB K B = true) : InitV K mg b := by
  obtain ⟨h1, h⟩ := ba h
  obtain ⟨h2, h⟩ := ba h
  obtain ⟨h3, h4⟩ := ba h
  refine ⟨B, at_, of_decide_eq_true h1, ⟨h2, eqO_ok h3⟩, ?_⟩
  split at h4
  · rename_i n e
    rw [e, of_decide_eq_true h4]
  · cases h4
end HC
/-! what a def or a lambda lets out; tables and lambdas as the heap goes on; steps for raise and lambda -/
namespace HC
open PyProof.Rows PySem L2 PySem.Spec LamX
section
variable {P : Program} {w : World} {K : PySem.W.Frag} {mg : Str → Option Value} {base : Heap} {N : List Str} {qual : Str} {scope : Scope} {f c' : Addr} {cdv : Value} {A : Around} {outer : List Env} {s : Shared} {H : Hp} {E : XK}
theorem tk_def : Takes (cxOf (CXW P w) P w K mg base N qual scope f cdv A outer s H E) (fun cls d _ H' => E cls d H') := takes_of rfl rfl rfl rfl
theorem pz_def : Passes (CXW P w) (cxOf (CXW P w) P w K mg base N qual scope f cdv A outer s H E) E := passes_call tk_def fun _ _ _ _ h => h
theorem po_def : PassesOwn (model P w) (cxOf (CXW P w) P w K mg base N qual scope f cdv A outer s H E).A (cxOf (CXW P w) P w K mg base N qual scope f cdv A outer s H E).env (cxOf (CXW P w) P w K mg base N qual scope f cdv A outer s H E).xe := passes_of (X := cxOf (CXW P w) P w K mg base N qual scope f cdv A outer s H E) rfl
theorem pz_lam {X : Cx} : Passes (CXW X.prog X.w) (lamCx X A outer s H E scope f c') E := passes_call (takes_of (X := lamCx X A outer s H E scope f c') rfl rfl rfl rfl) fun _ _ _ _ h => h
end
/-! ### all but the tables stays -/
section
variable {K : PySem.W.Frag} {H H' : Hp} {T : List (Addr × Str)}
theorem extN_same (e : Same H H') : ExtN H H' := fun b o h _ => e b o h
theorem extN_l {a : Addr} {xs : List V} (e : ExtN H H') (h : SqL K H a xs) : SqL K H' a xs := h.imp (fun z => z.imp (fun q => e _ _ q nofun) fun ⟨o, q⟩ => ⟨o, e _ _ q nofun⟩) id
theorem extN_t {a : Addr} {xs : List V} (e : ExtN H H') (h : SqT K H a xs) : SqT K H' a xs := h.imp (fun z => z.imp (fun q => e _ _ q nofun) fun ⟨o, q⟩ => ⟨o, e _ _ q nofun⟩) id
mutual
theorem dp_extN (e : ExtN H H') : ∀ (d : PyData) (v : V), Dp K H v d → Dp K H' v d
  | .none, _, .non => .non
  | .bool _, _, .bl b => .bl b
  | .int _, _, .int i => .int i
  | .str _, _, .str x => .str x
  | .list ds, _, .lst h a => .lst (extN_l e h) (dpa_extN e ds _ a)
  | .tuple ds, _, .tup h a => .tup (extN_t e h) (dpa_extN e ds _ a)
theorem dpa_extN (e : ExtN H H') : ∀ (ds : List PyData) (vs : List V), DpAll K H vs ds → DpAll K H' vs ds
  | [], _, .nil => .nil
  | d :: ds, _, .cons a b => .cons (dp_extN e d _ a) (dpa_extN e ds _ b)
end
theorem tabs_same (e : Same H H') (t : Tabs T H) : Tabs T H' := t.ext e
theorem tabs_keep {d : Addr} {xs : List V} (e : Keep d H H') (at_ : H d = some (.lst xs)) (t : Tabs T H) : Tabs T H' := fun p hp => by
  obtain ⟨ps, h1, h2, h3⟩ := t p hp
  have off : ∀ {b : Addr} {o : HO}, H b = some o → (∀ ys, o ≠ .lst ys) → b ≠ d := fun {b o} z n e => by
    rw [e, at_] at z
    exact n xs (Option.some.inj z).symm
  refine ⟨ps, e _ _ (off h1 nofun) h1, h2, fun pos cv hc => ?_⟩
  have ⟨c, e1, e2⟩ := h3 pos cv hc
  exact ⟨c, e1, e _ _ (off e2 fun ys z => by unfold CodeO at z; cases z) e2⟩
end
/-! ### steps -/
section
variable {X : Cx} {K : PySem.W.Frag} {H : Hp} {Q : VK} {σ : L2.St} {D : Ends}
theorem g_lam {T : List (Addr × Str)} {env : Env} {l : LF} {d : Option V} (t : Tabs T H) (h : ∀ f H1, H f = none → ExtN H H1 → Tabs T H1 → IsLam env H1 f l d → Q (.ref f) H1) : tLamV T env l d σ H Q := ⟨t, h⟩
/-- xs * k -/
theorem g_rep {l : Addr} {k : Int} {xs : List V} (h1 : H l = some (.lst xs)) (lo : 0 ≤ k) (hi : k < 1000) (few : xs.length * k.toNat ≤ sizeLine) (h : ∀ p H', Same H H' → H p = none → H' p = some (.lst (List.replicate k.toNat xs).flatten) → Q (.ref p) H') : rRep (.ref l) (.int k) H Q :=
  ⟨l, k, xs, rfl, rfl, h1, by omega, by omega, few, fun p hp => h p _ (same_new hp) hp upd_same⟩
end
theorem noLs_mem : ∀ {ds : List PyData} {d : PyData}, noLs ds = true → d ∈ ds → noL d = true
  | e :: r, d, h, m => by
    have h' : noL e = true ∧ noLs r = true := by simpa [noLs] using h
    rcases List.mem_cons.mp m with q | q
    · rw [q]; exact h'.1
    · exact noLs_mem h'.2 q
/-- [x(y) for y in l]: data without lists, one for each; the rest stands -/
theorem lc_outs {K : PySem.W.Frag} {wl : Addr} {xs : List V} {ds : List PyData} {j : Nat} {te : TE} {vs : List Nat} {σ : L2.St} {Q : VK} {H1 : Hp} (flat : noLs ds = true) (len : xs.length = ds.length) (few : ds.length ≤ 1000) (h1 : H1 wl = some (.lst xs))
    (back : ∀ x, wipe ((wipe σ vs).set j (some x)) vs = wipe σ vs)
    (step : ∀ (i : Nat) (x : V) (d : PyData) (H2 : Hp) (R : VK), xs[i]? = some x → ds[i]? = some d → Same H1 H2 → (∀ v H3, Same H2 H3 → Dp K H3 v d → R v H3) → te ((wipe σ vs).set j (some x)) H2 R)
    (done : ∀ C acc H', H1 C = none → Same H1 H' → H' C = some (.lst acc) → DpAll K H' acc ds → Q (.ref C) H') : LcJ (Itl K wl) (gName j) tYes te vs σ Q H1 := by
  refine lc_run (walk_list (xs := xs)) (fun i acc H => Same H1 H ∧ acc.length = i ∧ DpAll K H acc (ds.take i)) ?_ ?_ ?_ ?_
  · intro C H' _ s _
    exact ⟨s, rfl, .nil⟩
  · rintro i acc H C _ _ ⟨s, _, _⟩
    exact SqL.of (s _ _ h1)
  · rintro C i acc x H H' nC lt la at_ ⟨s, rfl, all⟩ ⟨rfl, hx⟩
    have ld : acc.length < ds.length := by omega
    have hd : ds[acc.length]? = some ds[acc.length] := List.getElem?_eq_getElem ld
    refine ⟨back x, ?_⟩
    show LcIf C te ((wipe σ vs).set j (some x)) _ true _
    refine g_lcIfT (step _ x _ _ _ hx hd s fun v H3 s3 dv => ?_)
    refine n_lcK (s3 _ _ at_) (Nat.lt_succ_self _) (by omega) fun H4 k4 at4 => ⟨keep_same ((Same.keep s).trans ((Same.keep s3).trans k4)) nC, by simp, ?_⟩
    have flat1 : noLs (ds.take acc.length ++ [ds[acc.length]]) = true := noLs_of fun d hd => noLs_mem flat (by
      rcases List.mem_append.mp hd with z | z
      · exact List.mem_of_mem_take z
      · rw [List.mem_singleton.mp z]; exact List.getElem_mem ld)
    rw [List.take_succ, hd]
    exact dp_keepAll k4 (notT_l (s3 _ _ at_)) _ _ flat1 ((s3.dpa all).append (.cons dv .nil))
  · rintro C acc H nC at_ ⟨s, la, all⟩
    rw [len, List.take_length] at all
    exact done C acc H nC s at_ all
/-- lambda: x(y1, y2), both names the maker's -/
theorem body_call2 {X : Cx} {l : LF} {d : Option V} {k i j : Nat} {x y1 y2 : Str} {sp : Sp} {p p1 p2 p3 : Pos} (D : DefR X.prog X.w X.K X.mg X.base x k sp) (nm : LamN X.N X.env.scope l.scope) (bd : LamB l d) (hb : l.body = .Call (.Name x p) [.Name y1 p1, .Name y2 p2] [] p3)
    (g : l.scope.names.lookup x = some NameKind.globalImplicit) (n1 : X.N[i]? = some y1) (v1 : Vis l.scope y1) (n2 : X.N[j]? = some y2) (v2 : Vis l.scope y2) (b0 : (x == ("__debug__" : Str)) = false := by decide) (b1 : (y1 == ("__debug__" : Str)) = false := by decide) (c1 : (y1 == ("__classdict__" : Str)) = false := by decide)
    (b2 : (y2 == ("__debug__" : Str)) = false := by decide) (c2 : (y2 == ("__classdict__" : Str)) = false := by decide) : BodyR X k l d (fun E => tCallR sp E (tCons (tVar i) (tCons (tVar j) tNil))) := by
  refine ⟨nm, bd, fun A outer s H E f c' r => ?_⟩
  rw [hb]
  have pz : Passes (CXW X.prog X.w) (lamCx X A outer s H E l.scope f c') E := pz_lam (X := X)
  have a2 : PA (lamCx X A outer s H E l.scope f c') [.Name y1 p1, .Name y2 p2] (tCons (tVar i) (tCons (tVar j) tNil)) := pa_cons (pe_var (i := i) n1 v1 b1 c1) (pa_cons (pe_var (i := j) n2 v2 b2 c2) pa_nil)
  have gl : Gl (lamCx X A outer s H E l.scope f c') x := g
  exact pe_callR (X := lamCx X A outer s H E l.scope f c') (E := E) D r pz a2 gl b0
end HC
/-! try with clauses with and without a name: what stands when an exception is caught, one lemma for each kind of clause -/
namespace HC
open PyProof.Rows PySem L2 PySem.Spec LamX
/-- one clause: its class, the slot of its name, what its suite does -/
structure Cl where
  c : Value
  i : Option Nat
  ts : Addr → Value → Option Addr → TS
def Cl.set (k : Cl) (σ : L2.St) (v : Option V) : L2.St := match k.i with
  | some i => σ.set i v
  | none => σ
/-- the ends of a suite, its name gone -/
def Cl.ends (k : Cl) (D : Ends) : Ends := { nx := fun σ H => D.nx (k.set σ none) H, rt := D.rt, bk := fun σ H => D.bk (k.set σ none) H, ct := fun σ H => D.ct (k.set σ none) H }
/-- what the clauses wish of an exception of the body -/
def wMix (K : PySem.W.Frag) (Wout : WX) (D : Ends) : List Cl → WX
  | [] => Wout
  | k :: r => fun cls d σ H => ∃ b, PySem.W.exmOne K cls k.c = some b ∧ (b = true → ∀ a, H a = none → k.ts a cls d (k.ends D) (k.set σ (some (.ref a))) H) ∧ (b = false → wMix K Wout D r cls d σ H)
/-- the exception at a is caught: noted, landed, the def's state beneath it -/
structure Caught (X : Cx) (pins : List (Addr × Obj)) (σ : L2.St) (H : Hp) (a : Addr) (cls : Value) (d : Option Addr) (s : Shared) : Prop where
  ex : ∃ (B : Heap) (sI : Shared), L2.Inv X pins σ H sI ∧ (∀ b o, sI.heap.get? b = some o → b ∉ frs X.stack → B.get? b = some o) ∧ sI.heap.UpToSlots s.heap ∧ HandSPX.FlyingZ B X.stack a (Zc cls d) s.heap ∧ s.os = sI.os ∧ AllBare s.gens
  na : H a = none
section
variable {X : Cx} {pins : List (Addr × Obj)} {σ : L2.St} {H : Hp} {a : Addr} {cls : Value} {d : Option Addr} {s : Shared} {D : Ends}
theorem Caught.suite (c : Caught X pins σ H a cls d s) (hs : X.stack = X.env :: X.outer) (hf : X.env.frame = some X.env.locals) : L2.Inv X pins σ H s ∧ ∃ oe vs, s.heap.get? a = some oe ∧ Zc cls d oe ∧ oe.data = .fields vs ∧ L2.Inv (X.suite a ((a, oe) :: (X.pn ++ pins))) [] σ H s := by
  obtain ⟨B, sI, J, nb, up, fly, os, ag⟩ := c.ex
  have I : L2.Inv X pins σ H s := J.landed nb fly.1 up os ag
  obtain ⟨oe, vs, at_, z, dat⟩ := fly.there
  have out : a ∉ frs (X.env :: X.outer) := fun m => by
    obtain ⟨_, o, e, no⟩ := (hs ▸ fly.2.2.1 : s.heap.FunFrames B (X.env :: X.outer)).mem m
    cases at_.symm.trans e
    exact no _ dat
  refine ⟨I, oe, vs, at_, z, dat, I.suite at_ dat c.na (fun e => out (List.mem_filterMap.mpr ⟨X.env, .head _, by rw [hf, e]⟩)) fun m => ?_⟩
  obtain ⟨e, he, q⟩ := List.mem_filterMap.mp m
  exact out (List.mem_filterMap.mpr ⟨e, .tail _ he, q⟩)
/-- .. and lands once more, for a suite -/
theorem Caught.again {A : Around} {Q : Unit → Shared → Prop} {E : Value → Shared → Prop} (c : Caught X pins σ H a cls d s) (k : ∀ h, Caught X pins σ H a cls d { s with heap := h } → Q () { s with heap := h }) : wpAny (model X.prog X.w) A (setFlight (.ref a) none) Q E s := by
  obtain ⟨B, sI, J, nb, up, fly, os, ag⟩ := c.ex
  exact HandSPX.lands_againZ fly fun h fly' up' => k h ⟨⟨B, sI, J, nb, up.trans up', fly', os, ag⟩, c.na⟩
/-- no clause is left: it flies on -/
theorem Caught.on {Wout : WX} (c : Caught X pins σ H a cls d s) (hs : X.stack = X.env :: X.outer) (hf : X.env.frame = some X.env.locals) (tk : Takes X Wout) (w : Wout cls d σ H) : wpAny (model X.prog X.w) X.A (handleBy (.ref a) X.env []) (SP X pins D) X.xe s := by
  obtain ⟨B, sI, J, nb, up, fly, os, ag⟩ := c.ex
  obtain ⟨_, _, _, oe, vs, T, oT, ts, at_, _, dat, first, _⟩ := id fly
  refine wpAny_handleBy_nil ?_
  unfold PySem.passOn
  refine wpAny_bind (wpAny_field at_ dat first (show _ from ?_))
  rw [if_neg (show ¬ (Value.ref T == Value.none) = true by simp)]
  have last : wpAny (model X.prog X.w) X.A (setFlight (.ref a) X.env.frame) (fun _ s4 => wpAny (model X.prog X.w) X.A (throw (.ref a) : Sem Flow) (SP X pins D) X.xe s4) X.xe s := by
    rw [hf]
    have fly' : HandSPX.FlyingZ B (X.env :: X.outer) a (Zc cls d) s.heap := hs ▸ fly
    exact HandSPX.setFlight_upZ fly' fun h4 held up4 => wpAny_throw (tk _ _ ⟨a, B, sI, pins, σ, H, cls, d, rfl, J, nb, up.trans up4, .inr (.inr (by rw [hs]; exact held)), c.na, os, ag, w⟩)
  first | exact wpAny_bind last | exact wpAny_bind (wpAny_pure (wpAny_bind last))
/-- the class of a clause is looked up, and asked -/
theorem Caught.ask {x : Str} {cv : Value} {np : Pos} {b : Bool} {Q : Bool → Shared → Prop} {E : Value → Shared → Prop} (c : Caught X pins σ H a cls d s) (hs : X.stack = X.env :: X.outer) (hf : X.env.frame = some X.env.locals) (nm : Names X x cv) (ex : PySem.W.exmOne X.K cls cv = some b) (q : Q b s) :
    wpAny (model X.prog X.w) (X.A.mark (some (.ref a))) (eval (.Name x np) X.env) (fun v s' => wpAny (model X.prog X.w) (X.A.mark (some (.ref a))) (excMatches (.ref a) v) Q E s') E s := by
  obtain ⟨I, oe, vs, at_, z, dat, S⟩ := c.suite hs hf
  have ty : PySem.W.Looks (model X.prog X.w) s.heap (typeOf (.ref a)) cls := fun A Q E s' k q => wpAny_typeOf_ref (k _ _ at_) (by rw [z.1]; exact q)
  have yes := (PySem.W.exm_one (M := model X.prog X.w) I.kIn ty ex).here (A := X.A.mark (some (.ref a))) (E := E) q
  obtain ⟨gl, nodeb, own | ⟨no, bt, nn⟩⟩ := nm
  · exact ld_glob (X := X.suite a ((a, oe) :: (X.pn ++ pins))) S gl own yes nodeb
  · exact ld_blt (X := X.suite a ((a, oe) :: (X.pn ++ pins))) S gl no bt yes nn nodeb
/-- the clauses of a try and what they do -/
inductive HdsM (X : Cx) : List ExceptHandler → List Cl → Prop
  | nil : HdsM X [] []
  | plain {x : Str} {c : Value} {ts : Addr → Value → Option Addr → TS} {b₀ : Stmt} {suite : List Stmt} {np pos' : Pos} {hds : List ExceptHandler} {l : List Cl} (nm : Names X x c)
      (run : ∀ (a : Addr) (oe : Obj) (cls : Value) (d : Option Addr) (pn : List (Addr × Obj)), Zc cls d oe → (∃ vs, oe.data = .fields vs) → PSs (X.suite a ((a, oe) :: pn)) (b₀ :: suite) (ts a cls d)) (r : HdsM X hds l) : HdsM X (.ExceptHandler (some (.Name x np)) none (b₀ :: suite) pos' :: hds) (⟨c, none, ts⟩ :: l)
  | as_ {x n : Str} {i : Nat} {c : Value} {ts : Addr → Value → Option Addr → TS} {b₀ : Stmt} {suite : List Stmt} {np pos' : Pos} {hds : List ExceptHandler} {l : List Cl} (nm : Names X x c) (nd : X.N.Nodup) (at_ : X.N[i]? = some n) (loc : X.env.kindOf n = some .local)
      (run : ∀ (a : Addr) (oe : Obj) (cls : Value) (d : Option Addr) (pn : List (Addr × Obj)), Zc cls d oe → (∃ vs, oe.data = .fields vs) → PSs (X.suite a ((a, oe) :: pn)) (b₀ :: suite) (ts a cls d)) (r : HdsM X hds l) : HdsM X (.ExceptHandler (some (.Name x np)) (some n) (b₀ :: suite) pos' :: hds) (⟨c, some i, ts⟩ :: l)
theorem caught_run {Wout : WX} {hds : List ExceptHandler} {l : List Cl} (hs : X.stack = X.env :: X.outer) (hf : X.env.frame = some X.env.locals) (tk : Takes X Wout) (ok : X.Ok) (M : HdsM X hds l) (c : Caught X pins σ H a cls d s) (w : wMix X.K Wout D l cls d σ H) :
    wpAny (model X.prog X.w) X.A (handleBy (.ref a) X.env hds) (SP X pins D) X.xe s := by
  induction M with
  | nil => exact c.on hs hf tk w
  | plain nm run r ih =>
    obtain ⟨b, ex, yes, no⟩ := w
    refine wpAny_handleBy_cons (codeAny_handlers_test (c.ask hs hf nm ex ?_)) nofun
    cases b with
    | false => exact ih (no rfl)
    | true =>
      refine codeAny_handlers_suite (c.again fun h c4 => ?_)
      obtain ⟨_, oe, vs, _, z, dat, S⟩ := c4.suite hs hf
      refine wpAny_mono ((run a oe cls d (X.pn ++ pins) z ⟨_, dat⟩).run [] _ _ H _ S (yes rfl a c.na)) (fun fl s6 got => ?_) (fun _ _ z => z.elim)
      cases fl with
      | ret u => exact let ⟨v, σ6, H6, S6, rv, q⟩ := got; ⟨v, σ6, H6, S6.unsuite ok, rv, q⟩
      | _ => exact let ⟨σ6, H6, S6, q⟩ := got; ⟨σ6, H6, S6.unsuite ok, q⟩
  | @as_ x n i cv ts b₀ suite np pos' hds' l' nm nd at_ loc run r ih =>
    obtain ⟨b, ex, yes, no⟩ := w
    refine wpAny_handleBy_cons (codeAny_handlers_test (c.ask hs hf nm ex ?_)) nofun
    cases b with
    | false => exact ih (no rfl)
    | true =>
      refine codeAny_handlers_suite_as (c.again fun h c4 => ?_)
      obtain ⟨_, oe, vs, _, z, dat, S⟩ := c4.suite hs hf
      refine store_ok (X := X.suite a ((a, oe) :: (X.pn ++ pins))) (v := .ref a) S nd at_ (.inl loc) rfl (fun s5 S5 => ?_) (.inr loc)
      refine wpAny_mono ((run a oe cls d (X.pn ++ pins) z ⟨_, dat⟩).run [] s5 _ H _ S5 (yes rfl a c.na)) (fun fl s6 got => ?_) (fun _ _ z => z.elim)
      have bye : ∀ {σ6 : L2.St} {H6 : Hp} {Q : Shared → Prop}, L2.Inv (X.suite a ((a, oe) :: (X.pn ++ pins))) [] σ6 H6 s6 → (∀ s7, L2.Inv X pins (σ6.set i none) H6 s7 → Q s7) →
          wpAny (model X.prog X.w) X.A (bindName X.env n .none >>= fun _ => unbindBehindTheSuite X.env n pos') (fun _ s7 => Q s7) X.xe s6 := fun S6 k => gone_ok (S6.unsuite ok) nd at_ loc k
      cases fl with
      | ret u => exact let ⟨v, σ6, H6, S6, rv, q⟩ := got; bye S6 fun s7 J => ⟨v, _, H6, J, rv, q⟩
      | _ => exact let ⟨σ6, H6, S6, q⟩ := got; bye S6 fun s7 J => ⟨_, H6, J, q⟩
/-- try: body / except A: .. / except B as e: .. -/
theorem ps_try_mix {body : List Stmt} {h₀ : ExceptHandler} {hds : List ExceptHandler} {l : List Cl} {pos : Pos} {tb : WX → TS} {Wout : WX} (hs : X.stack = X.env :: X.outer) (hf : X.env.frame = some X.env.locals) (tk : Takes X Wout)
    (inner : ∀ (W : WX) (pn : List (Addr × Obj)) (xe : Value → Shared → Prop), Takes (X.tr pn xe) W → PassesOwn (model X.prog X.w) X.A X.env xe → PSs (X.tr pn xe) body (tb W)) (M : HdsM X (h₀ :: hds) l) : PS X (.Try body (h₀ :: hds) [] [] pos) (fun D σ H => tb (wMix X.K Wout D l) D σ H) := by
  constructor
  intro pins s σ H D inv h
  have ok := inv.ok
  have catch_ : ∀ u s', XE (X.tr (X.pn ++ pins) fun e s₁ => wpAny (model X.prog X.w) X.A (noteFrame e X.env) (fun _ s₂ => wpAny (model X.prog X.w) X.A (setFlight e none) (fun _ s₃ => wpAny (model X.prog X.w) X.A (handleBy e X.env (h₀ :: hds)) (SP X pins D) X.xe s₃) X.xe s₂) X.xe s₁) (wMix X.K Wout D l) u s' →
      wpAny (model X.prog X.w) X.A (noteFrame u X.env) (fun _ s₂ => wpAny (model X.prog X.w) X.A (setFlight u none) (fun _ s₃ => wpAny (model X.prog X.w) X.A (handleBy u X.env (h₀ :: hds)) (SP X pins D) X.xe s₃) X.xe s₂) X.xe s' := by
    rintro _ s' ⟨a, B, sI, pn', σ', H', cls, d, rfl, J, nb, up, sky, na, os, ag, w⟩
    have air : Sky B (X.env :: X.outer) a (Zc cls d) X.env.locals s'.heap := hs ▸ sky
    refine Sky.land Zc.steady (by rw [ok.frames, hs]) hf air fun h3 fly up3 => ?_
    exact caught_run hs hf tk ok M ⟨⟨B, sI, J.ofTry ok, nb, up.trans up3, hs ▸ fly, os, ag⟩, na⟩ w
  refine wpAny_Try_except (wpAny_mono ((inner (wMix X.K Wout D l) (X.pn ++ pins) _ catch_ PassesOwn.looking).run [] s σ H D (inv.toTry _) h) (fun fl s1 got => ?_) fun _ _ z => z)
  cases fl with
  | next => exact let ⟨σ', H', J, q⟩ := got; wpAny_execs_nil ⟨σ', H', L2.Inv.ofTry J ok, q⟩
  | ret u => exact let ⟨v, σ', H', J, r, q⟩ := got; ⟨v, σ', H', L2.Inv.ofTry J ok, r, q⟩
  | _ => exact let ⟨σ', H', J, q⟩ := got; ⟨σ', H', L2.Inv.ofTry J ok, q⟩
end
/-- x(e) in the maker's own frame -/
theorem pe_outD {X : Cx} {TT : (XK → Hp → VK → Prop) → Hp → VK → Prop} {x a : Str} {g : Addr} {fd : FuncData} {k : Nat} {pg : Arguments} {bg : List Stmt} {sg : Scope} {Ng : List Str} {e : Expr} {te : TE} {p pos : Pos} (at_ : X.mg x = some (.ref g)) (F : FunD X.K x x pg bg sg [] [] g fd) (B : L2.Binds X.K fd [a] [])
    (Sg : FnScope Ng [a] sg) (hNg : Ng[0]? = some a) (hva : Vis sg a) (hG : ∀ cdg, Gives X Ng x sg g cdg bg a TT) (room : Room (k + 2) X.A) (he : PE X e te) (glob : Gl X x := by rfl) (nodeb : (x == ("__debug__" : Str)) = false := by decide) (hd : (a == ("__debug__" : Str)) = false := by decide)
    (hcd : (a == ("__classdict__" : Str)) = false := by decide) (one : starEach [e] X.env = [(false, eval e X.env)] := by rfl) : PE X (.Call (.Name x p) [e] [] pos) (fun σ H Q => tOut X k TT te σ σ H Q) := by
  obtain ⟨oc, od, dV, kV, doc, pm, an, cdv, ct, sl, rfl, lk, code, _, _⟩ := F.ex
  constructor
  intro pn s σ H Q inv h
  refine wpAny_Call_Name_kw (ld_glob inv glob at_ ?_ nodeb)
  refine PySem.W.callWith_K (h₀ := X.base) inv.ok.mod.kin F.kp (thn ((pa_cons he pa_nil one).run pos pn s σ H (onOne fun v H1 => ∃ f l d t, v = V.ref f ∧ BodyR X k l d t ∧ IsLam X.env H1 f l d ∧ TT (fun E H' Q' => t E σ H' Q') H1 Q) inv h) ?_) one (by rfl)
  rintro us s1 ⟨vs, H1, inv1, rel, got1⟩
  obtain ⟨v, rfl, f, l, d, t, rfl, body, isl, q⟩ := onOne_inv got1
  obtain ⟨_, rfl, rfl⟩ := vals1 rel
  refine ⟨inv1.kIn, wpAny_call (codeAny_mono (run_ofS (CX := C8.CX0) (Q := Q) (E := C8.E0) (N := Ng) (ps := [a]) (us := [.ref f]) (vs := [.ref f]) lk code Sg room inv1.env0 (B s1 [.ref f] inv1.kIn rfl) (.cons rfl .nil) rfl fun room' => ?_) ?_)⟩
  · obtain ⟨t', ht', hq'⟩ := hG cdv f s1 H1 Q (fun HZ => IsLam X.env HZ f l d) (fun E H' Q' => t E σ H' Q') (fun W pn xe E p1 p2 tk => pe_act3 (i := 0) inv1 (KeptC.refl inv1) body tk room' hNg hva hd hcd) isl q
    exact ⟨t', ht'.nox, hq'⟩
  · rintro (er | fl) s' got
    · exact (show False from got).elim
    · cases fl with
      | ret u => exact inv1.after got
      | _ => exact got.elim
end HC
/-! what a caught exception is asked; exceptions with more than one field; list.count of plain values -/
namespace HC
open PyProof.Rows PySem L2 PySem.Spec LamX
/-! ### isinstance of the exception that a suite holds -/
/-- its dict, if it has one, stands in the heap -/
def DctAt (d : Option Addr) (H : Hp) : Prop := ∀ dd, d = some dd → ∃ fs, H dd = some (.xd fs)
def rIsX (K : PySem.W.Frag) (a : Addr) (cls : Value) (d : Option Addr) : List V → Hp → VK → Prop := fun xs H Q =>
  ∃ (D : Addr) (c : V) (cv : Value) (b : Bool), cls = .ref D ∧ ExcC K D ∧ DctAt d H ∧ xs = [.ref a, c] ∧ (∀ u, L2.RelV c u → u = cv) ∧ PySem.W.kitOne K (.ref D) cv = some b ∧ Q (.bl b) H
section
variable {X : Cx} {a : Addr} {oe : Obj} {pn : List (Addr × Obj)} {cls : Value} {d : Option Addr}
theorem caught_inst {D : Addr} {pins : List (Addr × Obj)} {σ : L2.St} {H : Hp} {s : Shared} (hz : Zc (.ref D) d oe) (hf : ∃ vs, oe.data = .fields vs) (inv : L2.Inv (X.suite a ((a, oe) :: pn)) pins σ H s) (dc : DctAt d H) : ∃ od, PySem.W.InstAt s.heap a oe D od := by
  have held := (inv.pin (a, oe) (List.mem_append_left _ (.head _))).1
  have nc : PySem.W.notCls oe = true := by
    obtain ⟨vs, e⟩ := hf
    unfold PySem.W.notCls
    rw [e]
  cases d with
  | none => exact ⟨none, held, hz.1, nc, by rw [hz.2]; trivial⟩
  | some dd =>
    obtain ⟨fs, at_⟩ := dc dd rfl
    obtain ⟨mA, ns, _⟩ : ObjOk X.prog X.w H s.heap dd (.xd fs) := inv.hok dd _ at_
    obtain ⟨od, ho, _⟩ := lookIn_ns ns
    exact ⟨some od, held, hz.1, nc, by rw [hz.2]; exact ho⟩
theorem call_isX (hz : Zc cls d oe) (hf : ∃ vs, oe.data = .fields vs) : CallR (X.suite a ((a, oe) :: pn)) (.builtin "isinstance") (rIsX X.K a cls d) := by
  rintro pins s σ H _ us Q inv rel ⟨D, c, cv, b, rfl, ex, dc, rfl, is, yes, q⟩
  cases rel with
  | cons r1 r2 =>
    cases r2 with
    | cons r3 r4 =>
      cases r4
      cases r1
      obtain rfl := is _ r3
      obtain ⟨od, J⟩ := caught_inst hz hf inv dc
      have cl : (PySem.W.clsIn X.K D).isSome = true := by
        obtain ⟨cd, e, _⟩ := PySem.W.any_some ex.hd
        rw [e]; rfl
      exact PySem.W.kia_one (PySem.W.kitx_exc (od := od) cl ex.hg ex.hk ex.hs ex.ha ex.hn ex.ht ex.hm) inv.kIn J yes nofun fun tk => ⟨.bl b, H, inv.kept (t' := tk) fun _ _ z => z, rfl, q⟩
theorem pe_isX {n : Str} {c : V} {e : Expr} {te : TE} {p pos tpos : Pos} (m : Bts X.mg) (hz : Zc cls d oe) (hf : ∃ vs, oe.data = .fields vs) (he : PE (X.suite a ((a, oe) :: pn)) e te) (hc : PE (X.suite a ((a, oe) :: pn)) (.Name n tpos) (tC c)) (hg : Gl (X.suite a ((a, oe) :: pn)) "isinstance" := by rfl)
    (s1 : starEach [e, .Name n tpos] (X.suite a ((a, oe) :: pn)).env = (false, eval e (X.suite a ((a, oe) :: pn)).env) :: starEach [.Name n tpos] (X.suite a ((a, oe) :: pn)).env := by rfl) (s2 : starEach [.Name n tpos] (X.suite a ((a, oe) :: pn)).env = (false, eval (.Name n tpos) (X.suite a ((a, oe) :: pn)).env) :: starEach [] (X.suite a ((a, oe) :: pn)).env := by rfl)
    (pl : (backTo pos (starEach [.Name n tpos] (X.suite a ((a, oe) :: pn)).env)).any (·.1) = false := by rfl) : PE (X.suite a ((a, oe) :: pn)) (.Call (.Name "isinstance" p) [e, .Name n tpos] [] pos) (tCB (rIsX X.K a cls d) (tCons te (tCons (tC c) tNil))) :=
  pe_callB (p := p) (pos := pos) (call_isX hz hf) hg m.isinstance bt_isinstance (pa_cons he (pa_cons hc pa_nil s2) s1) (by decide) (by decide) s1 pl
end
theorem n_isX {K : PySem.W.Frag} {a D C : Addr} {d : Option Addr} {H : Hp} {Q : VK} {b : Bool} (ex : ExcC K D) (dc : DctAt d H) (yes : PySem.W.kitOne K (.ref D) (.ref C) = some b) (q : Q (.bl b) H) : rIsX K a (.ref D) d [.ref a, .ref C] H Q :=
  ⟨D, .ref C, .ref C, b, rfl, ex, dc, rfl, fun u r => r, yes, q⟩
theorem n_isXT {K : PySem.W.Frag} {a D : Addr} {T : String} {d : Option Addr} {H : Hp} {Q : VK} {b : Bool} (ex : ExcC K D) (dc : DctAt d H) (yes : PySem.W.kitOne K (.ref D) (.type T) = some b) (q : Q (.bl b) H) : rIsX K a (.ref D) d [.ref a, .ty T] H Q :=
  ⟨D, .ty T, .type T, b, rfl, ex, dc, rfl, fun u r => r, yes, q⟩
def excCB (K : PySem.W.Frag) (D : Addr) : Bool := He.eqO (PySem.W.findIn K (.ref D) "__getattribute__") (some (some (.builtin "BaseException.__getattribute__"))) && (decide (PySem.W.findIn K (.ref D) "__getattr__" = some none) && (decide (PySem.W.subIn K (.ref D) (.type "BaseException") = some true) && (PySem.W.hasDictIn K D && (He.eqO (PySem.W.findIn K (.ref D) "__class__") (some (some (.builtin "object.__class__"))) &&
  (He.eqO (PySem.W.specialIn K (.builtin "object.__class__") "__get__") (some (some (.builtin "getset_descriptor.__get__"))) && (decide (PySem.W.takesIn K (.builtin "object.__class__") = some true) && decide (PySem.W.mroIn K D (.type "object") = some true)))))))
theorem excCB_ok {K : PySem.W.Frag} {D : Addr} (h : excCB K D = true) : ExcC K D := by
  simp only [excCB, Bool.and_eq_true, decide_eq_true_eq] at h
  obtain ⟨h1, h2, h3, h4, h5, h6, h7, h8⟩ := h
  exact ⟨He.eqO_ok h1, h2, h3, h4, He.eqO_ok h5, He.eqO_ok h6, h7, h8⟩
/-- two readings of one expression -/
def tEither (t u : TE) : TE := fun σ H Q => t σ H Q ∨ u σ H Q
theorem pe_either {X : Cx} {e : Expr} {t u : TE} (h1 : PE X e t) (h2 : PE X e u) : PE X e (tEither t u) := ⟨fun pn s σ H Q inv h => h.elim (h1.run pn s σ H Q inv) (h2.run pn s σ H Q inv)⟩
/-! ### list.count of plain values -/
def rCntF (K : PySem.W.Frag) : V → List V → Hp → VK → Prop := fun x xs H Q => ∃ (l : Addr) (ys : List V) (y : V), x = .ref l ∧ xs = [y] ∧ SqL K H l ys ∧ flatV y = true ∧ ys.all flatV = true ∧ Q (.int (ys.countP fun z => eqV z y : Nat)) H
theorem cnt_vals {y : V} : ∀ {ys : List V} {us : List Value}, Vals ys us → ys.all flatV = true → us.countP (eqU y) = ys.countP fun z => eqV z y
  | _, _, .nil, _ => rfl
  | z :: ys, u :: us, .cons r t, f => by
    have both : flatV z = true ∧ ys.all flatV = true := by simpa using f
    rw [List.countP_cons, List.countP_cons, cnt_vals t both.2, eqU_of r both.1]
theorem mt_cntF {X : Cx} : MtR X "list.count" (rCntF X.K) := by
  rintro pins s σ H _ _ v us Q inv rx rel ⟨l, ys, y, rfl, rfl, at_, fy, fys, q⟩
  cases rx
  cases rel with
  | @cons _ uy _ _ ry rn =>
    cases rn
    obtain ⟨its, vals, ⟨⟨c, dd, dat, sl⟩, n, held, hc, hn, hd⟩, _⟩ := inv.list at_
    dsimp only at hc hd
    subst hc hd
    have cnt : its.toArray.toList.countP (eqU y) = ys.countP fun z => eqV z y := cnt_vals vals fys
    have met := SeqAt.list_countAt l its.toArray n dd sl uy (eqU y)
    refine call_meets PySem.F.slot_list_count ⟨_, held, rfl⟩ PySem.F.entry_list_count (PySem.F.args_list_count_2 _ _) met ⟨held, fun u hu => mem_eqAt ry fy vals fys u (List.mem_toArray.mp hu), ?_⟩
    refine ⟨.int (ys.countP (fun z => eqV z y) : Nat), H, inv.tok _, ⟨s.toks, ?_⟩, q⟩
    rw [cnt]
theorem g_cntF {K : PySem.W.Frag} {H : Hp} {Q : VK} {l : Addr} {ys : List V} {y : V} (h1 : SqL K H l ys) (h2 : flatV y = true) (h3 : ys.all flatV = true) (h : Q (.int (ys.countP fun z => eqV z y : Nat)) H) : rCntF K (.ref l) [y] H Q := ⟨l, ys, y, rfl, rfl, h1, h2, h3, h⟩
/-! ### exceptions with some fields, all given by keyword -/
def sp_initN (K : PySem.W.Frag) (C : Addr) (fo : List V → List (Str × V)) (n : Nat) : Sp := fun vs H Q _ => ∃ a zs, vs = .ref a :: zs ∧ zs.length = n ∧ H a = some (exo a C none) ∧
  ∀ dx H', H dx = none → dx ≠ a → H' a = some (exo a C (some dx)) → H' dx = some (exd dx (fo zs)) → (∀ c, c ≠ a → c ≠ dx → H' c = H c) → Q .non H'
structure ExcN (P : Program) (w : World) (K : PySem.W.Frag) (mg : Str → Option Value) (base : Heap) (x : Str) (C : Addr) (k : Nat) (flds : List Str) (fo : List V → List (Str × V)) : Prop where
  at_ : mg x = some (.ref C)
  oex : OexC K C
  ex : ∃ fI fd, PySem.W.findIn K (.ref C) "__init__" = some (some (.ref fI)) ∧ PySem.W.typeIn K (.ref fI) = some (.type "function") ∧ FnOk P w K mg base (CXW P w) k fI fd ("self" :: flds) (sp_initN K C fo flds.length) ∧
    KBn K fd ("self" :: flds) 1 flds (fun us ws => us ++ ws) (fun vs zs => vs ++ zs)
def two2 (f1 f2 : Str) : List V → List (Str × V)
  | [v, u] => [(f2, u), (f1, v)]
  | _ => []
section
variable {P : Program} {w : World} {K : PySem.W.Frag} {mg : Str → Option Value} {base : Heap} {f C : Addr} {fd : FuncData} {qual b f1 f2 msg : Str} {params : Arguments} {scope : Scope} {j : Nat} {p1 p2 p3 p4 p5 p6 p7 p8 p9 p10 q7 q8 q9 q10 : Pos}
/-- def __init__(self, *, f1, f2): b.__init__(self, msg); self.f1 = f1; self.f2 = f2 -/
theorem init2_ok (T : OexC K C) (no1 : PySem.W.findIn K (.ref C) f1 = some none) (no2 : PySem.W.findIn K (.ref C) f2 = some none) (V : InitV K mg b)
    (F : FunD K "__init__" qual params [.Expr (.Call (.Attribute (.Name b p1) "__init__" p2) [.Name "self" p3, .Constant (.str msg) j p4] [] p5) p6, .Assign [.Attribute (.Name "self" p7) f1 p8] (.Name f1 p9) p10, .Assign [.Attribute (.Name "self" q7) f2 q8] (.Name f2 q9) q10] scope [] [] f fd)
    (S : FnScope ["self", f1, f2] ["self", f1, f2] scope) (gl : scope.names.lookup b = some .globalImplicit) (vs : Vis scope "self") (v1 : Vis scope f1) (v2 : Vis scope f2) (nb : (b == ("__debug__" : Str)) = false) (n1 : (f1 == ("__debug__" : Str)) = false) (n1' : (f1 == ("__classdict__" : Str)) = false) (n2 : (f2 == ("__debug__" : Str)) = false) (n2' : (f2 == ("__classdict__" : Str)) = false)
    (pl : Env → Sem Bool) (form : ∀ env : Env, eval (.Call (.Attribute (.Name b p1) "__init__" p2) [.Name "self" p3, .Constant (.str msg) j p4] [] p5) env = (do
      let ov ← eval (.Name b p1) env
      standAt p2.atName
      let (fn, more) ← holding [ov] (getMethod ov "__init__" (pl env))
      callWith p5 fn more (backTo p5 (starEach [.Name "self" p3, .Constant (.str msg) j p4] env)) (backToKw p5 (keywordEach [] env)))) :
    FnOk P w K mg base (CXW P w) 2 f fd ["self", f1, f2] (sp_initN K C (two2 f1 f2) 2) := by
  refine F.ok S ?_ (fun cdv A outer s H vs Q E hr h => ?_)
  · rintro vs H Q E ⟨a, zs, rfl, e, _⟩
    simp [e]
  · obtain ⟨a, zs, rfl, len, at_, k⟩ := h
    match zs, len with
    | [y, z], _ =>
      refine ⟨_, pss_cons (ps_expr (pe_binit V (pa_cons (pe_var (i := 0) rfl vs (by decide) (by decide)) (pa_cons pe_str pa_nil)) gl nb (form _))) (pss_cons (ps_ost (pe_var (i := 0) rfl vs (by decide) (by decide)) (pe_var (i := 1) rfl v1 n1 n1')) (pss_one (ps_ost (pe_var (i := 0) rfl vs (by decide) (by decide)) (pe_var (i := 2) rfl v2 n2 n2')))), ?_⟩
      refine ⟨_, rfl, a, C, [.str msg], rfl, ?_, T, at_, ?_⟩
      · show 1 ≤ 1000
        decide
      · refine ⟨_, rfl, _, rfl, a, C, rfl, T, no1, .inl ⟨at_, fun dx n ne => ?_⟩⟩
        refine ⟨_, rfl, _, rfl, a, C, rfl, T, no2, .inr ⟨dx, [(f1, y)], upd_same, ?_, by show 1 ≤ 900; decide, ?_⟩⟩
        · rw [upd_ne ne]; exact upd_same
        · refine k dx _ n ne ?_ upd_same fun c h1 h2 => ?_
          · rw [upd_ne (Ne.symm ne)]; exact upd_same
          · rw [upd_ne h2, upd_ne h1, upd_ne h2]
end
section
variable {X : Cx} {x : Str} {C : Addr} {k : Nat} {ks : List Keyword} {tk : TA} {p pos : Pos} {flds : List Str} {fo : List V → List (Str × V)}
def tMkN (C : Addr) (n : Nat) (fo : List V → List (Str × V)) (tk : TA) : L2.St → Hp → XK → Prop := fun σ H Q => tk σ H fun zs H1 => zs.length = n ∧ ∀ d, H1 d = none → Q (.ref C) (some d) (upd H1 d (.xd (fo zs)))
theorem pmk_kn (R : ExcN X.prog X.w X.K X.mg X.base x C k flds fo) (room : Room (k + 1) X.A) (key : PK X ks tk) (glob : Gl X x := by rfl) (nodeb : (x == ("__debug__" : Str)) = false := by decide) (all : (backToKw pos (keywordEach ks X.env)).all (·.1.isSome) = true := by rfl)
    (names : (backToKw pos (keywordEach ks X.env)).filterMap (·.1) = flds := by rfl) (plain : ((backTo pos (starEach [] X.env)).any (·.1) || (backToKw pos (keywordEach ks X.env)).any (·.1.isNone)) = false := by rfl) : PMk X (.Call (.Name x p) [] ks pos) (tMkN C flds.length fo tk) := by
  obtain ⟨fI, fd, i1, i2, F1, B1⟩ := R.ex
  intro pn s σ H Q inv h
  obtain ⟨nm, q, N, bs, bm, sn, sub, ab, col, dd, k0, k1, k2, k3, k5, cls, tail⟩ := R.oex.cls
  refine wpAny_Call_Name_kw (ld_glob inv glob R.at_ (PySem.W.callWith_KW0 (h₀ := X.base) inv.ok.mod.kin R.oex.kC all (thn (key.run pos pn s σ H _ inv h) ?_) plain) nodeb)
  rintro ws s1 ⟨zs, H1, inv1, rel, len, q1⟩
  refine ⟨inv1.kIn, ?_⟩
  rw [names]
  have lw : ws.length = flds.length := by rw [← len]; exact (Paired.length rel).symm
  obtain ⟨hp, g, dr, tk1, os⟩ := s1
  generalize ee : hp.objs.size + 1 = me
  have up : hp.objs.size ≤ me := by omega
  have new : H1 me = none := inv1.hok.fresh up
  have kk : ∀ b o, hp.get? b = some o → (bare hp C).get? b = some o := fun b o e => Heap.get?_push_of_some _ (Heap.get?_push_of_some _ e)
  have own : (bare hp C).get? me = some (PySem.HandSPX.excO C hp.objs.size) := by subst ee; heap_get
  have inv2 : L2.Inv X pn σ (upd H1 me (exo me C none)) ⟨bare hp C, g, dr, tk1, os⟩ := inv1.laid (t' := tk1) (a := me) (o := exo me C none) (h' := bare hp C) kk up (exo_ok own)
  have owed : sp_initN X.K C fo flds.length (V.ref me :: zs) (upd H1 me (exo me C none))
      (fun y H2 => y = .non ∧ ∃ (d : Addr) (fs : List (Str × V)), H2 me = some (exo me C (some d)) ∧ H2 d = some (exd d fs) ∧ H1 d = none ∧ Q (.ref C) (some d) (upd (del H2 me) d (.xd fs))) E0 := by
    refine ⟨me, zs, rfl, len, upd_same, fun dx H' n ne e1 e2 e3 => ⟨rfl, dx, fo zs, e1, e2, ?_, ?_⟩⟩
    · rw [upd_ne ne] at n; exact n
    · have n1 : H1 dx = none := by rw [upd_ne ne] at n; exact n
      have same : upd (del H' me) dx (.xd (fo zs)) = upd H1 dx (.xd (fo zs)) := by
        funext c
        by_cases c1 : c = dx
        · rw [c1, upd_same, upd_same]
        · rw [upd_ne c1, upd_ne c1]
          by_cases c2 : c = me
          · rw [c2, del_same, new]
          · rw [del_ne c2, e3 c c2 c1, upd_ne c2]
      rw [same]
      exact q1 dx n1
  have run := F1.run _ X.stack _ _ ⟨[Value.ref me], flds.zip ws⟩ (Value.ref me :: ws) _ _ E0 (room.make C [] (flds.zip ws)) (inv2.env0.make C [] (flds.zip ws)) (B1.to _ [Value.ref me] ws inv2.kIn rfl lw) (show Vals (V.ref me :: zs) (Value.ref me :: ws) from .cons rfl rel) owed
  refine wpAny_call (call_bare (veAt (inv1.kIn _ _ cls) tail) (PySem.W.looks_findIn inv1.kIn i1) (fun self => PySem.W.bind_fn inv1.kIn self i2) (codeAny_mono (by rw [ee]; exact run) ?_))
  rintro (er | fl) s' got
  · exact passN pn σ _ _ er s' inv2 got
  · cases fl with
    | ret y =>
      obtain ⟨v2, H2, os2, bare2, un2, hok2, rv, rfl, d, fs, e1, e2, e3, q2⟩ := got
      obtain ⟨hp2, g2, d2, t2, os2'⟩ := s'
      rw [ee]
      exact ⟨rv, mk_end (raises_own R.oex.exC R.oex.tyC) inv1 up kk un2 hok2 os2 bare2 e1 e2 e3 q2⟩
    | _ => exact got.elim
end
/-! ### an own exception without __init__, made with a text -/
abbrev veLine : List Value := [.type "ValueError", .type "Exception", .type "BaseException", .type "object"]
structure ExcT (K : PySem.W.Frag) (mg : Str → Option Value) (x : Str) (C : Addr) : Prop where
  at_ : mg x = some (.ref C)
  exI : PySem.W.excIn K C veLine "ValueError.__new__" = true
  kept : PySem.W.keepIn K (.ref C) = true
  base : PySem.W.subIn K (.ref C) (.type "BaseException") = some true
  meta_ : PySem.W.typeIn K (.ref C) = some (.type "type")
def excTB (K : PySem.W.Frag) (C : Addr) : Bool := PySem.W.excIn K C veLine "ValueError.__new__" && (PySem.W.keepIn K (.ref C) && (decide (PySem.W.subIn K (.ref C) (.type "BaseException") = some true) && decide (PySem.W.typeIn K (.ref C) = some (.type "type"))))
theorem excTB_ok {K : PySem.W.Frag} {mg : Str → Option Value} {x : Str} {C : Addr} (at_ : mg x = some (.ref C)) (h : excTB K C = true) : ExcT K mg x C := by
  simp only [excTB, Bool.and_eq_true, decide_eq_true_eq] at h
  exact ⟨at_, h.1, h.2.1, h.2.2.1, h.2.2.2⟩
theorem pmk_px {X : Cx} {x m : Str} {C : Addr} {j : Nat} {p p2 pos : Pos} (R : ExcT X.K X.mg x C) (glob : Gl X x := by rfl) (nodeb : (x == ("__debug__" : Str)) = false := by decide) : PMk X (.Call (.Name x p) [.Constant (.str m) j p2] [] pos) (fun _ H Q => Q (.ref C) none H) :=
  pmk_own PySem.F.excBase_ValueError R.exI R.at_ R.kept (raises_own R.base R.meta_) glob nodeb
end HC
/-! len(set(e)) of texts that may be alike, e a tuple or a list -/
namespace HC
open PyProof.Rows PySem L2 PySem.Spec
/-- the texts of a list, each once -/
def accD (l : List Str) : List Str := l.foldl (fun acc z => if z ∈ acc then acc else z :: acc) []
theorem accD_snoc (l : List Str) (z : Str) : accD (l ++ [z]) = if z ∈ accD l then accD l else z :: accD l := by
  show List.foldl _ _ (l ++ [z]) = _
  rw [List.foldl_append]
  rfl
/-- how many there are -/
def dst (l : List Str) : Nat := (accD l).length
theorem snoc_ind {α : Type} {P : List α → Prop} (h0 : P []) (hs : ∀ l x, P l → P (l ++ [x])) (l : List α) : P l := by
  rw [← List.reverse_reverse l]
  induction l.reverse with
  | nil => exact h0
  | cons x r ih => rw [List.reverse_cons]; exact hs _ _ ih
theorem mem_accD (y : Str) (l : List Str) : y ∈ accD l ↔ y ∈ l := by
  refine snoc_ind (P := fun l => y ∈ accD l ↔ y ∈ l) (by simp [accD]) (fun l z ih => ?_) l
  rw [accD_snoc, List.mem_append, List.mem_singleton]
  by_cases h : z ∈ accD l
  · rw [if_pos h, ih]
    exact ⟨.inl, fun q => q.elim id fun e => e ▸ ih.mp (e ▸ h)⟩
  · rw [if_neg h, List.mem_cons, ih]
    exact Or.comm
theorem dst_snoc (l : List Str) (z : Str) : dst (l ++ [z]) = if z ∈ l then dst l else dst l + 1 := by
  unfold dst
  rw [accD_snoc]
  by_cases h : z ∈ l
  · rw [if_pos ((mem_accD z l).mpr h), if_pos h]
  · rw [if_neg fun q => h ((mem_accD z l).mp q), if_neg h, List.length_cons]
theorem dst_le (l : List Str) : dst l ≤ l.length := by
  refine snoc_ind (P := fun l => dst l ≤ l.length) (Nat.le_refl _) (fun l z ih => ?_) l
  rw [dst_snoc, List.length_append, List.length_singleton]
  split <;> omega
theorem nodup_snoc {α : Type} {l : List α} {z : α} : (l ++ [z]).Nodup ↔ l.Nodup ∧ z ∉ l := by
  rw [List.nodup_append]
  constructor
  · rintro ⟨h1, _, h3⟩
    exact ⟨h1, fun m => h3 z m z (by simp) rfl⟩
  · rintro ⟨h1, h2⟩
    refine ⟨h1, by simp, fun a ha b hb e => ?_⟩
    rw [List.mem_singleton] at hb
    exact h2 (hb ▸ e ▸ ha)
theorem dst_nd (l : List Str) : dst l = l.length ↔ l.Nodup := by
  refine snoc_ind (P := fun l => dst l = l.length ↔ l.Nodup) (by simp [dst, accD]) (fun l z ih => ?_) l
  have le := dst_le l
  rw [dst_snoc, nodup_snoc, ← ih, List.length_append, List.length_singleton]
  by_cases h : z ∈ l
  · rw [if_pos h]
    exact ⟨fun e => absurd e (by omega), fun e => absurd h e.2⟩
  · rw [if_neg h]
    exact ⟨fun e => ⟨by omega, h⟩, fun e => by omega⟩
section
variable {P : Program} {w : World} {A : Around} {E : Value → Shared → Prop} {s : Shared} {I S : Addr} {fp wr : List Addr} {Pv : Nat → Value → Prop} {St : Nat → Heap → Prop} {R : Result → Shared → Prop}
/-- the loop over any walk that gives the texts zs -/
theorem fillsD {zs : List Str} (W : Walks P w A.in1 I fp wr zs.length Pv St) (off : S ∉ fp) (room : zs.length + 1 < scanBound) (val : ∀ i v, Pv i v → ∃ z t, zs[i]? = some z ∧ v = Value.str z t) (more : Nat) : ∀ (i : Nat) (s : Shared), i + more = zs.length → St i s.heap →
    s.heap.SetOf (PySem.strKind P w) S (fun z => decide (z ∈ zs.take i)) (dst (zs.take i)) →
    (∀ h' tk, (∀ b o, b ∉ S :: wr → s.heap.get? b = some o → h'.get? b = some o) → h'.SetOf (PySem.strKind P w) S (fun z => decide (z ∈ zs)) (dst zs) → R (.ok (.ret .none)) { s with heap := h', toks := tk }) →
    codeAny (model P w) A (upTurn S I) R s := by
  have offw : S ∉ wr := fun z => off (W.sub _ z)
  induction more with
  | zero =>
    intro i s sum now has done
    obtain rfl : i = zs.length := sum
    rw [List.take_length] at has
    refine upIn (wpAny_bind (W.done s _ _ now fun h' tk same => wpAny_pure (done h' tk (fun b o nb => same b o fun z => nb (.tail _ z)) (setOf_kept has fun o e => same S o offw e))))
  | succ more ih =>
    intro i s sum now has done
    have lt : i < zs.length := by omega
    refine upIn (wpAny_bind (W.item i s _ _ lt now fun v h' tk pv now' same => ?_))
    obtain ⟨z, t, hz, rfl⟩ := val i v pv
    have has' := setOf_kept (h' := h') has fun o e => same S o offw e
    have few : dst (zs.take i) ≤ i := Nat.le_trans (dst_le _) (by simp; omega)
    refine wpAny_bind (wpAny_holding (show wpAny _ _ (setAdd _ _) _ _ _ from ?_))
    unfold setAdd
    refine wpAny_holding (wpAny_bind ((PySem.strKind P w).pyHash (k := z) (PySem.strKind_is P w z t) ?_))
    refine wpAny_setAddHashed_of (knd := PySem.strKind P w) (s := { s with heap := h', toks := tk + 1 }) (PySem.strKind_is P w z t) rfl has' (by omega) fun h2 but has2 => ?_
    have tk1 : zs.take (i + 1) = zs.take i ++ [z] := by rw [List.take_add_one, hz]; rfl
    have has3 : h2.SetOf (PySem.strKind P w) S (fun y => decide (y ∈ zs.take (i + 1))) (dst (zs.take (i + 1))) := SetOf_congr has2 (fun y => by rw [tk1]; simp [List.mem_append]) (by
      rw [tk1, dst_snoc]
      by_cases m : z ∈ zs.take i <;> simp [m])
    refine wpAny_pure ⟨plainId_quiet F.plain_set_update_loop _, ih (i + 1) _ (by omega) (W.frame _ _ _ now' fun b hb o e => ?_) has3 fun h3 tk3 same3 fin => done h3 tk3 (fun b o nb e => same3 b o nb ?_) fin⟩
    · show h2.get? b = some o
      rw [but.2 b fun q => off (q ▸ hb)]; exact e
    · show h2.get? b = some o
      rw [but.2 b fun q => nb (q ▸ .head _)]; exact same b o (fun q => nb (.tail _ q)) e
/-- set(t), t a tuple -/
theorem call_setT {l : Addr} {cells : Array Value} {zs : List Str} {Q : Value → Shared → Prop} (calm : A.handled = none) (tup : s.heap.IsTuple l cells) (size : cells.size = zs.length) (texts : ∀ (i : Nat) (v : Value), cells[i]? = some v → ∃ z t, zs[i]? = some z ∧ v = Value.str z t) (room : zs.length + 1 < scanBound)
    (go : ∀ h' tk, h'.SetOf (PySem.strKind P w) s.heap.objs.size (fun z => decide (z ∈ zs)) (dst zs) → (∀ b o, s.heap.get? b = some o → h'.get? b = some o) → Q (.ref s.heap.objs.size) { s with heap := h', toks := tk }) :
    wpAny (model P w) A (call (Value.type "set") [Value.ref l]) Q E s := by
  refine callType_by F.called_set (F.typeCall_set_1 _) (code_set_new_1 (.ref l) (Q₁ := fun obj s1 => obj = .ref s.heap.objs.size ∧ ∃ led, s1 = { s with heap := s.heap.push { cls := .type "set", dict := none, data := .set #[] 0 (.fresh 0 0 led) } }) fun led => ⟨rfl, led, rfl⟩) ?_
  rintro _ _ ⟨rfl, led, rfl⟩
  generalize e0 : s.heap.push { cls := .type "set", dict := none, data := .set #[] 0 (.fresh 0 0 led) } = h0
  have at_ : h0.get? s.heap.objs.size = some { cls := .type "set", dict := none, data := .set #[] 0 (.fresh 0 0 led) } := by rw [← e0]; exact Heap.get?_push_size _ rfl
  have up0 : ∀ b o, s.heap.get? b = some o → h0.get? b = some o := fun b o e => by rw [← e0]; exact Heap.get?_push_of_some _ e
  have sz : h0.objs.size = s.heap.objs.size + 1 := by rw [← e0]; exact Heap.size_push ..
  have is : Shared.TypeIs { s with heap := h0 } (.ref s.heap.objs.size) "set" := ⟨_, at_, rfl⟩
  have n1 : isSubtype (.type "tuple") (.type "set") = pure false := by rw [isSubtype_type]; kernel_rfl
  have n2 : isSubtype (.type "tuple") (.type "frozenset") = pure false := by rw [isSubtype_type]; kernel_rfl
  have low : l < s.heap.objs.size := let ⟨o, z, _⟩ := tup; Heap.lt_size z
  have tup' : h0.IsTuple l cells := tup.at fun o e => up0 l o e
  obtain ⟨⟨c, dct, dt, sl⟩, getT, clsT, n, datT⟩ := id tup'
  dsimp only at clsT datT
  subst clsT datT
  refine ⟨is, codeAny_call_builtin F.called_set.init.plain F.entry_set_init (check_set_init_1 is ?_)⟩
  unfold Builtin.«set.__init__»
  wp_walk using PySem.AutoSeq1.wpAny_loadPart' at_, PySem.AutoSeq1.wpAny_loadPart' getT, wpAny_pyIter_tuple tup'
  have W := Walks.tuple (prog := P) (w := w) (A := A.in1.in1.in1) calm h0.objs.size l (by rw [sz]; exact Nat.ne_of_lt (Nat.lt_succ_of_lt low)) cells
  rw [size] at W
  refine fillsD (S := s.heap.objs.size) W ?_ room (fun i v h => texts i v h) zs.length 0 _ (Nat.zero_add _) ⟨⟨_, Heap.get?_push_size _ rfl, rfl, rfl⟩, tup'.at fun o e => Heap.get?_push_of_some _ e⟩ ?_ ?_
  · simp only [List.mem_cons, List.not_mem_nil, or_false, not_or, sz]
    exact ⟨Nat.ne_of_lt (Nat.lt_succ_self _), Ne.symm (Nat.ne_of_lt low)⟩
  · exact SetOf_congr ((setObjOf_fresh led).setOf (Heap.get?_push_of_some _ at_) (by decide)) (fun y => by simp) rfl
  · intro h' tk same fin
    refine wpAny_pure (wpAny_pure ⟨rfl, go h' tk fin fun b o e => same b o ?_ (Heap.get?_push_of_some _ (up0 b o e))⟩)
    have lt := Heap.lt_size e
    simp only [List.mem_cons, List.not_mem_nil, or_false, not_or, sz]
    exact ⟨Nat.ne_of_lt lt, Nat.ne_of_lt (Nat.lt_succ_of_lt lt)⟩
/-- set(l), l a list -/
theorem call_setL {l : Addr} {cells : Array Value} {zs : List Str} {Q : Value → Shared → Prop} (calm : A.handled = none) (tup : s.heap.IsList l cells) (size : cells.size = zs.length) (texts : ∀ (i : Nat) (v : Value), cells[i]? = some v → ∃ z t, zs[i]? = some z ∧ v = Value.str z t) (room : zs.length + 1 < scanBound)
    (go : ∀ h' tk, h'.SetOf (PySem.strKind P w) s.heap.objs.size (fun z => decide (z ∈ zs)) (dst zs) → (∀ b o, s.heap.get? b = some o → h'.get? b = some o) → Q (.ref s.heap.objs.size) { s with heap := h', toks := tk }) :
    wpAny (model P w) A (call (Value.type "set") [Value.ref l]) Q E s := by
  refine callType_by F.called_set (F.typeCall_set_1 _) (code_set_new_1 (.ref l) (Q₁ := fun obj s1 => obj = .ref s.heap.objs.size ∧ ∃ led, s1 = { s with heap := s.heap.push { cls := .type "set", dict := none, data := .set #[] 0 (.fresh 0 0 led) } }) fun led => ⟨rfl, led, rfl⟩) ?_
  rintro _ _ ⟨rfl, led, rfl⟩
  generalize e0 : s.heap.push { cls := .type "set", dict := none, data := .set #[] 0 (.fresh 0 0 led) } = h0
  have at_ : h0.get? s.heap.objs.size = some { cls := .type "set", dict := none, data := .set #[] 0 (.fresh 0 0 led) } := by rw [← e0]; exact Heap.get?_push_size _ rfl
  have up0 : ∀ b o, s.heap.get? b = some o → h0.get? b = some o := fun b o e => by rw [← e0]; exact Heap.get?_push_of_some _ e
  have sz : h0.objs.size = s.heap.objs.size + 1 := by rw [← e0]; exact Heap.size_push ..
  have is : Shared.TypeIs { s with heap := h0 } (.ref s.heap.objs.size) "set" := ⟨_, at_, rfl⟩
  have n1 : isSubtype (.type "list") (.type "set") = pure false := by rw [isSubtype_type]; kernel_rfl
  have n2 : isSubtype (.type "list") (.type "frozenset") = pure false := by rw [isSubtype_type]; kernel_rfl
  have low : l < s.heap.objs.size := let ⟨o, z, _⟩ := tup; Heap.lt_size z
  have tup' : h0.IsList l cells := tup.at fun o e => up0 l o e
  obtain ⟨⟨c, dct, dt, sl⟩, getT, clsT, n, datT⟩ := id tup'
  dsimp only at clsT datT
  subst clsT datT
  refine ⟨is, codeAny_call_builtin F.called_set.init.plain F.entry_set_init (check_set_init_1 is ?_)⟩
  unfold Builtin.«set.__init__»
  wp_walk using PySem.AutoSeq1.wpAny_loadPart' at_, PySem.AutoSeq1.wpAny_loadPart' getT, wpAny_pyIter_list tup'
  have W := Walks.list (prog := P) (w := w) (A := A.in1.in1.in1) calm h0.objs.size l (by rw [sz]; exact Nat.ne_of_lt (Nat.lt_succ_of_lt low)) cells
  rw [size] at W
  refine fillsD (S := s.heap.objs.size) W ?_ room (fun i v h => texts i v h) zs.length 0 _ (Nat.zero_add _) ⟨⟨_, Heap.get?_push_size _ rfl, rfl, rfl⟩, tup'.at fun o e => Heap.get?_push_of_some _ e⟩ ?_ ?_
  · simp only [List.mem_cons, List.not_mem_nil, or_false, not_or, sz]
    exact ⟨Nat.ne_of_lt (Nat.lt_succ_self _), Ne.symm (Nat.ne_of_lt low)⟩
  · exact SetOf_congr ((setObjOf_fresh led).setOf (Heap.get?_push_of_some _ at_) (by decide)) (fun y => by simp) rfl
  · intro h' tk same fin
    refine wpAny_pure (wpAny_pure ⟨rfl, go h' tk fin fun b o e => same b o ?_ (Heap.get?_push_of_some _ (up0 b o e))⟩)
    have lt := Heap.lt_size e
    simp only [List.mem_cons, List.not_mem_nil, or_false, not_or, sz]
    exact ⟨Nat.ne_of_lt lt, Nat.ne_of_lt (Nat.lt_succ_of_lt lt)⟩
end
/-- len(set(e)), e a tuple or a list of texts -/
def tLenSetD (K : PySem.W.Frag) (te : TE) : TE := fun σ H Q => te σ H fun y H1 => ∃ (a : Addr) (zs : List Str), y = V.ref a ∧ (SqT K H1 a (zs.map V.str) ∨ SqL K H1 a (zs.map V.str)) ∧ zs.length ≤ 1000 ∧ Q (.int (dst zs)) H1
theorem texts_of {zs : List Str} {cells : List Value} (vals : Vals (zs.map V.str) cells) : cells.toArray.size = zs.length ∧ ∀ (i : Nat) (v : Value), cells.toArray[i]? = some v → ∃ z t, zs[i]? = some z ∧ v = Value.str z t := by
  have len : cells.length = zs.length := by
    have := vals.length
    simpa using this.symm
  refine ⟨by simpa using len, fun i v at_ => ?_⟩
  rw [List.getElem?_toArray] at at_
  have lt : i < zs.length := by
    have := (List.getElem?_eq_some_iff.mp at_).1
    omega
  obtain ⟨u, hu, ru⟩ := vals.get (i := i) (x := V.str zs[i]) (by simp [lt])
  rw [hu] at at_
  cases at_
  obtain ⟨t, rfl⟩ := ru
  exact ⟨zs[i], t, List.getElem?_eq_getElem lt, rfl⟩
theorem pe_lenSetD {X : Cx} (K' : PySem.W.Frag) {e : Expr} {te : TE} {p p2 q pos : Pos} (m : Bts X.mg) (arg : PE X e te) (calm : X.calm = true := by rfl) (gl : Gl X "len" := by rfl) (gs : Gl X "set" := by rfl) (one : starEach [e] X.env = (false, eval e X.env) :: starEach [] X.env := by rfl) (hK : X.K = K' := by rfl) :
    PE X (.Call (.Name "len" p) [.Call (.Name "set" p2) [e] [] q] [] pos) (tLenSetD K' te) := by
  subst hK
  constructor
  intro pn s σ H Q inv h
  refine Call_ (ld_blt inv gl m.len PySem.boot_len (PyProof.Rows.callWith_builtin1 (PyProof.Rows.args_cons (Call_ (ld_blt inv gs m.set PyProof.Rows.boot_set (PyProof.Rows.callWith_type1 (PyProof.Rows.args_cons (thn (arg.run pn s σ H _ inv h) ?_) one) one rfl))) rfl) rfl rfl))
  rintro v s1 ⟨y, H1, inv1, rel, a, zs, rfl, sq, few, q⟩
  cases rel
  have fin : ∀ h' tk, h'.SetOf (PySem.strKind X.prog X.w) s1.heap.objs.size (fun z => decide (z ∈ zs)) (dst zs) → (∀ b o, s1.heap.get? b = some o → h'.get? b = some o) →
      wpAny (model X.prog X.w) X.A (call (.builtin "len") [.ref s1.heap.objs.size]) (EP X pn σ Q) X.xe { s1 with heap := h', toks := tk } := fun h' tk has same => by
    obtain ⟨o, es, ep, tb, at_, exact_, dat, _, _, _, fits, num⟩ := has
    have inv2 : L2.Inv X pn σ H1 { s1 with heap := h', toks := tk } := inv1.kept same
    have := dst_le zs
    exact call_len_set at_ exact_ dat fits (by rw [num]; omega) ⟨V.int (dst zs), H1, inv2.tok _, ⟨_, by rw [num]⟩, q⟩
  have rm : zs.length + 1 < scanBound := by unfold scanBound; omega
  apply PyProof.Rows.args_nil
  rcases sq with sq | sq
  · obtain ⟨cells, vals, tup, _⟩ := inv1.tuple sq
    obtain ⟨size, texts⟩ := texts_of vals
    exact call_setT (inv1.ok.hd calm) tup size texts rm fun h' tk has same => PyProof.Rows.args_nil (fin h' tk has same)
  · obtain ⟨cells, vals, ⟨o, n, at_, hc, _, hd⟩, _⟩ := inv1.list sq
    obtain ⟨size, texts⟩ := texts_of vals
    exact call_setL (inv1.ok.hd calm) ⟨o, at_, hc, n, hd⟩ size texts rm fun h' tk has same => PyProof.Rows.args_nil (fin h' tk has same)
def LsD (K : PySem.W.Frag) (Q : VK) : VK := fun y H1 => ∃ (a : Addr) (zs : List Str), y = V.ref a ∧ (SqT K H1 a (zs.map V.str) ∨ SqL K H1 a (zs.map V.str)) ∧ zs.length ≤ 1000 ∧ Q (.int (dst zs)) H1
theorem g_lenSetD {K : PySem.W.Frag} {te : TE} {σ : L2.St} {H : Hp} {Q : VK} (h : te σ H (LsD K Q)) : tLenSetD K te σ H Q := h
theorem n_lenSetD {K : PySem.W.Frag} {H : Hp} {Q : VK} {a : Addr} {zs : List Str} (h1 : SqT K H a (zs.map V.str) ∨ SqL K H a (zs.map V.str)) (h3 : zs.length ≤ 1000) (h : Q (.int (dst zs)) H) : LsD K Q (.ref a) H := ⟨a, zs, rfl, h1, h3, h⟩
end HC
set_option maxHeartbeats 990000
/-! a comprehension whose element may raise -/
namespace HC
open PyProof.Rows PySem L2 PySem.Spec
theorem noteFrame_as {e : Value} {a b : Env} (h : a.frame = b.frame) : noteFrame e a = noteFrame e b := by
  unfold noteFrame PySem.frameOf
  rw [h]
theorem frames_off {B h h' : Heap} {C : Addr} (same : ∀ b, b ≠ C → h'.get? b = h.get? b) : ∀ {l : List Env}, C ∉ frs l → h.FunFrames B l → h'.FunFrames (PySem.W.hideAll B [C]) l
  | [], _, _ => trivial
  | env :: r, no, hl => by
    obtain ⟨k, ⟨L, o, fr, free, at_, nf⟩, more⟩ := hl
    have split : frs (env :: r) = L :: frs r := by unfold frs; rw [List.filterMap_cons, fr]
    rw [split] at no
    have ne : L ≠ C := fun e => no (e ▸ List.mem_cons_self)
    refine ⟨k, ⟨L, o, fr, ?_, (same L ne).trans at_, nf⟩, frames_off same (fun z => no (List.mem_cons_of_mem _ z)) more⟩
    cases q : (PySem.W.hideAll B [C]).get? L with
    | none => rfl
    | some o' => exact absurd (PySem.W.of_hideAll _ q) (by rw [free]; exact nofun)
/-- what the block of a comprehension of X wants of an exception -/
abbrev blkE (X : Cx) (s : Shared) (H : Hp) (scope : Scope) (ce : Env) (fp : List Addr) : Cx := (X.blk s H scope ce fp).wish (notedBy (model X.prog X.w) X.A ce (CompFails (model X.prog X.w) X.A X.xe ce))
section
variable {X : Cx} {W : WX} {ce : Env} {u : Value} {s' : Shared} {m : Str → Option Value}
/-- an exception in X's air lets the block's names go, and flies on -/
theorem air_block (hs : X.stack = X.env :: X.outer) (hf : X.env.frame = some X.env.locals) (hce : ce.frame = X.env.frame) (hpn : X.pn = []) (new : X.s_0.heap.objs.size ≤ ce.locals) (nL : ce.locals ≠ X.env.locals) (nc : ∀ y c, X.env.cells.lookup y = some c → c ≠ ce.locals) (nf : ce.locals ∉ frs X.stack)
    (tk : Takes X W) (ns : s'.heap.Ns ce.locals m) (x : XE X (fun cls d σ H => H ce.locals = none ∧ W cls d σ H) u s') : notedBy (model X.prog X.w) X.A ce (CompFails (model X.prog X.w) X.A X.xe ce) u s' := by
  obtain ⟨a, B, sI, pins, σ, H, cls, d, rfl, inv, nb, up, sky, na, os, ag, free, w⟩ := x
  have hfr : X.A.frames = some (X.env :: X.outer) := by rw [inv.ok.frames, hs]
  have after : ∀ h1, HandSPX.HeldZ B (X.env :: X.outer) a (Zc cls d) X.env.locals h1 → s'.heap.UpToSlots h1 → CompFails (model X.prog X.w) X.A X.xe ce (.ref a) { s' with heap := h1 } := fun h1 held up1 => by
    obtain ⟨o, es, ep, ho, hd, hm⟩ := ns
    obtain ⟨sl, ho1⟩ := up1 _ o ho (by rw [hd]; exact nofun)
    refine ⟨m, ⟨_, es, ep, ho1, hd, hm⟩, fun h2 m2 _ sb => ?_⟩
    have same := sb.2
    obtain ⟨stay, fresh, frames, oe, vs, T, oT, ts, he, hz, hde, hv, hnT, hTe, hT, hdT, h3⟩ := held
    have off : ∀ {b : Addr} {ob : Obj} {xs : Array Value}, h1.get? b = some ob → ob.data = .fields xs → b ≠ ce.locals := fun {b ob xs} hb hx e => by
      rw [e, ho1] at hb
      cases hb
      rw [hd] at hx
      cases hx
    have hide : ∀ {h : Heap} {b : Addr} {ob : Obj}, (PySem.W.hideAll h [ce.locals]).get? b = some ob → b ≠ ce.locals ∧ h.get? b = some ob := fun {h b ob} e => by
      refine ⟨fun z => ?_, PySem.W.of_hideAll _ e⟩
      rw [PySem.W.hideAll_none [ce.locals] (by rw [z]; exact List.mem_cons_self)] at e
      cases e
    have gone : ∀ {b : Addr}, B.get? b = none → (PySem.W.hideAll B [ce.locals]).get? b = none := fun {b} n => by
      cases q : (PySem.W.hideAll B [ce.locals]).get? b with
      | none => rfl
      | some ob => rw [(hide q).2] at n; cases n
    have he2 := (same a (off he hde)).trans he
    have held2 : HandSPX.HeldZ (PySem.W.hideAll B [ce.locals]) (X.env :: X.outer) a (Zc cls d) X.env.locals h2 :=
      ⟨fun b ob e => (same b (hide e).1).trans (stay b ob (hide e).2), gone fresh, frames_off same (hs ▸ nf) frames, oe, vs, T, oT, ts, he2, hz, hde, hv, gone hnT, hTe, (same T (off hT hdT)).trans hT, hdT, h3⟩
    unfold PySem.passOn
    refine wpAny_bind (wpAny_field he2 hde hv ?_)
    rw [if_neg (by simp), hce, hf]
    refine wpAny_bind (HandSPX.setFlight_onZ held2 fun h3 held3 up3 => ?_)
    refine wpAny_throw (tk (.ref a) { s' with heap := h3 } ?_)
    refine ⟨a, _, { sI with heap := PySem.W.hideAll sI.heap [ce.locals] }, [], σ, H, cls, d, rfl, ?_, fun b ob e hb => ?_, fun b ob e hx => ?_, .inr (.inr (hs ▸ held3)), na, os, ag, w⟩
    · refine (inv.pins_of (pins' := []) (fun p hp => nomatch hp)).turned (t' := sI.toks) (it := ce.locals) (fun b ob ne e => PySem.W.hideAll_get _ e (by simpa using ne)) free nL (.inr new) nc fun p hp => ?_
      rw [hpn] at hp
      cases hp
    · exact PySem.W.hideAll_get _ (nb b ob (hide e).2 hb) (by simpa using (hide e).1)
    · obtain ⟨s1, e1⟩ := up b ob (hide e).2 hx
      obtain ⟨s2, e2⟩ := up1 b _ e1 hx
      obtain ⟨s3, e3⟩ := up3 b _ ((same b (hide e).1).trans e2) hx
      exact ⟨s3, e3⟩
  unfold notedBy
  rw [noteFrame_as hce]
  rw [hs] at sky
  rcases sky with ⟨hB, hn, hl, oe, vs, he, hz, hd, h1⟩ | fl | hh
  · exact HandSPX.look_newZ Zc.steady hfr hl hf he hB hn hd h1 hz after
  · exact HandSPX.looks_onZ Zc.steady hfr hf fl after
  · exact HandSPX.againZ hf hh.2.2.2 (after s'.heap hh (Heap.UpToSlots.refl _))
theorem pz_blkE {E : XK} {s : Shared} {H : Hp} {scope : Scope} {fp : List Addr} (hs : X.stack = X.env :: X.outer) (hf : X.env.frame = some X.env.locals) (hce : ce.frame = X.env.frame) (hpn : X.pn = []) (new : X.s_0.heap.objs.size ≤ ce.locals) (nL : ce.locals ≠ X.env.locals)
    (nc : ∀ y c, X.env.cells.lookup y = some c → c ≠ ce.locals) (nf : ce.locals ∉ frs X.stack) (tk : Takes X W) (hW : ∀ cls d σ H, E cls d H → W cls d σ H) (mine : ∀ (pins' : List (Addr × Obj)) (σ' : L2.St) (H' : Hp) (s' : Shared), L2.Inv (blkE X s H scope ce fp) pins' σ' H' s' → ∃ pinsX σX, L2.Inv X pinsX σX H' s') :
    Passes (CXW X.prog X.w) (blkE X s H scope ce fp) E := by
  rintro pins' σ' H1 s1 e s2 inv ⟨a, B, H', cls, d, rfl, fl, hok, ub, na, os, ag, hE⟩
  obtain ⟨m, ⟨o, es, ep, ho, hd, hm⟩, _⟩ := inv.loc
  have free : H1 ce.locals = none := inv.free
  obtain ⟨pinsX, σX, invX⟩ := mine _ _ _ _ inv
  have at2 : s2.heap.get? ce.locals = some o := fl.1 _ _ (ub.keep _ o ho free nf)
  refine air_block hs hf hce hpn new nL nc nf tk ⟨o, es, ep, at2, hd, hm⟩ (XE.of_call (E := fun cls d H => H ce.locals = none ∧ E cls d H) invX (fun cls d H' z => ⟨z.1, hW _ _ _ _ z.2⟩) ⟨a, B, H', cls, d, rfl, fl, hok, ub, na, os, ag, ub.free _ o ho free, hE⟩)
end
section
variable {X : Cx}
theorem pe_lcE {elt tg iter : Expr} {E : XK} {W : WX} {scope : Scope} {own : List (Str × Nat)} {pos : Pos} {wi : TI} {g : TG} {te : TE} (hs : X.stack = X.env :: X.outer) (hf : X.env.frame = some X.env.locals) (hpn : X.pn = []) (tk : Takes X W) (hW : ∀ cls d σ H, E cls d H → W cls d σ H) (calm : X.calm = true) (nodup : X.N.Nodup) (hi : PI X tg iter wi) (ok : BlkOk X.N X.env.scope scope own)
    (hg : ∀ (s : Shared) (H : Hp) (C : Addr) (cl : List (Str × Addr)) (fp : List Addr), PG (X.blk s H scope (compEnvC scope cl C X.env) fp) tg g)
    (he : ∀ (s : Shared) (H : Hp) (C : Addr) (cl : List (Str × Addr)) (fp : List Addr), Passes (CXW X.prog X.w) (blkE X s H scope (compEnvC scope cl C X.env) fp) E → PE (blkE X s H scope (compEnvC scope cl C X.env) fp) elt te)
    (folds : ∀ x, foldedSetIterable iter X.env x = pure x := by intro _; rfl) :
    PE X (.ListComp elt [⟨tg, iter, [], 0⟩] scope pos) (tLc wi g tYes te (own.map (·.2))) := by
  constructor
  intro pins s σ H Q inv h
  rw [eval_ListComp]
  have closed : ∀ y ∈ scope.names, y.2 = .free → ∃ c, X.env.cells.lookup y.1 = some c := fun y hy e => (ok.free y hy e).elim (fun z => inv.ok.has _ (.inl z)) fun z => inv.ok.has _ (.inr z)
  refine comprehension_at (use := none) rfl folds (closure_ok closed) ok.kind (fun y hy e => by rw [ok.uniq y hy, e]) (thn (hi.run pins s σ H _ inv h) fun xv s1 got => thn got ?_)
  rintro _ s2 ⟨it, fp, tn, J, H2, rfl, inv2, turns, now, off, q⟩
  refine wpAny_newObj_type (newEnv_comp (show _ from ?_)) (by show 0 ≤ sizeLine; decide)
  obtain ⟨W, ⟨m0, w0⟩, turn⟩ := q s2.heap.objs.size (inv2.hok.fresh (Nat.le_refl _))
  have keep3 : ∀ b o, s2.heap.get? b = some o → (s2.heap.push { cls := .type "list", data := .seq ([] : List Value).toArray }).get? b = some o := fun b o e => Heap.get?_push_of_some _ e
  obtain ⟨s3, e3, D, eD⟩ : ∃ s3 : Shared, s3 = { s2 with heap := s2.heap.push { cls := .type "list", data := .seq ([] : List Value).toArray } } ∧ ∃ D, D = s2.heap.objs.size := ⟨_, rfl, _, rfl⟩
  rw [← e3]
  rw [← eD] at w0 turn ⊢
  have inv3 : L2.Inv X pins σ (upd H2 D (.lst [])) s3 := by
    rw [e3, eD]
    exact inv2.laid (t' := s2.toks) keep3 (Nat.le_refl _) ⟨Nat.zero_le _, [], 0, .nil, Heap.get?_push_size _ rfl⟩
  have keep3' : ∀ b o, s2.heap.get? b = some o → s3.heap.get? b = some o := by rw [e3]; exact keep3
  have low : ∀ b ∈ fp, b < s2.heap.objs.size := fun b hb => Heap.lt_size (turns.obj _ _ now b hb).choose_spec.1
  have off3 : ∀ b ∈ fp, FpOk X pins (upd H2 D (.lst [])) b ∧ b < s3.heap.objs.size := fun b hb => by
    refine ⟨⟨?_, (off b hb).2⟩, ?_⟩
    · rw [upd_ne (by rw [eD]; exact Nat.ne_of_lt (low b hb))]
      exact (off b hb).1
    · obtain ⟨o, z, _⟩ := turns.obj _ _ now b hb
      exact Heap.lt_size (keep3' b o z)
  have now3 : tn 0 s3.heap := turns.keep _ _ _ now fun b _ o e => keep3' b o e
  have blk := block_start inv3 ok nodup off3
  obtain ⟨H3, eH⟩ : ∃ H3, H3 = upd H2 D (.lst []) := ⟨_, rfl⟩
  rw [← eH] at w0 inv3 off3 blk
  obtain ⟨cl, ecl⟩ : ∃ cl, cl = cellsFrom (s3.heap.objs.size + 1) scope.names (cloFrom X.env.cells scope.names []) := ⟨_, rfl⟩
  have pg := hg s3 H3 s3.heap.objs.size cl fp
  have yes : PTs (X.blk s3 H3 scope (compEnvC scope cl s3.heap.objs.size X.env) fp) [] tYes := pts_nil
  rw [← ecl] at blk
  show codeAny _ _ (.compStart (.ListComp elt [⟨tg, iter, [], 0⟩] scope pos) 0 (.ref it) (.ref D) (compEnvC scope (cellsFrom (s3.heap.objs.size + 1) scope.names (cloFrom X.env.cells scope.names [])) s3.heap.objs.size X.env)) (compEnds (model X.prog X.w) X.A X.xe none (EP X pins σ Q) (.ref D) (compEnvC scope (cellsFrom (s3.heap.objs.size + 1) scope.names (cloFrom X.env.cells scope.names [])) s3.heap.objs.size X.env)) { s3 with heap := pushCells (s3.heap.push { cls := .type "dict", data := .dict #[] }) scope.names }
  rw [← ecl]
  have mine : ∀ {pins' : List (Addr × Obj)} {σ' : L2.St} {H' : Hp} {s' : Shared}, L2.Inv (X.blk s3 H3 scope (compEnvC scope cl s3.heap.objs.size X.env) fp) pins' σ' H' s' → L2.Inv X pins σ H' s' := fun {pins' σ' H' s'} i' => by
    refine inv3.call' (ch := fp) i'.os i'.base i'.hok i'.bare fun b hb => ?_
    obtain ⟨_, a1, a2, a3, a4, a5⟩ := (off3 b hb).1
    exact ⟨a3, a1, a4, a5⟩
  have pe := he s3 H3 s3.heap.objs.size cl fp (pz_blkE hs hf rfl hpn (Nat.le_trans inv3.ok.above (Nat.le_of_lt inv3.lt)) (fun e => absurd inv3.lt (by rw [← e]; exact Nat.lt_irrefl _)) (fun y c e q => by
      obtain ⟨v, o, ho, _⟩ := inv3.cell y c e
      have := Heap.lt_size ho
      rw [q] at this
      exact Nat.lt_irrefl _ this) (fun z => by
      have := inv3.stkSub _ z
      rcases List.mem_cons.mp this with q | q
      · exact absurd inv3.lt (by rw [← q]; exact Nat.lt_irrefl _)
      · exact inv3.nofs (Nat.le_refl _) q) tk hW fun _ _ _ _ i' => ⟨_, _, mine (Inv.unwish i')⟩)
  obtain ⟨ce, ece, cL⟩ : ∃ ce, ce = compEnvC scope cl s3.heap.objs.size X.env ∧ ce.locals = s3.heap.objs.size := ⟨_, rfl, rfl⟩
  rw [← ece] at blk pg pe yes mine ⊢
  obtain ⟨s4, e4⟩ : ∃ s4 : Shared, s4 = { s3 with heap := pushCells (s3.heap.push { cls := .type "dict", data := .dict #[] }) scope.names } := ⟨_, rfl⟩
  rw [← e4] at blk ⊢
  have now4 : tn 0 s4.heap := turns.keep _ _ _ now3 fun b _ o e => by rw [e4]; exact pushCells_keeps _ _ _ _ (Heap.get?_push_of_some _ e)
  have none3 : ∀ b ∈ fp, H3 b = none := fun b hb => (off3 b hb).1.1
  have still : ∀ {σ' : L2.St} {H' : Hp} {s' : Shared}, L2.Inv (X.blk s3 H3 scope ce fp) [] σ' H' s' → (∀ b ∈ fp, H' b = none) → ∀ b ∈ fp, FpOk (X.blk s3 H3 scope ce fp) [] H' b := fun {σ' H' s'} i' hn b hb =>
    ⟨hn b hb, (i'.ok.exf b hb).1, i'.ok.exfs b hb, .inl hb, (i'.ok.exf b hb).2, fun p hp => absurd (show p ∈ ([] : List (Addr × Obj)) ++ [] from hp) (by simp)⟩
  have back : ∀ (s6 : Shared) (H5 : Hp) (m : Str → Option Value), L2.Inv X pins σ H5 s6 → Q (.ref D) H5 → s6.heap.Ns s3.heap.objs.size m → FpOk X pins H5 s3.heap.objs.size → compEnds (model X.prog X.w) X.A X.xe none (EP X pins σ Q) (.ref D) ce (.ok .next) s6 := by
    rintro s6 H5 m i6 q6 ns ⟨f0, f1, f2, f3, f4, f5⟩
    exact ⟨m, cL ▸ ns, fun h'' sb => ⟨.ref D, H5, i6.turned (t' := s6.toks) (fun b o hb e => (sb.2 b (cL ▸ hb)).trans e) f0 f1 f3 f4 f5, rfl, q6⟩⟩
  have loop : codeAny (model X.prog X.w) X.A (.compLoop (.ListComp elt [⟨tg, iter, [], 0⟩] scope pos) 0 (.ref it) (.ref D) ce) (compEnds (model X.prog X.w) X.A X.xe none (EP X pins σ Q) (.ref D) ce) s4 := by
    refine compLoop_any (fun n s' => ∃ i H', L2.Inv (X.blk s3 H3 scope ce fp) [] (wipe σ (own.map (·.2))) H' s' ∧ tn i s'.heap ∧ (∀ b ∈ fp, H' b = none) ∧ W i n H') ?_ m0 ⟨0, H3, blk, now4, none3, w0⟩
    rintro n s5 ⟨i, H5, inv5, now5, none5, w5⟩
    rcases turn i n H5 w5 with ⟨stop, qq⟩ | ⟨go, Nx, less, step⟩
    · refine thnF (turns.done (X.blk s3 H3 scope ce fp) rfl rfl rfl calm i [] s5 _ H5 (fun _ _ => False) inv5 (still inv5 none5) now5 stop) ?_
      rintro _ s6 ⟨rfl, inv6⟩
      obtain ⟨m, ns, _⟩ := inv6.loc
      have ns : s6.heap.Ns ce.locals m := ns
      have nC : H5 ce.locals = none := inv6.free
      rw [cL] at ns nC
      refine back s6 H5 m (inv3.call' (ch := fp) inv6.os inv6.base inv6.hok inv6.bare fun b hb => ?_) qq ns (inv3.fpOk (Nat.le_refl _) nC)
      obtain ⟨_, a1, a2, a3, a4, a5⟩ := (off3 b hb).1
      exact ⟨a3, a1, a4, a5⟩
    · refine thnF (turns.item (X.blk s3 H3 scope ce fp) rfl rfl rfl calm i [] s5 _ H5 (fun _ _ => False) inv5 (still inv5 none5) now5 go) ?_
      rintro _ s6 ⟨u, rfl, h6⟩
      refine thnF h6 ?_
      rintro _ s7 ⟨x, H7, inv7, r7, y7, now7, none7⟩
      refine thnF (pg.run _ s7 _ H7 x u _ (inv7.pinned (still inv7 none7) (turns.obj _ _ now7)) r7 (step x H7 y7)) ?_
      rintro _ s8 ⟨σ8, H8, inv8, wiped, q8⟩
      refine thnF (yes.run _ s8 σ8 H8 _ inv8 q8) ?_
      rintro b s9 ⟨H9, inv9, q9⟩
      have fin : ∀ {s' : Shared} {H' : Hp}, L2.Inv (X.blk s3 H3 scope ce fp) ([] ++ pinsAt fp s7.heap) σ8 H' s' → Nx H' → ∃ m, m < n ∧ ∃ i H', L2.Inv (X.blk s3 H3 scope ce fp) [] (wipe σ (own.map (·.2))) H' s' ∧ tn i s'.heap ∧ (∀ b ∈ fp, H' b = none) ∧ W i m H' := fun {s' H'} i' nx => by
        obtain ⟨m', lt, w'⟩ := less H' nx
        have pin' : ∀ b ∈ fp, ∀ o, s7.heap.get? b = some o → s'.heap.get? b = some o ∧ H' b = none := fun b hb o e => by
          have z := i'.pin (b, o) (List.mem_append_right _ (List.mem_append_right _ (mem_pinsAt hb e)))
          exact ⟨z.1, z.2.1⟩
        have len : (wipe σ (own.map (·.2))).length = σ8.length := by rw [← wiped, wipe_length]
        refine ⟨m', lt, i + 1, H', (i'.unpinned (pins := [])).weak len (fun j v e => ?_), turns.keep _ _ _ now7 fun b hb o e => (pin' b hb o e).1, fun b hb => ?_, w'⟩
        · rw [← wiped] at e
          exact (wipe_some e).1
        · exact (pin' b hb _ (turns.obj _ _ now7 b hb).choose_spec.1).2
      cases b with
      | false =>
        rw [if_neg (by decide)] at q9
        exact fin inv9 q9
      | true =>
        rw [if_pos rfl] at q9
        refine thn (pe.run _ s9 σ8 H9 _ (inv9.wish _) q9) ?_
        rintro z s10 ⟨yv, H10, inv10, r10, acc, at10, few, nx⟩
        exact app_ok (X := X.blk s3 H3 scope ce fp) (Inv.unwish inv10) at10 few r10 fun s11 inv11 => fin inv11 nx
  exact codeAny_compStart_list loop (turns.self X.A 0 _ _ _ now4 loop)
end
end HC
namespace HC
open PyProof.Rows PySem L2 PySem.Spec
local macro_rules | `(tactic| walk_at "sm") => `(tactic| first | assumption | exact Same.refl _ | (refine Same.trans ?_ (by assumption); walk_at "sm"))
local macro_rules | `(tactic| walk_at "hp") => `(tactic| first
  | assumption | exact upd_same
  | ((with_reducible refine same_at (by assumption) ?_); walk_at "hp") | ((with_reducible refine same_t (by assumption) ?_); walk_at "hp") | ((with_reducible refine same_l (by assumption) ?_); walk_at "hp")
  | ((with_reducible refine Same.dp (by assumption) ?_); walk_at "hp") | ((with_reducible refine Same.dpa (by assumption) ?_); walk_at "hp")
  | ((with_reducible refine SqT.of ?_); walk_at "hp") | ((with_reducible refine SqL.of ?_); walk_at "hp"))
local macro_rules | `(tactic| walk_at "go1") => `(tactic| first
  | with_reducible refine g_seq ?_ | with_reducible refine g_asg ?_ | with_reducible refine g_op ?_ | ((with_reducible refine' g_var ?hv ?_); (case hv => exact rfl))
  | with_reducible refine g_c ?_ | with_reducible refine g_cons ?_ | with_reducible refine g_nil ?_ | with_reducible refine g_cb ?_ | with_reducible refine g_callR ?_
  | ((with_reducible refine' g_name ?hv ?_); (case hv => first | (simp only [List.set]; rfl) | (simp only [wipe, List.map, List.set]; rfl)))
  | with_reducible refine g_ret ?_ | with_reducible refine g_drop ?_ | with_reducible refine g_ifS ?_ | with_reducible refine g_test ?_ | with_reducible refine g_tB ?_ | with_reducible refine g_bl ?_
  | with_reducible refine g_add_i ?_ | with_reducible refine g_sub ?_ | with_reducible refine g_lt ?_ | with_reducible refine g_le ?_ | with_reducible refine g_gt ?_ | with_reducible refine g_ge ?_
  | with_reducible refine g_eq_i ?_ | with_reducible refine g_ne_i ?_ | with_reducible refine g_eq_s ?_ | with_reducible refine g_ne_s ?_ | with_reducible refine g_eq_b ?_ | with_reducible refine g_ne_b ?_ | with_reducible refine g_isN ?_ | with_reducible refine g_notN ?_
  | with_reducible refine g_and ?_ | with_reducible refine g_or ?_ | with_reducible refine g_not ?_ | with_reducible refine g_andV ?_ | with_reducible refine g_orV ?_ | with_reducible refine g_notV ?_ | with_reducible refine g_if ?_ | with_reducible refine g_chain ?_
  | with_reducible refine g_tup ?_ | with_reducible refine g_lst ?_ | with_reducible refine g_un ?_ | with_reducible refine g_next ?_
  | with_reducible refine g_bm ?_ | with_reducible refine g_bm0 ?_ | with_reducible refine g_m1 ?_ | with_reducible refine g_m0 ?_ | with_reducible refine g_tyS ?_ | with_reducible refine g_gsub ?_
  | with_reducible refine g_fld ?_ | with_reducible refine g_prop ?_ | with_reducible refine g_meth ?_ | with_reducible refine g_make ?_ | with_reducible refine g_star1 ?_ | with_reducible refine g_star ?_ | with_reducible refine g_sfld ?_
  | with_reducible refine g_forL ?_ | with_reducible refine g_forT ?_ | with_reducible refine g_forS ?_ | with_reducible refine g_forR1 ?_ | with_reducible refine g_forR2 ?_ | with_reducible refine g_forET ?_
  | with_reducible refine g_lcL ?_ | with_reducible refine g_lcT ?_ | with_reducible refine g_lcS ?_ | with_reducible refine g_lcR1 ?_ | with_reducible refine g_yes ?_ | with_reducible refine g_lcIfT ?_ | with_reducible refine g_lcIfF ?_
  | with_reducible refine g_isTT ?_ | with_reducible refine g_mkw ?_ | with_reducible refine g_lenSet ?_ | with_reducible refine g_mskw ?_
  | with_reducible refine g_gcons ?_ | with_reducible refine g_gnil ?_ | with_reducible refine g_sl ?_ | with_reducible refine g_noPart ?_ | with_reducible refine g_part ?_ | with_reducible refine g_partI ?_
  | with_reducible refine g_par ?_ | with_reducible refine g_par3 ?_ | ((with_reducible refine' n_par ?hv ?_); (case hv => (simp only [List.set]; rfl))) | ((with_reducible refine' n_par3 ?hv ?_); (case hv => (simp only [List.set]; rfl)))
  | ((with_reducible refine' g_aug ?hv ?_); (case hv => exact rfl)) | ((with_reducible refine' n_aug ?hv ?_); (case hv => (simp only [List.set]; rfl))) | with_reducible refine g_ipI ?_ | with_reducible refine g_rAdd ?_ | with_reducible refine g_rSub ?_ | with_reducible refine g_fldaug ?_
  | with_reducible refine g_ownIx ?_ | with_reducible refine g_callI ?_ | with_reducible refine g_listM ?_ | with_reducible refine g_fs ?_ | with_reducible refine g_fmt ?_ | with_reducible refine g_gthen ?_ | with_reducible refine g_gplain ?_ | with_reducible refine g_gif ?_ | with_reducible refine g_g0 ?_ | with_reducible refine g_gforR2 ?_
  | with_reducible refine g_dget ?_ | with_reducible refine g_dput ?_ | with_reducible refine g_neg ?_ | with_reducible refine g_abs ?_ | with_reducible refine g_min2 ?_ | with_reducible refine g_max2 ?_ | with_reducible refine g_int_i ?_ | with_reducible refine g_int_b ?_ | with_reducible refine g_in_sign ?_
  | ((with_reducible refine' g_mod ?hv ?_); (case hv => first | assumption | omega | decide)) | ((with_reducible refine' g_fdiv ?hv ?hw ?_); (case hv => first | assumption | omega | decide); (case hw => first | assumption | omega | decide))
  | ((with_reducible refine' g_mul ?hv ?_); (case hv => first | assumption | (unfold CMul; omega)))
  | ((with_reducible refine' g_ix_l ?hv ?hw ?_); (case hv => exact SqL.of (by walk_at "hp")); (case hw => first | exact atI_c0 | exact atI_c1 | exact atI_c2 | exact atI_c3))
  | ((with_reducible refine' g_tyL ?hv ?_); (case hv => exact SqL.of (by walk_at "hp")))
  | ((with_reducible refine' g_len_l ?hv ?_); (case hv => exact SqL.of (by walk_at "hp"))))
local macro_rules | `(tactic| walk_at "go") => `(tactic| repeat walk_at "go1")
section
variable {P : Program} {w : World} {K : PySem.W.Frag}
variable {mg : Str → Option Value} {base : Heap}
def top (i : Nat) : Stmt := PySem.Challenge.pw_harvestcarts_k42_invalid_bytes.main.body.getD i (.Pass ⟨0, 0, 0, 0⟩)
structure Md (K : PySem.W.Frag) (mg : Str → Option Value) : Prop where
  b : Bts mg
  g_LETTERS : GStr mg "LETTERS" "abcdefghijklmnopqrstuvwxyz"
  g_MAX_LETTERS : GInt mg "MAX_LETTERS" 8
  g_MAX_LIMIT : GInt mg "MAX_LIMIT" 30
  g_TAG : GInt mg "TAG" 72
  g_MODULUS : GInt mg "MODULUS" 233
  k_Farm_MAX_FIELDS : GCon K mg "Farm" "MAX_FIELDS" (.int 6)
  k_Farm_MAX_STATES : GCon K mg "Farm" "MAX_STATES" (.int 4000)
abbrev FnD (K : PySem.W.Frag) (x q : Str) (st : Stmt) (f : Addr) (fd : FuncData) : Prop := FunD K x q (defArgs st) (defBody st) (defScope st) [] [] f fd
/-- a def of the module; a method; a property's getter -/
def Gd (K : PySem.W.Frag) (mg : Str → Option Value) (x : Str) (st : Stmt) : Prop := ∃ f fd, mg x = some (.ref f) ∧ FnD K x x st f fd
def Gm (K : PySem.W.Frag) (C : Addr) (m q : Str) (st : Stmt) : Prop := Cls K C ∧ ∃ f fd, Meth K C m f ∧ FnD K m q st f fd
def Gk (K : PySem.W.Frag) (mg : Str → Option Value) (x : Str) (C : Addr) (q : Str) (st : Stmt) : Prop := mg x = some (.ref C) ∧ ∃ f fd, Mk K C f ∧ FnD K "__init__" q st f fd
def Gp (K : PySem.W.Frag) (C : Addr) (f q : Str) (st : Stmt) : Prop := Cls K C ∧ ∃ p g fd, PropOf K C f p g ∧ FnD K f q st g fd
theorem def_mk {x : Str} {st : Stmt} {k : Nat} {sp : Sp} (G : Gd K mg x st) (h : ∀ f fd, FnD K x x st f fd → FnU P w K mg base k f sp) : DefR P w K mg base x k sp := by
  obtain ⟨f, fd, h1, h2⟩ := G
  exact ⟨f, h1, h2.kp, h f fd h2⟩
theorem meth_mk {C : Addr} {m q : Str} {st : Stmt} {k : Nat} {sp : Sp} (G : Gm K C m q st) (h : ∀ f fd, FnD K m q st f fd → FnR P w K mg base (CXW P w) k f sp) : MethR P w K mg base C m k sp := by
  obtain ⟨c, f, fd, h1, h2⟩ := G
  exact ⟨c, f, h1, h f fd h2⟩
theorem make_mk {x : Str} {C : Addr} {q : Str} {st : Stmt} {k : Nat} {sp : Sp} (G : Gk K mg x C q st) (h : ∀ f fd, FnD K "__init__" q st f fd → FnR P w K mg base (CXW P w) k f sp) : MakeR P w K mg base x C k sp := by
  obtain ⟨c, f, fd, h1, h2⟩ := G
  exact ⟨c, f, h1, h f fd h2⟩
theorem prop_mk {C : Addr} {f q : Str} {st : Stmt} {k : Nat} {sp : Sp} (G : Gp K C f q st) (h : ∀ g fd, FnD K f q st g fd → FnU P w K mg base k g sp) : PropR P w K mg base C f k sp := by
  obtain ⟨c, p, g, fd, h1, h2⟩ := G
  exact ⟨c, p, g, h1, h g fd h2⟩
/-- a class made by an __init__ with one keyword-only parameter -/
def GkK (K : PySem.W.Frag) (mg : Str → Option Value) (x : Str) (C : Addr) (q : Str) (st : Stmt) (kws : List (Str × V)) : Prop := mg x = some (.ref C) ∧ ∃ f fd, Mk K C f ∧ FunD K "__init__" q (defArgs st) (defBody st) (defScope st) [] kws f fd
theorem makeK_mk {x : Str} {C : Addr} {q kw : Str} {st : Stmt} {kws : List (Str × V)} {k : Nat} {sp : Sp} (G : GkK K mg x C q st kws) (h : ∀ f fd, FunD K "__init__" q (defArgs st) (defBody st) (defScope st) [] kws f fd → FnRK P w K mg base k f kw sp) : MakeRK P w K mg base x C k kw sp := by
  obtain ⟨c, f, fd, h1, h2⟩ := G
  exact ⟨c, f, h1, h f fd h2⟩
/-- a generator method -/
theorem methG_mk {C : Addr} {m q : Str} {st : Stmt} {k : Nat} {sp : SpG} (G : Gm K C m q st) (h : ∀ f fd, FnD K m q st f fd → ∃ ps, GFn P w K mg base k f fd ps sp ∧ Binds K fd ps []) : MethG P w K mg base C m k sp := by
  obtain ⟨c, f, fd, h1, h2⟩ := G
  obtain ⟨ps, h3, h4⟩ := h f fd h2
  exact ⟨c, f, fd, ps, h1, h3, h4⟩
/-- a def of K is a function there -/
theorem fi_of {C : Addr} {m q : Str} {st : Stmt} (G : Gm K C m q st) : ∀ f, Meth K C m f → PySem.W.fnIn K f = true := by
  obtain ⟨c, f, fd, h1, h2⟩ := G
  intro g hg
  have e : g = f := by
    have := hg.at_.symm.trans h1.at_
    simpa using this
  subst e
  obtain ⟨c1, c2, dv, kv, dc, pm, an, cdv, ct, sl, e, at_, _⟩ := h2.ex
  unfold PySem.W.fnIn
  rw [at_]
/-- tuples stand -/
def TK (K : PySem.W.Frag) (H H' : Hp) : Prop := ∀ a xs, SqT K H a xs → SqT K H' a xs
mutual
theorem dp_tk {H H' : Hp} (e : TK K H H') : ∀ (x : PyData) (v : V), noL x = true → Dp K H v x → Dp K H' v x
  | .none, _, _, .non => .non
  | .bool _, _, _, .bl b => .bl b
  | .int _, _, _, .int i => .int i
  | .str _, _, _, .str x => .str x
  | .list ds, _, n, .lst h a => by simp [noL] at n
  | .tuple ds, _, n, .tup h a => .tup (e _ _ h) (dpa_tk e ds _ (by simpa [noL] using n) a)
theorem dpa_tk {H H' : Hp} (e : TK K H H') : ∀ (xs : List PyData) (vs : List V), noLs xs = true → DpAll K H vs xs → DpAll K H' vs xs
  | [], _, _, .nil => .nil
  | x :: xs, _, n, .cons a b => by
    have n' : noL x = true ∧ noLs xs = true := by simpa [noLs] using n
    exact .cons (dp_tk e x _ n'.1 a) (dpa_tk e xs _ n'.2 b)
end
theorem Same.tk {H H' : Hp} (e : Same H H') : TK K H H' := fun _ _ h => same_t e h
theorem TK.trans {H H1 H2 : Hp} (a : TK K H H1) (b : TK K H1 H2) : TK K H H2 := fun c xs h => b c xs (a c xs h)
theorem keep_tk {H H' : Hp} {l : Addr} {ys : List V} (e : Keep l H H') (h : H l = some (.lst ys)) : TK K H H' := fun _ _ z => sqt_keep e h z
/-- the source of numbers -/
def Dr (H : Hp) (d : Addr) : Prop := ∃ (s c : Int) (cs : List Int), H d = some (.lst (.int s :: .int c :: cs.map V.int)) ∧ 0 ≤ s ∧ s < 2147483647 ∧ 0 ≤ c ∧ (∀ z ∈ cs, 10 ^ 18 ≤ z) ∧ cs.length ≤ 63
theorem Dr.same {H H' : Hp} {d : Addr} (e : Same H H') (h : Dr H d) : Dr H' d := by
  obtain ⟨s, c, cs, h0, h⟩ := h
  exact ⟨s, c, cs, e _ _ h0, h⟩
theorem Dr.keep {H H' : Hp} {d l : Addr} (e : Keep l H H') (n : d ≠ l) (h : Dr H d) : Dr H' d := by
  obtain ⟨s, c, cs, h0, h⟩ := h
  exact ⟨s, c, cs, e _ _ n h0, h⟩
theorem Dr.ne {H : Hp} {d l : Addr} (h : Dr H d) (n : H l = none) : d ≠ l := by
  obtain ⟨s, c, cs, h0, h⟩ := h
  exact ne_of_none h0 n
theorem Dr.notT {H : Hp} {d : Addr} (h : Dr H d) : NotT (H d) := by
  obtain ⟨s, c, cs, h0, h⟩ := h
  exact notT_l h0

end
abbrev s_law_below : Stmt := top 29
abbrev N_law_below : List Str := ["_law_d", "_law_limit", "_law_result"]
theorem sc_law_below : FnScope N_law_below ["_law_d", "_law_limit"] (defScope s_law_below) := ⟨rfl, rfl, rfl, by decide +kernel, rfl, by decide +kernel, by decide +kernel⟩
section
variable {P : Program} {w : World} {K : PySem.W.Frag}
variable {mg : Str → Option Value} {base : Heap}
def sp_law_below : Sp := fun vs H Q _ => ∃ (d : Addr) (n : Int), vs = [.ref d, .int n] ∧ Dr H d ∧ 0 < n ∧ n < 1073741824 ∧ ∀ H' r, 0 ≤ r → r < n → Keep d H H' → Dr H' d → Q (.int r) H'
theorem ok_law_below (M : Md K mg) (G : Gd K mg "_law_below" s_law_below) : DefR P w K mg base "_law_below" 2 sp_law_below := by
  refine def_mk G fun f fd F => fnr_mk (F.ok sc_law_below ?_ (fun cdv A outer s H vs Q E hr h => ?_)) (F.bindsN (fun _ _ _ _ _ _ us hl => match us, hl with | [_, _], _ => rfl))
  · rintro vs H Q E ⟨d, n, rfl, _⟩; rfl
  · obtain ⟨d, n, rfl, ⟨s0, c, cs, hd, h1, h2, h3, h4, h5⟩, n0, n1, k⟩ := h
    have nd := sc_law_below.nd
    refine ⟨_, PSs.nox (C8.pss_cut (ps_if (PW.pt (pw_and (pt_cmpR (op_eqK K hr) (pe_ix (ix_K K) (pv 0) pe_int (fun _ _ => rfl)) pe_int (nomark _)) (pw_and1 (pt_cmpR op_gt (pe_len K M.b (pv 0)) pe_int (nomark _))))) (pss_one (ps_asg (as_bm K (pe_bm PySem.F.plainAttrs_list PySem.F.slot_list_pop PySem.F.type_list_pop mt_popAt (pv 0) (pa_cons pe_int pa_nil))) (pg_sub (pv 0) pe_int set_list))) pss_nil)
    (pss_cons (ps_if (pt_cmpR op_gt (pe_ix (ix_K K) (pv 0) pe_int (fun _ _ => rfl)) pe_int (nomark _)) (pss_cons (ps_set (i := 2) nd rfl (by first | exact Or.inl rfl | exact Or.inr rfl) (pe_op op_mod (pe_ix (ix_K K) (pv 0) pe_int (fun _ _ => rfl)) (pv 1)))
    (pss_cons (ps_asg (pe_op op_fdiv (pe_ix (ix_K K) (pv 0) pe_int (fun _ _ => rfl)) (pv 1)) (pg_sub (pv 0) pe_int set_list)) (pss_one (ps_ret (pv 2))))) pss_nil)
    (pss_cons (ps_asg (pe_op op_mod (pe_op (op_addK K) (pe_op op_mul (pe_ix (ix_K K) (pv 0) pe_int (fun _ _ => rfl)) pe_int) pe_int) pe_int) (pg_sub (pv 0) pe_int set_list))
    (pss_one (ps_ret (pe_op op_mod (pe_op op_fdiv (pe_ix (ix_K K) (pv 0) pe_int (fun _ _ => rfl)) pe_int) (pv 1))))))), ?_⟩
    show (_ : TS) _ [some (.ref d), some (.int n), none] H
    refine g_cut (fun σ' H' => ∃ s1 c1, ∃ cs1 : List Int, σ' = [some (.ref d), some (.int n), none] ∧ Keep d H H' ∧ H' d = some (.lst (.int s1 :: .int c1 :: cs1.map V.int)) ∧ 0 ≤ s1 ∧ s1 < 2147483647 ∧ 0 ≤ c1 ∧ (∀ z ∈ cs1, 10 ^ 18 ≤ z) ∧ cs1.length ≤ 63) ?_ ?_
    · walk_at "go"
      refine if_D (fun e => ?_) (fun e => ?_)
      · walk_at "go"
        refine if_D (fun e2 => ?_) (fun e2 => ?_)
        · walk_at "go"
          cases cs with
          | nil => simp at e2
          | cons z cs =>
            refine g_popAt (y := .int z) hd (by decide) rfl (by simp [sizeLine_eq]; simp at h5; omega) fun H1 k1 e1 => ?_
            walk_at "go"
            refine g_setL (j := 1) e1 (ixN_i (by decide) (by simp; try omega)) fun H2 k2 e2 => ?_
            have hz := h4 z (by simp)
            refine ⟨s0, z, cs, rfl, k1.trans k2, e2, h1, h2, by omega, fun y hy => h4 y (by simp [hy]), by simp at h5; omega⟩
        · walk_at "go"
          exact ⟨s0, c, cs, rfl, Keep.refl _ _, hd, h1, h2, h3, h4, h5⟩
      · walk_at "go"
        exact ⟨s0, c, cs, rfl, Keep.refl _ _, hd, h1, h2, h3, h4, h5⟩
    · rintro σ' H' ⟨s1, c1, cs1, rfl, k1, hd1, a1, a2, a3, a4, a5⟩
      walk_at "go"
      refine if_D (fun e => ?_) (fun e => ?_)
      · walk_at "go"
        refine g_setL (j := 1) hd1 (ixN_i (by decide) (by simp; try omega)) fun H2 k2 e2 => ?_
        walk_at "go"
        refine k _ _ (Int.emod_nonneg _ (by omega)) (Int.emod_lt_of_pos _ n0) (k1.trans k2) ⟨s1, c1 / n, cs1, e2, a1, a2, Int.ediv_nonneg a3 (by omega), a4, a5⟩
      · walk_at "go"
        refine g_setL (j := 0) hd1 (ixN_i (by decide) (by simp; try omega)) fun H2 k2 e2 => ?_
        walk_at "go"
        exact k _ _ (Int.emod_nonneg _ (by omega)) (Int.emod_lt_of_pos _ n0) (k1.trans k2) ⟨_, c1, cs1, e2, Int.emod_nonneg _ (by decide), Int.emod_lt_of_pos _ (by decide), a3, a4, a5⟩

end
abbrev s_law_random : Stmt := top 26
abbrev N_law_random : List Str := ["_law_script", "_law_salt", "_law_seed", "_law_cell"]
theorem sc_law_random : FnScope N_law_random ["_law_script", "_law_salt"] (defScope s_law_random) := ⟨rfl, rfl, rfl, by decide +kernel, rfl, by decide +kernel, by decide +kernel⟩
section
variable {P : Program} {w : World} {K : PySem.W.Frag}
variable {mg : Str → Option Value} {base : Heap}
def sp_law_random (K : PySem.W.Frag) : Sp := fun vs H Q _ => ∃ (a : Addr) (ns : List Int) (z : Int), vs = [.ref a, .int z] ∧ SqL K H a (ns.map V.int) ∧ ns.length ≤ 63 ∧ 0 ≤ z ∧ z < 2147483647 ∧ ∀ H' d, Same H H' → H d = none → Dr H' d → Q (.ref d) H'
theorem ok_law_random (M : Md K mg) (G : Gd K mg "_law_random" s_law_random) : DefR P w K mg base "_law_random" 2 (sp_law_random K) := by
  refine def_mk G fun f fd F => fnr_mk (F.ok sc_law_random ?_ (fun cdv A outer s H vs Q E hr h => ?_)) (F.bindsN (fun _ _ _ _ _ _ us hl => match us, hl with | [_, _], _ => rfl))
  · rintro vs H Q E ⟨d, n, z, rfl, _⟩; rfl
  · obtain ⟨a, ns, z, rfl, hS, hl, z0, z1, k⟩ := h
    have nd := sc_law_random.nd
    refine ⟨_, PSs.nox (pss_cons (ps_set (i := 2) nd rfl (by first | exact Or.inl rfl | exact Or.inr rfl) (pv 1))
    (pss_cons (ps_for PassesOwn.never rfl (pi_listK K (pv 0)) (pg_name (i := 3) nd rfl (by first | exact Or.inl rfl | exact Or.inr rfl)) (pss_one (ps_set (i := 2) nd rfl (by first | exact Or.inl rfl | exact Or.inr rfl) (pe_op op_mod (pe_op (op_addK K) (pe_op op_mul (pv 2) pe_int) (pe_abs M.b (pv 3))) pe_int))))
    (pss_one (ps_ret (pe_op (op_addK K) (pe_lst (pa_cons (pv 2) (pa_cons pe_int pa_nil))) (pe_lc (own := [("_law_cell", 3)]) (g := (gName 3)) rfl nd (pi_listK K (pv 0)) (blkOk_by (N := N_law_random) (sc := defScope s_law_random) (by decide +kernel)) (fun _ _ _ _ _ => (pg_name (i := 3) nd rfl (by first | exact Or.inl rfl | exact Or.inr rfl))) (fun _ _ _ _ _ => (pts_one (pt_cmpR op_ge (pv 3) (pe_op op_pow pe_int pe_int) (nomark _)))) (fun _ _ _ _ _ => (pv 3)))))))), ?_⟩
    show (_ : TS) _ [some (.ref a), some (.int z), none, none] H
    walk_at "go"
    refine n_forL hS (fun i σ H' => H' = H ∧ ∃ (y : Int) (c : Option V), σ = [some (.ref a), some (.int z), some (.int y), c] ∧ 0 ≤ y ∧ y < 2147483647) ⟨rfl, z, none, rfl, z0, z1⟩ (fun i σ H' ⟨e, _⟩ => e ▸ hS) ?_ ?_
    · rintro i x σ H' hx ⟨rfl, y, c, rfl, y0, y1⟩
      obtain ⟨u, hu, rfl⟩ : ∃ u, ns[i]? = some u ∧ V.int u = x := by simpa using hx
      walk_at "go"
      exact ⟨rfl, _, _, rfl, Int.emod_nonneg _ (by decide), Int.emod_lt_of_pos _ (by decide)⟩
    · rintro σ H' ⟨rfl, y, c, rfl, y0, y1⟩
      walk_at "go"
      refine n_lst (by simp [sizeLine_eq]) fun p H1 np s1 hp => ?_
      walk_at "go"
      refine n_lcL (s1.seq hS) (lc_run (walk_list (xs := ns.map V.int)) (fun i acc H' => Same H1 H' ∧ ∃ cs : List Int, acc = cs.map V.int ∧ cs.length ≤ i ∧ ∀ z ∈ cs, 10 ^ 18 ≤ z) ?_ ?_ ?_ ?_)
      · rintro C H2 nC s2 hC
        exact ⟨s2, [], rfl, Nat.le_refl _, fun z hz => by cases hz⟩
      · rintro i acc H2 C nC hC ⟨s2, _⟩
        exact s2.seq (s1.seq hS)
      · rintro C i acc x H2 H3 nC hi hl2 hC ⟨s2, cs, rfl, hcs, hz⟩ ⟨e, hx⟩
        subst e
        obtain ⟨u, hu, rfl⟩ : ∃ u, ns[i]? = some u ∧ V.int u = x := by simpa using hx
        walk_at "go"
        refine ⟨rfl, ?_⟩
        walk_at "go"
        refine g_pow (by unfold CPow; decide) ?_
        walk_at "go"
        have hi' : i < 63 := by simp at hi; omega
        by_cases c : (10 : Int) ^ (18 : Int).toNat ≤ u
        · rw [decide_eq_true c]
          walk_at "go"
          refine n_lcK hC (by simp; omega) (by omega) fun H4 k4 h4 => ⟨?_, cs ++ [u], by simp, by simp; omega, ?_⟩
          · intro b o e
            exact k4 _ _ (ne_of_none e nC) (s2 _ _ e)
          · intro z hz'
            rcases List.mem_append.mp hz' with q | q
            · exact hz z q
            · have : z = u := by simpa using q
              rw [this]; exact c
        · rw [decide_eq_false c]
          walk_at "go"
          exact n_lcN hC (by simp; omega) ⟨s2, cs, rfl, by omega, hz⟩
      · rintro C acc H2 nC hC ⟨s2, cs, rfl, hcs, hz⟩
        have hcs' : cs.length ≤ 63 := by simp at hcs; omega
        refine g_add_l (s2 _ _ hp) hC (by simp [sizeLine_eq]; omega) fun r H3 nr s3 hr3 => ?_
        refine k H3 r (s1.trans (s2.trans s3)) ((s1.trans s2).free nr) ⟨y, 0, cs, hr3, y0, y1, by decide, hz, hcs'⟩

end
abbrev s_law_shuffled : Stmt := top 30
abbrev N_law_shuffled : List Str := ["_law_d", "_law_items", "_law_pool", "_law_result"]
theorem sc_law_shuffled : FnScope N_law_shuffled ["_law_d", "_law_items"] (defScope s_law_shuffled) := ⟨rfl, rfl, rfl, by decide +kernel, rfl, by decide +kernel, by decide +kernel⟩
section
variable {P : Program} {w : World} {K : PySem.W.Frag}
variable {mg : Str → Option Value} {base : Heap}
def sp_law_shuffled (K : PySem.W.Frag) : Sp := fun vs H Q _ => ∃ (d a : Addr) (zs : List Str), vs = [.ref d, .ref a] ∧ Dr H d ∧ SqL K H a (zs.map V.str) ∧ zs.length ≤ 100 ∧ (∀ z ∈ zs, PyData.strOk z = true) ∧
  ∀ H' r ys, Keep d H H' → Dr H' d → H r = none → H' r = some (.lst (ys.map V.str)) → List.Perm ys zs → Q (.ref r) H'
theorem perm_pop {α : Type} {pool : List α} {i : Nat} {x : α} (h : pool[i]? = some x) : List.Perm (x :: pool.eraseIdx i) pool := by
  induction pool generalizing i with
  | nil => simp at h
  | cons a r ih =>
    cases i with
    | zero =>
      have e : a = x := by simpa using h
      subst e
      simp
    | succ i =>
      have h' : r[i]? = some x := by simpa using h
      rw [List.eraseIdx_cons_succ]
      exact (List.Perm.swap a x _).trans ((ih h').cons a)
theorem map_eraseIdx {α β : Type} (f : α → β) : ∀ (l : List α) (i : Nat), (l.map f).eraseIdx i = (l.eraseIdx i).map f
  | [], _ => rfl
  | _ :: _, 0 => rfl
  | a :: l, i + 1 => by simp [map_eraseIdx f l i]
theorem ok_law_shuffled (M : Md K mg) (G : Gd K mg "_law_shuffled" s_law_shuffled) (D_law_below : DefR P w K mg base "_law_below" 2 sp_law_below) : DefR P w K mg base "_law_shuffled" 4 (sp_law_shuffled K) := by
  refine def_mk G fun f fd F => fnr_mk (F.ok sc_law_shuffled ?_ (fun cdv A outer s H vs Q E hr h => ?_)) (F.bindsN (fun _ _ _ _ _ _ us hl => match us, hl with | [_, _], _ => rfl))
  · rintro vs H Q E ⟨d, n, z, rfl, _⟩; rfl
  · obtain ⟨d, a, zs, rfl, hd, hS, hl, hok, k⟩ := h
    have nd := sc_law_shuffled.nd
    refine ⟨_, PSs.nox (pss_cons (ps_set (i := 2) nd rfl (by first | exact Or.inl rfl | exact Or.inr rfl) (pe_listOf K M.b (pv 1)))
    (pss_cons (ps_set (i := 3) nd rfl (by first | exact Or.inl rfl | exact Or.inr rfl) (pe_lst pa_nil))
    (pss_cons (ps_while PassesOwn.never (pt_cmpR (op_neK K hr) (pv 2) (pe_lst pa_nil) (nomark _)) (pss_one (ps_expr (as_bm K (pe_bm PySem.F.plainAttrs_list PySem.F.slot_list_append PySem.F.type_list_append mt_append (pv 3) (pa_cons (as_bm K (pe_bm PySem.F.plainAttrs_list PySem.F.slot_list_pop PySem.F.type_list_pop mt_popAt (pv 2) (pa_cons (pe_callR D_law_below (hr.mono (by first | decide | omega)) passN (pa_cons (pv 0) (pa_cons (pe_len K M.b (pv 2)) pa_nil))) pa_nil))) pa_nil)))))) (pss_one (ps_ret (pv 3)))))), ?_⟩
    show (_ : TS) _ [some (.ref d), some (.ref a), none, none] H
    walk_at "go"
    refine g_listOf (.inl hS) fun p H1 np s1 hp => ?_
    walk_at "go"
    refine n_lst (by simp) fun r H2 nr s2 hr2 => ?_
    walk_at "go"
    refine n_while (fun m σ H' => ∃ ps ys : List Str, m = ps.length ∧ σ = [some (.ref d), some (.ref a), some (.ref p), some (.ref r)] ∧ Keep d H H' ∧ Dr H' d ∧ H' p = some (.lst (ps.map V.str)) ∧ H' r = some (.lst (ys.map V.str)) ∧ List.Perm (ys ++ ps) zs) zs.length
      ⟨zs, [], rfl, rfl, (s1.trans s2).keep, hd.same (s1.trans s2), s2 _ _ hp, hr2, by simp⟩ ?_
    rintro m σ H' ⟨ps, ys, rfl, rfl, k1, d1, hp1, hr1, pm⟩
    have hpl : ps.length ≤ 100 := by
      have := pm.length_eq
      simp at this
      omega
    have hyl : ys.length ≤ 100 := by
      have := pm.length_eq
      simp at this
      omega
    have npd : p ≠ d := fun e => by subst e; exact absurd np (by obtain ⟨_, _, _, h0, _⟩ := hd; rw [h0]; simp)
    have nrd : r ≠ d := fun e => by subst e; exact absurd (s1.free nr) (by obtain ⟨_, _, _, h0, _⟩ := hd; rw [h0]; simp)
    have nrp : r ≠ p := fun e => by subst e; rw [hp] at nr; cases nr
    walk_at "go"
    refine n_lst (by simp) fun e H3 ne s3 he => ?_
    refine g_ne_d (.list (ps.map .str)) (.list []) (dp_lst (s3 _ _ hp1) (dpa_strs ps)) (dp_lst he .nil) (Sh.ok (sh_l fun x hx => ?_) (by decide : 1 ≤ 64)) (Sh.ok (n := 1) (sh_l fun x hx => by cases hx) (by decide)) ?_
    · obtain ⟨z, hz, rfl⟩ := List.mem_map.mp hx
      exact sh_s (hok z (pm.subset (by simp [hz])))
    rw [eqv_nil]
    walk_at "go"
    cases ps with
    | nil =>
      refine n_whF ?_
      walk_at "go"
      exact k H3 r ys (k1.trans s3.keep) (d1.same s3) (s1.free nr) (s3 _ _ hr1) (by simpa using pm)
    | cons q ps =>
      refine n_whT ?_
      have hp3 := s3 _ _ hp1
      have hr3 := s3 _ _ hr1
      walk_at "go"
      refine ⟨d, _, rfl, d1.same s3, (by simp <;> omega), (by simp at hpl ⊢ <;> omega), fun H4 i i0 i1 k4 d4 => ?_⟩
      have hi : i.toNat < (q :: ps).length := by simp at i1; simp; omega
      have hx : (q :: ps)[i.toNat]? = some (q :: ps)[i.toNat] := List.getElem?_eq_getElem hi
      walk_at "go"
      refine g_popAt (y := .str (q :: ps)[i.toNat]) (k4 _ _ npd hp3) i0 (by rw [List.getElem?_map, hx]; rfl) (by simp [sizeLine_eq]; simp at hpl; omega) fun H5 k5 hp5 => ?_
      walk_at "go"
      refine g_append (k5 _ _ nrp (k4 _ _ nrd hr3)) (by simp [sizeLine_eq]; omega) fun H6 k6 hr6 => ?_
      refine ⟨((q :: ps).eraseIdx i.toNat).length, by rw [List.length_eraseIdx_of_lt hi]; simp, (q :: ps).eraseIdx i.toNat, ys ++ [(q :: ps)[i.toNat]], rfl, rfl, ?_, ?_, ?_, ?_, ?_⟩
      · intro b o nb hb
        have nbp : b ≠ p := ne_of_none hb np
        have nbr : b ≠ r := ne_of_none hb (s1.free nr)
        exact k6 _ _ nbr (k5 _ _ nbp (k4 _ _ nb (s3 _ _ (k1 _ _ nb hb))))
      · exact (d4.keep k5 npd.symm).keep k6 nrd.symm
      · rw [k6 _ _ nrp.symm hp5, map_eraseIdx]
      · rw [hr6]; simp
      · have h1 := perm_pop hx
        refine List.Perm.trans ?_ pm
        rw [List.append_assoc]
        exact List.Perm.append_left ys (by simpa using h1)

end
section
variable {P : Program} {w : World} {K : PySem.W.Frag}
variable {mg : Str → Option Value} {base : Heap}
/-! ### plain mathematics of farms -/
abbrev pField (f : Str × Int) : PyData := .tuple [.str f.1, .int f.2]
def NmOk (z : Str) : Prop := 1 ≤ z.cps.toList.length ∧ z.cps.toList.length ≤ 8 ∧ ∀ c ∈ z.cps.toList, 97 ≤ c ∧ c ≤ 122
instance (z : Str) : Decidable (NmOk z) := by unfold NmOk; infer_instance
def prodL (l : List Int) : Int := l.foldl (· * ·) 1
theorem prodL_snoc (l : List Int) (x : Int) : prodL (l ++ [x]) = prodL l * x := by simp [prodL]
structure FOk (fs : List (Str × Int)) : Prop where
  one : 1 ≤ fs.length
  six : fs.length ≤ 6
  nd : (fs.map (·.1)).Nodup
  nm : ∀ f ∈ fs, NmOk f.1
  lo : ∀ f ∈ fs, 1 ≤ f.2 ∧ f.2 ≤ 30
  pr : prodL (fs.map (·.2)) ≤ 4000
theorem NmOk.str {z : Str} (h : NmOk z) : PyData.strOk z = true := by
  unfold PyData.strOk
  rw [← Array.all_toList]
  exact List.all_eq_true.mpr fun c hc => decide_eq_true (by have := (h.2.2 c hc).2; omega)
def six : List Str := ["a", "bo", "carl", "dora", "ella", "hannahhh"]
theorem six_nm : ∀ z ∈ six, NmOk z := by decide +kernel
theorem six_nd : six.Nodup := by decide +kernel
/-- the bytes of a farm -/
def lets (z : Str) : List Int := z.cps.toList.map fun (c : Nat) => ((c - 97 : Nat) : Int)
def encF (f : Str × Int) : List Int := [f.2, (f.1.cps.toList.length : Int)] ++ lets f.1
def bodyOf (fs : List (Str × Int)) : List Int := [72, (fs.length : Int)] ++ fs.flatMap encF
def cks (l : List Int) : Int := l.foldl (fun t v => (3 * t + v) % 233) 5
def bytesOf (fs : List (Str × Int)) : List Int := bodyOf fs ++ [cks (bodyOf fs)]
theorem cks_snoc (l : List Int) (x : Int) : cks (l ++ [x]) = (3 * cks l + x) % 233 := by simp [cks]
theorem cks_lo : ∀ l : List Int, 0 ≤ cks l ∧ cks l < 233 := fun l => by
  rcases List.eq_nil_or_concat l with rfl | ⟨r, x, rfl⟩
  · decide
  · rw [List.concat_eq_append, cks_snoc]; exact ⟨Int.emod_nonneg _ (by decide), Int.emod_lt_of_pos _ (by decide)⟩
def ALPH : Str := "abcdefghijklmnopqrstuvwxyz"
theorem alph_occ : ∀ k : Fin 26, Builtin.Str.occurrences ALPH ⟨#[97 + k.val]⟩ 0 ALPH.length 1 = [k.val] := by decide +kernel
theorem alph_ix {c : Nat} (h1 : 97 ≤ c) (h2 : c ≤ 122) : Builtin.Str.occurrences ALPH ⟨#[c]⟩ 0 ALPH.length 1 = [c - 97] := by
  have := alph_occ ⟨c - 97, by omega⟩
  simpa [show 97 + (c - 97) = c by omega] using this
theorem alph_mem {c : Nat} (h1 : 97 ≤ c) (h2 : c ≤ 122) : c ∈ ALPH.cps.toList := by
  have h : ∀ k : Fin 26, 97 + k.val ∈ ALPH.cps.toList := by decide +kernel
  have := h ⟨c - 97, by omega⟩
  simpa [show 97 + (c - 97) = c by omega] using this
theorem alph_at : ∀ k : Fin 26, ALPH.cps.toList[k.val]? = some (97 + k.val) := by decide +kernel
theorem noL_fields (fs : List (Str × Int)) : noLs (fs.map pField) = true := noLs_of fun d hd => by
  obtain ⟨f, _, rfl⟩ := List.mem_map.mp hd
  simp [pField, noL, noLs]
theorem sh_field {f : Str × Int} (h : NmOk f.1) : Sh 1 (pField f) := sh_t fun d hd => by
  have : d = .str f.1 ∨ d = .int f.2 := by simpa using hd
  rcases this with rfl | rfl
  · exact sh_s h.str
  · exact sh_i _
theorem sh_fields {fs : List (Str × Int)} (h : ∀ f ∈ fs, NmOk f.1) : Sh 2 (.tuple (fs.map pField)) := sh_t fun d hd => by
  obtain ⟨f, hf, rfl⟩ := List.mem_map.mp hd
  exact sh_field (h f hf)

end
abbrev s_is_name : Stmt := top 16
abbrev N_is_name : List Str := ["name", "letter"]
theorem sc_is_name : FnScope N_is_name ["name"] (defScope s_is_name) := ⟨rfl, rfl, rfl, by decide +kernel, rfl, by decide +kernel, by decide +kernel⟩
section
variable {P : Program} {w : World} {K : PySem.W.Frag}
variable {mg : Str → Option Value} {base : Heap}
theorem alph_iff (c : Nat) : c ∈ ALPH.cps.toList ↔ 97 ≤ c ∧ c ≤ 122 := by
  have e : ALPH.cps.toList = (List.range 26).map (fun k => 97 + k) := by decide +kernel
  rw [e, List.mem_map]; simp only [List.mem_range]
  constructor
  · rintro ⟨k, h, rfl⟩; omega
  · intro h; exact ⟨c - 97, by omega, by omega⟩
theorem inV_strs (z : Str) (zs : List Str) : inV (.str z) (zs.map V.str) = decide (z ∈ zs) := by
  unfold inV
  induction zs with
  | nil => rfl
  | cons a r ih =>
    rw [List.map_cons, List.any_cons, ih]
    have h1 : eqV (.str a) (.str z) = decide (a = z) := by
      show (a == z) = decide (a = z)
      exact Bool.beq_eq_decide_eq a z
    rw [h1]
    by_cases h : a = z
    · subst h; simp
    · have h' : ¬ z = a := fun q => h q.symm
      simp [h, h']
theorem flat_strs (zs : List Str) : (zs.map V.str).all flatV = true := by
  rw [List.all_eq_true]; intro x hx; obtain ⟨z, _, rfl⟩ := List.mem_map.mp hx; rfl
def sp_is_name : Sp := fun vs H Q _ => ∃ z : Str, vs = [.str z] ∧ z.length ≤ sizeLine ∧ ∀ H', Same H H' → Q (.bl (decide (NmOk z))) H'
theorem ok_is_name (M : Md K mg) (G : Gd K mg "is_name" s_is_name) : DefR P w K mg base "is_name" 2 sp_is_name := by
  refine def_mk G fun f fd F => fnr_mk (F.ok sc_is_name ?_ (fun cdv A outer s H vs Q E hr h => ?_)) (F.bindsN (fun _ _ _ _ _ _ us hl => match us, hl with | [_], _ => rfl))
  · rintro vs H Q E ⟨z, rfl, _⟩; rfl
  · obtain ⟨z, rfl, hz, k⟩ := h
    have nd := sc_is_name.nd
    have ez : z.length = z.cps.toList.length := by unfold Str.length; simp
    refine ⟨_, PSs.nox (pss_one (ps_ret (pe_and (pe_chain op_le op_le pe_int (pe_len K M.b (pv 0)) (pe_gi M.g_MAX_LETTERS)) (pe_one (pe_all K M.b (pe_lc (own := [("letter", 1)]) (g := (gName 1)) (tt := tYes) rfl nd (pi_str (pv 0)) (blkOk_by (N := N_is_name) (sc := defScope s_is_name) (by decide +kernel)) (fun _ _ _ _ _ => (pg_name (i := 1) nd rfl (by first | exact Or.inl rfl | exact Or.inr rfl))) (fun _ _ _ _ _ => pts_nil) (fun _ _ _ _ _ => (pe_cmpR (op_inK K hr) (pv 1) (pe_gs M.g_LETTERS) rfl)))))))), ?_⟩
    show (_ : TS) _ [some (.str z), none] H
    walk_at "go"
    refine g_len_s hz ?_
    walk_at "go"
    refine g_ch (fun h1 => ?_) (fun h1 => ?_)
    · walk_at "go"
      refine if_D (fun h2 => ?_) (fun h2 => ?_)
      · walk_at "go"
        have h1' : (1 : Int) ≤ z.length := of_decide_eq_true h1
        have b8 : z.cps.size ≤ 8 := by have := ez; simp [Str.length] at h2 this ⊢; omega
        refine n_lcS (lc_map (walk_str (z := z)) (fun j => .bl (decide (z.cps.toList.getD j 0 ∈ ALPH.cps.toList))) (fun _ _ => trivial) ?_ ?_)
        · rintro C j x H5 H6 nC hj s5 hC ⟨e, c, hc, ex⟩
          subst e ex
          walk_at "go"
          refine ⟨rfl, ?_⟩
          walk_at "go"
          exact n_mapK nC s5 hC (by rw [getD_of (cps_get hc)]; rfl) (by omega)
        · intro C H5 nC s5 hC
          have e1 : (List.range z.cps.size).map (fun j => V.bl (decide (z.cps.toList.getD j 0 ∈ ALPH.cps.toList))) = (z.cps.toList.map fun c => decide (c ∈ ALPH.cps.toList)).map V.bl := by
            rw [← Array.length_toList, range_getD z.cps.toList 0 fun c => V.bl (decide (c ∈ ALPH.cps.toList))]
            simp [Function.comp_def]
          rw [e1] at hC
          walk_at "go"
          refine g_all (SqL.of hC) ?_
          have e2 : (z.cps.toList.map fun c => decide (c ∈ ALPH.cps.toList)).all id = decide (NmOk z) := by
            rw [Bool.eq_iff_iff, decide_eq_true_eq, List.all_map, List.all_eq_true]
            unfold NmOk
            constructor
            · intro h
              refine ⟨by rw [← ez]; omega, by rw [← ez]; omega, fun c hc => (alph_iff c).mp ?_⟩
              have := h c hc
              simpa using this
            · intro h c hc
              have := (alph_iff c).mpr (h.2.2 c hc)
              simpa using this
          rw [e2]
          exact k H5 s5
      · have e2 : decide (NmOk z) = false := decide_eq_false fun h => h2 (by rw [ez]; have := h.2.1; omega)
        have := k H (Same.refl H)
        rw [e2] at this
        exact this
    · have h1' : ¬ (1 : Int) ≤ z.length := of_decide_eq_false h1
      have e2 : decide (NmOk z) = false := decide_eq_false fun h => h1' (by rw [ez]; have := h.1; omega)
      walk_at "go"
      refine if_F rfl ?_
      have := k H (Same.refl H)
      rw [e2] at this
      exact this

end
abbrev s_law_fields : Stmt := top 31
abbrev N_law_fields : List Str := ["_law_d", "_law_most", "_law_names", "_law_top", "_law_found", "_law_states", "_law_k", "_law_limit"]
theorem sc_law_fields : FnScope N_law_fields ["_law_d", "_law_most"] (defScope s_law_fields) := ⟨rfl, rfl, rfl, by decide +kernel, rfl, by decide +kernel, by decide +kernel⟩
section
variable {P : Program} {w : World} {K : PySem.W.Frag}
variable {mg : Str → Option Value} {base : Heap}
def sp_law_fields (K : PySem.W.Frag) : Sp := fun vs H Q _ => ∃ (d : Addr) (n : Int), vs = [.ref d, .int n] ∧ Dr H d ∧ 1 ≤ n ∧ n ≤ 6 ∧
  ∀ H' r xs fs, Keep d H H' → Dr H' d → H r = none → H' r = some (.lst xs) → DpAll K H' xs (fs.map pField) → FOk fs → fs.length ≤ n.toNat → Q (.ref r) H'
theorem ok_law_fields (M : Md K mg) (G : Gd K mg "_law_fields" s_law_fields) (D_law_below : DefR P w K mg base "_law_below" 2 sp_law_below) (D_law_shuffled : DefR P w K mg base "_law_shuffled" 4 (sp_law_shuffled K)) : DefR P w K mg base "_law_fields" 6 (sp_law_fields K) := by
  refine def_mk G fun f fd F => fnr_mk (F.ok sc_law_fields ?_ (fun cdv A outer s H vs Q E hr h => ?_)) (F.bindsN (fun _ _ _ _ _ _ us hl => match us, hl with | [_, _], _ => rfl))
  · rintro vs H Q E ⟨d, n, rfl, _⟩; rfl
  · obtain ⟨d, n, rfl, hd, n1, n6, k⟩ := h
    have nd := sc_law_fields.nd
    refine ⟨_, PSs.nox (pss_cons (ps_set (i := 2) nd rfl (by first | exact Or.inl rfl | exact Or.inr rfl) (pe_callR D_law_shuffled (hr.mono (by first | decide | omega)) passN (pa_cons (pv 0) (pa_cons (pe_lst (pa_cons pe_str (pa_cons pe_str (pa_cons pe_str (pa_cons pe_str (pa_cons pe_str (pa_cons pe_str pa_nil))))))) pa_nil))))
    (pss_cons (ps_par3 (i := 3) (j := 4) (l := 5) rfl nd rfl rfl rfl (by decide) (by decide) (by decide) rfl rfl rfl (pa_cons (pe_ix (ix_K K) (pe_lst (pa_cons pe_int (pa_cons pe_int (pa_cons pe_int pa_nil)))) (pe_callR D_law_below (hr.mono (by first | decide | omega)) passN (pa_cons (pv 0) (pa_cons pe_int pa_nil))) (fun _ _ => rfl)) (pa_cons (pe_lst pa_nil) (pa_cons pe_int pa_nil))) (by rfl))
    (pss_cons (ps_for PassesOwn.never rfl (pi_range1 rfl M.b.range (pa_cons (pe_op (op_addK K) pe_int (pe_callR D_law_below (hr.mono (by first | decide | omega)) passN (pa_cons (pv 0) (pa_cons (pv 1) pa_nil)))) pa_nil)) (pg_name (i := 6) nd rfl (by first | exact Or.inl rfl | exact Or.inr rfl)) (pss_cons (ps_set (i := 7) nd rfl (by first | exact Or.inl rfl | exact Or.inr rfl) (pe_op (op_addK K) pe_int (pe_callR D_law_below (hr.mono (by first | decide | omega)) passN (pa_cons (pv 0) (pa_cons (pe_min1 K M.b (pe_lst (pa_cons (pv 3) (pa_cons (pe_op op_fdiv pe_int (pv 5)) pa_nil)))) pa_nil)))))
    (pss_cons (ps_expr (as_bm K (pe_bm PySem.F.plainAttrs_list PySem.F.slot_list_append PySem.F.type_list_append mt_append (pv 4) (pa_cons (pe_tup (pa_cons (pe_ix (ix_K K) (pv 2) (pv 6) (fun _ _ => rfl)) (pa_cons (pv 7) pa_nil))) pa_nil))))
    (pss_one (ps_set (i := 5) nd rfl (by first | exact Or.inl rfl | exact Or.inr rfl) (pe_op op_mul (pv 5) (pv 7))))))) (pss_one (ps_ret (pv 4)))))), ?_⟩
    show (_ : TS) _ [some (.ref d), some (.int n), none, none, none, none, none, none] H
    walk_at "go"
    refine n_lst (by simp [sizeLine_eq]) fun p H1 np s1 hp => ?_
    walk_at "go"
    refine ⟨d, p, six, rfl, hd.same s1, SqL.of hp, by decide, fun z hz => (six_nm z hz).str, fun H2 nm ys k2 d2 nn hnm pm => ?_⟩
    have yl : ys.length = 6 := pm.length_eq
    walk_at "go"
    refine n_lst (by simp [sizeLine_eq]) fun q3 H3 nq3 s3 hq3 => ?_
    walk_at "go"
    refine ⟨d, 3, rfl, d2.same s3, by decide, by decide, fun H4 r r0 r1 k4 d4 => ?_⟩
    have nq3d : q3 ≠ d := (d2.ne nq3).symm
    have nnd : nm ≠ d := ((hd.same s1).ne nn).symm
    have hr012 : r = 0 ∨ r = 1 ∨ r = 2 := by omega
    refine g_ix_l (v := .int (if r = 0 then 3 else if r = 1 then 6 else 30)) (SqL.of (k4 _ _ nq3d hq3)) (by rcases hr012 with rfl | rfl | rfl <;> rfl) ?_
    generalize ht : (if r = 0 then 3 else if r = 1 then 6 else 30 : Int) = top
    have t1 : 1 ≤ top ∧ top ≤ 30 := by rcases hr012 with rfl | rfl | rfl <;> subst ht <;> decide
    walk_at "go"
    refine n_lst (by simp) fun fo H5 nfo s5 hfo => ?_
    walk_at "go"
    refine ⟨d, n, rfl, d4.same s5, by omega, by omega, fun H6 m m0 m1 k6 d6 => ?_⟩
    have nfod : fo ≠ d := (d4.ne nfo).symm
    have hnm5 : H5 nm = some (.lst (ys.map V.str)) := s5 _ _ (k4 _ _ nnd (s3 _ _ hnm))
    have nfonm : fo ≠ nm := (ne_of_none (k4 _ _ nnd (s3 _ _ hnm)) nfo).symm
    have fresh5 : ∀ b o, b ≠ d → H b = some o → H5 b = some o := fun b o nb hb => s5 _ _ (k4 _ _ nb (s3 _ _ (k2 _ _ nb (s1 _ _ hb))))
    have nfo0 : H fo = none := by
      cases e : H fo with
      | none => rfl
      | some o =>
        have := k4 _ _ nfod (s3 _ _ (k2 _ _ nfod (s1 _ _ e)))
        rw [nfo] at this; cases this
    walk_at "go"
    refine n_forR1 (by omega) (by omega) (fun i σ H' => ∃ (xs : List V) (fs : List (Str × Int)) (u v : Option V), σ = [some (.ref d), some (.int n), some (.ref nm), some (.int top), some (.ref fo), some (.int (prodL (fs.map (·.2)))), u, v] ∧ Keep d H H' ∧ Dr H' d ∧
      H' nm = some (.lst (ys.map V.str)) ∧ H' fo = some (.lst xs) ∧ DpAll K H' xs (fs.map pField) ∧ fs.length = i ∧ fs.map (·.1) = ys.take i ∧ (∀ f ∈ fs, 1 ≤ f.2 ∧ f.2 ≤ 30) ∧ 1 ≤ prodL (fs.map (·.2)) ∧ prodL (fs.map (·.2)) ≤ 4000)
      ⟨[], [], none, none, rfl, fun b o nb hb => k6 _ _ nb (fresh5 b o nb hb), d6, k6 _ _ nnd hnm5, k6 _ _ nfod hfo, .nil, rfl, by simp, (fun f hf => by cases hf), by decide, by decide⟩ ?_ ?_
    · rintro i σ H' hi ⟨xs, fs, u, v, rfl, kH, dH, hN, hF, hX, hl, hnames, hlim, p1, p2⟩
      have hi6 : i < 6 := by omega
      generalize hst : prodL (fs.map (·.2)) = st at *
      walk_at "go"
      refine n_lst (by simp [sizeLine_eq]) fun q7 H7 nq7 s7 hq7 => ?_
      walk_at "go"
      refine g_minL (ns := [top, 4000 / st]) (SqL.of hq7) (by simp) fun mn mm mle => ?_
      have mt : mn ≤ top := mle _ (by simp)
      have ms : mn ≤ 4000 / st := mle _ (by simp)
      have q1 : 1 ≤ 4000 / st := (Int.le_ediv_iff_mul_le (by omega)).mpr (by omega)
      have mn1 : 1 ≤ mn := by
        have : mn = top ∨ mn = 4000 / st := by simpa using mm
        rcases this with rfl | rfl
        · exact t1.1
        · exact q1
      walk_at "go"
      refine ⟨d, mn, rfl, dH.same s7, by omega, by omega, fun H8 l l0 l1 k8 d8 => ?_⟩
      have hN8 : H8 nm = some (.lst (ys.map V.str)) := k8 _ _ nnd (s7 _ _ hN)
      have hF8 : H8 fo = some (.lst xs) := k8 _ _ nfod (s7 _ _ hF)
      have hyi : ys[i]? = some ys[i] := List.getElem?_eq_getElem (by omega)
      walk_at "go"
      refine g_ix_l (v := .str ys[i]) (SqL.of hN8) (atI_nat (by rw [List.getElem?_map, hyi]; rfl)) ?_
      walk_at "go"
      refine n_tup (by simp [sizeLine_eq]) fun tp H9 ntp s9 htp => ?_
      walk_at "go"
      have hxl : xs.length ≤ 6 := by rw [hX.length]; simp; omega
      refine g_append (s9 _ _ hF8) (by simp [sizeLine_eq]; omega) fun H10 k10 hF10 => ?_
      walk_at "go"
      have sK : ∀ b o, b ≠ d → b ≠ fo → H' b = some o → H10 b = some o := fun b o nb nf hb => k10 _ _ nf (s9 _ _ (k8 _ _ nb (s7 _ _ hb)))
      have hd9 : Dr H9 d := d8.same s9
      have hX7 : DpAll K H7 xs (fs.map pField) := s7.dpa hX
      have hX8 : DpAll K H8 xs (fs.map pField) := dp_keepAll k8 (dH.same s7).notT _ _ (noL_fields fs) hX7
      have hX9 : DpAll K H9 xs (fs.map pField) := s9.dpa hX8
      have hXt : DpAll K H9 [.ref tp] ([(ys[i], 1 + l)].map pField) := .cons (dp_tup htp (.cons (.str _) (.cons (.int _) .nil))) .nil
      have hlim2 : st * (1 + l) ≤ 4000 := by
        have h1 : 1 + l ≤ 4000 / st := by omega
        have h2 := (Int.le_ediv_iff_mul_le (by omega : (0:Int) < st)).mp h1
        rw [Int.mul_comm]; exact h2
      have hpos : 1 ≤ st * (1 + l) := by
        have : 1 * 1 ≤ st * (1 + l) := Int.mul_le_mul p1 (by omega) (by decide) (by omega)
        omega
      refine ⟨xs ++ [.ref tp], fs ++ [(ys[i], 1 + l)], some (.int i), some (.int (1 + l)), ?_, fun b o nb hb => ?_, ?_, ?_, hF10, ?_, by simp [hl], ?_, ?_, ?_, ?_⟩
      · simp [prodL_snoc, hst]
      · exact sK b o nb (ne_of_none hb nfo0) (kH b o nb hb)
      · exact hd9.keep k10 nfod.symm
      · exact k10 _ _ nfonm.symm (s9 _ _ hN8)
      · rw [List.map_append]
        exact dp_keepAll k10 (notT_l (s9 _ _ hF8)) _ _ (by rw [← List.map_append]; exact noL_fields _) (hX9.append hXt)
      · rw [List.map_append, hnames]
        rw [List.take_add_one, hyi]
        rfl
      · intro f hf
        rcases List.mem_append.mp hf with h | h
        · exact hlim f h
        · have : f = (ys[i], 1 + l) := by simpa using h
          subst this
          exact ⟨by simp; omega, by simp; omega⟩
      · simpa [prodL_snoc, hst] using hpos
      · simpa [prodL_snoc, hst] using hlim2
    · rintro σ H' ⟨xs, fs, u, v, rfl, kH, dH, hN, hF, hX, hl, hnames, hlim, p1, p2⟩
      walk_at "go"
      have hl6 : fs.length ≤ 6 := by omega
      refine k H' fo xs fs kH dH nfo0 hF hX ⟨by omega, hl6, ?_, ?_, hlim, p2⟩ (by omega)
      · rw [hnames]
        exact (pm.nodup_iff.mpr six_nd).sublist (List.take_sublist _ _)
      · intro f hf
        have : f.1 ∈ fs.map (·.1) := List.mem_map.mpr ⟨f, hf, rfl⟩
        rw [hnames] at this
        exact six_nm _ (pm.subset (List.mem_of_mem_take this))

end
abbrev s_law_bytes : Stmt := top 27
abbrev N_law_bytes : List Str := ["_law_fields_here", "_law_found", "_law_total", "_law_name", "_law_limit", "_law_letter", "_law_value"]
theorem sc_law_bytes : FnScope N_law_bytes ["_law_fields_here"] (defScope s_law_bytes) := ⟨rfl, rfl, rfl, by decide +kernel, rfl, by decide +kernel, by decide +kernel⟩
abbrev s_checksum : Stmt := top 21
abbrev N_checksum : List Str := ["values", "found", "value"]
theorem sc_checksum : FnScope N_checksum ["values"] (defScope s_checksum) := ⟨rfl, rfl, rfl, by decide +kernel, rfl, by decide +kernel, by decide +kernel⟩
section
variable {P : Program} {w : World} {K : PySem.W.Frag}
variable {mg : Str → Option Value} {base : Heap}
def sp_law_bytes (K : PySem.W.Frag) : Sp := fun vs H Q _ => ∃ (v : V) (fs : List (Str × Int)), vs = [v] ∧ Dp K H v (.list (fs.map pField)) ∧ FOk fs ∧
  ∀ H' p, Same H H' → H p = none → H' p = some (.lst ((bytesOf fs).map V.int)) → Q (.ref p) H'
theorem flat_take {α β : Type} (f : α → List β) {l : List α} {i : Nat} {x : α} (h : l[i]? = some x) : (l.take (i + 1)).flatMap f = (l.take i).flatMap f ++ f x := by
  rw [List.take_add_one, h]; simp
theorem encF_len (f : Str × Int) (h : NmOk f.1) : (encF f).length ≤ 10 := by
  have := h.2.1
  simp only [encF, lets, List.length_append, List.length_map, List.length_cons, List.length_nil]
  omega
theorem flat_len {fs : List (Str × Int)} (h : ∀ f ∈ fs, NmOk f.1) : (fs.flatMap encF).length ≤ 10 * fs.length := by
  induction fs with
  | nil => simp
  | cons f r ih =>
    have h1 := encF_len f (h f (by simp))
    have h2 := ih fun g hg => h g (by simp [hg])
    simp only [List.flatMap_cons, List.length_append, List.length_cons]
    omega
theorem body_len {fs : List (Str × Int)} (h : FOk fs) : (bodyOf fs).length ≤ 62 := by
  have h1 := flat_len h.nm
  have h2 := h.six
  simp only [bodyOf, List.length_append, List.length_cons, List.length_nil]
  omega
theorem ok_law_bytes (M : Md K mg) (G : Gd K mg "_law_bytes" s_law_bytes) : DefR P w K mg base "_law_bytes" 2 (sp_law_bytes K) := by
  refine def_mk G fun f fd F => fnr_mk (F.ok sc_law_bytes ?_ (fun cdv A outer s H vs Q E hr h => ?_)) (F.bindsN (fun _ _ _ _ _ _ us hl => match us, hl with | [_], _ => rfl))
  · rintro vs H Q E ⟨d, n, rfl, _⟩; rfl
  · obtain ⟨v, fs, rfl, hv, ok, k⟩ := h
    obtain ⟨a, xs, rfl, hS, hX⟩ := hv.inv_l
    have hxl : xs.length = fs.length := by rw [hX.length]; simp
    have nd := sc_law_bytes.nd
    refine ⟨_, PSs.nox (pss_cons (ps_par (i := 1) (j := 2) rfl nd rfl rfl (by decide) rfl rfl (pa_cons (pe_lst (pa_cons pe_int (pa_cons (pe_len K M.b (pv 0)) pa_nil))) (pa_cons pe_int pa_nil)) (by rfl))
    (pss_cons (ps_for PassesOwn.never rfl (pi_listK K (pv 0)) (pg_tupK K rfl (pgs_cons (pg_name (i := 3) nd rfl (by first | exact Or.inl rfl | exact Or.inr rfl)) (pgs_cons (pg_name (i := 4) nd rfl (by first | exact Or.inl rfl | exact Or.inr rfl)) pgs_nil))) (pss_one (ps_set (i := 1) nd rfl (by first | exact Or.inl rfl | exact Or.inr rfl) (pe_op (op_addK K) (pe_op (op_addK K) (pv 1) (pe_lst (pa_cons (pv 4) (pa_cons (pe_len K M.b (pv 3)) pa_nil)))) (pe_lc (own := [("_law_letter", 5)]) (g := (gName 5)) (tt := tYes) rfl nd (pi_str (pv 3)) (blkOk_by (N := N_law_bytes) (sc := defScope s_law_bytes) (by decide +kernel)) (fun _ _ _ _ _ => (pg_name (i := 5) nd rfl (by first | exact Or.inl rfl | exact Or.inr rfl))) (fun _ _ _ _ _ => pts_nil) (fun _ _ _ _ _ => (pe_m1 PySem.F.slot_str_index PySem.F.type_str_index mt_sindex pe_str (pv 5))))))))
    (pss_cons (ps_for PassesOwn.never rfl (pi_listK K (pv 1)) (pg_name (i := 6) nd rfl (by first | exact Or.inl rfl | exact Or.inr rfl)) (pss_one (ps_set (i := 2) nd rfl (by first | exact Or.inl rfl | exact Or.inr rfl) (pe_op op_mod (pe_op (op_addK K) (pe_op op_mul pe_int (pv 2)) (pv 6)) pe_int))))
    (pss_one (ps_ret (pe_op (op_addK K) (pv 1) (pe_lst (pa_cons (pv 2) pa_nil)))))))), ?_⟩
    show (_ : TS) _ [some (.ref a), none, none, none, none, none, none] H
    walk_at "go"
    refine g_len_l hS ?_
    walk_at "go"
    refine n_lst (by simp [sizeLine_eq]) fun q H1 nq s1 hq => ?_
    walk_at "go"
    refine n_forL (s1.seq hS) (fun i σ H' => ∃ (q : Addr) (u1 u2 : Option V), σ = [some (.ref a), some (.ref q), some (.int 5), u1, u2, none, none] ∧ Same H H' ∧ H q = none ∧ H' q = some (.lst (([72, (fs.length : Int)] ++ (fs.take i).flatMap encF).map V.int)))
      ⟨q, none, none, rfl, s1, nq, by rw [hq, hxl]; rfl⟩ (fun i σ H' ⟨q, u1, u2, _, s2, _⟩ => s2.seq hS) ?_ ?_
    · rintro i x σ H' hx ⟨q, u1, u2, rfl, s2, nq, hq⟩
      obtain ⟨dd, hd, hDx⟩ := hX.get hx
      obtain ⟨fi, hfi, rfl⟩ : ∃ fi, fs[i]? = some fi ∧ pField fi = dd := by simpa using hd
      have fm : fi ∈ fs := List.mem_of_getElem? hfi
      obtain ⟨t, ys, rfl, hT, hY⟩ := (s2.dp hDx).inv_t
      obtain ⟨v1, v2, rfl, hv1, hv2⟩ := hY.inv2
      obtain rfl := hv1.inv_s
      obtain rfl := hv2.inv_i
      have tl : ((fs.take i).flatMap encF).length ≤ 60 := by
        have h1 := flat_len (fs := fs.take i) fun g hg => ok.nm g (List.mem_of_mem_take hg)
        have h2 := ok.six
        have h3 : (fs.take i).length ≤ fs.length := by simp; omega
        omega
      have nl := (ok.nm fi fm).2.1
      refine g_gtup hT rfl ?_
      walk_at "go"
      refine g_len_s (by show fi.1.cps.size ≤ sizeLine; rw [← Array.length_toList]; simp only [sizeLine_eq]; omega) ?_
      walk_at "go"
      refine n_lst (by simp [sizeLine_eq]) fun r H3 nr s3 hr3 => ?_
      refine g_add_l (s3 _ _ hq) hr3 (by simp [sizeLine_eq] at tl ⊢; omega) fun p4 H4 np4 s4 hp4 => ?_
      walk_at "go"
      refine n_lcS (lc_map (walk_str (z := fi.1)) (fun j => .int (((fi.1.cps.toList.getD j 97) - 97 : Nat) : Int)) (fun _ _ => trivial) ?_ ?_)
      · rintro C j x H5 H6 nC hj s5 hC ⟨e, c, hc, ex⟩
        subst e ex
        have hc' := cps_get hc
        have cb := (ok.nm fi fm).2.2 c (List.mem_of_getElem? hc')
        have hj8 : j < 1000000 := by rw [← Array.length_toList] at hj; omega
        walk_at "go"
        refine ⟨rfl, ?_⟩
        walk_at "go"
        refine ⟨ALPH, ⟨#[c]⟩, c - 97, [], rfl, rfl, alph_ix cb.1 cb.2, ?_⟩
        exact n_mapK nC s5 hC (by rw [getD_of hc'])
      · intro C H5 nC s5 hC
        have e1 : (List.range fi.1.cps.size).map (fun j => V.int (((fi.1.cps.toList.getD j 97) - 97 : Nat) : Int)) = (lets fi.1).map V.int := by
          rw [← Array.length_toList, range_getD fi.1.cps.toList 97 fun c => V.int ((c - 97 : Nat) : Int)]
          simp [lets, Function.comp_def]
        rw [e1] at hC
        refine g_add_l (s5 _ _ hp4) hC (by simp [sizeLine_eq, lets] at tl nl ⊢; omega) fun p6 H6 np6 s6 hp6 => ?_
        walk_at "go"
        have sA : Same H H6 := s2.trans (s3.trans (s4.trans (s5.trans s6)))
        refine ⟨p6, some (.str fi.1), some (.int fi.2), rfl, sA, (s2.trans (s3.trans (s4.trans s5))).free np6, ?_⟩
        rw [hp6, flat_take encF hfi]
        simp [encF, Str.length]
    · rintro σ H' ⟨q, u1, u2, rfl, s2, nq, hq⟩
      have ef : fs.take xs.length = fs := by rw [hxl, List.take_length]
      rw [ef] at hq
      have eb : H' q = some (.lst ((bodyOf fs).map V.int)) := hq
      walk_at "go"
      refine n_forL (SqL.of eb) (fun i σ H'' => H'' = H' ∧ ∃ u : Option V, σ = [some (.ref a), some (.ref q), some (.int (cks ((bodyOf fs).take i))), u1, u2, none, u]) ⟨rfl, none, rfl⟩ (fun i σ H'' ⟨e, _⟩ => e ▸ SqL.of eb) ?_ ?_
      · rintro i x σ H'' hx ⟨rfl, u, rfl⟩
        obtain ⟨z, hz, rfl⟩ : ∃ z, (bodyOf fs)[i]? = some z ∧ V.int z = x := by simpa using hx
        walk_at "go"
        refine ⟨rfl, some (V.int z), ?_⟩
        have e2 : (bodyOf fs).take (i + 1) = (bodyOf fs).take i ++ [z] := by rw [List.take_add_one, hz]; rfl
        rw [e2, cks_snoc]
      · rintro σ H'' ⟨rfl, u, rfl⟩
        simp only [List.length_map, List.take_length]
        walk_at "go"
        refine n_lst (by simp [sizeLine_eq]) fun r H3 nr s3 hr3 => ?_
        have bl := body_len ok
        refine g_add_l (s3 _ _ eb) hr3 (by simp [sizeLine_eq] at bl ⊢; omega) fun p4 H4 np4 s4 hp4 => ?_
        refine k H4 p4 (s2.trans (s3.trans s4)) ((s2.trans s3).free np4) ?_
        rw [hp4]; simp [bytesOf]
def sp_checksum (K : PySem.W.Frag) : Sp := fun vs H Q _ => ∃ (a : Addr) (ns : List Int), vs = [.ref a] ∧ SqL K H a (ns.map V.int) ∧ Q (.int (cks ns)) H
theorem ok_checksum (M : Md K mg) (G : Gd K mg "checksum" s_checksum) : DefR P w K mg base "checksum" 2 (sp_checksum K) := by
  refine def_mk G fun f fd F => fnr_mk (F.ok sc_checksum ?_ (fun cdv A outer s H vs Q E hr h => ?_)) (F.bindsN (fun _ _ _ _ _ _ us hl => match us, hl with | [_], _ => rfl))
  · rintro vs H Q E ⟨d, n, rfl, _⟩; rfl
  · obtain ⟨a, ns, rfl, hS, k⟩ := h; have nd := sc_checksum.nd
    refine ⟨_, PSs.nox (pss_cons (ps_set (i := 1) nd rfl (by first | exact Or.inl rfl | exact Or.inr rfl) pe_int)
    (pss_cons (ps_for PassesOwn.never rfl (pi_listK K (pv 0)) (pg_name (i := 2) nd rfl (by first | exact Or.inl rfl | exact Or.inr rfl)) (pss_one (ps_set (i := 1) nd rfl (by first | exact Or.inl rfl | exact Or.inr rfl) (pe_op op_mod (pe_op (op_addK K) (pe_op op_mul (pv 1) pe_int) (pv 2)) (pe_gi M.g_MODULUS))))) (pss_one (ps_ret (pv 1))))), ?_⟩
    show (_ : TS) _ [some (.ref a), none, none] H
    walk_at "go"
    refine n_forL hS (fun i σ H'' => H'' = H ∧ ∃ u : Option V, σ = [some (.ref a), some (.int (cks (ns.take i))), u]) ⟨rfl, none, rfl⟩ (fun i σ H'' ⟨e, _⟩ => e ▸ hS) ?_ ?_
    · rintro i x σ H'' hx ⟨rfl, u, rfl⟩
      obtain ⟨z, hz, rfl⟩ : ∃ z, ns[i]? = some z ∧ V.int z = x := by simpa using hx
      walk_at "go"
      refine ⟨rfl, some (V.int z), ?_⟩
      have e2 : ns.take (i + 1) = ns.take i ++ [z] := by rw [List.take_add_one, hz]; rfl
      rw [e2, cks_snoc, Int.mul_comm]
    · rintro σ H'' ⟨rfl, u, rfl⟩
      simp only [List.length_map, List.take_length]
      walk_at "go"
      exact k

end
abbrev s_Farm___init__ : Stmt := inClass (top 17) 2
abbrev N_Farm___init__ : List Str := ["self", "fields", "states", "index", "name", "limit", "earlier", "other"]
theorem sc_Farm___init__ : FnScope N_Farm___init__ ["self", "fields"] (defScope s_Farm___init__) := ⟨rfl, rfl, rfl, by decide +kernel, rfl, by decide +kernel, by decide +kernel⟩
abbrev s_Farm_fields : Stmt := inClass (top 17) 4
abbrev N_Farm_fields : List Str := ["self"]
theorem sc_Farm_fields : FnScope N_Farm_fields ["self"] (defScope s_Farm_fields) := ⟨rfl, rfl, rfl, by decide +kernel, rfl, by decide +kernel, by decide +kernel⟩
abbrev s_Farm___len__ : Stmt := inClass (top 17) 8
abbrev N_Farm___len__ : List Str := ["self"]
theorem sc_Farm___len__ : FnScope N_Farm___len__ ["self"] (defScope s_Farm___len__) := ⟨rfl, rfl, rfl, by decide +kernel, rfl, by decide +kernel, by decide +kernel⟩
section
variable {P : Program} {w : World} {K : PySem.W.Frag}
variable {mg : Str → Option Value} {base : Heap}
/-- what the text says of the class Farm -/
structure FarmC (K : PySem.W.Frag) (CF : Addr) : Prop where
  cl : Cls K CF
  rows : NoAttr K CF "rows"
def farmFs (t : Addr) : List (Str × V) := [("rows", .ref t)]
def FarmAt (K : PySem.W.Frag) (CF : Addr) (H : Hp) (p : Addr) (fs : List (Str × Int)) : Prop := ∃ dx t, H p = some (.ins CF dx (farmFs t)) ∧ Dp K H (.ref t) (.tuple (fs.map pField))
variable {CF : Addr}
def sp_farm_init0 (K : PySem.W.Frag) (CF : Addr) : Sp := fun vs H Q _ => ∃ (x dx t : Addr) (fs : List (Str × Int)), vs = [.ref x, .ref t] ∧ H x = some (.ins CF dx []) ∧ Dp K H (.ref t) (.tuple (fs.map pField)) ∧ FOk fs ∧
  ∀ H', Keep x H H' → H' x = some (.ins CF dx (farmFs t)) → Q .non H'
def sp_farm_init (K : PySem.W.Frag) (CF : Addr) : Sp := fun vs H Q E => ∃ w0 rest, vs = w0 :: rest ∧ rest.length ≤ sizeLine ∧ ∀ p, H p = none → sp_farm_init0 K CF [w0, V.ref p] (upd H p (.tup rest)) Q E
theorem nodup_take {fs : List (Str × Int)} {i : Nat} {f : Str × Int} (h : (fs.map (·.1)).Nodup) (hf : fs[i]? = some f) : f.1 ∉ (fs.take i).map (·.1) := by
  intro hm
  rw [List.map_take] at hm
  obtain ⟨j, hj, e⟩ := List.mem_iff_getElem.mp hm
  simp at hj
  have h1 : (fs.map (·.1))[j]? = some f.1 := by
    rw [List.getElem?_eq_getElem (by simp; omega)]
    congr 1
    simpa using e
  have h2 : (fs.map (·.1))[i]? = some f.1 := by rw [List.getElem?_map, hf]; rfl
  have := nd_ix h h1 h2
  omega
theorem prod_take {fs : List (Str × Int)} (lo : ∀ f ∈ fs, 1 ≤ f.2 ∧ f.2 ≤ 30) : ∀ i, 1 ≤ prodL ((fs.take i).map (·.2)) ∧ prodL ((fs.take i).map (·.2)) ≤ 30 ^ i
  | 0 => by simp [prodL]
  | i + 1 => by
    have ih := prod_take lo i
    cases h : fs[i]? with
    | none =>
      have hl : fs.length ≤ i := List.getElem?_eq_none_iff.mp h
      rw [List.take_of_length_le (by omega)]
      rw [List.take_of_length_le hl] at ih
      refine ⟨ih.1, Int.le_trans ih.2 ?_⟩
      rw [Int.pow_succ]
      have : (0 : Int) ≤ 30 ^ i := Int.pow_nonneg (by decide)
      omega
    | some f =>
      have hf := lo f (List.mem_of_getElem? h)
      rw [List.take_add_one, h]
      simp only [Option.toList_some, List.map_append, List.map_cons, List.map_nil, prodL_snoc]
      constructor
      · have : 1 * 1 ≤ prodL ((fs.take i).map (·.2)) * f.2 := Int.mul_le_mul ih.1 hf.1 (by decide) (by omega)
        omega
      · rw [Int.pow_succ]
        exact Int.mul_le_mul ih.2 hf.2 (by omega) (Int.pow_nonneg (by decide))
theorem ok_farm_init (M : Md K mg) (C : FarmC K CF) (G : Gk K mg "Farm" CF "Farm.__init__" s_Farm___init__) (D_is_name : DefR P w K mg base "is_name" 2 sp_is_name) : MakeR P w K mg base "Farm" CF 4 (sp_farm_init K CF) := by
  refine make_mk G fun f fd F => fnr_star1 F sc_Farm___init__ (fun _ _ _ _ _ _ _ => rfl) (fun _ _ _ _ _ _ _ _ _ => rfl) (fun cdv A outer s H vs Q E hr h => ?_)
  obtain ⟨x, dx, t, fs, rfl, hx, hv, ok, k⟩ := h
  obtain ⟨t', xs, e, hS, hX⟩ := hv.inv_t
  cases e
  have hxl : xs.length = fs.length := by rw [hX.length]; simp
  have nd := sc_Farm___init__.nd
  refine ⟨_, PSs.nox (pss_cons (ps_if (pt_cmpR (op_eqK K hr) (pv 1) (pe_tup pa_nil) (nomark _)) (pss_one ps_never) pss_nil)
    (pss_cons (ps_set (i := 2) nd rfl (by first | exact Or.inl rfl | exact Or.inr rfl) pe_int)
    (pss_cons (ps_for PassesOwn.never rfl (pi_enumTK K rfl M.b.enumerate (pa_cons (pv 1) pa_nil)) (pg_tupK K rfl (pgs_cons (pg_name (i := 3) nd rfl (by first | exact Or.inl rfl | exact Or.inr rfl)) (pgs_cons (pg_tupK K rfl (pgs_cons (pg_name (i := 4) nd rfl (by first | exact Or.inl rfl | exact Or.inr rfl)) (pgs_cons (pg_name (i := 5) nd rfl (by first | exact Or.inl rfl | exact Or.inr rfl)) pgs_nil))) pgs_nil))) (pss_cons (ps_setLc (i := 6) (own := [("other", 7)]) (g := (gName 7)) (tt := tYes) rfl nd rfl rfl (sw_true rfl rfl rfl (by decide +kernel)) (pi_tupK K (pe_slice (sl_tupK K) (pv 1) po_none (po_some (pv 3)))) (blkOk_by (N := N_Farm___init__) (sc := defScope s_Farm___init__) (by decide +kernel)) (fun _ _ _ _ _ => (pg_name (i := 7) nd rfl (by first | exact Or.inl rfl | exact Or.inr rfl))) (fun _ _ _ _ _ => pts_nil) (fun _ _ _ _ _ => (pe_ix (ix_K K) (pv 7) pe_int (fun _ _ => rfl))))
    (pss_cons (ps_if (PW.pt (pw_or (pt_cmpR (op_eqK K hr) (pv 3) (pe_gcon M.k_Farm_MAX_FIELDS) (nomark _)) (pw_or (pt_not (pt_val (pe_callR D_is_name (hr.mono (by first | decide | omega)) passN (pa_cons (pv 4) pa_nil)))) (pw_or (pt_not (pt_chain op_le op_le pe_int (pv 5) (pe_gi M.g_MAX_LIMIT))) (pw_or1 (pt_cmpR (op_inK K hr) (pv 4) (pv 6) rfl)))))) (pss_one ps_never) pss_nil)
    (pss_one (ps_set (i := 2) nd rfl (by first | exact Or.inl rfl | exact Or.inr rfl) (pe_op op_mul (pv 2) (pv 5)))))))
    (pss_cons (ps_if (pt_cmpR op_gt (pv 2) (pe_gcon M.k_Farm_MAX_STATES) (nomark _)) (pss_one ps_never) pss_nil) (pss_one (ps_fldK K (pv 0) (pv 1))))))), ?_⟩
  show (_ : TS) _ [some (.ref x), some (.ref t), none, none, none, none, none, none] H
  walk_at "go"
  refine n_tup (by simp) fun e H1 ne s1 he => ?_
  refine g_eq_d (.tuple (fs.map pField)) (.tuple []) (s1.dp hv) (dp_tup he .nil) ((sh_fields ok.nm).ok (by decide)) (Sh.ok (n := 1) (sh_t fun x hx => by cases hx) (by decide)) ?_
  rw [eqv_nilT]
  have en : (fs.map pField).isEmpty = false := by
    cases fs with
    | nil => have := ok.one; simp at this
    | cons f r => rfl
  rw [en]
  walk_at "go"
  refine if_F rfl ?_
  walk_at "go"
  refine n_forET (same_t s1 hS) (fun i σ H' => ∃ u1 u2 u3 u4 u5 : Option V, σ = [some (.ref x), some (.ref t), some (.int (prodL ((fs.take i).map (·.2)))), u1, u2, u3, u4, u5] ∧ Same H H') ⟨_, _, _, _, _, rfl, s1⟩ (fun i σ H' ⟨_, _, _, _, _, _, s2⟩ => same_t s2 hS) ?_ ?_
  · rintro i y T σ H2 H3 hy ⟨u1, u2, u3, u4, u5, rfl, s2⟩ nT s3 hT
    have hi6 : i < 6 := by
      have := (List.getElem?_eq_some_iff.mp hy).1
      have := ok.six
      omega
    obtain ⟨dd, hd, hDx⟩ := hX.get hy
    obtain ⟨fi, hfi, rfl⟩ : ∃ fi, fs[i]? = some fi ∧ pField fi = dd := by simpa using hd
    have fm : fi ∈ fs := List.mem_of_getElem? hfi
    obtain ⟨t2, ys, rfl, hT2, hY⟩ := ((s2.trans s3).dp hDx).inv_t
    obtain ⟨v1, v2, rfl, hv1, hv2⟩ := hY.inv2
    obtain rfl := hv1.inv_s
    obtain rfl := hv2.inv_i
    refine g_gtup (SqT.of hT) rfl ?_
    walk_at "go"
    refine g_gtup hT2 rfl ?_
    walk_at "go"
    have sA := s2.trans s3
    refine g_slT (same_t sA hS) fun p4 H4 s4 hp4 => ?_
    rw [cutV_to] at hp4
    walk_at "go"
    have hXt : DpAll K H4 (xs.take i) ((fs.take i).map pField) := by
      rw [List.map_take]
      exact dpa_take i ((sA.trans s4).dpa hX)
    refine n_lcT hp4 (lc_map (walk_tup (xs := xs.take i)) (fun j => .str ((fs.getD j ("", 0)).1)) (fun H5 s5 => same_t s5 hp4) ?_ ?_)
    · rintro C j y H5 H6 nC hj s5 hC ⟨e, hyj⟩
      subst e
      obtain ⟨dj, hdj, hDj⟩ := (s5.dpa hXt).get hyj
      obtain ⟨fj, hfj, rfl⟩ := getm hdj
      obtain ⟨t3, zs, rfl, hT3, hZ⟩ := hDj.inv_t
      obtain ⟨w1, w2, rfl, hw1, hw2⟩ := hZ.inv2
      obtain rfl := hw1.inv_s
      have hjl : j < xs.length := by simp at hj; omega
      have hfj' : fs[j]? = some fj := by
        rw [List.getElem?_take] at hfj
        split at hfj
        · exact hfj
        · cases hfj
      walk_at "go"
      refine ⟨rfl, ?_⟩
      walk_at "go"
      refine g_ix_t hT3 atI_c0 ?_
      have := ok.six
      exact n_mapK nC s5 hC (by rw [getD_of hfj'])
    · intro C5 H5 nC s5 hC
      have e1 : (List.range (xs.take i).length).map (fun j => V.str ((fs.getD j ("", 0)).1)) = ((fs.take i).map (·.1)).map V.str := by
        have el : (xs.take i).length = (fs.take i).length := by simp [hxl]
        rw [el, List.map_map]
        refine Eq.trans ?_ (range_getD (fs.take i) ("", 0) fun f : Str × Int => V.str f.1)
        apply List.map_congr_left
        intro j hj
        have hj' : j < i ∧ j < fs.length := by simp at hj; omega
        simp [List.getD, List.getElem?_take, hj'.1]
      rw [e1] at hC
      walk_at "go"
      refine if_D (fun e => absurd e (by omega)) (fun _ => ?_)
      walk_at "go"
      refine ⟨fi.1, rfl, ?_, fun H6 s6 => ?_⟩
      · have := (ok.nm fi fm).2.1
        rw [Str.length, ← Array.length_toList, sizeLine_eq]; omega
      rw [decide_eq_true (ok.nm fi fm)]
      walk_at "go"
      refine if_F rfl ?_
      walk_at "go"
      have hb := ok.lo fi fm
      refine g_ch (fun _ => ?_) (fun e => absurd hb.1 (of_decide_eq_false e))
      walk_at "go"
      refine if_F (by rw [decide_eq_true hb.2]; rfl) ?_
      walk_at "go"
      refine g_in_seq (.inl (SqL.of (s6 _ _ hC))) rfl (flat_strs _) ?_
      rw [inV_strs, decide_eq_false (nodup_take ok.nd hfi)]
      walk_at "go"
      refine if_F rfl ?_
      have hp := prod_take ok.lo i
      walk_at "go"
      have ep : prodL ((fs.take i).map (·.2)) * fi.2 = prodL ((fs.take (i + 1)).map (·.2)) := by
        rw [List.take_add_one, hfi]
        simp only [Option.toList_some, List.map_append, List.map_cons, List.map_nil, prodL_snoc]
      rw [ep]
      exact ⟨_, _, _, _, _, rfl, sA.trans (s4.trans (s5.trans s6))⟩
  · rintro σ H2 ⟨u1, u2, u3, u4, u5, rfl, s2⟩
    rw [hxl, List.take_length]
    walk_at "go"
    refine if_D (fun e => absurd e (by have := ok.pr; omega)) (fun _ => ?_)
    walk_at "go"
    refine n_sfld (s2 _ _ hx) C.cl C.rows (by show 0 < 1000; decide) fun H3 k3 h3 => ?_
    exact k H3 (fun b o nb hb => k3 _ _ nb (s2 _ _ hb)) h3
def sp_farm_fields (K : PySem.W.Frag) (CF : Addr) : Sp := fun vs H Q _ => ∃ (p dx t : Addr), vs = [.ref p] ∧ H p = some (.ins CF dx (farmFs t)) ∧ Q (.ref t) H
theorem ok_farm_fields (C : FarmC K CF) (G : Gp K CF "fields" "Farm.fields" s_Farm_fields) : PropR P w K mg base CF "fields" 2 (sp_farm_fields K CF) := by
  refine prop_mk G fun f fd F => fnr_mk (F.ok sc_Farm_fields ?_ (fun cdv A outer s H vs Q E hr h => ?_)) (F.bindsN (fun _ _ _ _ _ _ us hl => match us, hl with | [_], _ => rfl))
  · rintro vs H Q E ⟨z, _, _, rfl, _⟩; rfl
  · obtain ⟨p, dx, t, rfl, hp, k⟩ := h
    have nd := sc_Farm_fields.nd
    refine ⟨_, PSs.nox (pss_one (ps_ret (pe_fldK K (pv 0)))), ?_⟩
    show (_ : TS) _ [some (.ref p)] H
    walk_at "go"
    exact n_fld hp C.cl C.rows rfl k
def sp_farm_len (K : PySem.W.Frag) (CF : Addr) : Sp := fun vs H Q _ => ∃ (p dx t : Addr) (xs : List V), vs = [.ref p] ∧ H p = some (.ins CF dx (farmFs t)) ∧ SqT K H t xs ∧ Q (.int xs.length) H
theorem ok_farm_len (M : Md K mg) (C : FarmC K CF) (G : Gm K CF "__len__" "Farm.__len__" s_Farm___len__) : MethR P w K mg base CF "__len__" 2 (sp_farm_len K CF) := by
  refine meth_mk G fun f fd F => FnU.raw <| fnr_mk (F.ok sc_Farm___len__ ?_ (fun cdv A outer s H vs Q E hr h => ?_)) (F.bindsN (fun _ _ _ _ _ _ us hl => match us, hl with | [_], _ => rfl))
  · rintro vs H Q E ⟨z, _, _, _, rfl, _⟩; rfl
  · obtain ⟨p, dx, t, xs, rfl, hp, hS, k⟩ := h
    have nd := sc_Farm___len__.nd
    refine ⟨_, PSs.nox (pss_one (ps_ret (pe_len K M.b (pe_fldK K (pv 0))))), ?_⟩
    show (_ : TS) _ [some (.ref p)] H
    walk_at "go"
    refine n_fld hp C.cl C.rows rfl ?_
    walk_at "go"
    exact g_len_t hS k

end
abbrev s_encode_farm : Stmt := top 22
abbrev N_encode_farm : List Str := ["farm", "values", "name", "limit", "letter"]
theorem sc_encode_farm : FnScope N_encode_farm ["farm"] (defScope s_encode_farm) := ⟨rfl, rfl, rfl, by decide +kernel, rfl, by decide +kernel, by decide +kernel⟩
abbrev s_Decoder___init__ : Stmt := inClass (top 23) 0
abbrev N_Decoder___init__ : List Str := ["self", "data"]
theorem sc_Decoder___init__ : FnScope N_Decoder___init__ ["self", "data"] (defScope s_Decoder___init__) := ⟨rfl, rfl, rfl, by decide +kernel, rfl, by decide +kernel, by decide +kernel⟩
abbrev s_Decoder_take : Stmt := inClass (top 23) 1
abbrev N_Decoder_take : List Str := ["self", "low", "high"]
theorem sc_Decoder_take : FnScope N_Decoder_take ["self", "low", "high"] (defScope s_Decoder_take) := ⟨rfl, rfl, rfl, by decide +kernel, rfl, by decide +kernel, by decide +kernel⟩
abbrev s_Decoder_take_field : Stmt := inClass (top 23) 2
abbrev N_Decoder_take_field : List Str := ["self", "names", "most", "limit", "start", "length", "name", "letter"]
theorem sc_Decoder_take_field : FnScope N_Decoder_take_field ["self", "names", "most"] (defScope s_Decoder_take_field) := ⟨rfl, rfl, rfl, by decide +kernel, rfl, by decide +kernel, by decide +kernel⟩
abbrev s_decode_farm : Stmt := top 24
abbrev N_decode_farm : List Str := ["data", "decoder", "fields", "states", "number", "most", "name", "limit", "expected"]
theorem sc_decode_farm : FnScope N_decode_farm ["data"] (defScope s_decode_farm) := ⟨rfl, rfl, rfl, by decide +kernel, rfl, by decide +kernel, by decide +kernel⟩
abbrev s_law_farm : Stmt := top 28
abbrev N_law_farm : List Str := ["_law_fields_here"]
theorem sc_law_farm : FnScope N_law_farm ["_law_fields_here"] (defScope s_law_farm) := ⟨rfl, rfl, rfl, by decide +kernel, rfl, by decide +kernel, by decide +kernel⟩
section
variable {P : Program} {w : World} {K : PySem.W.Frag}
variable {mg : Str → Option Value} {base : Heap}
theorem map_lets (z : Str) : (List.range z.cps.size).map (fun j => V.int (((z.cps.toList.getD j 97) - 97 : Nat) : Int)) = (lets z).map V.int := by
  rw [← Array.length_toList, range_getD z.cps.toList 97 fun c => V.int ((c - 97 : Nat) : Int)]
  simp [lets, Function.comp_def]
def sp_encode_farm (K : PySem.W.Frag) (CF : Addr) : Sp := fun vs H Q _ => ∃ (p : Addr) (fs : List (Str × Int)), vs = [.ref p] ∧ FarmAt K CF H p fs ∧ FOk fs ∧
  ∀ H' q, Same H H' → H q = none → H' q = some (.lst ((bytesOf fs).map V.int)) → Q (.ref q) H'
variable {CF CD : Addr}
theorem ok_encode_farm (M : Md K mg) (G : Gd K mg "encode_farm" s_encode_farm) (D_checksum : DefR P w K mg base "checksum" 2 (sp_checksum K)) (P_Farm_fields : PropR P w K mg base CF "fields" 2 (sp_farm_fields K CF)) (M_Farm___len__ : MethR P w K mg base CF "__len__" 2 (sp_farm_len K CF)) :
    DefR P w K mg base "encode_farm" 6 (sp_encode_farm K CF) := by
  refine def_mk G fun f fd F => fnr_mk (F.ok sc_encode_farm ?_ (fun cdv A outer s H vs Q E hr h => ?_)) (F.bindsN (fun _ _ _ _ _ _ us hl => match us, hl with | [_], _ => rfl))
  · rintro vs H Q E ⟨z, _, rfl, _⟩; rfl
  · obtain ⟨p, fs, rfl, ⟨dx, t, hp, hv⟩, ok, k⟩ := h
    obtain ⟨t', xs, e, hS, hX⟩ := hv.inv_t
    cases e
    have hxl : xs.length = fs.length := by rw [hX.length]; simp
    have nd := sc_encode_farm.nd
    refine ⟨_, PSs.nox (pss_cons (ps_set (i := 1) nd rfl (by first | exact Or.inl rfl | exact Or.inr rfl) (pe_lst (pa_cons (pe_gi M.g_TAG) (pa_cons (pe_callB (call_lenO M_Farm___len__ (hr.mono (by first | decide | omega))) rfl M.b.len bt_len (pa_cons (pv 0) pa_nil)) pa_nil))))
    (pss_cons (ps_for PassesOwn.never rfl (pi_tupK K (pe_propR P_Farm_fields (hr.mono (by first | decide | omega)) (pv 0))) (pg_tupK K rfl (pgs_cons (pg_name (i := 2) nd rfl (by first | exact Or.inl rfl | exact Or.inr rfl)) (pgs_cons (pg_name (i := 3) nd rfl (by first | exact Or.inl rfl | exact Or.inr rfl)) pgs_nil))) (pss_one (ps_expr (as_bm K (pe_bm PySem.F.plainAttrs_list PySem.F.slot_list_extend PySem.F.type_list_extend mt_extend (pv 1) (pa_cons (pe_lst (pa_cons (pv 3) (pa_cons (pe_len K M.b (pv 2)) (pa_starK K (pe_lc (own := [("letter", 4)]) (g := (gName 4)) (tt := tYes) rfl nd (pi_str (pv 2)) (blkOk_by (N := N_encode_farm) (sc := defScope s_encode_farm) (by decide +kernel)) (fun _ _ _ _ _ => (pg_name (i := 4) nd rfl (by first | exact Or.inl rfl | exact Or.inr rfl))) (fun _ _ _ _ _ => pts_nil) (fun _ _ _ _ _ => (pe_m1 PySem.F.slot_str_index PySem.F.type_str_index mt_sindex (pe_gs M.g_LETTERS) (pv 4)))) pa_nil)))) pa_nil))))))
    (pss_one (ps_ret (pe_lst (pa_starK K (pv 1) (pa_cons (pe_callR D_checksum (hr.mono (by first | decide | omega)) passN (pa_cons (pv 1) pa_nil)) pa_nil))))))), ?_⟩
    show (_ : TS) _ [some (.ref p), none, none, none, none] H
    walk_at "go"
    refine ⟨p, dx, _, rfl, hp, p, dx, t, xs, rfl, hp, hS, _, rfl, by omega, by have := ok.six; omega, ?_⟩
    walk_at "go"
    refine n_lst (by simp [sizeLine_eq]) fun q H1 nq s1 hq => ?_
    walk_at "go"
    refine n_prop (s1 _ _ hp) ⟨p, dx, t, rfl, s1 _ _ hp, ?_⟩
    refine n_forT (same_t s1 hS) (fun i σ H' => ∃ u1 u2 : Option V, σ = [some (.ref p), some (.ref q), u1, u2, none] ∧ Same H H' ∧ H' q = some (.lst (([72, (fs.length : Int)] ++ (fs.take i).flatMap encF).map V.int)))
      ⟨none, none, rfl, s1, by rw [hq, hxl]; rfl⟩ (fun i σ H' ⟨u1, u2, _, s2, _⟩ => same_t s2 hS) ?_ ?_
    · rintro i x σ H' hx ⟨u1, u2, rfl, s2, hq⟩
      obtain ⟨dd, hd, hDx⟩ := hX.get hx
      obtain ⟨fi, hfi, rfl⟩ := getm hd
      have fm : fi ∈ fs := List.mem_of_getElem? hfi
      obtain ⟨t2, ys, rfl, hT, hY⟩ := (s2.dp hDx).inv_t
      obtain ⟨v1, v2, rfl, hv1, hv2⟩ := hY.inv2
      obtain rfl := hv1.inv_s
      obtain rfl := hv2.inv_i
      have tl : ((fs.take i).flatMap encF).length ≤ 60 := by
        have h1 := flat_len (fs := fs.take i) fun g hg => ok.nm g (List.mem_of_mem_take hg)
        have h2 := ok.six
        have h3 : (fs.take i).length ≤ fs.length := by simp; omega
        omega
      have nl := (ok.nm fi fm).2.1
      refine g_gtup hT rfl ?_
      walk_at "go"
      refine g_len_s (by show fi.1.cps.size ≤ sizeLine; rw [← Array.length_toList]; simp only [sizeLine_eq]; omega) ?_
      walk_at "go"
      refine n_lcS (lc_map (walk_str (z := fi.1)) (fun j => .int (((fi.1.cps.toList.getD j 97) - 97 : Nat) : Int)) (fun _ _ => trivial) ?_ ?_)
      · rintro C j x H5 H6 nC hj s5 hC ⟨e, c, hc, ex⟩
        subst e ex
        have hc' := cps_get hc
        have cb := (ok.nm fi fm).2.2 c (List.mem_of_getElem? hc')
        have hj8 : j < 1000000 := by rw [← Array.length_toList] at hj; omega
        walk_at "go"
        refine ⟨rfl, ?_⟩
        walk_at "go"
        refine ⟨ALPH, ⟨#[c]⟩, c - 97, [], rfl, rfl, alph_ix cb.1 cb.2, ?_⟩
        exact n_mapK nC s5 hC (by rw [getD_of hc'])
      · intro C H5 nC s5 hC
        rw [map_lets] at hC
        walk_at "go"
        refine n_star (.inr (SqL.of hC)) ?_
        walk_at "go"
        refine n_lst (by simp [sizeLine_eq, lets] at nl ⊢; omega) fun r H6 nr s6 hr6 => ?_
        walk_at "go"
        refine g_extend (s6 _ _ (s5 _ _ hq)) hr6 (by simp [sizeLine_eq, lets] at tl nl ⊢; omega) fun H7 k7 h7 => ?_
        walk_at "go"
        refine ⟨some (.str fi.1), some (.int fi.2), rfl, fun b o hb => k7 _ _ (ne_of_none hb nq) (s6 _ _ (s5 _ _ (s2 _ _ hb))), ?_⟩
        rw [h7, flat_take encF hfi]
        simp [encF, Str.length]
    · rintro σ H' ⟨u1, u2, rfl, s2, hq⟩
      have ef : fs.take xs.length = fs := by rw [hxl, List.take_length]
      rw [ef] at hq
      have eb : H' q = some (.lst ((bodyOf fs).map V.int)) := hq
      have bl := body_len ok
      walk_at "go"
      refine n_star (.inr (SqL.of eb)) ?_
      walk_at "go"
      refine ⟨q, bodyOf fs, rfl, SqL.of eb, ?_⟩
      walk_at "go"
      refine n_lst (by simp [sizeLine_eq] at bl ⊢; omega) fun r H6 nr s6 hr6 => ?_
      refine k H6 r (s2.trans s6) (s2.free nr) ?_
      rw [hr6]; simp [bytesOf]
/-! ### the decoder -/
structure DecC (K : PySem.W.Frag) (CD : Addr) : Prop where
  cl : Cls K CD
  data : NoAttr K CD "data"
  place : NoAttr K CD "place"
def decFs (a : Addr) (i : Int) : List (Str × V) := [("data", .ref a), ("place", .int i)]
theorem dec_ne : ¬ (("data" : Str) = "place") := by decide +kernel
theorem dec_put (a : Addr) (i j : Int) : putF "place" (.int j) (decFs a i) = decFs a j := by
  show (if ("data" : Str) = "place" then _ else (("data" : Str), V.ref a) :: (if ("place" : Str) = "place" then [(("place" : Str), V.int j)] else _)) = decFs a j
  rw [if_neg dec_ne, if_pos rfl]; rfl
theorem dec_put0 (a : Addr) (j : Int) : putF "place" (.int j) [(("data" : Str), V.ref a)] = decFs a j := by
  show (if ("data" : Str) = "place" then _ else (("data" : Str), V.ref a) :: putF "place" (.int j) []) = decFs a j
  rw [if_neg dec_ne]; rfl
theorem dec_data (a : Addr) (i : Int) : (decFs a i).lookup ("data" : Str) = some (V.ref a) := rfl
theorem dec_place (a : Addr) (i : Int) : (decFs a i).lookup ("place" : Str) = some (V.int i) := by
  have h : (("place" : Str) == ("data" : Str)) = false := by decide +kernel
  simp [decFs, List.lookup, h]
theorem dec_no (a : Addr) (i : Int) (m : Str) (h1 : (m == ("data" : Str)) = false) (h2 : (m == ("place" : Str)) = false) : (decFs a i).lookup m = none := by simp [decFs, List.lookup, h1, h2]
def sp_dec_init (CD : Addr) : Sp := fun vs H Q _ => ∃ (x dx a : Addr), vs = [.ref x, .ref a] ∧ H x = some (.ins CD dx []) ∧ ∀ H', Keep x H H' → H' x = some (.ins CD dx (decFs a 0)) → Q .non H'
theorem ok_dec_init (C : DecC K CD) (G : Gk K mg "Decoder" CD "Decoder.__init__" s_Decoder___init__) : MakeR P w K mg base "Decoder" CD 2 (sp_dec_init CD) := by
  refine make_mk G fun f fd F => FnU.raw <| fnr_mk (F.ok sc_Decoder___init__ ?_ (fun cdv A outer s H vs Q E hr h => ?_)) (F.bindsN (fun _ _ _ _ _ _ us hl => match us, hl with | [_, _], _ => rfl))
  · rintro vs H Q E ⟨z, _, _, rfl, _⟩; rfl
  · obtain ⟨x, dx, a, rfl, hx, k⟩ := h
    have nd := sc_Decoder___init__.nd
    refine ⟨_, PSs.nox (pss_cons (ps_fldK K (pv 0) (pv 1)) (pss_one (ps_fldK K (pv 0) pe_int))), ?_⟩
    show (_ : TS) _ [some (.ref x), some (.ref a)] H
    walk_at "go"
    refine n_sfld hx C.cl C.data (by show 0 < 1000; decide) fun H1 k1 h1 => ?_
    walk_at "go"
    refine n_sfld h1 C.cl C.place (by show 1 < 1000; decide) fun H2 k2 h2 => ?_
    refine k H2 (k1.trans k2) ?_
    rw [h2]; exact congrArg (fun z => some (HO.ins CD dx z)) (dec_put0 a 0)
def sp_take (K : PySem.W.Frag) (CD : Addr) : Sp := fun vs H Q _ => ∃ (p dx a : Addr) (ns : List Int) (i : Nat) (z lo hi : Int), vs = [.ref p, .int lo, .int hi] ∧ H p = some (.ins CD dx (decFs a i)) ∧ SqL K H a (ns.map V.int) ∧ a ≠ p ∧ ns[i]? = some z ∧ lo ≤ z ∧ z ≤ hi ∧
  ∀ H', Keep p H H' → H' p = some (.ins CD dx (decFs a ((i + 1 : Nat) : Int))) → Q (.int z) H'
theorem keep_l {K : PySem.W.Frag} {H H' : Hp} {d a : Addr} {xs : List V} (e : Keep d H H') (n : a ≠ d) (h : SqL K H a xs) : SqL K H' a xs := h.imp (fun z => z.imp (e a _ n) fun ⟨o, q⟩ => ⟨o, e a _ n q⟩) id
theorem ok_take (M : Md K mg) (C : DecC K CD) (G : Gm K CD "take" "Decoder.take" s_Decoder_take) : MethR P w K mg base CD "take" 2 (sp_take K CD) := by
  refine meth_mk G fun f fd F => FnU.raw <| fnr_mk (F.ok sc_Decoder_take ?_ (fun cdv A outer s H vs Q E hr h => ?_)) (F.bindsN (fun _ _ _ _ _ _ us hl => match us, hl with | [_, _, _], _ => rfl))
  · rintro vs H Q E ⟨_, _, _, _, _, _, _, _, rfl, _⟩; rfl
  · obtain ⟨p, dx, a, ns, i, z, lo, hi, rfl, hp, hS, nap, hz, h1, h2, k⟩ := h
    have hil : i < ns.length := (List.getElem?_eq_some_iff.mp hz).1
    have nd := sc_Decoder_take.nd
    have hzV : (ns.map V.int)[i]? = some (.int z) := by rw [List.getElem?_map, hz]; rfl
    refine ⟨_, PSs.nox (pss_cons (ps_if (PW.pt (pw_or (pt_cmpR (op_eqK K hr) (pe_fldK K (pv 0)) (pe_len K M.b (pe_fldK K (pv 0))) (nomark _)) (pw_or1 (pt_not (pt_chain op_le op_le (pv 1) (pe_ix (ix_K K) (pe_fldK K (pv 0)) (pe_fldK K (pv 0)) (fun _ _ => rfl)) (pv 2)))))) (pss_one ps_never) pss_nil)
    (pss_cons (ps_fldaugK K (pv 0) pe_int in_add)
    (pss_one (ps_ret (pe_ix (ix_K K) (pe_fldK K (pv 0)) (pe_op op_sub (pe_fldK K (pv 0)) pe_int) (fun _ _ => rfl)))))), ?_⟩
    show (_ : TS) _ [some (.ref p), some (.int lo), some (.int hi)] H
    walk_at "go"
    refine n_fld hp C.cl C.place (dec_place _ _) ?_
    walk_at "go"
    refine n_fld hp C.cl C.data (dec_data _ _) ?_
    walk_at "go"
    refine g_len_l hS ?_
    walk_at "go"
    refine if_D (fun e => absurd e (by simp; omega)) (fun _ => ?_)
    walk_at "go"
    refine n_fld hp C.cl C.data (dec_data _ _) ?_
    walk_at "go"
    refine n_fld hp C.cl C.place (dec_place _ _) ?_
    walk_at "go"
    refine g_ix_l hS (atI_nat hzV) ?_
    walk_at "go"
    refine g_ch (fun _ => ?_) (fun e => absurd h1 (of_decide_eq_false e))
    walk_at "go"
    refine if_F (by rw [decide_eq_true h2]; rfl) ?_
    walk_at "go"
    refine n_fldaug hp C.cl C.place (dec_place _ _) ?_
    walk_at "go"
    refine n_fae hp (by show 2 < 1000; decide) fun H1 k1 e1 => ?_
    rw [dec_put] at e1
    walk_at "go"
    refine n_fld e1 C.cl C.data (dec_data _ _) ?_
    walk_at "go"
    refine n_fld e1 C.cl C.place (dec_place _ _) ?_
    walk_at "go"
    refine g_ix_l (keep_l k1 nap hS) (by rw [show (i : Int) + 1 - 1 = (i : Int) by omega]; exact atI_nat hzV) ?_
    refine k H1 k1 ?_
    rw [e1]; rfl

theorem join_signs (cs : List Nat) : Txt.join "" (cs.map fun c => (⟨#[c]⟩ : Str)) = ⟨cs.toArray⟩ := by
  have e : (cs.map fun c => (⟨#[c]⟩ : Str)) = (cs.map fun c => [c]).map SX.S := by simp [Function.comp_def]
  have e0 : ("" : Str) = SX.S [] := by decide +kernel
  rw [e, e0, SX.join_S]
  congr 1
  have : ∀ l : List Nat, TL.joinL [] (l.map fun c => [c]) = l := by
    intro l
    induction l with
    | nil => rfl
    | cons a r ih =>
      cases r with
      | nil => rfl
      | cons b r => exact congrArg (fun z => a :: z) ih
  rw [this]
def sp_take_field (K : PySem.W.Frag) (CD : Addr) : Sp := fun vs H Q _ => ∃ (p dx a nm : Addr) (ns : List Int) (i : Nat) (f : Str × Int) (zs : List Str) (most : Int), vs = [.ref p, .ref nm, .int most] ∧ H p = some (.ins CD dx (decFs a i)) ∧ SqL K H a (ns.map V.int) ∧ a ≠ p ∧
  SqL K H nm (zs.map V.str) ∧ nm ≠ p ∧ (∀ (j : Nat) (z : Int), (encF f)[j]? = some z → ns[i + j]? = some z) ∧ NmOk f.1 ∧ f.1 ∉ zs ∧ 1 ≤ f.2 ∧ f.2 ≤ most ∧
  ∀ H' q, Keep p H H' → H q = none → H' q = some (.tup [.str f.1, .int f.2]) → H' p = some (.ins CD dx (decFs a ((i + (encF f).length : Nat) : Int))) → Q (.ref q) H'
theorem alph_get {c : Nat} (h1 : 97 ≤ c) (h2 : c ≤ 122) : atI ALPH.cps.toList (((c - 97 : Nat) : Int)) = some c := by
  refine atI_nat ?_
  have := alph_at ⟨c - 97, by omega⟩
  simpa [show 97 + (c - 97) = c by omega] using this
theorem ok_take_field (M : Md K mg) (C : DecC K CD) (G : Gm K CD "take_field" "Decoder.take_field" s_Decoder_take_field) (M_Decoder_take : MethR P w K mg base CD "take" 2 (sp_take K CD)) : MethR P w K mg base CD "take_field" 4 (sp_take_field K CD) := by
  refine meth_mk G fun f fd F => FnU.raw <| fnr_mk (F.ok sc_Decoder_take_field ?_ (fun cdv A outer s H vs Q E hr h => ?_)) (F.bindsN (fun _ _ _ _ _ _ us hl => match us, hl with | [_, _, _], _ => rfl))
  · rintro vs H Q E ⟨_, _, _, _, _, _, _, _, _, rfl, _⟩; rfl
  · obtain ⟨p, dx, a, nm, ns, i, f, zs, most, rfl, hp, hS, nap, hN, nnp, hpos, hnm, hnot, l1, l2, k⟩ := h
    have nd := sc_Decoder_take_field.nd
    have nl := hnm.2.1
    have nl1 := hnm.1
    have ctk : ((Str.ofString "take") == (Str.ofString "data")) = false := by decide +kernel
    have ctp : ((Str.ofString "take") == (Str.ofString "place")) = false := by decide +kernel
    refine ⟨_, PSs.nox (pss_cons (ps_set (i := 3) nd rfl (by first | exact Or.inl rfl | exact Or.inr rfl) (pe_methR (pv 0) M_Decoder_take.cl M_Decoder_take.at_ M_Decoder_take.fn (hr.mono (by first | decide | omega)) passN (pa_cons pe_int (pa_cons (pv 2) pa_nil))))
    (pss_cons (ps_set (i := 4) nd rfl (by first | exact Or.inl rfl | exact Or.inr rfl) (pe_fldK K (pv 0)))
    (pss_cons (ps_set (i := 5) nd rfl (by first | exact Or.inl rfl | exact Or.inr rfl) (pe_methR (pv 0) M_Decoder_take.cl M_Decoder_take.at_ M_Decoder_take.fn (hr.mono (by first | decide | omega)) passN (pa_cons pe_int (pa_cons (pe_gi M.g_MAX_LETTERS) pa_nil))))
    (pss_cons (ps_set (i := 6) nd rfl (by first | exact Or.inl rfl | exact Or.inr rfl) (pe_joinK K pe_str (pe_lc (own := [("letter", 7)]) (g := (gName 7)) (tt := tYes) rfl nd (pi_range1 rfl M.b.range (pa_cons (pv 5) pa_nil)) (blkOk_by (N := N_Decoder_take_field) (sc := defScope s_Decoder_take_field) (by decide +kernel)) (fun _ _ _ _ _ => (pg_name (i := 7) nd rfl (by first | exact Or.inl rfl | exact Or.inr rfl))) (fun _ _ _ _ _ => pts_nil) (fun _ _ _ _ _ => (pe_ix (ix_K K) (pe_gs M.g_LETTERS) (pe_methR (pv 0) M_Decoder_take.cl M_Decoder_take.at_ M_Decoder_take.fn (hr.mono (by first | decide | omega)) passN (pa_cons pe_int (pa_cons (pe_op op_sub (pe_len K M.b (pe_gs M.g_LETTERS)) pe_int) pa_nil))) (fun _ _ => rfl))))))
    (pss_cons (ps_if (pt_cmpR (op_inK K hr) (pv 6) (pv 1) rfl) (pss_one ps_never) pss_nil)
    (pss_one (ps_ret (pe_tup (pa_cons (pv 6) (pa_cons (pv 3) pa_nil)))))))))), ?_⟩
    show (_ : TS) _ [some (.ref p), some (.ref nm), some (.int most), none, none, none, none, none] H
    walk_at "go"
    refine n_meth hp (dec_no _ _ _ ctk ctp) ?_
    walk_at "go"
    refine ⟨p, dx, a, ns, i, f.2, 1, most, rfl, hp, hS, nap, hpos 0 _ rfl, l1, l2, fun H1 k1 h1 => ?_⟩
    walk_at "go"
    refine n_fld h1 C.cl C.place (dec_place _ _) ?_
    walk_at "go"
    refine n_meth h1 (dec_no _ _ _ ctk ctp) ?_
    walk_at "go"
    refine ⟨p, dx, a, ns, i + 1, (f.1.cps.toList.length : Int), 1, 8, rfl, h1, keep_l k1 nap hS, nap, hpos 1 _ rfl, by omega, by omega, fun H2 k2 h2 => ?_⟩
    walk_at "go"
    refine n_lcR1 (by omega) (by omega) (lc_run (walk_range (lo := 0) (n := ((f.1.cps.toList.length : Int)).toNat)) (fun j acc H' => acc = (f.1.cps.toList.take j).map (fun c => V.str ⟨#[c]⟩) ∧ Keep p H H' ∧ H' p = some (.ins CD dx (decFs a ((i + 2 + j : Nat) : Int)))) ?_ (fun _ _ _ _ _ _ _ => trivial) ?_ ?_)
    · intro C3 H3 n3 s3 h3
      exact ⟨by simp, (k1.trans k2).trans s3.keep, s3 _ _ h2⟩
    · rintro C3 j acc x H3 H4 n3 hj hl hC ⟨rfl, k3, h3⟩ ⟨e, ex⟩
      subst e ex
      have hj' : j < f.1.cps.toList.length := by omega
      have hcj : f.1.cps.toList[j]? = some f.1.cps.toList[j] := List.getElem?_eq_getElem hj'
      have cb := hnm.2.2 _ (List.mem_of_getElem? hcj)
      have nC3p : C3 ≠ p := (ne_of_none h2 n3).symm
      walk_at "go"
      refine ⟨rfl, ?_⟩
      walk_at "go"
      refine n_meth h3 (dec_no _ _ _ ctk ctp) ?_
      walk_at "go"
      refine g_len_s (by decide +kernel) ?_
      walk_at "go"
      refine ⟨p, dx, a, ns, i + 2 + j, ((f.1.cps.toList[j] - 97 : Nat) : Int), 0, _, rfl, h3, keep_l k3 nap hS, nap, ?_, by omega, ?_, fun H5 k5 h5 => ?_⟩
      · have := hpos (2 + j) ((f.1.cps.toList[j] - 97 : Nat) : Int) (by
          rw [Nat.add_comm]
          show (lets f.1)[j]? = _
          rw [lets, List.getElem?_map, hcj]; rfl)
        rw [← Nat.add_assoc] at this; exact this
      · show _ ≤ ((26 : Nat) : Int) - 1
        omega
      refine g_ix_s (by decide +kernel) (alph_get cb.1 cb.2) ?_
      refine n_lcK (k5 _ _ nC3p hC) (by simp; omega) (by omega) fun H6 k6 h6 => ⟨?_, ?_, ?_⟩
      · rw [List.take_add_one, hcj]; simp
      · intro b o nb hb
        by_cases nbC : b = C3
        · subst nbC
          have := (k1.trans k2) _ _ nb hb
          rw [n3] at this; cases this
        · exact k6 _ _ nbC (k5 _ _ nb (k3 _ _ nb hb))
      · rw [k6 _ _ nC3p.symm h5]; rfl
    · rintro C3 acc H3 n3 hC ⟨rfl, k3, h3⟩
      have el : ((f.1.cps.toList.length : Int)).toNat = f.1.cps.toList.length := by omega
      rw [el, List.take_length] at hC
      rw [el] at h3
      walk_at "go"
      refine ⟨"", C3, f.1.cps.toList.map fun c => (⟨#[c]⟩ : Str), rfl, rfl, .inl (SqL.of (by rw [hC]; simp [Function.comp_def])), ?_, ?_⟩
      · have : ∀ l : List Nat, ((l.map fun c => (⟨#[c]⟩ : Str)).map (·.length)).sum = l.length := by
          intro l
          induction l with
          | nil => rfl
          | cons b r ih => simp [Str.length] at ih ⊢; omega
        rw [this]
        show _ + _ * 0 ≤ _
        omega
      rw [join_signs]
      have ez : (⟨f.1.cps.toList.toArray⟩ : Str) = f.1 := by simp
      rw [ez]
      walk_at "go"
      refine g_in_seq (.inl (keep_l k3 nnp hN)) rfl (flat_strs _) ?_
      rw [inV_strs, decide_eq_false hnot]
      walk_at "go"
      refine if_F rfl ?_
      walk_at "go"
      refine n_tup (by simp [sizeLine_eq]) fun q H4 nq s4 hq => ?_
      have nqp : q ≠ p := (ne_of_none h3 nq).symm
      refine k H4 q (k3.trans s4.keep) ?_ hq ?_
      · cases e : H q with
        | none => rfl
        | some o =>
          have := k3 _ _ nqp e
          rw [nq] at this; cases this
      · rw [s4 _ _ h3]
        have : i + 2 + f.1.cps.toList.length = i + (encF f).length := by simp [encF, lets]; omega
        rw [this]

theorem prodL_append (a b : List Int) : prodL (a ++ b) = prodL a * prodL b := by
  have h : ∀ (l : List Int) (c : Int), l.foldl (· * ·) c = c * l.foldl (· * ·) 1 := by
    intro l
    induction l with
    | nil => intro c; simp
    | cons x r ih => intro c; rw [List.foldl_cons, List.foldl_cons, ih (c * x), ih (1 * x), Int.one_mul, Int.mul_assoc]
  simp only [prodL, List.foldl_append]
  rw [h b]
theorem prodL_pos {l : List Int} (h : ∀ x ∈ l, 1 ≤ x) : 1 ≤ prodL l := by
  induction l with
  | nil => decide
  | cons x r ih =>
    have h1 := h x (by simp)
    have h2 := ih fun y hy => h y (by simp [hy])
    have e : prodL (x :: r) = x * prodL r := by
      have := prodL_append [x] r
      simpa [prodL] using this
    rw [e]
    have : 1 * 1 ≤ x * prodL r := Int.mul_le_mul h1 h2 (by decide) (by omega)
    omega
theorem prod_take_le {fs : List (Str × Int)} (lo : ∀ f ∈ fs, 1 ≤ f.2 ∧ f.2 ≤ 30) (i : Nat) : prodL ((fs.take i).map (·.2)) ≤ prodL (fs.map (·.2)) := by
  have e : fs.map (·.2) = (fs.take i).map (·.2) ++ (fs.drop i).map (·.2) := by rw [← List.map_append, List.take_append_drop]
  rw [e, prodL_append]
  have h1 : 1 ≤ prodL ((fs.take i).map (·.2)) := prodL_pos fun x hx => by
    obtain ⟨f, hf, rfl⟩ := List.mem_map.mp hx
    exact (lo f (List.mem_of_mem_take hf)).1
  have h2 : 1 ≤ prodL ((fs.drop i).map (·.2)) := prodL_pos fun x hx => by
    obtain ⟨f, hf, rfl⟩ := List.mem_map.mp hx
    exact (lo f (List.mem_of_mem_drop hf)).1
  have := Int.mul_le_mul_of_nonneg_left h2 (by omega : (0 : Int) ≤ prodL ((fs.take i).map (·.2)))
  omega
def sp_decode_farm (K : PySem.W.Frag) (CF : Addr) : Sp := fun vs H Q _ => ∃ (a : Addr) (fs : List (Str × Int)), vs = [.ref a] ∧ H a = some (.lst ((bytesOf fs).map V.int)) ∧ FOk fs ∧
  ∀ H' p, Same H H' → H p = none → FarmAt K CF H' p fs → Q (.ref p) H'
theorem get_body {fs : List (Str × Int)} {i : Nat} {f : Str × Int} (hf : fs[i]? = some f) (j : Nat) (z : Int) (h : (encF f)[j]? = some z) : (bytesOf fs)[2 + ((fs.take i).flatMap encF).length + j]? = some z := by
  have e : fs.flatMap encF = (fs.take i).flatMap encF ++ (encF f ++ (fs.drop (i + 1)).flatMap encF) := by
    have h1 : fs = fs.take i ++ (f :: fs.drop (i + 1)) := by
      have h2 := (List.getElem?_eq_some_iff.mp hf)
      obtain ⟨hl, h2⟩ := h2
      rw [← h2, List.getElem_cons_drop, List.take_append_drop]
    conv => lhs; rw [h1]
    rw [List.flatMap_append, List.flatMap_cons]
  have hj : j < (encF f).length := (List.getElem?_eq_some_iff.mp h).1
  show (([72, (fs.length : Int)] ++ fs.flatMap encF) ++ [cks (bodyOf fs)])[2 + ((fs.take i).flatMap encF).length + j]? = some z
  rw [e, List.append_assoc, List.getElem?_append_right (by simp; omega), List.append_assoc, List.getElem?_append_right (by simp; omega), List.append_assoc, List.getElem?_append_left (by simp; omega)]
  rw [← h]; congr 1; simp; omega
theorem ok_decode_farm (M : Md K mg) (CC : DecC K CD) (FC : FarmC K CF) (G : Gd K mg "decode_farm" s_decode_farm) (D_checksum : DefR P w K mg base "checksum" 2 (sp_checksum K)) (K_Decoder : MakeR P w K mg base "Decoder" CD 2 (sp_dec_init CD)) (K_Farm : MakeR P w K mg base "Farm" CF 4 (sp_farm_init K CF))
    (M_Decoder_take : MethR P w K mg base CD "take" 2 (sp_take K CD)) (M_Decoder_take_field : MethR P w K mg base CD "take_field" 4 (sp_take_field K CD)) : DefR P w K mg base "decode_farm" 8 (sp_decode_farm K CF) := by
  refine def_mk G fun f fd F => fnr_mk (F.ok sc_decode_farm ?_ (fun cdv A outer s H vs Q E hr h => ?_)) (F.bindsN (fun _ _ _ _ _ _ us hl => match us, hl with | [_], _ => rfl))
  · rintro vs H Q E ⟨z, _, rfl, _⟩; rfl
  · obtain ⟨a, fs, rfl, hS, ok, k⟩ := h
    have nd := sc_decode_farm.nd
    have ctk : ((Str.ofString "take") == (Str.ofString "data")) = false := by decide +kernel
    have ctp : ((Str.ofString "take") == (Str.ofString "place")) = false := by decide +kernel
    have cfk : ((Str.ofString "take_field") == (Str.ofString "data")) = false := by decide +kernel
    have cfp : ((Str.ofString "take_field") == (Str.ofString "place")) = false := by decide +kernel
    refine ⟨_, PSs.nox (pss_cons (ps_par3 (i := 1) (j := 2) (l := 3) rfl nd rfl rfl rfl (by decide) (by decide) (by decide) rfl rfl rfl (pa_cons (pe_makeP K_Decoder (hr.mono (by first | decide | omega)) passN (pa_cons (pv 0) pa_nil)) (pa_cons (pe_lst pa_nil) (pa_cons pe_int pa_nil))) (by rfl))
    (pss_cons (ps_expr (pe_methR (pv 1) M_Decoder_take.cl M_Decoder_take.at_ M_Decoder_take.fn (hr.mono (by first | decide | omega)) passN (pa_cons (pe_gi M.g_TAG) (pa_cons (pe_gi M.g_TAG) pa_nil))))
    (pss_cons (ps_for PassesOwn.never rfl (pi_range1 rfl M.b.range (pa_cons (pe_methR (pv 1) M_Decoder_take.cl M_Decoder_take.at_ M_Decoder_take.fn (hr.mono (by first | decide | omega)) passN (pa_cons pe_int (pa_cons (pe_gcon M.k_Farm_MAX_FIELDS) pa_nil))) pa_nil)) (pg_name (i := 4) nd rfl (by first | exact Or.inl rfl | exact Or.inr rfl)) (pss_cons (ps_set (i := 5) nd rfl (by first | exact Or.inl rfl | exact Or.inr rfl) (pe_min2 M.b (pa_cons (pe_gi M.g_MAX_LIMIT) (pa_cons (pe_op op_fdiv (pe_gcon M.k_Farm_MAX_STATES) (pv 3)) pa_nil))))
    (pss_cons (ps_expr (as_bm K (pe_bm PySem.F.plainAttrs_list PySem.F.slot_list_append PySem.F.type_list_append mt_append (pv 2) (pa_cons (pe_methR (pv 1) M_Decoder_take_field.cl M_Decoder_take_field.at_ M_Decoder_take_field.fn (hr.mono (by first | decide | omega)) passN (pa_cons (pe_lc (own := [("name", 6), ("limit", 7)]) (g := (gTup K 2 (gCons (gName 6) (gCons (gName 7) gNil)))) (tt := tYes) rfl nd (pi_listK K (pv 2)) (blkOk_by (N := N_decode_farm) (sc := defScope s_decode_farm) (by decide +kernel)) (fun _ _ _ _ _ => (pg_tupK K rfl (pgs_cons (pg_name (i := 6) nd rfl (by first | exact Or.inl rfl | exact Or.inr rfl)) (pgs_cons (pg_name (i := 7) nd rfl (by first | exact Or.inl rfl | exact Or.inr rfl)) pgs_nil)))) (fun _ _ _ _ _ => pts_nil) (fun _ _ _ _ _ => (pv 6))) (pa_cons (pv 5) pa_nil))) pa_nil))))
    (pss_one (ps_aug (i := 3) nd rfl (by first | exact Or.inl rfl | exact Or.inr rfl) (pe_ix (ix_K K) (pe_ix (ix_K K) (pv 2) (pe_un un_neg pe_int) (fun _ _ => rfl)) pe_int (fun _ _ => rfl)) iop_mul)))))
    (pss_cons (ps_set (i := 8) nd rfl (by first | exact Or.inl rfl | exact Or.inr rfl) (pe_callR D_checksum (hr.mono (by first | decide | omega)) passN (pa_cons (pe_slice (sl_listK K) (pv 0) po_none (po_some (pe_fldK K (pv 1)))) pa_nil)))
    (pss_cons (ps_expr (pe_methR (pv 1) M_Decoder_take.cl M_Decoder_take.at_ M_Decoder_take.fn (hr.mono (by first | decide | omega)) passN (pa_cons (pv 8) (pa_cons (pv 8) pa_nil))))
    (pss_cons (ps_if (pt_cmpR op_lt (pe_fldK K (pv 1)) (pe_len K M.b (pv 0)) (nomark _)) (pss_one ps_never) pss_nil)
    (pss_one (ps_ret (pe_makeSK K K_Farm (hr.mono (by first | decide | omega)) passN (pv 2)))))))))), ?_⟩
    show (_ : TS) _ [some (.ref a), none, none, none, none, none, none, none, none] H
    walk_at "go"
    refine n_make fun dc dx H1 ndc ndx nex s1 hdc hdx => ?_
    refine ⟨dc, dx, a, rfl, hdc, fun H2 k2 h2 => ⟨rfl, ?_⟩⟩
    have s12 : Same H H2 := fun b o hb => k2 _ _ (ne_of_none hb ndc) (s1 _ _ hb)
    have hSn : ∀ H', Same H H' → SqL K H' a ((bytesOf fs).map V.int) := fun H' e => SqL.of (e _ _ hS)
    have nadc : a ≠ dc := ne_of_none hS ndc
    walk_at "go"
    refine n_lst (by simp) fun fo H3 nfo s3 hfo => ?_
    walk_at "go"
    refine n_meth (s3 _ _ h2) (dec_no _ _ _ ctk ctp) ?_
    walk_at "go"
    refine ⟨dc, dx, a, bytesOf fs, 0, 72, 72, 72, rfl, s3 _ _ h2, hSn _ (s12.trans s3), nadc, rfl, by omega, by omega, fun H4 k4 h4 => ?_⟩
    walk_at "go"
    refine n_meth h4 (dec_no _ _ _ ctk ctp) ?_
    walk_at "go"
    have nfodc : fo ≠ dc := (ne_of_none h2 nfo).symm
    have s14 : Same H H4 := fun b o hb => k4 _ _ (ne_of_none hb ndc) (s3 _ _ (s12 _ _ hb))
    have one := ok.one
    have six := ok.six
    refine ⟨dc, dx, a, bytesOf fs, 1, (fs.length : Int), 1, 6, rfl, h4, hSn _ s14, nadc, rfl, by omega, by omega, fun H5 k5 h5 => ?_⟩
    have s15 : Same H H5 := fun b o hb => k5 _ _ (ne_of_none hb ndc) (s14 _ _ hb)
    have nfo0 : H fo = none := s12.free nfo
    walk_at "go"
    refine n_forR1 (by omega) (by omega) (fun i σ H' => ∃ (xs : List V) (u1 u2 : Option V), σ = [some (.ref a), some (.ref dc), some (.ref fo), some (.int (prodL ((fs.take i).map (·.2)))), u1, u2, none, none, none] ∧ Same H H' ∧
      H' dc = some (.ins CD dx (decFs a ((2 + ((fs.take i).flatMap encF).length : Nat) : Int))) ∧ H' fo = some (.lst xs) ∧ DpAll K H' xs ((fs.take i).map pField))
      ⟨[], none, none, rfl, s15, by rw [h5]; rfl, k5 _ _ nfodc (k4 _ _ nfodc hfo), .nil⟩ ?_ ?_
    · rintro i σ H' hi ⟨xs, u1, u2, rfl, sH, hD, hF, hX⟩
      have hi' : i < fs.length := by omega
      have hfi : fs[i]? = some fs[i] := List.getElem?_eq_getElem hi'
      generalize fs[i] = fi at hfi
      have fm : fi ∈ fs := List.mem_of_getElem? hfi
      have hb := ok.lo fi fm
      have hp := prod_take ok.lo i
      have ep : prodL ((fs.take i).map (·.2)) * fi.2 = prodL ((fs.take (i + 1)).map (·.2)) := by
        rw [List.take_add_one, hfi]
        simp only [Option.toList_some, List.map_append, List.map_cons, List.map_nil, prodL_snoc]
      have hle : prodL ((fs.take (i + 1)).map (·.2)) ≤ 4000 := Int.le_trans (prod_take_le ok.lo (i + 1)) ok.pr
      have hst : prodL ((fs.take i).map (·.2)) ≤ 4000 := Int.le_trans (prod_take_le ok.lo i) ok.pr
      generalize hst' : prodL ((fs.take i).map (·.2)) = st at *
      have hdv : fi.2 ≤ 4000 / st := (Int.le_ediv_iff_mul_le (by omega)).mpr (by rw [Int.mul_comm]; omega)
      have xl : xs.length ≤ 6 := by rw [hX.length]; simp; omega
      walk_at "go"
      refine n_meth hD (dec_no _ _ _ cfk cfp) ?_
      walk_at "go"
      refine n_lcL (SqL.of hF) (lc_map (walk_list (xs := xs)) (fun j => .str ((fs.getD j ("", 0)).1)) (fun H6 s6 => SqL.of (s6 _ _ hF)) ?_ ?_)
      · rintro C j y H6 H7 nC hj s6 hC ⟨e, hyj⟩
        subst e
        obtain ⟨dj, hdj, hDj⟩ := (s6.dpa hX).get hyj
        obtain ⟨fj, hfj, rfl⟩ := getm hdj
        obtain ⟨t3, zs, rfl, hT3, hZ⟩ := hDj.inv_t
        obtain ⟨w1, w2, rfl, hw1, hw2⟩ := hZ.inv2
        obtain rfl := hw1.inv_s
        have hfj' : fs[j]? = some fj := by
          rw [List.getElem?_take] at hfj
          split at hfj
          · exact hfj
          · cases hfj
        refine g_gtup hT3 rfl ?_
        walk_at "go"
        refine ⟨rfl, ?_⟩
        walk_at "go"
        exact n_mapK nC s6 hC (by rw [getD_of hfj'])
      · intro C6 H6 nC s6 hC
        have e1 : (List.range xs.length).map (fun j => V.str ((fs.getD j ("", 0)).1)) = ((fs.take i).map (·.1)).map V.str := by
          have el : xs.length = (fs.take i).length := by rw [hX.length]; simp
          rw [el, List.map_map]
          refine Eq.trans ?_ (range_getD (fs.take i) ("", 0) fun f : Str × Int => V.str f.1)
          apply List.map_congr_left
          intro j hj
          have hj' : j < i ∧ j < fs.length := by simp at hj; omega
          simp [List.getD, List.getElem?_take, hj'.1]
        rw [e1] at hC
        have nC0 : H C6 = none := sH.free nC
        have nCdc : C6 ≠ dc := (ne_of_none hD nC).symm
        walk_at "go"
        refine ⟨dc, dx, a, C6, bytesOf fs, 2 + ((fs.take i).flatMap encF).length, fi, (fs.take i).map (·.1), _, rfl, s6 _ _ hD, hSn _ (sH.trans s6), nadc, SqL.of hC, nCdc, fun j z hz => get_body hfi j z hz, ok.nm fi fm, nodup_take ok.nd hfi, hb.1, ?_, fun H7 q k7 nq hq h7 => ?_⟩
        · split <;> omega
        have nqfo : q ≠ fo := (ne_of_none (s6 _ _ hF) nq).symm
        walk_at "go"
        have hF7 : H7 fo = some (.lst xs) := k7 _ _ nfodc (s6 _ _ hF)
        refine g_append hF7 (by simp [sizeLine_eq]; omega) fun H8 k8 h8 => ?_
        have nqdc : q ≠ dc := (ne_of_none (s6 _ _ hD) nq).symm
        walk_at "go"
        refine g_ix_l (v := .ref q) (SqL.of h8) (atI_last xs (.ref q)) ?_
        walk_at "go"
        refine g_ix_t (SqT.of (k8 _ _ nqfo hq)) atI_c1 ?_
        walk_at "go"
        rw [ep]
        refine ⟨xs ++ [.ref q], _, _, rfl, fun b o hb' => ?_, ?_, h8, ?_⟩
        · exact k8 _ _ (ne_of_none hb' nfo0) (k7 _ _ (ne_of_none hb' ndc) (s6 _ _ (sH _ _ hb')))
        · rw [k8 _ _ nfodc.symm h7, flat_take encF hfi, List.length_append, Nat.add_assoc]
        · rw [List.take_add_one, hfi]
          simp only [Option.toList_some, List.map_append, List.map_cons, List.map_nil]
          have hX7 : DpAll K H7 xs ((fs.take i).map pField) := dp_keepAll k7 (notT_i (s6 _ _ hD)) _ _ (noL_fields _) (s6.dpa hX)
          have hq7 : DpAll K H7 [.ref q] [pField fi] := .cons (dp_tup hq (.cons (.str _) (.cons (.int _) .nil))) .nil
          exact dp_keepAll k8 (notT_l hF7) _ _ (by have := noL_fields (fs.take i ++ [fi]); rw [List.map_append] at this; exact this) (hX7.append hq7)
    · rintro σ H' ⟨xs, u1, u2, rfl, sH, hD, hF, hX⟩
      have el : fs.take ((fs.length : Int)).toNat = fs := by rw [Int.toNat_natCast, List.take_length]
      rw [el] at hX hD
      have xl : xs.length ≤ 6 := by rw [hX.length]; simp; omega
      have ebl : 2 + (fs.flatMap encF).length = (bodyOf fs).length := by simp [bodyOf]; omega
      rw [ebl] at hD
      walk_at "go"
      refine n_fld hD CC.cl CC.place (dec_place _ _) ?_
      walk_at "go"
      refine g_slL (hSn _ sH) fun q6 H6 nq6 s6 hq6 => ?_
      have ecut : cutV ((bytesOf fs).map V.int) none (some ((bodyOf fs).length : Int)) = (bodyOf fs).map V.int := by
        rw [cutV_to, ← List.map_take, bytesOf, List.take_left]
      rw [ecut] at hq6
      walk_at "go"
      refine ⟨q6, bodyOf fs, rfl, SqL.of hq6, ?_⟩
      walk_at "go"
      refine n_meth (s6 _ _ hD) (dec_no _ _ _ ctk ctp) ?_
      walk_at "go"
      refine ⟨dc, dx, a, bytesOf fs, (bodyOf fs).length, cks (bodyOf fs), _, _, rfl, s6 _ _ hD, hSn _ (sH.trans s6), nadc, by rw [bytesOf, List.getElem?_append_right (Nat.le_refl _)]; simp, Int.le_refl _, Int.le_refl _, fun H7 k7 h7 => ?_⟩
      have s7 : Same H H7 := fun b o hb => k7 _ _ (ne_of_none hb ndc) (s6 _ _ (sH _ _ hb))
      walk_at "go"
      refine n_fld h7 CC.cl CC.place (dec_place _ _) ?_
      walk_at "go"
      try refine g_len_l (hSn _ s7) ?_
      walk_at "go"
      refine if_D (fun e => absurd e (by simp [bytesOf])) (fun _ => ?_)
      walk_at "go"
      have hF7 : H7 fo = some (.lst xs) := k7 _ _ nfodc (s6 _ _ hF)
      have hX7 : DpAll K H7 xs (fs.map pField) := dp_keepAll k7 (notT_i (s6 _ _ hD)) _ _ (noL_fields _) (s6.dpa hX)
      refine n_star1 (.inr (SqL.of hF7)) ?_
      refine n_make fun fx fdx H8 nfx nfdx nefx s8 hfx hfdx => ?_
      refine ⟨.ref fx, xs, rfl, by simp [sizeLine_eq]; omega, fun t ht => ?_⟩
      have st := same_new (o := .tup xs) ht
      refine ⟨fx, fdx, t, fs, rfl, st _ _ hfx, dp_tup upd_same (st.dpa (s8.dpa hX7)), ok, fun H9 k9 h9 => ⟨rfl, ?_⟩⟩
      have sB : Same H8 (upd H8 t (.tup xs)) := st
      refine k H9 fx (fun b o hb => k9 _ _ (ne_of_none hb (s7.free nfx)) (st _ _ (s8 _ _ (s7 _ _ hb)))) (s7.free nfx) ⟨fdx, t, h9, ?_⟩
      exact dp_keep k9 (notT_i (st _ _ hfx)) _ _ (by show noLs _ = true; exact noL_fields fs) (dp_tup upd_same (st.dpa (s8.dpa hX7)))
def sp_law_farm (K : PySem.W.Frag) (CF : Addr) : Sp := fun vs H Q _ => ∃ (v : V) (fs : List (Str × Int)), vs = [v] ∧ Dp K H v (.list (fs.map pField)) ∧ FOk fs ∧ ∀ H' p, Same H H' → H p = none → FarmAt K CF H' p fs → Q (.ref p) H'
theorem ok_law_farm (M : Md K mg) (G : Gd K mg "_law_farm" s_law_farm) (D_law_bytes : DefR P w K mg base "_law_bytes" 2 (sp_law_bytes K)) (D_decode_farm : DefR P w K mg base "decode_farm" 8 (sp_decode_farm K CF)) : DefR P w K mg base "_law_farm" 10 (sp_law_farm K CF) := by
  refine def_mk G fun f fd F => fnr_mk (F.ok sc_law_farm ?_ (fun cdv A outer s H vs Q E hr h => ?_)) (F.bindsN (fun _ _ _ _ _ _ us hl => match us, hl with | [_], _ => rfl))
  · rintro vs H Q E ⟨z, _, rfl, _⟩; rfl
  · obtain ⟨v, fs, rfl, hv, ok, k⟩ := h
    have nd := sc_law_farm.nd
    refine ⟨_, PSs.nox (pss_one (ps_ret (pe_callR D_decode_farm (hr.mono (by first | decide | omega)) passN (pa_cons (pe_callR D_law_bytes (hr.mono (by first | decide | omega)) passN (pa_cons (pv 0) pa_nil)) pa_nil)))), ?_⟩
    show (_ : TS) _ [some v] H
    walk_at "go"
    refine ⟨v, fs, rfl, hv, ok, fun H1 p s1 np hp => ?_⟩
    walk_at "go"
    refine ⟨p, fs, rfl, hp, ok, fun H2 q s2 nq hq => ?_⟩
    exact k H2 q (s1.trans s2) (s1.free nq) hq

end
abbrev s_law_error_of : Stmt := top 32
abbrev N_law_error_of : List Str := ["_law_call", "e", "_law_kinds", "_law_name"]
theorem sc_law_error_of : FnScope N_law_error_of ["_law_call"] (defScope s_law_error_of) := ⟨rfl, rfl, rfl, by decide +kernel, rfl, by decide +kernel, by decide +kernel⟩
section
variable {P : Program} {w : World} {K : PySem.W.Frag}
variable {mg : Str → Option Value} {base : Heap}
/-! ### what _law_error_of tells -/
theorem bt_ValueError : bootBuiltins "ValueError" = some (.type "ValueError") := by decide +kernel
inductive ErrK where
  | cart (z : Str) | oper (i : Int) | text (r w : Int) | dec (o : Int) | field (z : Str) | num | plan (i : Int)
def ErrK.ix : ErrK → Fin 7
  | .cart _ => 0 | .oper _ => 1 | .text _ _ => 2 | .dec _ => 3 | .field _ => 4 | .num => 5 | .plan _ => 6
def ErrK.dat : ErrK → PyData
  | .cart z => .tuple [.str "cart", .str z]
  | .oper i => .tuple [.str "operation", .int i]
  | .text r w => .tuple [.str "text", .tuple [.int r, .int w]]
  | .dec o => .tuple [.str "decode", .int o]
  | .field z => .tuple [.str "field", .str z]
  | .num => .tuple [.str "number", .int 0]
  | .plan i => .tuple [.str "plan", .int i]
def ErrK.flds : ErrK → Option (List (Str × V))
  | .cart z => some [("part", .str z)]
  | .oper i => some [("index", .int i)]
  | .text r w => some [("word", .int w), ("row", .int r)]
  | .dec o => some [("offset", .int o)]
  | .field z => some [("name", .str z)]
  | .num => none
  | .plan i => some [("index", .int i)]
/-- an exception of the kind kd: its class, its dict -/
structure ErrAt (c : Fin 7 → Addr) (H : Hp) (cls : Value) (d : Option Addr) (kd : ErrK) : Prop where
  cls : cls = .ref (c kd.ix)
  fl : ∀ fs, kd.flds = some fs → ∃ dd, d = some dd ∧ H dd = some (.xd fs)
  no : kd.flds = none → d = none
structure ErrF (K : PySem.W.Frag) (mg : Str → Option Value) (c : Fin 7 → Addr) (CE : Addr) : Prop where
  a_FarmError : mg "FarmError" = some (.ref CE)
  a_InvalidCart : mg "InvalidCart" = some (.ref (c 0))
  a_InvalidOperation : mg "InvalidOperation" = some (.ref (c 1))
  a_InvalidText : mg "InvalidText" = some (.ref (c 2))
  a_DecodeError : mg "DecodeError" = some (.ref (c 3))
  a_UnknownField : mg "UnknownField" = some (.ref (c 4))
  a_InvalidNumber : mg "InvalidNumber" = some (.ref (c 5))
  a_InvalidPlan : mg "InvalidPlan" = some (.ref (c 6))
  n_ValueError : mg "ValueError" = none
  exc : ∀ j, ExcC K (c j)
  exm : ∀ j, PySem.W.exmOne K (.ref (c j)) (.ref CE) = some true
  kit : ∀ i j : Fin 7, PySem.W.kitOne K (.ref (c i)) (.ref (c j)) = some (decide (i.val = j.val))
  kitV : ∀ j, PySem.W.kitOne K (.ref (c j)) (.type "ValueError") = some true
  xf : ∀ j, XfC K (c j)
  no0 : PySem.W.findIn K (.ref (c 0)) "part" = some none
  no1 : PySem.W.findIn K (.ref (c 1)) "index" = some none
  no2r : PySem.W.findIn K (.ref (c 2)) "row" = some none
  no2w : PySem.W.findIn K (.ref (c 2)) "word" = some none
  no3 : PySem.W.findIn K (.ref (c 3)) "offset" = some none
  no4 : PySem.W.findIn K (.ref (c 4)) "name" = some none
  no6 : PySem.W.findIn K (.ref (c 6)) "index" = some none
def TTe (K : PySem.W.Frag) (c : Fin 7 → Addr) : (XK → Hp → VK → Prop) → Hp → VK → Prop := fun tl H Q =>
  tl (fun cls d H' => ∃ kd, ErrAt c H' cls d kd ∧ ∀ H2 v, Same H' H2 → Dp K H2 v kd.dat → Q v H2) H (fun _ H' => Q .non H')
section
variable {H : Hp} {Q : VK}
theorem g_rEq_s {i j : Str} (h : Q (.bl (decide (i = j))) H) : rEq (.str i) (.str j) H Q := ⟨rfl, by rw [dec_s]; exact h⟩
theorem g_rNe_i {i j : Int} (h : Q (.bl (!decide (i = j))) H) : rNe (.int i) (.int j) H Q := ⟨rfl, by rw [dec_i]; exact h⟩
theorem g_rIn_s {z : Str} {p : Addr} {zs : List Str} (h1 : SqL K H p (zs.map V.str)) (h : Q (.bl (decide (z ∈ zs))) H) : rIn K false (.str z) (.ref p) H Q := ⟨p, zs.map V.str, rfl, .inl h1, rfl, flat_strs zs, by simp only [Bool.false_eq_true, if_false]; rw [inV_strs]; exact h⟩
end
theorem op_inF {X : Cx} (K) (hK : X.K = K := by rfl) : OpR X (compareOp .In) (rIn K false) := by subst hK; exact op_in_seq
theorem mt_indexK {X : Cx} (K) (hK : X.K = K := by rfl) : MtR X "list.index" (rIndex K) := by subst hK; exact mt_index
theorem mt_cntK {X : Cx} (K) (hK : X.K = K := by rfl) : MtR X "list.count" (rCntF K) := by subst hK; exact mt_cntF
def sevenN : List Str := ["cart", "operation", "text", "decode", "field", "number", "plan"]
theorem ErrAt.dct {c : Fin 7 → Addr} {H H' : Hp} {cls : Value} {d : Option Addr} {kd : ErrK} (h : ErrAt c H cls d kd) (s : Same H H') : DctAt d H' := by
  intro dd e
  cases q : kd.flds with
  | none => rw [h.no q] at e; cases e
  | some fs =>
    obtain ⟨d2, e2, at_⟩ := h.fl fs q
    rw [e] at e2
    cases e2
    exact ⟨fs, s _ _ at_⟩
/-- which of the seven it is -/
def bs7 (j : Nat) : List V := (List.range 7).map fun i => V.bl (decide (j = i))
theorem bs7_cnt : ∀ j : Fin 7, (bs7 j.val).countP (fun z => eqV z (.bl true)) = 1 := by decide +kernel
theorem bs7_flat (j : Nat) : (bs7 j).all flatV = true := by
  rw [List.all_eq_true]
  intro x hx
  obtain ⟨i, _, rfl⟩ := List.mem_map.mp hx
  rfl
theorem g_ix7 {H : Hp} {Q : VK} {p : Addr} {j : Nat} (hj : j < 7) (h1 : SqL K H p (bs7 j)) (h : Q (.int (j : Nat)) H) : rIndex K (.ref p) [.bl true] H Q := by
  refine ⟨p, bs7 j, .bl true, j, .bl true, rfl, rfl, h1, rfl, bs7_flat j, ?_, rfl, fun m z lt hz => ?_, h⟩
  · unfold bs7
    rw [List.getElem?_map, List.getElem?_range hj]
    simp
  · obtain ⟨i, hi, rfl⟩ := getm hz
    have e : i = m := by
      rw [List.getElem?_range (by omega)] at hi
      exact (Option.some.inj hi).symm
    subst e
    rw [decide_eq_false (by omega)]; rfl
theorem gives_err {X : Cx} {c : Fin 7 → Addr} {CE g : Addr} (M : Bts X.mg) (EF : ErrF X.K X.mg c CE) (cdg : Value) : Gives X N_law_error_of "_law_error_of" (defScope s_law_error_of) g cdg (defBody s_law_error_of) "_law_call" (TTe X.K c) := by
  intro f s H Q IsL tl act isl h
  have nd := sc_law_error_of.nd
  refine ⟨_, pss_cons (ps_try_as (x := "FarmError") (n := "e") (i := 1) (c := .ref CE) (X := (cxOf C8.CX0 X.prog X.w X.K X.mg X.base N_law_error_of "_law_error_of" (defScope s_law_error_of) g cdg X.A X.stack s H C8.E0).nox)
    (tb := fun W D σ H => ∃ Ech : XK, (∀ cls d H', Ech cls d H' → W cls d σ H') ∧ σ[0]? = some (some (.ref f)) ∧ IsL H ∧ tl Ech H (fun _ H' => D.nx σ H')) rfl rfl sc_law_error_of.nd rfl rfl ⟨rfl, by decide, .inl EF.a_FarmError⟩ LamX.takes0 (fun W pn xe tk _ => ⟨fun pins s' σ H' D I h' => ?_⟩)
    (fun a oe cls d pn hz hf => (pss_cons (ps_set (i := 2) nd rfl (by first | exact Or.inl rfl | exact Or.inr rfl) (pe_lst (pa_cons (pe_isX M hz hf (pv 1) (pe_glob (v := .ref _) rfl EF.a_InvalidCart rfl (by decide))) (pa_cons (pe_isX M hz hf (pv 1) (pe_glob (v := .ref _) rfl EF.a_InvalidOperation rfl (by decide))) (pa_cons (pe_isX M hz hf (pv 1) (pe_glob (v := .ref _) rfl EF.a_InvalidText rfl (by decide))) pa_nil)))))
    (pss_cons (ps_set (i := 2) nd rfl (by first | exact Or.inl rfl | exact Or.inr rfl) (pe_op (op_addK X.K) (pv 2) (pe_lst (pa_cons (pe_isX M hz hf (pv 1) (pe_glob (v := .ref _) rfl EF.a_DecodeError rfl (by decide))) (pa_cons (pe_isX M hz hf (pv 1) (pe_glob (v := .ref _) rfl EF.a_UnknownField rfl (by decide))) (pa_cons (pe_isX M hz hf (pv 1) (pe_glob (v := .ref _) rfl EF.a_InvalidNumber rfl (by decide))) pa_nil))))))
    (pss_cons (ps_set (i := 2) nd rfl (by first | exact Or.inl rfl | exact Or.inr rfl) (pe_op (op_addK X.K) (pv 2) (pe_lst (pa_cons (pe_isX M hz hf (pv 1) (pe_glob (v := .ref _) rfl EF.a_InvalidPlan rfl (by decide))) pa_nil))))
    (pss_cons (ps_if (PW.pt (pw_or (pt_cmpR op_ne (as_bm X.K (pe_bm PySem.F.plainAttrs_list PySem.F.slot_list_count PySem.F.type_list_count (mt_cntK X.K) (pv 2) (pa_cons pe_bl pa_nil))) pe_int (nomark _)) (pw_or1 (pt_not (pt_val (pe_isX M hz hf (pv 1) (pe_bltn (v := .ty "ValueError") rfl EF.n_ValueError bt_ValueError rfl (by decide) (by decide)))))))) (pss_one (ps_ret (pe_tup (pa_cons pe_str (pa_cons pe_int pa_nil))))) pss_nil)
    (pss_cons (ps_set (i := 3) nd rfl (by first | exact Or.inl rfl | exact Or.inr rfl) (pe_ix (ix_K X.K) (pe_lst (pa_cons pe_str (pa_cons pe_str (pa_cons pe_str (pa_cons pe_str (pa_cons pe_str (pa_cons pe_str (pa_cons pe_str pa_nil)))))))) (as_bm X.K (pe_bm PySem.F.plainAttrs_list PySem.F.slot_list_index PySem.F.type_list_index (mt_indexK X.K) (pv 2) (pa_cons pe_bl pa_nil))) (fun _ _ => rfl)))
    (pss_cons (ps_if (pt_cmpR (op_inF X.K) (pv 3) (pe_lst (pa_cons pe_str (pa_cons pe_str pa_nil))) rfl) (pss_one (ps_ret (pe_tup (pa_cons (pv 3) (pa_cons (pe_either (pe_xf (EF.xf 6) EF.no6 hz hf (pv 1)) (pe_xf (EF.xf 1) EF.no1 hz hf (pv 1))) pa_nil))))) pss_nil)
    (pss_cons (ps_if (pt_cmpR (op_inF X.K) (pv 3) (pe_lst (pa_cons pe_str (pa_cons pe_str pa_nil))) rfl) (pss_one (ps_ret (pe_tup (pa_cons (pv 3) (pa_cons (pe_ifExp (pt_cmpR op_eq (pv 3) pe_str (nomark _)) (pe_xf (EF.xf 0) EF.no0 hz hf (pv 1)) (pe_xf (EF.xf 4) EF.no4 hz hf (pv 1))) pa_nil))))) pss_nil)
    (pss_one (ps_ret (pe_tup (pa_cons (pv 3) (pa_cons (pe_ifExp (pt_cmpR op_eq (pv 3) pe_str (nomark _)) (pe_tup (pa_cons (pe_xf (EF.xf 2) EF.no2r hz hf (pv 1)) (pa_cons (pe_xf (EF.xf 2) EF.no2w hz hf (pv 1)) pa_nil))) (pe_ifExp (pt_cmpR op_eq (pv 3) pe_str (nomark _)) (pe_xf (EF.xf 3) EF.no3 hz hf (pv 1)) pe_int)) pa_nil)))))))))))))) (pss_one (ps_ret pe_non)), ?_⟩
  · obtain ⟨Ech, hW, h1, h2, h3⟩ := h'
    exact (pss_one (ps_expr (act W pn xe Ech _ _ tk))).run pins s' σ H' D I ⟨hW, h1, h2, h3⟩
  · refine g_seq ?_
    refine ⟨fun cls d H' => ∃ kd, ErrAt c H' cls d kd ∧ ∀ H2 v, Same H' H2 → Dp X.K H2 v kd.dat → Q v H2, ?_, rfl, isl, h⟩
    rintro cls d H' ⟨kd, ea, k⟩
    refine ⟨true, by rw [ea.cls]; exact EF.exm _, fun _ a na => ?_, fun z => absurd z (by decide)⟩
    obtain rfl := ea.cls
    show (_ : TS) _ [some (.ref f), some (.ref a), none, none] H'
    have jlt : kd.ix.val < 7 := kd.ix.isLt
    generalize ej : kd.ix.val = j at jlt
    have kit : ∀ (i : Fin 7), PySem.W.kitOne X.K (.ref (c kd.ix)) (.ref (c i)) = some (decide (j = i.val)) := fun i => by rw [← ej]; exact EF.kit _ _
    have ex := EF.exc kd.ix
    walk_at "go"
    refine n_isX ex (ea.dct (Same.refl _)) (kit 0) ?_
    walk_at "go"
    refine n_isX ex (ea.dct (Same.refl _)) (kit 1) ?_
    walk_at "go"
    refine n_isX ex (ea.dct (Same.refl _)) (kit 2) ?_
    walk_at "go"
    refine n_lst (by simp [sizeLine_eq]) fun l1 H1 nl1 s1 hl1 => ?_
    walk_at "go"
    refine n_isX ex (ea.dct s1) (kit 3) ?_
    walk_at "go"
    refine n_isX ex (ea.dct s1) (kit 4) ?_
    walk_at "go"
    refine n_isX ex (ea.dct s1) (kit 5) ?_
    walk_at "go"
    refine n_lst (by simp [sizeLine_eq]) fun l2 H2 nl2 s2 hl2 => ?_
    refine g_add_l (s2 _ _ hl1) hl2 (by simp [sizeLine_eq]) fun l3 H3 nl3 s3 hl3 => ?_
    have s13 := s1.trans (s2.trans s3)
    walk_at "go"
    refine n_isX ex (ea.dct s13) (kit 6) ?_
    walk_at "go"
    refine n_lst (by simp [sizeLine_eq]) fun l4 H4 nl4 s4 hl4 => ?_
    refine g_add_l (s4 _ _ hl3) hl4 (by simp [sizeLine_eq]) fun l5 H5 nl5 s5 hl5 => ?_
    have s15 := s13.trans (s4.trans s5)
    have hl5' : H5 l5 = some (.lst (bs7 j)) := hl5
    walk_at "go"
    try refine g_tyL (SqL.of hl5') ?_
    walk_at "go"
    refine g_cntF (SqL.of hl5') rfl (bs7_flat j) ?_
    rw [bs7_cnt ⟨j, jlt⟩]
    refine g_rNe_i ?_
    walk_at "go"
    refine if_F (by decide) ?_
    walk_at "go"
    refine n_isXT ex (ea.dct s15) (EF.kitV _) ?_
    walk_at "go"
    refine if_F rfl ?_
    walk_at "go"
    refine n_lst (by simp [sizeLine_eq]) fun l6 H6 nl6 s6 hl6 => ?_
    have hl6' : H6 l6 = some (.lst (sevenN.map V.str)) := hl6
    walk_at "go"
    try refine g_tyL (SqL.of (s6 _ _ hl5')) ?_
    walk_at "go"
    refine g_ix7 jlt (SqL.of (s6 _ _ hl5')) ?_
    have l7 : sevenN.length = 7 := by decide +kernel
    refine g_ix_l (SqL.of hl6') (atI_nat (j := j) (v := V.str (sevenN[j]'(by omega))) (by rw [List.getElem?_map, List.getElem?_eq_getElem (by omega)]; rfl)) ?_
    generalize enm : sevenN[j]'(by omega) = nm
    walk_at "go"
    refine n_lst (by simp [sizeLine_eq]) fun l7 H7 nl7 s7 hl7 => ?_
    have s17 := s15.trans (s6.trans s7)
    refine g_rIn_s (zs := ["operation", "plan"]) (SqL.of hl7) ?_
    walk_at "go"
    subst ej
    cases kd with
    | oper i =>
      obtain rfl : nm = ("operation" : Str) := enm ▸ rfl
      obtain ⟨dd, ed, at_⟩ := ea.fl _ rfl
      refine if_T (by decide +kernel) ?_
      walk_at "go"
      refine .inr ⟨_, rfl, rfl, rfl, dd, _, _, ed, s17 _ _ at_, rfl, ?_⟩
      walk_at "go"
      refine n_tup (by simp [sizeLine_eq]) fun t H8 nt s8 ht => ?_
      exact k H8 _ (s17.trans s8) (dp_tup ht (.cons (.str _) (.cons (.int _) .nil)))
    | plan i =>
      obtain rfl : nm = ("plan" : Str) := enm ▸ rfl
      obtain ⟨dd, ed, at_⟩ := ea.fl _ rfl
      refine if_T (by decide +kernel) ?_
      walk_at "go"
      refine .inl ⟨_, rfl, rfl, rfl, dd, _, _, ed, s17 _ _ at_, rfl, ?_⟩
      walk_at "go"
      refine n_tup (by simp [sizeLine_eq]) fun t H8 nt s8 ht => ?_
      exact k H8 _ (s17.trans s8) (dp_tup ht (.cons (.str _) (.cons (.int _) .nil)))
    | cart z =>
      obtain rfl : nm = ("cart" : Str) := enm ▸ rfl
      obtain ⟨dd, ed, at_⟩ := ea.fl _ rfl
      refine if_F (by decide +kernel) ?_
      walk_at "go"
      refine n_lst (by simp [sizeLine_eq]) fun l8 H8 nl8 s8 hl8 => ?_
      refine g_rIn_s (zs := ["cart", "field"]) (SqL.of hl8) ?_
      walk_at "go"
      refine if_T (by decide +kernel) ?_
      walk_at "go"
      refine g_rEq_s ?_
      walk_at "go"
      refine if_T (by decide +kernel) ?_
      refine ⟨_, rfl, rfl, rfl, dd, _, _, ed, (s17.trans s8) _ _ at_, rfl, ?_⟩
      walk_at "go"
      refine n_tup (by simp [sizeLine_eq]) fun t H9 nt s9 ht => ?_
      exact k H9 _ (s17.trans (s8.trans s9)) (dp_tup ht (.cons (.str _) (.cons (.str _) .nil)))
    | field z =>
      obtain rfl : nm = ("field" : Str) := enm ▸ rfl
      obtain ⟨dd, ed, at_⟩ := ea.fl _ rfl
      refine if_F (by decide +kernel) ?_
      walk_at "go"
      refine n_lst (by simp [sizeLine_eq]) fun l8 H8 nl8 s8 hl8 => ?_
      refine g_rIn_s (zs := ["cart", "field"]) (SqL.of hl8) ?_
      walk_at "go"
      refine if_T (by decide +kernel) ?_
      walk_at "go"
      refine g_rEq_s ?_
      walk_at "go"
      refine if_F (by decide +kernel) ?_
      refine ⟨_, rfl, rfl, rfl, dd, _, _, ed, (s17.trans s8) _ _ at_, rfl, ?_⟩
      walk_at "go"
      refine n_tup (by simp [sizeLine_eq]) fun t H9 nt s9 ht => ?_
      exact k H9 _ (s17.trans (s8.trans s9)) (dp_tup ht (.cons (.str _) (.cons (.str _) .nil)))
    | text r w =>
      obtain rfl : nm = ("text" : Str) := enm ▸ rfl
      obtain ⟨dd, ed, at_⟩ := ea.fl _ rfl
      refine if_F (by decide +kernel) ?_
      walk_at "go"
      refine n_lst (by simp [sizeLine_eq]) fun l8 H8 nl8 s8 hl8 => ?_
      refine g_rIn_s (zs := ["cart", "field"]) (SqL.of hl8) ?_
      walk_at "go"
      refine if_F (by decide +kernel) ?_
      walk_at "go"
      refine g_rEq_s ?_
      walk_at "go"
      refine if_T (by decide +kernel) ?_
      walk_at "go"
      refine ⟨_, rfl, rfl, rfl, dd, _, _, ed, (s17.trans s8) _ _ at_, rfl, ?_⟩
      walk_at "go"
      refine ⟨_, rfl, rfl, rfl, dd, _, _, ed, (s17.trans s8) _ _ at_, rfl, ?_⟩
      walk_at "go"
      refine n_tup (by simp [sizeLine_eq]) fun t0 H9 nt0 s9 ht0 => ?_
      walk_at "go"
      refine n_tup (by simp [sizeLine_eq]) fun t H10 nt s10 ht => ?_
      exact k H10 _ (s17.trans (s8.trans (s9.trans s10))) (dp_tup ht (.cons (.str _) (.cons (dp_tup (s10 _ _ ht0) (.cons (.int _) (.cons (.int _) .nil))) .nil)))
    | dec o =>
      obtain rfl : nm = ("decode" : Str) := enm ▸ rfl
      obtain ⟨dd, ed, at_⟩ := ea.fl _ rfl
      refine if_F (by decide +kernel) ?_
      walk_at "go"
      refine n_lst (by simp [sizeLine_eq]) fun l8 H8 nl8 s8 hl8 => ?_
      refine g_rIn_s (zs := ["cart", "field"]) (SqL.of hl8) ?_
      walk_at "go"
      refine if_F (by decide +kernel) ?_
      walk_at "go"
      refine g_rEq_s ?_
      walk_at "go"
      refine if_F (by decide +kernel) ?_
      walk_at "go"
      refine g_rEq_s ?_
      walk_at "go"
      refine if_T (by decide +kernel) ?_
      refine ⟨_, rfl, rfl, rfl, dd, _, _, ed, (s17.trans s8) _ _ at_, rfl, ?_⟩
      walk_at "go"
      refine n_tup (by simp [sizeLine_eq]) fun t H9 nt s9 ht => ?_
      exact k H9 _ (s17.trans (s8.trans s9)) (dp_tup ht (.cons (.str _) (.cons (.int _) .nil)))
    | num =>
      obtain rfl : nm = ("number" : Str) := enm ▸ rfl
      refine if_F (by decide +kernel) ?_
      walk_at "go"
      refine n_lst (by simp [sizeLine_eq]) fun l8 H8 nl8 s8 hl8 => ?_
      refine g_rIn_s (zs := ["cart", "field"]) (SqL.of hl8) ?_
      walk_at "go"
      refine if_F (by decide +kernel) ?_
      walk_at "go"
      refine g_rEq_s ?_
      walk_at "go"
      refine if_F (by decide +kernel) ?_
      walk_at "go"
      refine g_rEq_s ?_
      walk_at "go"
      refine if_F (by decide +kernel) ?_
      walk_at "go"
      refine n_tup (by simp [sizeLine_eq]) fun t H9 nt s9 ht => ?_
      exact k H9 _ (s17.trans (s8.trans s9)) (dp_tup ht (.cons (.str _) (.cons (.int _) .nil)))
/-! ### the head's tests -/
def errNs : List Str := ["InvalidCart", "InvalidOperation", "InvalidText", "DecodeError", "UnknownField", "InvalidNumber", "InvalidPlan"]
def errCs (K : PySem.W.Frag) : Fin 7 → Addr := fun j => He.ga K (errNs.getD j.val "")
def seven7 : List (Fin 7) := [0, 1, 2, 3, 4, 5, 6]
theorem seven_all : ∀ j : Fin 7, j ∈ seven7 := by decide
def errOne (K : PySem.W.Frag) (CE C : Addr) : Bool := excCB K C && (xfB K C && (decide (PySem.W.exmOne K (.ref C) (.ref CE) = some true) && decide (PySem.W.kitOne K (.ref C) (.type "ValueError") = some true)))
def noB (K : PySem.W.Frag) (C : Addr) (f : Str) : Bool := decide (PySem.W.findIn K (.ref C) f = some none)
def errB (K : PySem.W.Frag) (CE : Addr) : Bool := (seven7.all fun i => errOne K CE (errCs K i)) && ((seven7.all fun i => seven7.all fun j => decide (PySem.W.kitOne K (.ref (errCs K i)) (.ref (errCs K j)) = some (decide (i.val = j.val)))) &&
  (noB K (errCs K 0) "part" && (noB K (errCs K 1) "index" && (noB K (errCs K 2) "row" && (noB K (errCs K 2) "word" && (noB K (errCs K 3) "offset" && (noB K (errCs K 4) "name" && noB K (errCs K 6) "index")))))))
theorem errB_ok {CE : Addr} (h : errB K CE = true) (a0 : mg "FarmError" = some (.ref CE)) (at_ : ∀ j : Fin 7, mg (errNs.getD j.val "") = some (.ref (errCs K j))) (nv : mg "ValueError" = none) : ErrF K mg (errCs K) CE := by
  simp only [errB, Bool.and_eq_true] at h
  obtain ⟨h1, h2, h3, h4, h5, h6, h7, h8, h9⟩ := h
  have one : ∀ j : Fin 7, errOne K CE (errCs K j) = true := fun j => List.all_eq_true.mp h1 j (seven_all j)
  have parts : ∀ j : Fin 7, excCB K (errCs K j) = true ∧ xfB K (errCs K j) = true ∧ decide (PySem.W.exmOne K (.ref (errCs K j)) (.ref CE) = some true) = true ∧ decide (PySem.W.kitOne K (.ref (errCs K j)) (.type "ValueError") = some true) = true := fun j => by
    have := one j
    simp only [errOne, Bool.and_eq_true] at this
    exact this
  exact ⟨a0, at_ 0, at_ 1, at_ 2, at_ 3, at_ 4, at_ 5, at_ 6, nv, fun j => excCB_ok (parts j).1, fun j => of_decide_eq_true (parts j).2.2.1, fun i j => of_decide_eq_true (List.all_eq_true.mp (List.all_eq_true.mp h2 i (seven_all i)) j (seven_all j)),
    fun j => of_decide_eq_true (parts j).2.2.2, fun j => xfB_ok (parts j).2.1, of_decide_eq_true h3, of_decide_eq_true h4, of_decide_eq_true h5, of_decide_eq_true h6, of_decide_eq_true h7, of_decide_eq_true h8, of_decide_eq_true h9⟩

end
section
variable {P : Program} {w : World} {K : PySem.W.Frag}
variable {mg : Str → Option Value} {base : Heap}
/-- an exception of the kind kd leaves -/
def ErrX (c : Fin 7 → Addr) (kd : ErrK) (H : Hp) (E : XK) : Prop := ∀ H' cls d, Same H H' → ErrAt c H' cls d kd → E cls d H'
theorem ErrX.same {c : Fin 7 → Addr} {kd : ErrK} {H H' : Hp} {E : XK} (h : ErrX c kd H E) (s : Same H H') : ErrX c kd H' E := fun H2 cls d s2 e => h H2 cls d (s.trans s2) e
theorem errAt1 {c : Fin 7 → Addr} {H : Hp} {dd : Addr} {kd : ErrK} {j : Fin 7} {fs : List (Str × V)} (h : H dd = some (.xd fs)) (e : kd.flds = some fs) (ej : kd.ix = j) : ErrAt c H (.ref (c j)) (some dd) kd := ⟨by rw [ej], fun gs q => ⟨dd, rfl, by rw [e] at q; cases q; exact h⟩, fun q => by rw [e] at q; cases q⟩

end
section
variable {P : Program} {w : World} {K : PySem.W.Frag}
variable {mg : Str → Option Value} {base : Heap}
/-! ### bytes that are refused -/
/-- the byte at i, if it is within lo and hi -/
def tkB (ns : List Int) (i : Nat) (lo hi : Int) : Option Int := match ns[i]? with
  | some z => if lo ≤ z ∧ z ≤ hi then some z else none
  | none => none
theorem tkB_some {ns : List Int} {i : Nat} {lo hi z : Int} (h : tkB ns i lo hi = some z) : ns[i]? = some z ∧ lo ≤ z ∧ z ≤ hi := by
  unfold tkB at h
  split at h
  · split at h
    · rename_i y e c
      cases h
      exact ⟨e, c⟩
    · cases h
  · cases h
theorem tkB_ok {ns : List Int} {i : Nat} {lo hi z : Int} (h : ns[i]? = some z) (a : lo ≤ z) (b : z ≤ hi) : tkB ns i lo hi = some z := by
  unfold tkB
  rw [h]
  exact if_pos ⟨a, b⟩
theorem tkB_lt {ns : List Int} {i : Nat} {lo hi z : Int} (h : tkB ns i lo hi = some z) : i < ns.length := (List.getElem?_eq_some_iff.mp (tkB_some h).1).1
section
variable {CF CD : Addr} {c : Fin 7 → Addr}
def ErrXP (c : Fin 7 → Addr) (kd : ErrK) (x : Addr) (H : Hp) (E : XK) : Prop := ∀ H' cls d, Keep x H H' → ErrAt c H' cls d kd → E cls d H'
theorem ErrXP.keep {kd : ErrK} {x : Addr} {H H' : Hp} {E : XK} (h : ErrXP c kd x H E) (e : Keep x H H') : ErrX c kd H' E := fun H2 cls d s2 ea => h H2 cls d (fun b o nb hb => s2 _ _ (e _ _ nb hb)) ea
def sp_takeE (K : PySem.W.Frag) (CD : Addr) (c : Fin 7 → Addr) : Sp := fun vs H Q E => ∃ (p dx a : Addr) (ns : List Int) (i : Nat) (lo hi : Int), vs = [.ref p, .int lo, .int hi] ∧ H p = some (.ins CD dx (decFs a i)) ∧ SqL K H a (ns.map V.int) ∧ a ≠ p ∧ i ≤ ns.length ∧
  (∀ z, tkB ns i lo hi = some z → ∀ H', Keep p H H' → H' p = some (.ins CD dx (decFs a ((i + 1 : Nat) : Int))) → Q (.int z) H') ∧ (tkB ns i lo hi = none → ErrX c (.dec i) H E)
theorem ok_takeE (M : Md K mg) (C : DecC K CD) (R_DecodeError : ExcR P w K mg base "DecodeError" (c 3) 2 "offset") (G : Gm K CD "take" "Decoder.take" s_Decoder_take) : MethR P w K mg base CD "take" 4 (sp_takeE K CD c) := by
  refine meth_mk G fun f fd F => FnU.raw <| fnr_mk (F.ok sc_Decoder_take ?_ (fun cdv A outer s H vs Q E hr h => ?_)) (F.bindsN (fun _ _ _ _ _ _ us hl => match us, hl with | [_, _, _], _ => rfl))
  · rintro vs H Q E ⟨_, _, _, _, _, _, _, rfl, _⟩; rfl
  · obtain ⟨p, dx, a, ns, i, lo, hi, rfl, hp, hS, nap, hil, k, ke⟩ := h
    have nd := sc_Decoder_take.nd
    have bad : tkB ns i lo hi = none → ∀ d, H d = none → E (.ref (c 3)) (some d) (upd H d (.xd [("offset", .int i)])) := fun q d n => ke q _ _ _ (same_new n) (errAt1 upd_same rfl rfl)
    refine ⟨_, (pss_cons (ps_if (PW.pt (pw_or (pt_cmpR (op_eqK K hr) (pe_fldK K (pv 0)) (pe_len K M.b (pe_fldK K (pv 0))) (nomark _)) (pw_or1 (pt_not (pt_chain op_le op_le (pv 1) (pe_ix (ix_K K) (pe_fldK K (pv 0)) (pe_fldK K (pv 0)) (fun _ _ => rfl)) (pv 2)))))) (pss_one (ps_raise rfl tk_def (pmk_kx R_DecodeError (hr.mono (by first | decide | omega)) (pk_cons (pe_fldK K (pv 0)) pk_nil)))) pss_nil)
    (pss_cons (ps_fldaugK K (pv 0) pe_int in_add)
    (pss_one (ps_ret (pe_ix (ix_K K) (pe_fldK K (pv 0)) (pe_op op_sub (pe_fldK K (pv 0)) pe_int) (fun _ _ => rfl)))))), ?_⟩
    show (_ : TS) _ [some (.ref p), some (.int lo), some (.int hi)] H
    walk_at "go"
    refine n_fld hp C.cl C.place (dec_place _ _) ?_
    walk_at "go"
    refine n_fld hp C.cl C.data (dec_data _ _) ?_
    walk_at "go"
    try refine g_len_l hS ?_
    walk_at "go"
    refine if_D (fun e => ?_) (fun e => ?_)
    · have e' : i = ns.length := by simp at e; omega
      have none1 : tkB ns i lo hi = none := by unfold tkB; rw [e', List.getElem?_eq_none (Nat.le_refl _)]
      refine if_T rfl ?_
      refine g_cons ?_
      walk_at "go"
      refine n_fld hp C.cl C.place (dec_place _ _) ?_
      walk_at "go"
      exact ⟨_, rfl, bad none1⟩
    · have e' : i < ns.length := by
        simp at e
        omega
      obtain ⟨z, hz⟩ : ∃ z, ns[i]? = some z := ⟨_, List.getElem?_eq_getElem e'⟩
      have hzV : (ns.map V.int)[i]? = some (.int z) := by rw [List.getElem?_map, hz]; rfl
      walk_at "go"
      refine n_fld hp C.cl C.data (dec_data _ _) ?_
      walk_at "go"
      refine n_fld hp C.cl C.place (dec_place _ _) ?_
      walk_at "go"
      refine g_ix_l hS (atI_nat hzV) ?_
      walk_at "go"
      by_cases good : lo ≤ z ∧ z ≤ hi
      · refine g_ch (fun _ => ?_) (fun e => absurd good.1 (of_decide_eq_false e))
        walk_at "go"
        refine if_F (by rw [decide_eq_true good.2]; rfl) ?_
        walk_at "go"
        refine n_fldaug hp C.cl C.place (dec_place _ _) ?_
        walk_at "go"
        refine n_fae hp (by show 2 < 1000; decide) fun H1 k1 e1 => ?_
        rw [dec_put] at e1
        walk_at "go"
        refine n_fld e1 C.cl C.data (dec_data _ _) ?_
        walk_at "go"
        refine n_fld e1 C.cl C.place (dec_place _ _) ?_
        walk_at "go"
        refine g_ix_l (keep_l k1 nap hS) (by rw [show (i : Int) + 1 - 1 = (i : Int) by omega]; exact atI_nat hzV) ?_
        refine k z (tkB_ok hz good.1 good.2) H1 k1 ?_
        rw [e1]; rfl
      · have none1 : tkB ns i lo hi = none := by unfold tkB; rw [hz]; exact if_neg good
        refine g_ch (fun e1 => ?_) (fun e1 => ?_)
        · walk_at "go"
          refine if_T (by rw [decide_eq_false (fun q => good ⟨of_decide_eq_true e1, q⟩)]; rfl) ?_
          refine g_cons ?_
          walk_at "go"
          refine n_fld hp C.cl C.place (dec_place _ _) ?_
          walk_at "go"
          exact ⟨_, rfl, bad none1⟩
        · walk_at "go"
          refine if_T rfl ?_
          refine g_cons ?_
          walk_at "go"
          refine n_fld hp C.cl C.place (dec_place _ _) ?_
          walk_at "go"
          exact ⟨_, rfl, bad none1⟩
/-! take_field -/
def badL (ns : List Int) (i n : Nat) : Option Nat := (List.range n).find? fun t => (tkB ns (i + t) 0 25).isNone
def nameF (ns : List Int) (i n : Nat) : List Nat := (List.range n).map fun t => 97 + ((tkB ns (i + t) 0 25).getD 0).toNat
def fieldR (ns : List Int) (zs : List Str) (most : Int) (i : Nat) : Nat ⊕ ((Str × Int) × Nat) := match tkB ns i 1 most with
  | none => .inl i
  | some lim => match tkB ns (i + 1) 1 8 with
    | none => .inl (i + 1)
    | some len => match badL ns (i + 2) len.toNat with
      | some t => .inl (i + 2 + t)
      | none => if (⟨(nameF ns (i + 2) len.toNat).toArray⟩ : Str) ∈ zs then .inl (i + 1) else .inr ((⟨(nameF ns (i + 2) len.toNat).toArray⟩, lim), i + 2 + len.toNat)
theorem nameF_succ (ns : List Int) (i n : Nat) : nameF ns i (n + 1) = nameF ns i n ++ [97 + ((tkB ns (i + n) 0 25).getD 0).toNat] := by
  unfold nameF
  rw [List.range_succ, List.map_append]
  rfl
def sp_take_fieldE (K : PySem.W.Frag) (CD : Addr) (c : Fin 7 → Addr) : Sp := fun vs H Q E => ∃ (p dx a nm : Addr) (ns : List Int) (i : Nat) (zs : List Str) (most : Int), vs = [.ref p, .ref nm, .int most] ∧ H p = some (.ins CD dx (decFs a i)) ∧ SqL K H a (ns.map V.int) ∧ a ≠ p ∧
  SqL K H nm (zs.map V.str) ∧ nm ≠ p ∧ i ≤ ns.length ∧
  (∀ f i', fieldR ns zs most i = .inr (f, i') → i' ≤ ns.length → ∀ H' q, Keep p H H' → H q = none → H' q = some (.tup [.str f.1, .int f.2]) → H' p = some (.ins CD dx (decFs a (i' : Nat))) → Q (.ref q) H') ∧ (∀ o, fieldR ns zs most i = .inl o → ErrXP c (.dec o) p H E)
theorem ok_take_fieldE (M : Md K mg) (C : DecC K CD) (R_DecodeError : ExcR P w K mg base "DecodeError" (c 3) 2 "offset") (G : Gm K CD "take_field" "Decoder.take_field" s_Decoder_take_field) (M_Decoder_take : MethR P w K mg base CD "take" 4 (sp_takeE K CD c)) : MethR P w K mg base CD "take_field" 6 (sp_take_fieldE K CD c) := by
  refine meth_mk G fun f fd F => FnU.raw <| fnr_mk (F.ok sc_Decoder_take_field ?_ (fun cdv A outer s H vs Q E hr h => ?_)) (F.bindsN (fun _ _ _ _ _ _ us hl => match us, hl with | [_, _, _], _ => rfl))
  · rintro vs H Q E ⟨_, _, _, _, _, _, _, _, rfl, _⟩; rfl
  · obtain ⟨p, dx, a, nm, ns, i, zs, most, rfl, hp, hS, nap, hN, nnp, hil, k, ke⟩ := h
    have nd := sc_Decoder_take_field.nd
    have ctk : ((Str.ofString "take") == (Str.ofString "data")) = false := by decide +kernel
    have ctp : ((Str.ofString "take") == (Str.ofString "place")) = false := by decide +kernel
    refine ⟨_, (pss_cons (ps_set (i := 3) nd rfl (by first | exact Or.inl rfl | exact Or.inr rfl) (pe_methR (pv 0) M_Decoder_take.cl M_Decoder_take.at_ M_Decoder_take.fn (hr.mono (by first | decide | omega)) pz_def (pa_cons pe_int (pa_cons (pv 2) pa_nil))))
    (pss_cons (ps_set (i := 4) nd rfl (by first | exact Or.inl rfl | exact Or.inr rfl) (pe_fldK K (pv 0)))
    (pss_cons (ps_set (i := 5) nd rfl (by first | exact Or.inl rfl | exact Or.inr rfl) (pe_methR (pv 0) M_Decoder_take.cl M_Decoder_take.at_ M_Decoder_take.fn (hr.mono (by first | decide | omega)) pz_def (pa_cons pe_int (pa_cons (pe_gi M.g_MAX_LETTERS) pa_nil))))
    (pss_cons (ps_set (i := 6) nd rfl (by first | exact Or.inl rfl | exact Or.inr rfl) (pe_joinK K pe_str (pe_lcE (E := E) (own := [("letter", 7)]) (g := (gName 7)) rfl rfl rfl tk_def (fun _ _ _ _ h => h) rfl nd (pi_range1 rfl M.b.range (pa_cons (pv 5) pa_nil)) (blkOk_by (N := N_Decoder_take_field) (sc := defScope s_Decoder_take_field) (by decide +kernel)) (fun _ _ _ _ _ => (pg_name (i := 7) nd rfl (by first | exact Or.inl rfl | exact Or.inr rfl))) (fun _ _ _ _ _ pzE => (pe_ix (ix_K K) (pe_gs M.g_LETTERS) (pe_methR (pv 0) M_Decoder_take.cl M_Decoder_take.at_ M_Decoder_take.fn (hr.mono (by first | decide | omega)) pzE (pa_cons pe_int (pa_cons (pe_op op_sub (pe_len K M.b (pe_gs M.g_LETTERS)) pe_int) pa_nil))) (fun _ _ => rfl))))))
    (pss_cons (ps_if (pt_cmpR (op_inK K hr) (pv 6) (pv 1) rfl) (pss_one (ps_raise rfl tk_def (pmk_kx R_DecodeError (hr.mono (by first | decide | omega)) (pk_cons (pv 4) pk_nil)))) pss_nil)
    (pss_one (ps_ret (pe_tup (pa_cons (pv 6) (pa_cons (pv 3) pa_nil)))))))))), ?_⟩
    show (_ : TS) _ [some (.ref p), some (.ref nm), some (.int most), none, none, none, none, none] H
    walk_at "go"
    refine n_meth hp (dec_no _ _ _ ctk ctp) ?_
    walk_at "go"
    refine ⟨p, dx, a, ns, i, 1, most, rfl, hp, hS, nap, hil, fun lim hlim H1 k1 h1 => ?_, fun none1 => (ke i (by unfold fieldR; rw [none1])).keep (Keep.refl _ _)⟩
    walk_at "go"
    refine n_fld h1 C.cl C.place (dec_place _ _) ?_
    walk_at "go"
    refine n_meth h1 (dec_no _ _ _ ctk ctp) ?_
    walk_at "go"
    have i1 := tkB_lt hlim
    refine ⟨p, dx, a, ns, i + 1, 1, 8, rfl, h1, keep_l k1 nap hS, nap, i1, fun len hlen H2 k2 h2 => ?_, fun none1 => (ke (i + 1) (by unfold fieldR; rw [hlim, none1])).keep k1⟩
    have i2 := tkB_lt hlen
    obtain ⟨_, len1, len8⟩ := tkB_some hlen
    have k12 := k1.trans k2
    walk_at "go"
    refine n_lcR1 (by omega) (by omega) (lc_run (walk_range (lo := 0) (n := len.toNat)) (fun j acc H' => (∀ t, t < j → (tkB ns (i + 2 + t) 0 25).isNone = false) ∧ acc = (nameF ns (i + 2) j).map (fun c => V.str ⟨#[c]⟩) ∧ Keep p H H' ∧ i + 2 + j ≤ ns.length ∧ H' p = some (.ins CD dx (decFs a ((i + 2 + j : Nat) : Int)))) ?_ (fun _ _ _ _ _ _ _ => trivial) ?_ ?_)
    · intro C3 H3 n3 s3 h3
      exact ⟨(fun t ht => absurd ht (Nat.not_lt_zero t)), rfl, k12.trans s3.keep, i2, s3 _ _ h2⟩
    · rintro C3 j acc x H3 H4 n3 hj hl hC ⟨fine, rfl, k3, in3, h3⟩ ⟨e, ex⟩
      subst e ex
      have nC3p : C3 ≠ p := (ne_of_none h2 n3).symm
      walk_at "go"
      refine ⟨rfl, ?_⟩
      walk_at "go"
      refine n_meth h3 (dec_no _ _ _ ctk ctp) ?_
      walk_at "go"
      refine g_len_s (by decide +kernel) ?_
      walk_at "go"
      have e25 : ((ALPH.length : Nat) : Int) - 1 = 25 := by decide +kernel
      refine ⟨p, dx, a, ns, i + 2 + j, 0, 25, by rw [← e25]; rfl, h3, keep_l k3 nap hS, nap, in3, fun z hz H5 k5 h5 => ?_, fun none1 => ?_⟩
      · obtain ⟨_, z0, z25⟩ := tkB_some hz
        have zc : ((97 + z.toNat - 97 : Nat) : Int) = z := by omega
        refine g_ix_s (by decide +kernel) (by rw [← zc]; exact alph_get (c := 97 + z.toNat) (by omega) (by omega)) ?_
        refine n_lcK (k5 _ _ nC3p hC) (by simp [nameF]) (by omega) fun H6 k6 h6 => ⟨?_, ?_, ?_, ?_, ?_⟩
        · intro t ht
          rcases Nat.lt_succ_iff_lt_or_eq.mp ht with q | q
          · exact fine t q
          · rw [q, hz]; rfl
        · rw [nameF_succ, hz, List.map_append]; rfl
        · intro b o nb hb
          by_cases nbC : b = C3
          · subst nbC
            have := k12 _ _ nb hb
            rw [n3] at this; cases this
          · exact k6 _ _ nbC (k5 _ _ nb (k3 _ _ nb hb))
        · have := tkB_lt hz; omega
        · rw [k6 _ _ nC3p.symm h5]; rfl
      · have first : badL ns (i + 2) len.toNat = some j := by
          unfold badL
          rw [List.find?_range_eq_some]
          exact ⟨by rw [none1]; rfl, List.mem_range.mpr hj, fun t ht => by rw [fine t ht]; rfl⟩
        exact (ke (i + 2 + j) (by unfold fieldR; rw [hlim, hlen]; dsimp only; rw [first])).keep k3
    · rintro C3 acc H3 n3 hC ⟨fine, rfl, k3, in3, h3⟩
      have none1 : badL ns (i + 2) len.toNat = none := by
        unfold badL
        rw [List.find?_range_eq_none]
        exact fun t ht => by rw [fine t ht]; rfl
      have fr : fieldR ns zs most i = if (⟨(nameF ns (i + 2) len.toNat).toArray⟩ : Str) ∈ zs then .inl (i + 1) else .inr ((⟨(nameF ns (i + 2) len.toNat).toArray⟩, lim), i + 2 + len.toNat) := by
        unfold fieldR
        rw [hlim, hlen]
        dsimp only
        rw [none1]
      generalize hcs : nameF ns (i + 2) len.toNat = cs at hC fr
      have cl8 : cs.length ≤ 8 := by rw [← hcs]; simp [nameF]; omega
      walk_at "go"
      refine ⟨"", C3, cs.map fun c => (⟨#[c]⟩ : Str), rfl, rfl, .inl (SqL.of (by rw [hC]; simp [Function.comp_def])), ?_, ?_⟩
      · have : ∀ l : List Nat, ((l.map fun c => (⟨#[c]⟩ : Str)).map (·.length)).sum = l.length := by
          intro l
          induction l with
          | nil => rfl
          | cons b r ih => simp [Str.length] at ih ⊢; omega
        rw [this]
        show _ + _ * 0 ≤ _
        omega
      rw [join_signs]
      walk_at "go"
      refine g_in_seq (.inl (keep_l k3 nnp hN)) rfl (flat_strs _) ?_
      rw [inV_strs]
      walk_at "go"
      refine if_D (fun dup => ?_) (fun new => ?_)
      · rw [if_pos dup] at fr
        refine g_cons ?_
        walk_at "go"
        refine ⟨_, rfl, fun d n => ?_⟩
        exact (ke (i + 1) fr).keep k3 _ _ _ (same_new n) (errAt1 upd_same rfl rfl)
      · rw [if_neg new] at fr
        walk_at "go"
        refine n_tup (by simp [sizeLine_eq]) fun q H4 nq s4 hq => ?_
        have nqp : q ≠ p := (ne_of_none h3 nq).symm
        refine k _ _ fr in3 H4 q (k3.trans s4.keep) ?_ hq (s4 _ _ h3)
        cases e : H q with
        | none => rfl
        | some o =>
          have := k3 _ _ nqp e
          rw [nq] at this; cases this
end

end
section
variable {P : Program} {w : World} {K : PySem.W.Frag}
variable {mg : Str → Option Value} {base : Heap}
/-! ### the whole decoder, where it refuses -/
def mostOf (fs : List (Str × Int)) : Int := if 4000 / prodL (fs.map (·.2)) < 30 then 4000 / prodL (fs.map (·.2)) else 30
def fieldsR (ns : List Int) : Nat → List (Str × Int) → Nat → Nat ⊕ (List (Str × Int) × Nat)
  | 0, fs, i => .inr (fs, i)
  | n + 1, fs, i => match fieldR ns (fs.map (·.1)) (mostOf fs) i with
    | .inl o => .inl o
    | .inr (f, i') => fieldsR ns n (fs ++ [f]) i'
theorem fieldsR_inl {ns : List Int} {r i o : Nat} {fs : List (Str × Int)} (h : fieldR ns (fs.map (·.1)) (mostOf fs) i = .inl o) : fieldsR ns (r + 1) fs i = .inl o := by
  unfold fieldsR
  rw [h]
theorem fieldsR_inr {ns : List Int} {r i i' : Nat} {f : Str × Int} {fs : List (Str × Int)} (h : fieldR ns (fs.map (·.1)) (mostOf fs) i = .inr (f, i')) : fieldsR ns (r + 1) fs i = fieldsR ns r (fs ++ [f]) i' := by
  rw [fieldsR, h]
/-- where the decoder refuses, or the fields -/
def decR (ns : List Int) : Nat ⊕ List (Str × Int) := match tkB ns 0 72 72 with
  | none => .inl 0
  | some _ => match tkB ns 1 1 6 with
    | none => .inl 1
    | some n => match fieldsR ns n.toNat [] 2 with
      | .inl o => .inl o
      | .inr (fs, i) => match tkB ns i (cks (ns.take i)) (cks (ns.take i)) with
        | none => .inl i
        | some _ => if i + 1 < ns.length then .inl (i + 1) else .inr fs
theorem fieldR_lim {ns : List Int} {zs : List Str} {most : Int} {i i' : Nat} {f : Str × Int} (h : fieldR ns zs most i = .inr (f, i')) : 1 ≤ f.2 ∧ f.2 ≤ most := by
  unfold fieldR at h
  split at h
  · cases h
  · rename_i lim hl
    split at h
    · cases h
    · split at h
      · cases h
      · split at h
        · cases h
        · cases h
          exact (tkB_some hl).2
section
variable {CF CD : Addr} {c : Fin 7 → Addr}
def sp_decodeE (K : PySem.W.Frag) (c : Fin 7 → Addr) : Sp := fun vs H _ E => ∃ (a : Addr) (ns : List Int) (o : Nat), vs = [.ref a] ∧ H a = some (.lst (ns.map V.int)) ∧ decR ns = .inl o ∧ ErrX c (.dec o) H E
theorem ok_decodeE (M : Md K mg) (CC : DecC K CD) (R_DecodeError : ExcR P w K mg base "DecodeError" (c 3) 2 "offset") (G : Gd K mg "decode_farm" s_decode_farm) (D_checksum : DefR P w K mg base "checksum" 2 (sp_checksum K)) (K_Decoder : MakeR P w K mg base "Decoder" CD 2 (sp_dec_init CD)) (K_Farm : MakeR P w K mg base "Farm" CF 4 (sp_farm_init K CF))
    (M_Decoder_take : MethR P w K mg base CD "take" 4 (sp_takeE K CD c)) (M_Decoder_take_field : MethR P w K mg base CD "take_field" 6 (sp_take_fieldE K CD c)) : DefR P w K mg base "decode_farm" 8 (sp_decodeE K c) := by
  refine def_mk G fun f fd F => fnr_mk (F.ok sc_decode_farm ?_ (fun cdv A outer s H vs Q E hr h => ?_)) (F.bindsN (fun _ _ _ _ _ _ us hl => match us, hl with | [_], _ => rfl))
  · rintro vs H Q E ⟨z, _, _, rfl, _⟩; rfl
  · obtain ⟨a, ns, o, rfl, hS, hR, ke⟩ := h
    have nd := sc_decode_farm.nd
    have ctk : ((Str.ofString "take") == (Str.ofString "data")) = false := by decide +kernel
    have ctp : ((Str.ofString "take") == (Str.ofString "place")) = false := by decide +kernel
    have cfk : ((Str.ofString "take_field") == (Str.ofString "data")) = false := by decide +kernel
    have cfp : ((Str.ofString "take_field") == (Str.ofString "place")) = false := by decide +kernel
    have out : ∀ {o' : Nat} {H' : Hp}, decR ns = .inl o' → Same H H' → ErrX c (.dec o') H' E := fun {o' H'} q s' => by
      rw [hR] at q
      cases q
      exact ke.same s'
    have outP : ∀ {o' : Nat} {H' : Hp} {x : Addr}, decR ns = .inl o' → H x = none → Same H H' → ErrXP c (.dec o') x H' E := fun {o' H' x} q nx s' H2 cls d k2 ea => by
      rw [hR] at q
      cases q
      exact ke H2 cls d (fun b u hb => k2 _ _ (ne_of_none hb nx) (s' _ _ hb)) ea
    refine ⟨_, (pss_cons (ps_par3 (i := 1) (j := 2) (l := 3) rfl nd rfl rfl rfl (by decide) (by decide) (by decide) rfl rfl rfl (pa_cons (pe_makeP K_Decoder (hr.mono (by first | decide | omega)) passN (pa_cons (pv 0) pa_nil)) (pa_cons (pe_lst pa_nil) (pa_cons pe_int pa_nil))) (by rfl))
    (pss_cons (ps_expr (pe_methR (pv 1) M_Decoder_take.cl M_Decoder_take.at_ M_Decoder_take.fn (hr.mono (by first | decide | omega)) pz_def (pa_cons (pe_gi M.g_TAG) (pa_cons (pe_gi M.g_TAG) pa_nil))))
    (pss_cons (ps_for po_def rfl (pi_range1 rfl M.b.range (pa_cons (pe_methR (pv 1) M_Decoder_take.cl M_Decoder_take.at_ M_Decoder_take.fn (hr.mono (by first | decide | omega)) pz_def (pa_cons pe_int (pa_cons (pe_gcon M.k_Farm_MAX_FIELDS) pa_nil))) pa_nil)) (pg_name (i := 4) nd rfl (by first | exact Or.inl rfl | exact Or.inr rfl)) (pss_cons (ps_set (i := 5) nd rfl (by first | exact Or.inl rfl | exact Or.inr rfl) (pe_min2 M.b (pa_cons (pe_gi M.g_MAX_LIMIT) (pa_cons (pe_op op_fdiv (pe_gcon M.k_Farm_MAX_STATES) (pv 3)) pa_nil))))
    (pss_cons (ps_expr (as_bm K (pe_bm PySem.F.plainAttrs_list PySem.F.slot_list_append PySem.F.type_list_append mt_append (pv 2) (pa_cons (pe_methR (pv 1) M_Decoder_take_field.cl M_Decoder_take_field.at_ M_Decoder_take_field.fn (hr.mono (by first | decide | omega)) pz_def (pa_cons (pe_lc (own := [("name", 6), ("limit", 7)]) (g := (gTup K 2 (gCons (gName 6) (gCons (gName 7) gNil)))) (tt := tYes) rfl nd (pi_listK K (pv 2)) (blkOk_by (N := N_decode_farm) (sc := defScope s_decode_farm) (by decide +kernel)) (fun _ _ _ _ _ => (pg_tupK K rfl (pgs_cons (pg_name (i := 6) nd rfl (by first | exact Or.inl rfl | exact Or.inr rfl)) (pgs_cons (pg_name (i := 7) nd rfl (by first | exact Or.inl rfl | exact Or.inr rfl)) pgs_nil)))) (fun _ _ _ _ _ => pts_nil) (fun _ _ _ _ _ => (pv 6))) (pa_cons (pv 5) pa_nil))) pa_nil))))
    (pss_one (ps_aug (i := 3) nd rfl (by first | exact Or.inl rfl | exact Or.inr rfl) (pe_ix (ix_K K) (pe_ix (ix_K K) (pv 2) (pe_un un_neg pe_int) (fun _ _ => rfl)) pe_int (fun _ _ => rfl)) iop_mul)))))
    (pss_cons (ps_set (i := 8) nd rfl (by first | exact Or.inl rfl | exact Or.inr rfl) (pe_callR D_checksum (hr.mono (by first | decide | omega)) passN (pa_cons (pe_slice (sl_listK K) (pv 0) po_none (po_some (pe_fldK K (pv 1)))) pa_nil)))
    (pss_cons (ps_expr (pe_methR (pv 1) M_Decoder_take.cl M_Decoder_take.at_ M_Decoder_take.fn (hr.mono (by first | decide | omega)) pz_def (pa_cons (pv 8) (pa_cons (pv 8) pa_nil))))
    (pss_cons (ps_if (pt_cmpR op_lt (pe_fldK K (pv 1)) (pe_len K M.b (pv 0)) (nomark _)) (pss_one (ps_raise rfl tk_def (pmk_kx R_DecodeError (hr.mono (by first | decide | omega)) (pk_cons (pe_fldK K (pv 1)) pk_nil)))) pss_nil)
    (pss_one (ps_ret (pe_makeSK K K_Farm (hr.mono (by first | decide | omega)) passN (pv 2)))))))))), ?_⟩
    show (_ : TS) _ [some (.ref a), none, none, none, none, none, none, none, none] H
    walk_at "go"
    refine n_make fun dc dx H1 ndc ndx nex s1 hdc hdx => ?_
    refine ⟨dc, dx, a, rfl, hdc, fun H2 k2 h2 => ⟨rfl, ?_⟩⟩
    have s12 : Same H H2 := fun b o hb => k2 _ _ (ne_of_none hb ndc) (s1 _ _ hb)
    have hSn : ∀ H', Same H H' → SqL K H' a (ns.map V.int) := fun H' e => SqL.of (e _ _ hS)
    have nadc : a ≠ dc := ne_of_none hS ndc
    walk_at "go"
    refine n_lst (by simp) fun fo H3 nfo s3 hfo => ?_
    walk_at "go"
    refine n_meth (s3 _ _ h2) (dec_no _ _ _ ctk ctp) ?_
    walk_at "go"
    refine ⟨dc, dx, a, ns, 0, 72, 72, rfl, s3 _ _ h2, hSn _ (s12.trans s3), nadc, Nat.zero_le _, fun tg htg H4 k4 h4 => ?_, fun none1 => out (by unfold decR; rw [none1]) (s12.trans s3)⟩
    walk_at "go"
    refine n_meth h4 (dec_no _ _ _ ctk ctp) ?_
    walk_at "go"
    have nfodc : fo ≠ dc := (ne_of_none h2 nfo).symm
    have s14 : Same H H4 := fun b o hb => k4 _ _ (ne_of_none hb ndc) (s3 _ _ (s12 _ _ hb))
    refine ⟨dc, dx, a, ns, 1, 1, 6, rfl, h4, hSn _ s14, nadc, tkB_lt htg, fun n hn H5 k5 h5 => ?_, fun none1 => out (by unfold decR; rw [htg]; dsimp only; rw [none1]) s14⟩
    have s15 : Same H H5 := fun b o hb => k5 _ _ (ne_of_none hb ndc) (s14 _ _ hb)
    have nfo0 : H fo = none := s12.free nfo
    obtain ⟨_, n1, n6⟩ := tkB_some hn
    walk_at "go"
    refine n_forR1 (by omega) (by omega) (fun k σ H' => ∃ (xs : List V) (fs : List (Str × Int)) (i : Nat) (u1 u2 : Option V), σ = [some (.ref a), some (.ref dc), some (.ref fo), some (.int (prodL (fs.map (·.2)))), u1, u2, none, none, none] ∧ Same H H' ∧
      H' dc = some (.ins CD dx (decFs a (i : Nat))) ∧ H' fo = some (.lst xs) ∧ DpAll K H' xs (fs.map pField) ∧ fs.length = k ∧ i ≤ ns.length ∧ 1 ≤ prodL (fs.map (·.2)) ∧ prodL (fs.map (·.2)) ≤ 4000 ∧ fieldsR ns n.toNat [] 2 = fieldsR ns (n.toNat - k) fs i)
      ⟨[], [], 2, none, none, rfl, s15, h5, k5 _ _ nfodc (k4 _ _ nfodc hfo), .nil, rfl, tkB_lt hn, by decide, by decide, rfl⟩ ?_ ?_
    · rintro k σ H' hk ⟨xs, fs, i, u1, u2, rfl, sH, hD, hF, hX, fl, il, p1, p4, hfr⟩
      have xl : xs.length = k := by rw [hX.length, List.length_map, fl]
      obtain ⟨r, hr'⟩ : ∃ r, n.toNat - k = r + 1 := ⟨n.toNat - k - 1, by omega⟩
      rw [hr'] at hfr
      generalize hst' : prodL (fs.map (·.2)) = st at p1 p4
      walk_at "go"
      refine n_meth hD (dec_no _ _ _ cfk cfp) ?_
      walk_at "go"
      refine n_lcL (SqL.of hF) (lc_map (walk_list (xs := xs)) (fun j => .str ((fs.getD j ("", 0)).1)) (fun H6 s6 => SqL.of (s6 _ _ hF)) ?_ ?_)
      · rintro C j y H6 H7 nC hj s6 hC ⟨e, hyj⟩
        subst e
        obtain ⟨dj, hdj, hDj⟩ := (s6.dpa hX).get hyj
        obtain ⟨fj, hfj, rfl⟩ := getm hdj
        obtain ⟨t3, zs, rfl, hT3, hZ⟩ := hDj.inv_t
        obtain ⟨w1, w2, rfl, hw1, hw2⟩ := hZ.inv2
        obtain rfl := hw1.inv_s
        refine g_gtup hT3 rfl ?_
        walk_at "go"
        refine ⟨rfl, ?_⟩
        walk_at "go"
        exact n_mapK nC s6 hC (by rw [getD_of hfj])
      · intro C6 H6 nC s6 hC
        have e1 : (List.range xs.length).map (fun j => V.str ((fs.getD j ("", 0)).1)) = (fs.map (·.1)).map V.str := by
          rw [xl, ← fl, List.map_map]
          exact range_getD fs ("", 0) fun f : Str × Int => V.str f.1
        rw [e1] at hC
        have nCdc : C6 ≠ dc := (ne_of_none hD nC).symm
        have mo : (if 4000 / st < 30 then 4000 / st else 30) = mostOf fs := by unfold mostOf; rw [hst']
        walk_at "go"
        rw [mo]
        refine ⟨dc, dx, a, C6, ns, i, fs.map (·.1), mostOf fs, rfl, s6 _ _ hD, hSn _ (sH.trans s6), nadc, SqL.of hC, nCdc, il, fun f i' hf il' H7 q k7 nq hq h7 => ?_, fun o' hf => outP ?_ ndc (sH.trans s6)⟩
        · have nqfo : q ≠ fo := (ne_of_none (s6 _ _ hF) nq).symm
          obtain ⟨f1, f2⟩ := fieldR_lim hf
          have prod2 : st * f.2 ≤ 4000 := by
            have le : f.2 ≤ 4000 / st := by unfold mostOf at f2; rw [hst'] at f2; split at f2 <;> omega
            have := (Int.le_ediv_iff_mul_le (by omega)).mp le
            rw [Int.mul_comm]; omega
          have ep : prodL ((fs ++ [f]).map (·.2)) = st * f.2 := by rw [List.map_append, List.map_cons, List.map_nil, prodL_snoc, hst']
          have pos2 : 1 ≤ st * f.2 := by
            have : 1 * 1 ≤ st * f.2 := Int.mul_le_mul p1 f1 (by decide) (by omega)
            omega
          walk_at "go"
          have hF7 : H7 fo = some (.lst xs) := k7 _ _ nfodc (s6 _ _ hF)
          refine g_append hF7 (by simp [sizeLine_eq]; omega) fun H8 k8 h8 => ?_
          walk_at "go"
          refine g_ix_l (v := .ref q) (SqL.of h8) (atI_last xs (.ref q)) ?_
          walk_at "go"
          refine g_ix_t (SqT.of (k8 _ _ nqfo hq)) atI_c1 ?_
          walk_at "go"
          refine ⟨xs ++ [.ref q], fs ++ [f], i', _, _, by rw [ep], fun b o hb' => ?_, k8 _ _ nfodc.symm h7, h8, ?_, by simp [fl], il', by omega, by omega, ?_⟩
          · exact k8 _ _ (ne_of_none hb' nfo0) (k7 _ _ (ne_of_none hb' ndc) (s6 _ _ (sH _ _ hb')))
          · rw [List.map_append]
            have hX7 : DpAll K H7 xs (fs.map pField) := dp_keepAll k7 (notT_i (s6 _ _ hD)) _ _ (noL_fields _) (s6.dpa hX)
            have hq7 : DpAll K H7 [.ref q] [pField f] := .cons (dp_tup hq (.cons (.str _) (.cons (.int _) .nil))) .nil
            exact dp_keepAll k8 (notT_l hF7) _ _ (by have := noL_fields (fs ++ [f]); rw [List.map_append] at this; exact this) (hX7.append hq7)
          · rw [hfr, show n.toNat - (k + 1) = r by omega, fieldsR_inr hf]
        · unfold decR
          rw [htg]
          dsimp only
          rw [hn]
          dsimp only
          rw [hfr, fieldsR_inl hf]
    · rintro σ H' ⟨xs, fs, i, u1, u2, rfl, sH, hD, hF, hX, fl, il, p1, p4, hfr⟩
      rw [Nat.sub_self] at hfr
      have dR : decR ns = match tkB ns i (cks (ns.take i)) (cks (ns.take i)) with
          | none => .inl i
          | some _ => if i + 1 < ns.length then .inl (i + 1) else .inr fs := by
        unfold decR
        rw [htg]
        dsimp only
        rw [hn]
        dsimp only
        rw [hfr]
        rfl
      walk_at "go"
      refine n_fld hD CC.cl CC.place (dec_place _ _) ?_
      walk_at "go"
      refine g_slL (hSn _ sH) fun q6 H6 nq6 s6 hq6 => ?_
      rw [cutV_to, ← List.map_take] at hq6
      walk_at "go"
      refine ⟨q6, ns.take i, rfl, SqL.of hq6, ?_⟩
      walk_at "go"
      refine n_meth (s6 _ _ hD) (dec_no _ _ _ ctk ctp) ?_
      walk_at "go"
      refine ⟨dc, dx, a, ns, i, _, _, rfl, s6 _ _ hD, hSn _ (sH.trans s6), nadc, il, fun z hz H7 k7 h7 => ?_, fun none1 => out (by rw [dR, none1]) (sH.trans s6)⟩
      have s7 : Same H H7 := fun b o hb => k7 _ _ (ne_of_none hb ndc) (s6 _ _ (sH _ _ hb))
      rw [hz] at dR
      walk_at "go"
      refine n_fld h7 CC.cl CC.place (dec_place _ _) ?_
      walk_at "go"
      try refine g_len_l (hSn _ s7) ?_
      walk_at "go"
      refine if_D (fun e => ?_) (fun e => ?_)
      · have e' : i + 1 < ns.length := by simp at e; omega
        refine g_cons ?_
        walk_at "go"
        refine n_fld h7 CC.cl CC.place (dec_place _ _) ?_
        walk_at "go"
        refine ⟨_, rfl, fun d n => ?_⟩
        exact out (o' := i + 1) (by rw [dR]; exact if_pos e') s7 _ _ _ (same_new n) (errAt1 upd_same rfl rfl)
      · have e' : ¬ i + 1 < ns.length := by simp at e; omega
        have := hR.symm.trans (dR.trans (if_neg e'))
        cases this
end

end
section
variable {P : Program} {w : World} {K : PySem.W.Frag}
variable {mg : Str → Option Value} {base : Heap}
/-! ### which byte is refused -/
/-- the byte at i is in no range of bytes -/
def Bad (ns : List Int) (i : Nat) : Prop := ∀ lo hi, 0 ≤ lo → hi ≤ 255 → tkB ns i lo hi = none
theorem bad_end {ns : List Int} {i : Nat} (h : ns.length ≤ i) : Bad ns i := fun lo hi _ _ => by unfold tkB; rw [List.getElem?_eq_none h]
theorem bad_val {ns : List Int} {i : Nat} {z : Int} (h : ns[i]? = some z) (b : z < 0 ∨ 255 < z) : Bad ns i := fun lo hi h1 h2 => by
  unfold tkB
  rw [h]
  exact if_neg (by omega)
theorem lets_at {z : Str} {t : Nat} {ch : Nat} (h : z.cps.toList[t]? = some ch) : (lets z)[t]? = some ((ch - 97 : Nat) : Int) := by rw [lets, List.getElem?_map, h]; rfl
theorem enc_at2 (f : Str × Int) (t : Nat) : (encF f)[2 + t]? = (lets f.1)[t]? := by
  show (f.2 :: (f.1.cps.toList.length : Int) :: lets f.1)[2 + t]? = _
  rw [Nat.add_comm, List.getElem?_cons_succ, List.getElem?_cons_succ]
theorem enc_len (f : Str × Int) : (encF f).length = 2 + f.1.cps.toList.length := by simp [encF, lets]; omega
section
variable {ns : List Int} {zs : List Str} {most : Int} {i at_ : Nat} {f : Str × Int}
/-- the bytes of f stand at i, as far as at_ -/
def Stand (ns : List Int) (i at_ : Nat) (f : Str × Int) : Prop := ∀ j, j < (encF f).length → i + j < at_ → ns[i + j]? = (encF f)[j]?
theorem letter_ok (nm : NmOk f.1) (st : Stand ns i at_ f) {t : Nat} (ht : t < f.1.cps.toList.length) (lt : i + 2 + t < at_) : tkB ns (i + 2 + t) 0 25 = some ((f.1.cps.toList[t] - 97 : Nat) : Int) := by
  have hc : f.1.cps.toList[t]? = some f.1.cps.toList[t] := List.getElem?_eq_getElem ht
  have cb := nm.2.2 _ (List.mem_of_getElem? hc)
  have := st (2 + t) (by rw [enc_len]; omega) (by omega)
  rw [enc_at2, lets_at hc, ← Nat.add_assoc] at this
  exact tkB_ok this (by omega) (by omega)
theorem field_ok (nm : NmOk f.1) (st : Stand ns i at_ f) (fits : i + (encF f).length ≤ at_) (new : f.1 ∉ zs) (l1 : 1 ≤ f.2) (l2 : f.2 ≤ most) : fieldR ns zs most i = .inr (f, i + (encF f).length) := by
  have el := enc_len f
  have len1 := nm.1
  have len8 := nm.2.1
  have h0 : tkB ns i 1 most = some f.2 := tkB_ok (st 0 (by omega) (by omega)) l1 l2
  have h1 : tkB ns (i + 1) 1 8 = some (f.1.cps.toList.length : Int) := tkB_ok (st 1 (by omega) (by omega)) (by omega) (by omega)
  have h2 : badL ns (i + 2) f.1.cps.toList.length = none := by
    unfold badL
    rw [List.find?_range_eq_none]
    intro t ht
    rw [letter_ok nm st ht (by omega)]
    rfl
  have h3 : nameF ns (i + 2) f.1.cps.toList.length = f.1.cps.toList := by
    unfold nameF
    apply List.ext_getElem
    · simp
    · intro t h1 h2
      have ht : t < f.1.cps.toList.length := h2
      have hc : f.1.cps.toList[t]? = some f.1.cps.toList[t] := List.getElem?_eq_getElem ht
      have cb := nm.2.2 _ (List.mem_of_getElem? hc)
      rw [List.getElem_map, List.getElem_range, letter_ok nm st ht (by omega)]
      simp only [Option.getD_some, Int.toNat_natCast]
      omega
  unfold fieldR
  rw [h0, h1]
  dsimp only
  rw [Int.toNat_natCast, h2]
  dsimp only
  rw [h3, show (⟨f.1.cps.toList.toArray⟩ : Str) = f.1 by simp, if_neg new, el, Nat.add_assoc]
theorem field_bad (nm : NmOk f.1) (st : Stand ns i at_ f) (lo : i ≤ at_) (hi : at_ < i + (encF f).length) (bad : Bad ns at_) (l1 : 1 ≤ f.2) (l2 : f.2 ≤ most) (m255 : most ≤ 255) : fieldR ns zs most i = .inl at_ := by
  have el := enc_len f
  have len1 := nm.1
  have len8 := nm.2.1
  unfold fieldR
  by_cases c0 : at_ = i
  · rw [← c0, bad 1 most (by decide) m255]
  · have h0 : tkB ns i 1 most = some f.2 := tkB_ok (st 0 (by omega) (by omega)) l1 l2
    rw [h0]
    dsimp only
    by_cases c1 : at_ = i + 1
    · rw [← c1, bad 1 8 (by decide) (by decide)]
    · have h1 : tkB ns (i + 1) 1 8 = some (f.1.cps.toList.length : Int) := tkB_ok (st 1 (by omega) (by omega)) (by omega) (by omega)
      rw [h1]
      dsimp only
      have h2 : badL ns (i + 2) (f.1.cps.toList.length : Int).toNat = some (at_ - (i + 2)) := by
        unfold badL
        rw [List.find?_range_eq_some]
        refine ⟨?_, List.mem_range.mpr (by omega), fun t ht => ?_⟩
        · rw [show i + 2 + (at_ - (i + 2)) = at_ by omega, bad 0 25 (by decide) (by decide)]; rfl
        · rw [letter_ok nm st (by omega) (by omega)]; rfl
      rw [h2]
      dsimp only
      rw [show i + 2 + (at_ - (i + 2)) = at_ by omega]
end
section
variable {fs : List (Str × Int)} {ns : List Int} {at_ : Nat}
def offK (fs : List (Str × Int)) (k : Nat) : Nat := 2 + ((fs.take k).flatMap encF).length
theorem offK_succ {k : Nat} {f : Str × Int} (h : fs[k]? = some f) : offK fs (k + 1) = offK fs k + (encF f).length := by
  unfold offK
  rw [flat_take encF h, List.length_append]
  omega
theorem offK_all : offK fs fs.length = (bodyOf fs).length := by
  unfold offK
  rw [List.take_length]
  simp [bodyOf]
  omega
theorem body_at {k : Nat} {f : Str × Int} (hf : fs[k]? = some f) {j : Nat} (hj : j < (encF f).length) : (bytesOf fs)[offK fs k + j]? = (encF f)[j]? := by
  have e : (encF f)[j]? = some (encF f)[j] := List.getElem?_eq_getElem hj
  rw [e]
  exact get_body hf j _ e
theorem off_le (ok : FOk fs) : ∀ k, k ≤ fs.length → offK fs k ≤ (bodyOf fs).length := fun k hk => by
  rw [← offK_all]
  have key : ∀ n, k ≤ n → n ≤ fs.length → offK fs k ≤ offK fs n := fun n => by
    induction n with
    | zero => intro a _; rw [Nat.le_zero.mp a]; exact Nat.le_refl _
    | succ n ih =>
      intro a b
      rcases Nat.lt_or_ge k (n + 1) with q | q
      · have hf : fs[n]? = some fs[n] := List.getElem?_eq_getElem (by omega)
        rw [offK_succ hf]
        have := ih (by omega) (by omega)
        omega
      · have : k = n + 1 := by omega
        rw [this]; exact Nat.le_refl _
  exact key _ hk (Nat.le_refl _)
theorem most_ok (ok : FOk fs) {k : Nat} {f : Str × Int} (hf : fs[k]? = some f) : f.2 ≤ mostOf (fs.take k) ∧ mostOf (fs.take k) ≤ 255 := by
  have fm : f ∈ fs := List.mem_of_getElem? hf
  have hb := ok.lo f fm
  have hp := prod_take ok.lo k
  have ep : prodL ((fs.take k).map (·.2)) * f.2 = prodL ((fs.take (k + 1)).map (·.2)) := by
    rw [List.take_add_one, hf]
    simp only [Option.toList_some, List.map_append, List.map_cons, List.map_nil, prodL_snoc]
  have hle : prodL ((fs.take (k + 1)).map (·.2)) ≤ 4000 := Int.le_trans (prod_take_le ok.lo (k + 1)) ok.pr
  unfold mostOf
  generalize prodL ((fs.take k).map (·.2)) = st at *
  have hdv : f.2 ≤ 4000 / st := (Int.le_ediv_iff_mul_le (by omega)).mpr (by rw [Int.mul_comm]; omega)
  split <;> omega
/-- the fields, from the k-th on -/
theorem fields_go (ok : FOk fs) (same : ∀ j, j < at_ → j < (bytesOf fs).length → ns[j]? = (bytesOf fs)[j]?) (bad : at_ < (bodyOf fs).length → Bad ns at_) : ∀ (n k : Nat), n + k = fs.length → offK fs k ≤ at_ →
    fieldsR ns n (fs.take k) (offK fs k) = if at_ < (bodyOf fs).length then .inl at_ else .inr (fs, (bodyOf fs).length)
  | 0, k, e, h => by
    obtain rfl : k = fs.length := by omega
    rw [offK_all] at h ⊢
    rw [if_neg (by omega), List.take_length]
    rfl
  | n + 1, k, e, h => by
    have hk : k < fs.length := by omega
    have hf : fs[k]? = some fs[k] := List.getElem?_eq_getElem hk
    generalize fs[k] = f at hf
    have fm : f ∈ fs := List.mem_of_getElem? hf
    have nxt := offK_succ hf
    have all := off_le ok (k + 1) hk
    have blen : (bytesOf fs).length = (bodyOf fs).length + 1 := by simp [bytesOf]
    have st : Stand ns (offK fs k) at_ f := fun j hj lt => by rw [same _ lt (by omega), body_at hf hj]
    obtain ⟨m1, m2⟩ := most_ok ok hf
    have new : f.1 ∉ (fs.take k).map (·.1) := nodup_take ok.nd hf
    by_cases c : offK fs (k + 1) ≤ at_
    · rw [fieldsR_inr (field_ok (ok.nm f fm) st (by omega) new (ok.lo f fm).1 m1), ← nxt]
      have et : fs.take k ++ [f] = fs.take (k + 1) := by rw [List.take_add_one, hf]; rfl
      rw [et]
      exact fields_go ok same bad n (k + 1) (by omega) c
    · have lt : at_ < (bodyOf fs).length := by omega
      rw [if_pos lt]
      exact fieldsR_inl (field_bad (ok.nm f fm) st h (by omega) (bad lt) (ok.lo f fm).1 m1 m2)
theorem body0 : (bytesOf fs)[0]? = some 72 := rfl
theorem body1 : (bytesOf fs)[1]? = some (fs.length : Int) := rfl
/-- what is asked behind the fields -/
theorem dec_body (ok : FOk fs) (same : ∀ j, j < (bodyOf fs).length → ns[j]? = (bytesOf fs)[j]?) : decR ns = match tkB ns (bodyOf fs).length (cks (bodyOf fs)) (cks (bodyOf fs)) with
    | none => .inl (bodyOf fs).length
    | some _ => if (bodyOf fs).length + 1 < ns.length then .inl ((bodyOf fs).length + 1) else .inr fs := by
  have b2 : 2 ≤ (bodyOf fs).length := by simp [bodyOf]
  have go := fields_go (at_ := (bodyOf fs).length) (ns := ns) ok (fun j h _ => same j h) (fun h => absurd h (Nat.lt_irrefl _)) fs.length 0 rfl b2
  rw [if_neg (Nat.lt_irrefl _)] at go
  have h0 : tkB ns 0 72 72 = some 72 := tkB_ok ((same 0 (by omega)).trans body0) (by decide) (by decide)
  have one := ok.one
  have six := ok.six
  have h1 : tkB ns 1 1 6 = some (fs.length : Int) := tkB_ok ((same 1 (by omega)).trans body1) (by omega) (by omega)
  have tk : ns.take (bodyOf fs).length = bodyOf fs := by
    apply List.ext_getElem?
    intro j
    rw [List.getElem?_take]
    split
    · rename_i hj
      rw [same j hj, bytesOf, List.getElem?_append_left hj]
    · rename_i hj
      exact (List.getElem?_eq_none (by omega)).symm
  unfold decR
  rw [h0]
  dsimp only
  rw [h1]
  dsimp only
  rw [Int.toNat_natCast, show fieldsR ns fs.length [] 2 = .inr (fs, (bodyOf fs).length) from go]
  dsimp only
  rw [tk]
  all_goals (cases tkB ns (bodyOf fs).length (cks (bodyOf fs)) (cks (bodyOf fs)) <;> rfl)
/-- cut, or a byte that is none -/
theorem dec_bad (ok : FOk fs) (same : ∀ j, j < at_ → ns[j]? = (bytesOf fs)[j]?) (lt : at_ < (bytesOf fs).length) (bad : Bad ns at_) : decR ns = .inl at_ := by
  have blen : (bytesOf fs).length = (bodyOf fs).length + 1 := by simp [bytesOf]
  by_cases c : at_ = (bodyOf fs).length
  · rw [dec_body ok fun j hj => same j (by omega), ← c, bad _ _ (cks_lo _).1 (by have := (cks_lo (bodyOf fs)).2; omega)]
  · have b2 : 2 ≤ (bodyOf fs).length := by simp [bodyOf]
    unfold decR
    by_cases c0 : at_ = 0
    · rw [← c0, bad 72 72 (by decide) (by decide)]
    · have h0 : tkB ns 0 72 72 = some 72 := tkB_ok ((same 0 (by omega)).trans body0) (by decide) (by decide)
      rw [h0]
      dsimp only
      by_cases c1 : at_ = 1
      · rw [← c1, bad 1 6 (by decide) (by decide)]
      · have one := ok.one
        have six := ok.six
        have h1 : tkB ns 1 1 6 = some (fs.length : Int) := tkB_ok ((same 1 (by omega)).trans body1) (by omega) (by omega)
        have go := fields_go (at_ := at_) (ns := ns) ok (fun j h _ => same j h) (fun _ => bad) fs.length 0 rfl (by show 2 ≤ at_; omega)
        rw [if_pos (by omega)] at go
        rw [h1]
        dsimp only
        rw [Int.toNat_natCast, show fieldsR ns fs.length [] 2 = .inl at_ from go]
theorem dec_more (ok : FOk fs) {l : List Int} (ne : l ≠ []) : decR (bytesOf fs ++ l) = .inl (bytesOf fs).length := by
  have blen : (bytesOf fs).length = (bodyOf fs).length + 1 := by simp [bytesOf]
  have same : ∀ j, j < (bytesOf fs).length → (bytesOf fs ++ l)[j]? = (bytesOf fs)[j]? := fun j hj => List.getElem?_append_left hj
  have last : (bytesOf fs)[(bodyOf fs).length]? = some (cks (bodyOf fs)) := by rw [bytesOf, List.getElem?_append_right (Nat.le_refl _)]; simp
  rw [dec_body ok fun j hj => same j (by omega), tkB_ok ((same _ (by omega)).trans last) (Int.le_refl _) (Int.le_refl _)]
  dsimp only
  have : 0 < l.length := List.length_pos_iff.mpr ne
  rw [if_pos (by rw [List.length_append]; omega), blen]
theorem dec_wrong (ok : FOk fs) {v : Int} (ne : v ≠ cks (bodyOf fs)) : decR (bodyOf fs ++ [v]) = .inl ((bytesOf fs).length - 1) := by
  have blen : (bytesOf fs).length = (bodyOf fs).length + 1 := by simp [bytesOf]
  have at_ : (bodyOf fs ++ [v])[(bodyOf fs).length]? = some v := by rw [List.getElem?_append_right (Nat.le_refl _)]; simp
  have no : tkB (bodyOf fs ++ [v]) (bodyOf fs).length (cks (bodyOf fs)) (cks (bodyOf fs)) = none := by
    unfold tkB
    rw [at_]
    exact if_neg (by omega)
  rw [dec_body ok fun j hj => by rw [bytesOf, List.getElem?_append_left hj, List.getElem?_append_left hj], no, blen]
  rfl
end
/-! the written ones -/
def one42 : List Int := [72, 2, 3, 1, 0]
def big42 : List Int := [72, 3, 30, 1, 0, 30, 1, 1]
def cases42 : List (List Int × Nat) := [([71], 0), ([72, 0], 1), ([72, 7], 1), ([72, 2, 0], 2), ([72, 2, 31], 2), ([72, 2, 3, 0], 3), ([72, 2, 3, 9], 3), ([72, 2, 3, 1, 26], 4), (one42 ++ [0], 5), (one42 ++ [31], 5), (one42 ++ [3, 1, 0], 6), (big42 ++ [5], 8)]
theorem cases_ok (l : List Int) : ∀ x ∈ cases42, decR (x.1 ++ l) = .inl x.2 := by
  intro x hx
  simp only [cases42, one42, big42, List.mem_cons, List.not_mem_nil, or_false, List.cons_append, List.nil_append] at hx
  rcases hx with rfl | rfl | rfl | rfl | rfl | rfl | rfl | rfl | rfl | rfl | rfl | rfl <;> rfl

end
abbrev s_law : Stmt := top 33
abbrev N_law : List Str := ["_law_script", "_law_d", "_law_code", "_law_at", "_law_extra", "_law_k", "_law_changed", "_law_wrong", "_law_one", "_law_big", "_law_cases", "_law_bad", "_law_place", "_law_good"]
theorem sc_law : FnScope N_law ["_law_script"] (defScope s_law) := ⟨rfl, rfl, rfl, by decide +kernel, rfl, by decide +kernel, by decide +kernel⟩
section
variable {P : Program} {w : World} {K : PySem.W.Frag}
variable {mg : Str → Option Value} {base : Heap}
def sp_law (K : PySem.W.Frag) (P0 : Addr) : Sp := fun vs H Q _ => ∃ (a : Addr) (ns : List Int), vs = [.ref a] ∧ SqL K H a (ns.map V.int) ∧ ns.length ≤ 63 ∧ H P0 = some (.tbl #[]) ∧ ∀ H', Q (.bl true) H'
theorem body_callA {X : Cx} {l : LF} {d : Option V} {k j : Nat} {x : Str} {sp : Sp} {e : Expr} {es : List Expr} {ta : TA} {p p3 : Pos} (D : DefR X.prog X.w X.K X.mg X.base x j sp) (le : j ≤ k) (nm : LamN X.N X.env.scope l.scope) (bd : LamB l d) (hb : l.body = .Call (.Name x p) (e :: es) [] p3)
    (g : l.scope.names.lookup x = some NameKind.globalImplicit) (pa : ∀ (A : Around) (outer : List Env) (s : Shared) (H : Hp) (E : XK) (f c' : Addr), Room k (LamX.lamCx X A outer s H E l.scope f c').A → PA (LamX.lamCx X A outer s H E l.scope f c') (e :: es) ta)
    (one : ∀ env : Env, starEach (e :: es) env = (false, eval e env) :: starEach es env := by intro _; rfl) (plain : ∀ env : Env, (backTo p3 (starEach es env)).any (·.1) = false := by intro _; rfl) (b0 : (x == ("__debug__" : Str)) = false := by decide) :
    BodyR X k l d (fun E => tCallR sp E ta) := by
  refine ⟨nm, bd, fun A outer s H E f c' r => ?_⟩
  rw [hb]
  exact pe_callR (X := LamX.lamCx X A outer s H E l.scope f c') (E := E) D (r.mono le) (pz_lam (X := X)) (pa A outer s H E f c' r) (show Gl (LamX.lamCx X A outer s H E l.scope f c') x from g) b0 (one _) (plain _)
theorem cases_len : ∀ x ∈ cases42, x.1.length ≤ 10 := by decide
theorem Dr.ext {H H' : Hp} {d : Addr} (e : LamX.ExtN H H') (h : Dr H d) : Dr H' d := by
  obtain ⟨s, c, cs, h0, h⟩ := h
  exact ⟨s, c, cs, e _ _ h0 nofun, h⟩
theorem Dr.tabs {T : List (Addr × Str)} {H H' : Hp} {d : Addr} (h : Dr H d) (k : Keep d H H') (t : LamX.Tabs T H) : LamX.Tabs T H' := by
  obtain ⟨s, c, cs, h0, _⟩ := h
  exact tabs_keep k h0 t
theorem g_tte {c : Fin 7 → Addr} {tl : XK → Hp → VK → Prop} {H : Hp} {Q : VK} (h : tl (fun cls d H' => ∃ kd, ErrAt c H' cls d kd ∧ ∀ H2 v, Same H' H2 → Dp K H2 v kd.dat → Q v H2) H (fun _ H' => Q .non H')) : TTe K c tl H Q := h
theorem sh_dec (i : Int) : Sh 1 (ErrK.dat (.dec i)) := sh_t fun d hd => by
  have : d = .str "decode" ∨ d = .int i := by simpa using hd
  rcases this with rfl | rfl
  · exact sh_s (by decide +kernel)
  · exact sh_i _
def good4 : List (Str × Int) := [("a", 30), ("b", 30), ("ab", 4), ("abcdefgh", 1)]
theorem good_ok : FOk good4 := ⟨by decide, by decide, by decide +kernel, by decide +kernel, by decide +kernel, by decide +kernel⟩
/-- the code and the source of numbers -/
structure B42 (T : List (Addr × Str)) (d cd : Addr) (fs : List (Str × Int)) (H : Hp) : Prop where
  ne : cd ≠ d
  at_ : H cd = some (.lst ((bytesOf fs).map V.int))
  dr : Dr H d
  tb : LamX.Tabs T H
section
variable {T : List (Addr × Str)} {d cd : Addr} {fs : List (Str × Int)} {H H' : Hp}
theorem B42.same (b : B42 T d cd fs H) (s : Same H H') : B42 T d cd fs H' := ⟨b.ne, s _ _ b.at_, b.dr.same s, tabs_same s b.tb⟩
theorem B42.keep (b : B42 T d cd fs H) (k : Keep d H H') (d' : Dr H' d) : B42 T d cd fs H' := ⟨b.ne, k _ _ b.ne b.at_, d', b.dr.tabs k b.tb⟩
theorem B42.ext (b : B42 T d cd fs H) (e : LamX.ExtN H H') (t' : LamX.Tabs T H') : B42 T d cd fs H' := ⟨b.ne, e _ _ b.at_ nofun, b.dr.ext e, t'⟩
end
theorem cut_last (xs : List V) (x : V) : cutV (xs ++ [x]) none (some (-1)) = xs := by
  have : cutV (xs ++ [x]) none (some (-1)) = (xs ++ [x]).take xs.length := by
    unfold cutV
    rw [HT.sIx_none]
    congr 1
    simp [HT.sIx]
    omega
  rw [this, List.take_left]
section
variable {CF CE P0 c0 fo : Addr} {c : Fin 7 → Addr} {fdo : FuncData}
theorem ok_law {f : Addr} {fd : FuncData} (M : Md K mg) (F : FnD K "law" "law" s_law f fd) (T_tab : LamX.TabB base mg c0 P0) (T_code : fd.code = .ref c0) (EF : ErrF K mg c CE)
    (at_err : mg "_law_error_of" = some (.ref fo)) (F_err : FnD K "_law_error_of" "_law_error_of" s_law_error_of fo fdo) (B_err : L2.Binds K fdo ["_law_call"] [])
    (D_law_random : DefR P w K mg base "_law_random" 2 (sp_law_random K)) (D_law_below : DefR P w K mg base "_law_below" 2 sp_law_below) (D_law_fields : DefR P w K mg base "_law_fields" 6 (sp_law_fields K)) (D_law_bytes : DefR P w K mg base "_law_bytes" 2 (sp_law_bytes K)) (D_law_farm : DefR P w K mg base "_law_farm" 10 (sp_law_farm K CF))
    (D_encode_farm : DefR P w K mg base "encode_farm" 6 (sp_encode_farm K CF)) (D_decode_farm : DefR P w K mg base "decode_farm" 8 (sp_decode_farm K CF)) (DE : DefR P w K mg base "decode_farm" 8 (sp_decodeE K c)) (P_Farm_fields : PropR P w K mg base CF "fields" 2 (sp_farm_fields K CF)) :
    FnOk P w K mg base CX0 14 f fd ["_law_script"] (sp_law K P0) := by
  refine FunD_okC F sc_law ?_ (fun A outer s H vs Q E hr h => ?_)
  · rintro vs H Q E ⟨a, ns, rfl, _⟩; rfl
  · obtain ⟨a, ns, rfl, hS, hl63, hT0, kq⟩ := h
    have nd := sc_law.nd
    have T_mem : (P0, ("law" : Str) ++ ".<locals>." ++ "<lambda>") ∈ [(P0, ("law" : Str) ++ ".<locals>." ++ "<lambda>")] := List.mem_singleton.mpr rfl
    have T_one : ∀ p ∈ [(P0, ("law" : Str) ++ ".<locals>." ++ "<lambda>")], p.1 = P0 → p.2 = ("law" : Str) ++ ".<locals>." ++ "<lambda>" := fun p hp _ => by rw [List.mem_singleton.mp hp]
    have t0 : LamX.Tabs [(P0, ("law" : Str) ++ ".<locals>." ++ "<lambda>")] H := fun p hp => by rw [List.mem_singleton.mp hp]; exact LamX.TabS.nil hT0
    refine ⟨_, PSs.nox (pss_cons (ps_set (i := 1) nd rfl (by first | exact Or.inl rfl | exact Or.inr rfl) (pe_callR D_law_random (hr.mono (by first | decide | omega)) passN (pa_cons (pv 0) (pa_cons pe_int pa_nil))))
    (pss_cons (ps_set (i := 2) nd rfl (by first | exact Or.inl rfl | exact Or.inr rfl) (pe_callR D_encode_farm (hr.mono (by first | decide | omega)) passN (pa_cons (pe_callR D_law_farm (hr.mono (by first | decide | omega)) passN (pa_cons (pe_callR D_law_fields (hr.mono (by first | decide | omega)) passN (pa_cons (pv 1) (pa_cons pe_int pa_nil))) pa_nil)) pa_nil)))
    (pss_cons (ps_set (i := 3) nd rfl (by first | exact Or.inl rfl | exact Or.inr rfl) (pe_callR D_law_below (hr.mono (by first | decide | omega)) passN (pa_cons (pv 1) (pa_cons (pe_len K M.b (pv 2)) pa_nil))))
    (pss_cons (ps_if (pt_cmpR (op_neK K hr) (pe_outD (k := 9) at_err F_err B_err sc_law_error_of rfl (Or.inl rfl) (gives_err M.b EF) (hr.mono (by first | decide | omega)) (pe_lam0 T_tab T_code T_mem T_one (lamN_by (N := N_law) (sc := defScope s_law) (by decide +kernel)))) (pe_tup (pa_cons pe_str (pa_cons (pv 3) pa_nil))) (nomark _)) (pss_one (ps_ret pe_bl)) pss_nil)
    (pss_cons (ps_set (i := 4) nd rfl (by first | exact Or.inl rfl | exact Or.inr rfl) (pe_op (op_addK K) (pv 2) (pe_lc (own := [("_law_k", 5)]) (g := (gName 5)) (tt := tYes) rfl nd (pi_range1 rfl M.b.range (pa_cons (pe_op (op_addK K) pe_int (pe_callR D_law_below (hr.mono (by first | decide | omega)) passN (pa_cons (pv 1) (pa_cons pe_int pa_nil)))) pa_nil)) (blkOk_by (N := N_law) (sc := defScope s_law) (by decide +kernel)) (fun _ _ _ _ _ => (pg_name (i := 5) nd rfl (by first | exact Or.inl rfl | exact Or.inr rfl))) (fun _ _ _ _ _ => pts_nil) (fun _ _ _ _ _ => (pe_callR D_law_below (hr.mono (by first | decide | omega)) passN (pa_cons (pv 1) (pa_cons pe_int pa_nil)))))))
    (pss_cons (ps_if (pt_cmpR (op_neK K hr) (pe_outD (k := 9) at_err F_err B_err sc_law_error_of rfl (Or.inl rfl) (gives_err M.b EF) (hr.mono (by first | decide | omega)) (pe_lam0 T_tab T_code T_mem T_one (lamN_by (N := N_law) (sc := defScope s_law) (by decide +kernel)))) (pe_tup (pa_cons pe_str (pa_cons (pe_len K M.b (pv 2)) pa_nil))) (nomark _)) (pss_one (ps_ret pe_bl)) pss_nil)
    (pss_cons (ps_set (i := 6) nd rfl (by first | exact Or.inl rfl | exact Or.inr rfl) (pe_op (op_addK K) (pe_op (op_addK K) (pe_slice (sl_listK K) (pv 2) po_none (po_some (pv 3))) (pe_lst (pa_cons (pe_ix (ix_K K) (pe_lst (pa_cons pe_int (pa_cons (pe_op op_sub pe_int pe_int) (pa_cons pe_int pa_nil)))) (pe_callR D_law_below (hr.mono (by first | decide | omega)) passN (pa_cons (pv 1) (pa_cons pe_int pa_nil))) (fun _ _ => rfl)) pa_nil))) (pe_slice (sl_listK K) (pv 2) (po_some (pe_op (op_addK K) (pv 3) pe_int)) po_none)))
    (pss_cons (ps_if (pt_cmpR (op_neK K hr) (pe_outD (k := 9) at_err F_err B_err sc_law_error_of rfl (Or.inl rfl) (gives_err M.b EF) (hr.mono (by first | decide | omega)) (pe_lam0 T_tab T_code T_mem T_one (lamN_by (N := N_law) (sc := defScope s_law) (by decide +kernel)))) (pe_tup (pa_cons pe_str (pa_cons (pv 3) pa_nil))) (nomark _)) (pss_one (ps_ret pe_bl)) pss_nil)
    (pss_cons (ps_set (i := 7) nd rfl (by first | exact Or.inl rfl | exact Or.inr rfl) (pe_op (op_addK K) (pe_slice (sl_listK K) (pv 2) po_none (po_some (pe_un un_neg pe_int))) (pe_lst (pa_cons (pe_op op_mod (pe_op (op_addK K) (pe_op (op_addK K) (pe_ix (ix_K K) (pv 2) (pe_un un_neg pe_int) (fun _ _ => rfl)) pe_int) (pe_callR D_law_below (hr.mono (by first | decide | omega)) passN (pa_cons (pv 1) (pa_cons pe_int pa_nil)))) pe_int) pa_nil))))
    (pss_cons (ps_if (pt_cmpR (op_neK K hr) (pe_outD (k := 9) at_err F_err B_err sc_law_error_of rfl (Or.inl rfl) (gives_err M.b EF) (hr.mono (by first | decide | omega)) (pe_lam0 T_tab T_code T_mem T_one (lamN_by (N := N_law) (sc := defScope s_law) (by decide +kernel)))) (pe_tup (pa_cons pe_str (pa_cons (pe_op op_sub (pe_len K M.b (pv 2)) pe_int) pa_nil))) (nomark _)) (pss_one (ps_ret pe_bl)) pss_nil)
    (pss_cons (ps_par (i := 8) (j := 9) rfl nd rfl rfl (by decide) rfl rfl (pa_cons (pe_lst (pa_cons pe_int (pa_cons pe_int (pa_cons pe_int (pa_cons pe_int (pa_cons pe_int pa_nil)))))) (pa_cons (pe_lst (pa_cons pe_int (pa_cons pe_int (pa_cons pe_int (pa_cons pe_int (pa_cons pe_int (pa_cons pe_int (pa_cons pe_int (pa_cons pe_int pa_nil))))))))) pa_nil)) (by rfl))
    (pss_cons (ps_set (i := 10) nd rfl (by first | exact Or.inl rfl | exact Or.inr rfl) (pe_lst (pa_cons (pe_tup (pa_cons (pe_lst (pa_cons pe_int pa_nil)) (pa_cons pe_int pa_nil))) (pa_cons (pe_tup (pa_cons (pe_lst (pa_cons pe_int (pa_cons pe_int pa_nil))) (pa_cons pe_int pa_nil))) (pa_cons (pe_tup (pa_cons (pe_lst (pa_cons pe_int (pa_cons pe_int pa_nil))) (pa_cons pe_int pa_nil))) (pa_cons (pe_tup (pa_cons (pe_lst (pa_cons pe_int (pa_cons pe_int (pa_cons pe_int pa_nil)))) (pa_cons pe_int pa_nil))) (pa_cons (pe_tup (pa_cons (pe_lst (pa_cons pe_int (pa_cons pe_int (pa_cons pe_int pa_nil)))) (pa_cons pe_int pa_nil))) (pa_cons (pe_tup (pa_cons (pe_lst (pa_cons pe_int (pa_cons pe_int (pa_cons pe_int (pa_cons pe_int pa_nil))))) (pa_cons pe_int pa_nil))) pa_nil))))))))
    (pss_cons (ps_set (i := 10) nd rfl (by first | exact Or.inl rfl | exact Or.inr rfl) (pe_op (op_addK K) (pv 10) (pe_lst (pa_cons (pe_tup (pa_cons (pe_lst (pa_cons pe_int (pa_cons pe_int (pa_cons pe_int (pa_cons pe_int pa_nil))))) (pa_cons pe_int pa_nil))) (pa_cons (pe_tup (pa_cons (pe_lst (pa_cons pe_int (pa_cons pe_int (pa_cons pe_int (pa_cons pe_int (pa_cons pe_int pa_nil)))))) (pa_cons pe_int pa_nil))) (pa_cons (pe_tup (pa_cons (pe_op (op_addK K) (pv 8) (pe_lst (pa_cons pe_int pa_nil))) (pa_cons pe_int pa_nil))) (pa_cons (pe_tup (pa_cons (pe_op (op_addK K) (pv 8) (pe_lst (pa_cons pe_int pa_nil))) (pa_cons pe_int pa_nil))) pa_nil)))))))
    (pss_cons (ps_set (i := 10) nd rfl (by first | exact Or.inl rfl | exact Or.inr rfl) (pe_op (op_addK K) (pv 10) (pe_lst (pa_cons (pe_tup (pa_cons (pe_op (op_addK K) (pv 8) (pe_lst (pa_cons pe_int (pa_cons pe_int (pa_cons pe_int pa_nil))))) (pa_cons pe_int pa_nil))) (pa_cons (pe_tup (pa_cons (pe_op (op_addK K) (pv 9) (pe_lst (pa_cons pe_int pa_nil))) (pa_cons pe_int pa_nil))) pa_nil)))))
    (pss_cons (ps_asg (pe_ix (ix_K K) (pv 10) (pe_callR D_law_below (hr.mono (by first | decide | omega)) passN (pa_cons (pv 1) (pa_cons pe_int pa_nil))) (fun _ _ => rfl)) (pg_tupK K rfl (pgs_cons (pg_name (i := 11) nd rfl (by first | exact Or.inl rfl | exact Or.inr rfl)) (pgs_cons (pg_name (i := 12) nd rfl (by first | exact Or.inl rfl | exact Or.inr rfl)) pgs_nil))))
    (pss_cons (ps_if (pt_cmpR (op_neK K hr) (pe_outD (k := 9) at_err F_err B_err sc_law_error_of rfl (Or.inl rfl) (gives_err M.b EF) (hr.mono (by first | decide | omega)) (pe_lam0 T_tab T_code T_mem T_one (lamN_by (N := N_law) (sc := defScope s_law) (by decide +kernel)))) (pe_tup (pa_cons pe_str (pa_cons (pv 12) pa_nil))) (nomark _)) (pss_one (ps_ret pe_bl)) pss_nil)
    (pss_cons (ps_set (i := 13) nd rfl (by first | exact Or.inl rfl | exact Or.inr rfl) (pe_lst (pa_cons (pe_tup (pa_cons pe_str (pa_cons pe_int pa_nil))) (pa_cons (pe_tup (pa_cons pe_str (pa_cons pe_int pa_nil))) (pa_cons (pe_tup (pa_cons pe_str (pa_cons pe_int pa_nil))) (pa_cons (pe_tup (pa_cons pe_str (pa_cons pe_int pa_nil))) pa_nil))))))
    (pss_one (ps_ret (pe_cmpR (op_eqK K hr) (pe_propR P_Farm_fields (hr.mono (by first | decide | omega)) (pe_callR D_decode_farm (hr.mono (by first | decide | omega)) passN (pa_cons (pe_callR D_law_bytes (hr.mono (by first | decide | omega)) passN (pa_cons (pv 13) pa_nil)) pa_nil))) (pe_tupOf K M.b (pv 13)) (nomark _))))))))))))))))))))), ?_⟩
    show (_ : TS) _ [some (.ref a), none, none, none, none, none, none, none, none, none, none, none, none, none] H
    walk_at "go"
    refine ⟨a, ns, 42, rfl, hS, hl63, by decide, by decide, fun H1 d s1 nd1 d1 => ?_⟩
    walk_at "go"
    refine ⟨d, 4, rfl, d1, by decide, by decide, fun H2 fl fx fs k2 d2 nfl hfl hfx ok _ => ?_⟩
    walk_at "go"
    refine ⟨_, fs, rfl, dp_lst hfl hfx, ok, fun H3 p s3 np hfa => ?_⟩
    walk_at "go"
    refine ⟨p, fs, rfl, hfa, ok, fun H4 cd s4 ncd hcd => ?_⟩
    walk_at "go"
    have b4 : B42 [(P0, ("law" : Str) ++ ".<locals>." ++ "<lambda>")] d cd fs H4 := ⟨fun e => (d2.same s3).ne ncd e.symm, hcd, (d2.same s3).same s4, tabs_same (s3.trans s4) (d1.tabs k2 (tabs_same s1 t0))⟩
    have blen : (bytesOf fs).length = (bodyOf fs).length + 1 := by simp [bytesOf]
    have bl := body_len ok
    have b2 : 2 ≤ (bodyOf fs).length := by simp [bodyOf]
    have big : (bytesOf fs).length ≤ 1000 := by omega
    clear hfl hfx hfa hcd d1 d2 k2 s1 s3 s4 t0
    try refine g_len_l (SqL.of b4.at_) ?_
    walk_at "go"
    rw [List.length_map]
    refine ⟨d, _, rfl, b4.dr, by omega, by omega, fun H5 r5 a5 l5 k5 d5 => ?_⟩
    walk_at "go"
    obtain ⟨at_, rfl⟩ := Int.eq_ofNat_of_zero_le a5
    have alt : at_ < (bytesOf fs).length := by omega
    have b5 := b4.keep k5 d5
    refine g_lam b5.tb fun f1 H_f1 nf1 ef1 tf1 lf1 => ?_
    refine ⟨f1, _, _, fun E => tCallR (sp_decodeE K c) E (tCons (tSl (rSlL K) (tVar 2) tNoPart (tPart (tVar 3))) tNil), rfl, ?_, lf1, ?_⟩
    · exact body_callA DE (by decide) (lamN_by (N := N_law) (sc := defScope s_law) (by decide +kernel)) (fun _ _ _ _ _ _ => rfl) rfl rfl (fun _ _ _ _ _ _ _ rm => pa_cons (pe_slice (sl_listK K) (pe_var (i := 2) rfl (Or.inr (Or.inr rfl))) po_none (po_some (pe_var (i := 3) rfl (Or.inr (Or.inr rfl))))) pa_nil)
    refine g_tte ?_
    refine g_callR ?_
    walk_at "go"
    have b6 := b5.ext ef1 tf1
    refine g_slL (SqL.of b6.at_) fun q1 H7 nq1 s7 hq1 => ?_
    rw [cutV_to, ← List.map_take] at hq1
    walk_at "go"
    refine ⟨q1, _, at_, rfl, hq1, dec_bad ok (fun j hj => by rw [List.getElem?_take, if_pos hj]) alt (bad_end (by rw [List.length_take]; omega)), fun Hx1 cls1 dd1 sx1 ea1 => ?_⟩
    refine ⟨.dec at_, ea1, fun Hv1 v1 sv1 dv1 => ?_⟩
    walk_at "go"
    try refine g_len_l (SqL.of (b6.same ((s7.trans sx1).trans sv1)).at_) ?_
    walk_at "go"
    refine n_tup (by simp [sizeLine_eq]) fun tq1 Ht1 ntq1 st1 htq1 => ?_
    refine g_ne_d (ErrK.dat (.dec at_)) (ErrK.dat (.dec at_)) (st1.dp dv1) (dp_tup htq1 (.cons (.str _) (.cons (.int _) .nil))) ((sh_dec _).ok (by decide)) ((sh_dec _).ok (by decide)) ?_
    rw [eqv_refl (sh_dec _)]
    walk_at "go"
    refine if_F rfl ?_
    walk_at "go"
    have b8 := b6.same ((s7.trans sx1).trans (sv1.trans st1))
    refine ⟨d, 3, rfl, b8.dr, by decide, by decide, fun H9 r9 a9 l9 k9 d9 => ?_⟩
    walk_at "go"
    have b9 := b8.keep k9 d9
    refine n_lcR1 (by omega) (by omega) (lc_run (walk_range (lo := 0) (n := (1 + r9).toNat)) (fun i acc H' => Keep d H9 H' ∧ Dr H' d ∧ ∃ zs : List Int, acc = zs.map V.int ∧ zs.length = i) ?_ (fun _ _ _ _ _ _ _ => trivial) ?_ ?_)
    · exact fun C H' nC s' hC => ⟨Same.keep s', d9.same s', [], rfl, rfl⟩
    · rintro C i acc x Ha Hb nC hi hla hC ⟨kp, dd, zs, rfl, zl⟩ ⟨eH, ex⟩
      subst eH ex
      have Cd : C ≠ d := fun e => d9.ne nC e.symm
      walk_at "go"
      refine ⟨rfl, ?_⟩
      walk_at "go"
      refine ⟨d, 256, rfl, dd, by decide, by decide, fun Hc rc ac lc kc dc => ?_⟩
      refine n_lcK (kc _ _ Cd hC) (by rw [List.length_map]; omega) (by omega) fun Hd kd hd => ⟨fun b u nb hb => kd _ _ (ne_of_none hb nC) (kc _ _ nb (kp _ _ nb hb)), Dr.keep kd (fun e => Cd e.symm) dc, zs ++ [rc], by rw [List.map_append]; rfl, by simp [zl]⟩
    rintro zl9 acc9 H10 nzl hzl ⟨k10, d10, zs, rfl, zlen⟩
    have b10 := b9.keep k10 d10
    have zne : zs ≠ [] := fun e => by rw [e] at zlen; simp at zlen; omega
    refine g_add_l b10.at_ hzl (by simp [sizeLine_eq]; omega) fun ex H11 nex s11 hex => ?_
    rw [← List.map_append] at hex
    walk_at "go"
    have b11 := b10.same s11
    refine g_lam b11.tb fun f2 H_f2 nf2 ef2 tf2 lf2 => ?_
    refine ⟨f2, _, _, fun E => tCallR (sp_decodeE K c) E (tCons (tVar 4) tNil), rfl, ?_, lf2, ?_⟩
    · exact body_callA DE (by decide) (lamN_by (N := N_law) (sc := defScope s_law) (by decide +kernel)) (fun _ _ _ _ _ _ => rfl) rfl rfl (fun _ _ _ _ _ _ _ rm => pa_cons (pe_var (i := 4) rfl (Or.inr (Or.inr rfl))) pa_nil)
    refine g_tte ?_
    refine g_callR ?_
    walk_at "go"
    have b12 := b11.ext ef2 tf2
    refine ⟨ex, _, _, rfl, ef2 _ _ hex nofun, dec_more ok zne, fun Hx2 cls2 dd2 sx2 ea2 => ?_⟩
    refine ⟨.dec (bytesOf fs).length, ea2, fun Hv2 v2 sv2 dv2 => ?_⟩
    walk_at "go"
    try refine g_len_l (SqL.of (b12.same (sx2.trans sv2)).at_) ?_
    walk_at "go"
    refine n_tup (by simp [sizeLine_eq]) fun tq2 Ht2 ntq2 st2 htq2 => ?_
    refine g_ne_d (ErrK.dat (.dec (bytesOf fs).length)) (ErrK.dat (.dec (bytesOf fs).length)) (st2.dp dv2) (dp_tup htq2 (.cons (.str _) (.cons (by rw [List.length_map]; exact .int _) .nil))) ((sh_dec _).ok (by decide)) ((sh_dec _).ok (by decide)) ?_
    rw [eqv_refl (sh_dec _)]
    walk_at "go"
    refine if_F rfl ?_
    walk_at "go"
    have b13 := b12.same (sx2.trans (sv2.trans st2))
    try refine g_slL (SqL.of b13.at_) fun q3 H14 nq3 s14 hq3 => ?_
    rw [cutV_to, ← List.map_take] at hq3
    walk_at "go"
    refine n_lst (by simp [sizeLine_eq]) fun q4 H15 nq4 s15 hq4 => ?_
    walk_at "go"
    have b15 := b13.same (s14.trans s15)
    refine ⟨d, 3, rfl, b15.dr, by decide, by decide, fun H16 r16 a16 l16 k16 d16 => ?_⟩
    walk_at "go"
    have b16 := b15.keep k16 d16
    have q3d : q3 ≠ d := fun e => b13.dr.ne nq3 e.symm
    obtain ⟨v, hv, hbad⟩ : ∃ v, atI [V.int 256, V.int (0 - 1), V.int 999] r16 = some (.int v) ∧ (v < 0 ∨ 255 < v) := by
      have : r16 = 0 ∨ r16 = 1 ∨ r16 = 2 := by omega
      rcases this with rfl | rfl | rfl
      · exact ⟨256, rfl, by decide⟩
      · exact ⟨0 - 1, rfl, by decide⟩
      · exact ⟨999, rfl, by decide⟩
    refine g_ix_l (SqL.of (k16 _ _ (fun e => (b13.same s14).dr.ne nq4 e.symm) hq4)) hv ?_
    walk_at "go"
    refine n_lst (by simp [sizeLine_eq]) fun q5 H17 nq5 s17 hq5 => ?_
    walk_at "go"
    refine g_add_l (s17 _ _ (k16 _ _ q3d (s15 _ _ hq3))) hq5 (by simp [sizeLine_eq]; omega) fun q6 H18 nq6 s18 hq6 => ?_
    walk_at "go"
    have b18 := b16.same (s17.trans s18)
    refine g_slL (SqL.of b18.at_) fun q7 H19 nq7 s19 hq7 => ?_
    rw [show ((at_ : Int) + 1) = ((at_ + 1 : Nat) : Int) by omega, cutV_from, ← List.map_drop] at hq7
    refine g_add_l (s19 _ _ hq6) hq7 (by simp [sizeLine_eq]; omega) fun ch H20 nch s20 hch => ?_
    have hch' : H20 ch = some (.lst (((bytesOf fs).take at_ ++ [v] ++ (bytesOf fs).drop (at_ + 1)).map V.int)) := by rw [hch]; simp
    walk_at "go"
    have b20 := b18.same (s19.trans s20)
    have tl : ((bytesOf fs).take at_).length = at_ := by rw [List.length_take]; omega
    have bad3 : decR ((bytesOf fs).take at_ ++ [v] ++ (bytesOf fs).drop (at_ + 1)) = .inl at_ := by
      refine dec_bad ok (fun j hj => ?_) alt (bad_val (z := v) ?_ hbad)
      · rw [List.append_assoc, List.getElem?_append_left (by omega), List.getElem?_take, if_pos hj]
      · rw [List.append_assoc, List.getElem?_append_right (by omega), tl]; simp
    refine g_lam b20.tb fun f3 H_f3 nf3 ef3 tf3 lf3 => ?_
    refine ⟨f3, _, _, fun E => tCallR (sp_decodeE K c) E (tCons (tVar 6) tNil), rfl, ?_, lf3, ?_⟩
    · exact body_callA DE (by decide) (lamN_by (N := N_law) (sc := defScope s_law) (by decide +kernel)) (fun _ _ _ _ _ _ => rfl) rfl rfl (fun _ _ _ _ _ _ _ rm => pa_cons (pe_var (i := 6) rfl (Or.inr (Or.inr rfl))) pa_nil)
    refine g_tte ?_
    refine g_callR ?_
    walk_at "go"
    have b21 := b20.ext ef3 tf3
    refine ⟨ch, _, _, rfl, ef3 _ _ hch' nofun, bad3, fun Hx3 cls3 dd3 sx3 ea3 => ?_⟩
    refine ⟨.dec at_, ea3, fun Hv3 v3 sv3 dv3 => ?_⟩
    walk_at "go"
    try refine g_len_l (SqL.of (b21.same (sx3.trans sv3)).at_) ?_
    walk_at "go"
    refine n_tup (by simp [sizeLine_eq]) fun tq3 Ht3 ntq3 st3 htq3 => ?_
    refine g_ne_d (ErrK.dat (.dec at_)) (ErrK.dat (.dec at_)) (st3.dp dv3) (dp_tup htq3 (.cons (.str _) (.cons (.int _) .nil))) ((sh_dec _).ok (by decide)) ((sh_dec _).ok (by decide)) ?_
    rw [eqv_refl (sh_dec _)]
    walk_at "go"
    refine if_F rfl ?_
    walk_at "go"
    have b22 := b21.same (sx3.trans (sv3.trans st3))
    refine g_slL (SqL.of b22.at_) fun q8 H23 nq8 s23 hq8 => ?_
    have ecode : (bytesOf fs).map V.int = (bodyOf fs).map V.int ++ [.int (cks (bodyOf fs))] := by rw [bytesOf, List.map_append]; rfl
    rw [show (-(1 : Int)) = -1 from rfl, ecode, cut_last] at hq8
    walk_at "go"
    have b23 := b22.same s23
    have hlast := b23.at_
    rw [ecode] at hlast
    refine g_ix_l (v := .int (cks (bodyOf fs))) (SqL.of hlast) (atI_last _ _) ?_
    walk_at "go"
    refine ⟨d, 255, rfl, b23.dr, by decide, by decide, fun H24 r24 a24 l24 k24 d24 => ?_⟩
    walk_at "go"
    have b24 := b23.keep k24 d24
    have q8d : q8 ≠ d := fun e => b22.dr.ne nq8 e.symm
    refine n_lst (by simp [sizeLine_eq]) fun q9 H25 nq9 s25 hq9 => ?_
    walk_at "go"
    refine g_add_l (s25 _ _ (k24 _ _ q8d hq8)) hq9 (by simp [sizeLine_eq]; omega) fun wr H26 nwr s26 hwr => ?_
    have hwr' : H26 wr = some (.lst ((bodyOf fs ++ [(cks (bodyOf fs) + 1 + r24) % 256]).map V.int)) := by rw [hwr]; simp
    walk_at "go"
    have b26 := b24.same (s25.trans s26)
    have c233 := cks_lo (bodyOf fs)
    refine g_lam b26.tb fun f4 H_f4 nf4 ef4 tf4 lf4 => ?_
    refine ⟨f4, _, _, fun E => tCallR (sp_decodeE K c) E (tCons (tVar 7) tNil), rfl, ?_, lf4, ?_⟩
    · exact body_callA DE (by decide) (lamN_by (N := N_law) (sc := defScope s_law) (by decide +kernel)) (fun _ _ _ _ _ _ => rfl) rfl rfl (fun _ _ _ _ _ _ _ rm => pa_cons (pe_var (i := 7) rfl (Or.inr (Or.inr rfl))) pa_nil)
    refine g_tte ?_
    refine g_callR ?_
    walk_at "go"
    have b27 := b26.ext ef4 tf4
    refine ⟨wr, _, _, rfl, ef4 _ _ hwr' nofun, dec_wrong ok (by omega), fun Hx4 cls4 dd4 sx4 ea4 => ?_⟩
    refine ⟨.dec ((bytesOf fs).length - 1 : Nat), ea4, fun Hv4 v4 sv4 dv4 => ?_⟩
    walk_at "go"
    try refine g_len_l (SqL.of (b27.same (sx4.trans sv4)).at_) ?_
    walk_at "go"
    refine n_tup (by simp [sizeLine_eq]) fun tq4 Ht4 ntq4 st4 htq4 => ?_
    refine g_ne_d (ErrK.dat (.dec ((bytesOf fs).length - 1 : Nat))) (ErrK.dat (.dec ((bytesOf fs).length - 1 : Nat))) (st4.dp dv4) (dp_tup htq4 (.cons (.str _) (.cons (by rw [List.length_map, show (((bytesOf fs).length : Nat) : Int) - 1 = (((bytesOf fs).length - 1 : Nat) : Int) by omega]; exact .int _) .nil))) ((sh_dec _).ok (by decide)) ((sh_dec _).ok (by decide)) ?_
    rw [eqv_refl (sh_dec _)]
    walk_at "go"
    refine if_F rfl ?_
    walk_at "go"
    have b28 := b27.same (sx4.trans (sv4.trans st4))
    refine n_lst (by simp [sizeLine_eq]) fun o0 J0 nj0 sj0 hj0 => ?_
    walk_at "go"
    have bj0 := b28.same sj0
    refine n_lst (by simp [sizeLine_eq]) fun o1 J1 nj1 sj1 hj1 => ?_
    walk_at "go"
    have bj1 := bj0.same sj1
    refine n_lst (by simp [sizeLine_eq]) fun o2 J2 nj2 sj2 hj2 => ?_
    walk_at "go"
    have bj2 := bj1.same sj2
    refine n_tup (by simp [sizeLine_eq]) fun o3 J3 nj3 sj3 hj3 => ?_
    walk_at "go"
    have bj3 := bj2.same sj3
    refine n_lst (by simp [sizeLine_eq]) fun o4 J4 nj4 sj4 hj4 => ?_
    walk_at "go"
    have bj4 := bj3.same sj4
    refine n_tup (by simp [sizeLine_eq]) fun o5 J5 nj5 sj5 hj5 => ?_
    walk_at "go"
    have bj5 := bj4.same sj5
    refine n_lst (by simp [sizeLine_eq]) fun o6 J6 nj6 sj6 hj6 => ?_
    walk_at "go"
    have bj6 := bj5.same sj6
    refine n_tup (by simp [sizeLine_eq]) fun o7 J7 nj7 sj7 hj7 => ?_
    walk_at "go"
    have bj7 := bj6.same sj7
    refine n_lst (by simp [sizeLine_eq]) fun o8 J8 nj8 sj8 hj8 => ?_
    walk_at "go"
    have bj8 := bj7.same sj8
    refine n_tup (by simp [sizeLine_eq]) fun o9 J9 nj9 sj9 hj9 => ?_
    walk_at "go"
    have bj9 := bj8.same sj9
    refine n_lst (by simp [sizeLine_eq]) fun o10 J10 nj10 sj10 hj10 => ?_
    walk_at "go"
    have bj10 := bj9.same sj10
    refine n_tup (by simp [sizeLine_eq]) fun o11 J11 nj11 sj11 hj11 => ?_
    walk_at "go"
    have bj11 := bj10.same sj11
    refine n_lst (by simp [sizeLine_eq]) fun o12 J12 nj12 sj12 hj12 => ?_
    walk_at "go"
    have bj12 := bj11.same sj12
    refine n_tup (by simp [sizeLine_eq]) fun o13 J13 nj13 sj13 hj13 => ?_
    walk_at "go"
    have bj13 := bj12.same sj13
    refine n_lst (by simp [sizeLine_eq]) fun o14 J14 nj14 sj14 hj14 => ?_
    walk_at "go"
    have bj14 := bj13.same sj14
    refine n_lst (by simp [sizeLine_eq]) fun o15 J15 nj15 sj15 hj15 => ?_
    walk_at "go"
    have bj15 := bj14.same sj15
    refine n_tup (by simp [sizeLine_eq]) fun o16 J16 nj16 sj16 hj16 => ?_
    walk_at "go"
    have bj16 := bj15.same sj16
    refine n_lst (by simp [sizeLine_eq]) fun o17 J17 nj17 sj17 hj17 => ?_
    walk_at "go"
    have bj17 := bj16.same sj17
    refine n_tup (by simp [sizeLine_eq]) fun o18 J18 nj18 sj18 hj18 => ?_
    walk_at "go"
    have bj18 := bj17.same sj18
    refine n_lst (by simp [sizeLine_eq]) fun o19 J19 nj19 sj19 hj19 => ?_
    walk_at "go"
    have bj19 := bj18.same sj19
    refine g_add_l ((sj1.trans (sj2.trans (sj3.trans (sj4.trans (sj5.trans (sj6.trans (sj7.trans (sj8.trans (sj9.trans (sj10.trans (sj11.trans (sj12.trans (sj13.trans (sj14.trans (sj15.trans (sj16.trans (sj17.trans (sj18.trans sj19)))))))))))))))))) _ _ hj0) hj19 (by simp [sizeLine_eq]) fun o20 J20 nj20 sj20 hj20 => ?_
    walk_at "go"
    have bj20 := bj19.same sj20
    refine n_tup (by simp [sizeLine_eq]) fun o21 J21 nj21 sj21 hj21 => ?_
    walk_at "go"
    have bj21 := bj20.same sj21
    refine n_lst (by simp [sizeLine_eq]) fun o22 J22 nj22 sj22 hj22 => ?_
    walk_at "go"
    have bj22 := bj21.same sj22
    refine g_add_l ((sj1.trans (sj2.trans (sj3.trans (sj4.trans (sj5.trans (sj6.trans (sj7.trans (sj8.trans (sj9.trans (sj10.trans (sj11.trans (sj12.trans (sj13.trans (sj14.trans (sj15.trans (sj16.trans (sj17.trans (sj18.trans (sj19.trans (sj20.trans (sj21.trans sj22))))))))))))))))))))) _ _ hj0) hj22 (by simp [sizeLine_eq]) fun o23 J23 nj23 sj23 hj23 => ?_
    walk_at "go"
    have bj23 := bj22.same sj23
    refine n_tup (by simp [sizeLine_eq]) fun o24 J24 nj24 sj24 hj24 => ?_
    walk_at "go"
    have bj24 := bj23.same sj24
    refine n_lst (by simp [sizeLine_eq]) fun o25 J25 nj25 sj25 hj25 => ?_
    walk_at "go"
    have bj25 := bj24.same sj25
    refine g_add_l ((sj15.trans (sj16.trans (sj17.trans (sj18.trans (sj19.trans (sj20.trans (sj21.trans (sj22.trans (sj23.trans (sj24.trans sj25)))))))))) _ _ hj14) hj25 (by simp [sizeLine_eq]) fun o26 J26 nj26 sj26 hj26 => ?_
    walk_at "go"
    have bj26 := bj25.same sj26
    refine n_lst (by simp [sizeLine_eq]) fun o27 J27 nj27 sj27 hj27 => ?_
    walk_at "go"
    have bj27 := bj26.same sj27
    refine g_add_l ((sj1.trans (sj2.trans (sj3.trans (sj4.trans (sj5.trans (sj6.trans (sj7.trans (sj8.trans (sj9.trans (sj10.trans (sj11.trans (sj12.trans (sj13.trans (sj14.trans (sj15.trans (sj16.trans (sj17.trans (sj18.trans (sj19.trans (sj20.trans (sj21.trans (sj22.trans (sj23.trans (sj24.trans (sj25.trans (sj26.trans sj27)))))))))))))))))))))))))) _ _ hj0) hj27 (by simp [sizeLine_eq]) fun o28 J28 nj28 sj28 hj28 => ?_
    walk_at "go"
    have bj28 := bj27.same sj28
    refine n_tup (by simp [sizeLine_eq]) fun o29 J29 nj29 sj29 hj29 => ?_
    walk_at "go"
    have bj29 := bj28.same sj29
    refine n_lst (by simp [sizeLine_eq]) fun o30 J30 nj30 sj30 hj30 => ?_
    walk_at "go"
    have bj30 := bj29.same sj30
    refine g_add_l ((sj2.trans (sj3.trans (sj4.trans (sj5.trans (sj6.trans (sj7.trans (sj8.trans (sj9.trans (sj10.trans (sj11.trans (sj12.trans (sj13.trans (sj14.trans (sj15.trans (sj16.trans (sj17.trans (sj18.trans (sj19.trans (sj20.trans (sj21.trans (sj22.trans (sj23.trans (sj24.trans (sj25.trans (sj26.trans (sj27.trans (sj28.trans (sj29.trans sj30)))))))))))))))))))))))))))) _ _ hj1) hj30 (by simp [sizeLine_eq]) fun o31 J31 nj31 sj31 hj31 => ?_
    walk_at "go"
    have bj31 := bj30.same sj31
    refine n_tup (by simp [sizeLine_eq]) fun o32 J32 nj32 sj32 hj32 => ?_
    walk_at "go"
    have bj32 := bj31.same sj32
    refine n_lst (by simp [sizeLine_eq]) fun o33 J33 nj33 sj33 hj33 => ?_
    walk_at "go"
    have bj33 := bj32.same sj33
    refine g_add_l ((sj27.trans (sj28.trans (sj29.trans (sj30.trans (sj31.trans (sj32.trans sj33)))))) _ _ hj26) hj33 (by simp [sizeLine_eq]) fun o34 J34 nj34 sj34 hj34 => ?_
    walk_at "go"
    have bj34 := bj33.same sj34
    refine ⟨d, 12, rfl, bj34.dr, by decide, by decide, fun H30 r30 a30 l30 k30 d30 => ?_⟩
    walk_at "go"
    have b30 := bj34.keep k30 d30
    obtain ⟨i, rfl⟩ := Int.eq_ofNat_of_zero_le a30
    have hcs : H30 o34 = some (.lst [V.ref o3, V.ref o5, V.ref o7, V.ref o9, V.ref o11, V.ref o13, V.ref o16, V.ref o18, V.ref o21, V.ref o24, V.ref o29, V.ref o32]) := k30 _ _ (fun e => bj33.dr.ne nj34 e.symm) hj34
    have offT : ∀ {T : Addr} {xs : List V}, J34 T = some (.tup xs) → T ≠ d := fun {T xs} h e => by
      obtain ⟨s0, c0, cs0, h0, _⟩ := bj34.dr
      rw [e, h0] at h
      cases h
    obtain ⟨T, L, x, hi1, hi2, hT30, hL30, xm, Ld⟩ : ∃ T L x, ([V.ref o3, V.ref o5, V.ref o7, V.ref o9, V.ref o11, V.ref o13, V.ref o16, V.ref o18, V.ref o21, V.ref o24, V.ref o29, V.ref o32] : List V)[i]? = some (.ref T) ∧ cases42[i]? = some x ∧ H30 T = some (.tup [.ref L, .int ((x.2 : Nat) : Int)]) ∧ H30 L = some (.lst (x.1.map V.int)) ∧ x ∈ cases42 ∧ L ≠ d := by
      have il : i < 12 := by omega
      match i, il with
      | 0, _ => exact ⟨o3, o2, _, rfl, rfl, k30 _ _ (offT ((sj4.trans (sj5.trans (sj6.trans (sj7.trans (sj8.trans (sj9.trans (sj10.trans (sj11.trans (sj12.trans (sj13.trans (sj14.trans (sj15.trans (sj16.trans (sj17.trans (sj18.trans (sj19.trans (sj20.trans (sj21.trans (sj22.trans (sj23.trans (sj24.trans (sj25.trans (sj26.trans (sj27.trans (sj28.trans (sj29.trans (sj30.trans (sj31.trans (sj32.trans (sj33.trans sj34)))))))))))))))))))))))))))))) _ _ hj3)) ((sj4.trans (sj5.trans (sj6.trans (sj7.trans (sj8.trans (sj9.trans (sj10.trans (sj11.trans (sj12.trans (sj13.trans (sj14.trans (sj15.trans (sj16.trans (sj17.trans (sj18.trans (sj19.trans (sj20.trans (sj21.trans (sj22.trans (sj23.trans (sj24.trans (sj25.trans (sj26.trans (sj27.trans (sj28.trans (sj29.trans (sj30.trans (sj31.trans (sj32.trans (sj33.trans sj34)))))))))))))))))))))))))))))) _ _ hj3), k30 _ _ (fun e => bj1.dr.ne nj2 e.symm) ((sj3.trans (sj4.trans (sj5.trans (sj6.trans (sj7.trans (sj8.trans (sj9.trans (sj10.trans (sj11.trans (sj12.trans (sj13.trans (sj14.trans (sj15.trans (sj16.trans (sj17.trans (sj18.trans (sj19.trans (sj20.trans (sj21.trans (sj22.trans (sj23.trans (sj24.trans (sj25.trans (sj26.trans (sj27.trans (sj28.trans (sj29.trans (sj30.trans (sj31.trans (sj32.trans (sj33.trans sj34))))))))))))))))))))))))))))))) _ _ hj2), List.mem_of_getElem? (i := 0) rfl, (fun e => bj1.dr.ne nj2 e.symm)⟩
      | 1, _ => exact ⟨o5, o4, _, rfl, rfl, k30 _ _ (offT ((sj6.trans (sj7.trans (sj8.trans (sj9.trans (sj10.trans (sj11.trans (sj12.trans (sj13.trans (sj14.trans (sj15.trans (sj16.trans (sj17.trans (sj18.trans (sj19.trans (sj20.trans (sj21.trans (sj22.trans (sj23.trans (sj24.trans (sj25.trans (sj26.trans (sj27.trans (sj28.trans (sj29.trans (sj30.trans (sj31.trans (sj32.trans (sj33.trans sj34)))))))))))))))))))))))))))) _ _ hj5)) ((sj6.trans (sj7.trans (sj8.trans (sj9.trans (sj10.trans (sj11.trans (sj12.trans (sj13.trans (sj14.trans (sj15.trans (sj16.trans (sj17.trans (sj18.trans (sj19.trans (sj20.trans (sj21.trans (sj22.trans (sj23.trans (sj24.trans (sj25.trans (sj26.trans (sj27.trans (sj28.trans (sj29.trans (sj30.trans (sj31.trans (sj32.trans (sj33.trans sj34)))))))))))))))))))))))))))) _ _ hj5), k30 _ _ (fun e => bj3.dr.ne nj4 e.symm) ((sj5.trans (sj6.trans (sj7.trans (sj8.trans (sj9.trans (sj10.trans (sj11.trans (sj12.trans (sj13.trans (sj14.trans (sj15.trans (sj16.trans (sj17.trans (sj18.trans (sj19.trans (sj20.trans (sj21.trans (sj22.trans (sj23.trans (sj24.trans (sj25.trans (sj26.trans (sj27.trans (sj28.trans (sj29.trans (sj30.trans (sj31.trans (sj32.trans (sj33.trans sj34))))))))))))))))))))))))))))) _ _ hj4), List.mem_of_getElem? (i := 1) rfl, (fun e => bj3.dr.ne nj4 e.symm)⟩
      | 2, _ => exact ⟨o7, o6, _, rfl, rfl, k30 _ _ (offT ((sj8.trans (sj9.trans (sj10.trans (sj11.trans (sj12.trans (sj13.trans (sj14.trans (sj15.trans (sj16.trans (sj17.trans (sj18.trans (sj19.trans (sj20.trans (sj21.trans (sj22.trans (sj23.trans (sj24.trans (sj25.trans (sj26.trans (sj27.trans (sj28.trans (sj29.trans (sj30.trans (sj31.trans (sj32.trans (sj33.trans sj34)))))))))))))))))))))))))) _ _ hj7)) ((sj8.trans (sj9.trans (sj10.trans (sj11.trans (sj12.trans (sj13.trans (sj14.trans (sj15.trans (sj16.trans (sj17.trans (sj18.trans (sj19.trans (sj20.trans (sj21.trans (sj22.trans (sj23.trans (sj24.trans (sj25.trans (sj26.trans (sj27.trans (sj28.trans (sj29.trans (sj30.trans (sj31.trans (sj32.trans (sj33.trans sj34)))))))))))))))))))))))))) _ _ hj7), k30 _ _ (fun e => bj5.dr.ne nj6 e.symm) ((sj7.trans (sj8.trans (sj9.trans (sj10.trans (sj11.trans (sj12.trans (sj13.trans (sj14.trans (sj15.trans (sj16.trans (sj17.trans (sj18.trans (sj19.trans (sj20.trans (sj21.trans (sj22.trans (sj23.trans (sj24.trans (sj25.trans (sj26.trans (sj27.trans (sj28.trans (sj29.trans (sj30.trans (sj31.trans (sj32.trans (sj33.trans sj34))))))))))))))))))))))))))) _ _ hj6), List.mem_of_getElem? (i := 2) rfl, (fun e => bj5.dr.ne nj6 e.symm)⟩
      | 3, _ => exact ⟨o9, o8, _, rfl, rfl, k30 _ _ (offT ((sj10.trans (sj11.trans (sj12.trans (sj13.trans (sj14.trans (sj15.trans (sj16.trans (sj17.trans (sj18.trans (sj19.trans (sj20.trans (sj21.trans (sj22.trans (sj23.trans (sj24.trans (sj25.trans (sj26.trans (sj27.trans (sj28.trans (sj29.trans (sj30.trans (sj31.trans (sj32.trans (sj33.trans sj34)))))))))))))))))))))))) _ _ hj9)) ((sj10.trans (sj11.trans (sj12.trans (sj13.trans (sj14.trans (sj15.trans (sj16.trans (sj17.trans (sj18.trans (sj19.trans (sj20.trans (sj21.trans (sj22.trans (sj23.trans (sj24.trans (sj25.trans (sj26.trans (sj27.trans (sj28.trans (sj29.trans (sj30.trans (sj31.trans (sj32.trans (sj33.trans sj34)))))))))))))))))))))))) _ _ hj9), k30 _ _ (fun e => bj7.dr.ne nj8 e.symm) ((sj9.trans (sj10.trans (sj11.trans (sj12.trans (sj13.trans (sj14.trans (sj15.trans (sj16.trans (sj17.trans (sj18.trans (sj19.trans (sj20.trans (sj21.trans (sj22.trans (sj23.trans (sj24.trans (sj25.trans (sj26.trans (sj27.trans (sj28.trans (sj29.trans (sj30.trans (sj31.trans (sj32.trans (sj33.trans sj34))))))))))))))))))))))))) _ _ hj8), List.mem_of_getElem? (i := 3) rfl, (fun e => bj7.dr.ne nj8 e.symm)⟩
      | 4, _ => exact ⟨o11, o10, _, rfl, rfl, k30 _ _ (offT ((sj12.trans (sj13.trans (sj14.trans (sj15.trans (sj16.trans (sj17.trans (sj18.trans (sj19.trans (sj20.trans (sj21.trans (sj22.trans (sj23.trans (sj24.trans (sj25.trans (sj26.trans (sj27.trans (sj28.trans (sj29.trans (sj30.trans (sj31.trans (sj32.trans (sj33.trans sj34)))))))))))))))))))))) _ _ hj11)) ((sj12.trans (sj13.trans (sj14.trans (sj15.trans (sj16.trans (sj17.trans (sj18.trans (sj19.trans (sj20.trans (sj21.trans (sj22.trans (sj23.trans (sj24.trans (sj25.trans (sj26.trans (sj27.trans (sj28.trans (sj29.trans (sj30.trans (sj31.trans (sj32.trans (sj33.trans sj34)))))))))))))))))))))) _ _ hj11), k30 _ _ (fun e => bj9.dr.ne nj10 e.symm) ((sj11.trans (sj12.trans (sj13.trans (sj14.trans (sj15.trans (sj16.trans (sj17.trans (sj18.trans (sj19.trans (sj20.trans (sj21.trans (sj22.trans (sj23.trans (sj24.trans (sj25.trans (sj26.trans (sj27.trans (sj28.trans (sj29.trans (sj30.trans (sj31.trans (sj32.trans (sj33.trans sj34))))))))))))))))))))))) _ _ hj10), List.mem_of_getElem? (i := 4) rfl, (fun e => bj9.dr.ne nj10 e.symm)⟩
      | 5, _ => exact ⟨o13, o12, _, rfl, rfl, k30 _ _ (offT ((sj14.trans (sj15.trans (sj16.trans (sj17.trans (sj18.trans (sj19.trans (sj20.trans (sj21.trans (sj22.trans (sj23.trans (sj24.trans (sj25.trans (sj26.trans (sj27.trans (sj28.trans (sj29.trans (sj30.trans (sj31.trans (sj32.trans (sj33.trans sj34)))))))))))))))))))) _ _ hj13)) ((sj14.trans (sj15.trans (sj16.trans (sj17.trans (sj18.trans (sj19.trans (sj20.trans (sj21.trans (sj22.trans (sj23.trans (sj24.trans (sj25.trans (sj26.trans (sj27.trans (sj28.trans (sj29.trans (sj30.trans (sj31.trans (sj32.trans (sj33.trans sj34)))))))))))))))))))) _ _ hj13), k30 _ _ (fun e => bj11.dr.ne nj12 e.symm) ((sj13.trans (sj14.trans (sj15.trans (sj16.trans (sj17.trans (sj18.trans (sj19.trans (sj20.trans (sj21.trans (sj22.trans (sj23.trans (sj24.trans (sj25.trans (sj26.trans (sj27.trans (sj28.trans (sj29.trans (sj30.trans (sj31.trans (sj32.trans (sj33.trans sj34))))))))))))))))))))) _ _ hj12), List.mem_of_getElem? (i := 5) rfl, (fun e => bj11.dr.ne nj12 e.symm)⟩
      | 6, _ => exact ⟨o16, o15, _, rfl, rfl, k30 _ _ (offT ((sj17.trans (sj18.trans (sj19.trans (sj20.trans (sj21.trans (sj22.trans (sj23.trans (sj24.trans (sj25.trans (sj26.trans (sj27.trans (sj28.trans (sj29.trans (sj30.trans (sj31.trans (sj32.trans (sj33.trans sj34))))))))))))))))) _ _ hj16)) ((sj17.trans (sj18.trans (sj19.trans (sj20.trans (sj21.trans (sj22.trans (sj23.trans (sj24.trans (sj25.trans (sj26.trans (sj27.trans (sj28.trans (sj29.trans (sj30.trans (sj31.trans (sj32.trans (sj33.trans sj34))))))))))))))))) _ _ hj16), k30 _ _ (fun e => bj14.dr.ne nj15 e.symm) ((sj16.trans (sj17.trans (sj18.trans (sj19.trans (sj20.trans (sj21.trans (sj22.trans (sj23.trans (sj24.trans (sj25.trans (sj26.trans (sj27.trans (sj28.trans (sj29.trans (sj30.trans (sj31.trans (sj32.trans (sj33.trans sj34)))))))))))))))))) _ _ hj15), List.mem_of_getElem? (i := 6) rfl, (fun e => bj14.dr.ne nj15 e.symm)⟩
      | 7, _ => exact ⟨o18, o17, _, rfl, rfl, k30 _ _ (offT ((sj19.trans (sj20.trans (sj21.trans (sj22.trans (sj23.trans (sj24.trans (sj25.trans (sj26.trans (sj27.trans (sj28.trans (sj29.trans (sj30.trans (sj31.trans (sj32.trans (sj33.trans sj34))))))))))))))) _ _ hj18)) ((sj19.trans (sj20.trans (sj21.trans (sj22.trans (sj23.trans (sj24.trans (sj25.trans (sj26.trans (sj27.trans (sj28.trans (sj29.trans (sj30.trans (sj31.trans (sj32.trans (sj33.trans sj34))))))))))))))) _ _ hj18), k30 _ _ (fun e => bj16.dr.ne nj17 e.symm) ((sj18.trans (sj19.trans (sj20.trans (sj21.trans (sj22.trans (sj23.trans (sj24.trans (sj25.trans (sj26.trans (sj27.trans (sj28.trans (sj29.trans (sj30.trans (sj31.trans (sj32.trans (sj33.trans sj34)))))))))))))))) _ _ hj17), List.mem_of_getElem? (i := 7) rfl, (fun e => bj16.dr.ne nj17 e.symm)⟩
      | 8, _ => exact ⟨o21, o20, _, rfl, rfl, k30 _ _ (offT ((sj22.trans (sj23.trans (sj24.trans (sj25.trans (sj26.trans (sj27.trans (sj28.trans (sj29.trans (sj30.trans (sj31.trans (sj32.trans (sj33.trans sj34)))))))))))) _ _ hj21)) ((sj22.trans (sj23.trans (sj24.trans (sj25.trans (sj26.trans (sj27.trans (sj28.trans (sj29.trans (sj30.trans (sj31.trans (sj32.trans (sj33.trans sj34)))))))))))) _ _ hj21), k30 _ _ (fun e => bj19.dr.ne nj20 e.symm) ((sj21.trans (sj22.trans (sj23.trans (sj24.trans (sj25.trans (sj26.trans (sj27.trans (sj28.trans (sj29.trans (sj30.trans (sj31.trans (sj32.trans (sj33.trans sj34))))))))))))) _ _ hj20), List.mem_of_getElem? (i := 8) rfl, (fun e => bj19.dr.ne nj20 e.symm)⟩
      | 9, _ => exact ⟨o24, o23, _, rfl, rfl, k30 _ _ (offT ((sj25.trans (sj26.trans (sj27.trans (sj28.trans (sj29.trans (sj30.trans (sj31.trans (sj32.trans (sj33.trans sj34))))))))) _ _ hj24)) ((sj25.trans (sj26.trans (sj27.trans (sj28.trans (sj29.trans (sj30.trans (sj31.trans (sj32.trans (sj33.trans sj34))))))))) _ _ hj24), k30 _ _ (fun e => bj22.dr.ne nj23 e.symm) ((sj24.trans (sj25.trans (sj26.trans (sj27.trans (sj28.trans (sj29.trans (sj30.trans (sj31.trans (sj32.trans (sj33.trans sj34)))))))))) _ _ hj23), List.mem_of_getElem? (i := 9) rfl, (fun e => bj22.dr.ne nj23 e.symm)⟩
      | 10, _ => exact ⟨o29, o28, _, rfl, rfl, k30 _ _ (offT ((sj30.trans (sj31.trans (sj32.trans (sj33.trans sj34)))) _ _ hj29)) ((sj30.trans (sj31.trans (sj32.trans (sj33.trans sj34)))) _ _ hj29), k30 _ _ (fun e => bj27.dr.ne nj28 e.symm) ((sj29.trans (sj30.trans (sj31.trans (sj32.trans (sj33.trans sj34))))) _ _ hj28), List.mem_of_getElem? (i := 10) rfl, (fun e => bj27.dr.ne nj28 e.symm)⟩
      | 11, _ => exact ⟨o32, o31, _, rfl, rfl, k30 _ _ (offT ((sj33.trans sj34) _ _ hj32)) ((sj33.trans sj34) _ _ hj32), k30 _ _ (fun e => bj30.dr.ne nj31 e.symm) ((sj32.trans (sj33.trans sj34)) _ _ hj31), List.mem_of_getElem? (i := 11) rfl, (fun e => bj30.dr.ne nj31 e.symm)⟩
      | n + 12, h => exact absurd h (by omega)
    refine g_ix_l (v := .ref T) (SqL.of hcs) (atI_nat hi1) ?_
    refine g_gtup (SqT.of hT30) rfl ?_
    walk_at "go"
    clear hi1 hi2 hcs hT30
    refine g_lam b30.tb fun f5 H_f5 nf5 ef5 tf5 lf5 => ?_
    refine ⟨f5, _, _, fun E => tCallR (sp_decodeE K c) E (tCons (tOp (uAdd K) (tVar 11) (tLc (iRng1 (tCons (tC (.int 9)) tNil)) (gName 5) tYes (tCallR sp_law_below E0 (tCons (tVar 1) (tCons (tC (.int 256)) tNil))) (List.map (fun x => x.2) [(("_law_k" : Str), 5)]))) tNil), rfl, ?_, lf5, ?_⟩
    · exact body_callA DE (by decide) (lamN_by (N := N_law) (sc := defScope s_law) (by decide +kernel)) (fun _ _ _ _ _ _ => rfl) rfl rfl (fun _ _ _ _ _ _ _ rm => pa_cons (pe_op (op_addK K) (pe_var (i := 11) rfl (Or.inr (Or.inr rfl))) (pe_lc (own := [("_law_k", 5)]) (g := gName 5) (tt := tYes) rfl nd (pi_range1 rfl M.b.range (pa_cons pe_int pa_nil)) (blkOk_by (N := N_law) (by dsimp only [LamX.lamCx, LamX.lamEnv]; decide +kernel)) (fun _ _ _ _ _ => pg_name (i := 5) nd rfl (by first | exact Or.inl rfl | exact Or.inr rfl)) (fun _ _ _ _ _ => pts_nil) (fun _ _ _ _ _ => pe_callR D_law_below (rm.mono (by decide)) passN (pa_cons (pe_var (i := 1) rfl (Or.inr (Or.inr rfl))) (pa_cons pe_int pa_nil))))) pa_nil)
    refine g_tte ?_
    refine g_callR ?_
    walk_at "go"
    have b31 := b30.ext ef5 tf5
    refine n_lcR1 (by omega) (by omega) (lc_run (walk_range (lo := 0) (n := (9 : Int).toNat)) (fun i acc H' => Keep d H_f5 H' ∧ Dr H' d ∧ ∃ zs : List Int, acc = zs.map V.int ∧ zs.length = i) ?_ (fun _ _ _ _ _ _ _ => trivial) ?_ ?_)
    · exact fun C H' nC s' hC => ⟨Same.keep s', b31.dr.same s', [], rfl, rfl⟩
    · rintro C i acc x Ha Hb nC hi hla hC ⟨kp, dd, zs, rfl, zl⟩ ⟨eH, ex⟩
      subst eH ex
      have Cd : C ≠ d := fun e => b31.dr.ne nC e.symm
      walk_at "go"
      refine ⟨rfl, ?_⟩
      walk_at "go"
      refine ⟨d, 256, rfl, dd, by decide, by decide, fun Hc rc ac lc kc dc => ?_⟩
      refine n_lcK (kc _ _ Cd hC) (by rw [List.length_map]; omega) (by omega) fun Hd kd hd => ⟨fun b u nb hb => kd _ _ (ne_of_none hb nC) (kc _ _ nb (kp _ _ nb hb)), Dr.keep kd (fun e => Cd e.symm) dc, zs ++ [rc], by rw [List.map_append]; rfl, by simp [zl]⟩
    rintro zl5 acc5 H32 nzl5 hzl5 ⟨k32, d32, zs5, rfl, zlen5⟩
    have b32 := b31.keep k32 d32
    have hL32 : H32 L = some (.lst (x.1.map V.int)) := k32 _ _ Ld (ef5 _ _ hL30 nofun)
    have z9 : zs5.length = 9 := by rw [zlen5]; rfl
    have xl := cases_len x xm
    refine g_add_l hL32 hzl5 (by simp only [List.length_map, sizeLine_eq]; omega) fun bx H33 nbx s33 hbx => ?_
    rw [← List.map_append] at hbx
    walk_at "go"
    refine ⟨bx, _, _, rfl, hbx, cases_ok zs5 x xm, fun Hx5 cls5 dd5 sx5 ea5 => ?_⟩
    refine ⟨.dec x.2, ea5, fun Hv5 v5 sv5 dv5 => ?_⟩
    walk_at "go"
    try refine g_len_l (SqL.of (b32.same ((s33.trans sx5).trans sv5)).at_) ?_
    walk_at "go"
    refine n_tup (by simp [sizeLine_eq]) fun tq5 Ht5 ntq5 st5 htq5 => ?_
    refine g_ne_d (ErrK.dat (.dec x.2)) (ErrK.dat (.dec x.2)) (st5.dp dv5) (dp_tup htq5 (.cons (.str _) (.cons (.int _) .nil))) ((sh_dec _).ok (by decide)) ((sh_dec _).ok (by decide)) ?_
    rw [eqv_refl (sh_dec _)]
    walk_at "go"
    refine if_F rfl ?_
    walk_at "go"
    have b34 := b32.same ((s33.trans sx5).trans (sv5.trans st5))
    refine n_tup (by simp [sizeLine_eq]) fun o35 J35 nj35 sj35 hj35 => ?_
    walk_at "go"
    have bj35 := b34.same sj35
    refine n_tup (by simp [sizeLine_eq]) fun o36 J36 nj36 sj36 hj36 => ?_
    walk_at "go"
    have bj36 := bj35.same sj36
    refine n_tup (by simp [sizeLine_eq]) fun o37 J37 nj37 sj37 hj37 => ?_
    walk_at "go"
    have bj37 := bj36.same sj37
    refine n_tup (by simp [sizeLine_eq]) fun o38 J38 nj38 sj38 hj38 => ?_
    walk_at "go"
    have bj38 := bj37.same sj38
    refine n_lst (by simp [sizeLine_eq]) fun o39 J39 nj39 sj39 hj39 => ?_
    walk_at "go"
    have bj39 := bj38.same sj39
    have hgood : DpAll K J39 [V.ref o35, V.ref o36, V.ref o37, V.ref o38] (good4.map pField) := (.cons (dp_tup ((sj36.trans (sj37.trans (sj38.trans sj39))) _ _ hj35) (.cons (.str _) (.cons (.int _) .nil))) (.cons (dp_tup ((sj37.trans (sj38.trans sj39)) _ _ hj36) (.cons (.str _) (.cons (.int _) .nil))) (.cons (dp_tup ((sj38.trans sj39) _ _ hj37) (.cons (.str _) (.cons (.int _) .nil))) (.cons (dp_tup (sj39 _ _ hj38) (.cons (.str _) (.cons (.int _) .nil))) .nil))))
    refine ⟨_, good4, rfl, dp_lst hj39 hgood, good_ok, fun H40 pb s40 npb hpb => ?_⟩
    walk_at "go"
    refine ⟨pb, good4, rfl, hpb, good_ok, fun H41 pf s41 npf hfa => ?_⟩
    walk_at "go"
    obtain ⟨dx, tf, hpf, hv⟩ := hfa
    refine n_prop hpf ⟨pf, dx, tf, rfl, hpf, ?_⟩
    walk_at "go"
    have s4041 := s40.trans s41
    refine g_tupOf_l (SqL.of (s4041 _ _ hj39)) fun tp H42 ntp s42 htp => ?_
    refine g_eq_d _ _ (s42.dp hv) (dp_tup htp (s42.dpa (s4041.dpa hgood))) ((sh_fields good_ok.nm).ok (by decide)) ((sh_fields good_ok.nm).ok (by decide)) ?_
    rw [eqv_refl (sh_fields good_ok.nm)]
    exact kq _
end

end
abbrev s_DecodeError___init__ : Stmt := inClass (top 11) 0
abbrev N_DecodeError___init__ : List Str := ["self", "offset"]
theorem sc_DecodeError___init__ : FnScope N_DecodeError___init__ ["self", "offset"] (defScope s_DecodeError___init__) := ⟨rfl, rfl, rfl, by decide +kernel, rfl, by decide +kernel, by decide +kernel⟩
section
variable {P : Program} {w : World} {K : PySem.W.Frag}
variable {mg : Str → Option Value} {base : Heap}
section
variable {C fI : Addr} {fd : FuncData}
theorem ok_excD (T : OexC K C) (no : PySem.W.findIn K (.ref C) "offset" = some none) (V : InitV K mg "FarmError") (at_ : mg "DecodeError" = some (.ref C)) (i1 : PySem.W.findIn K (.ref C) "__init__" = some (some (.ref fI))) (i2 : PySem.W.typeIn K (.ref fI) = some (.type "function"))
    (F : FnD K "__init__" "DecodeError.__init__" s_DecodeError___init__ fI fd) : ExcR P w K mg base "DecodeError" C 2 "offset" := by
  refine ⟨at_, T, fI, fd, i1, i2, init1_ok T no V F sc_DecodeError___init__ rfl (Or.inl rfl) (Or.inl rfl) (by decide) (by decide) (by decide) _ (fun _ => rfl), ?_⟩
  obtain ⟨oc, od, dV, kV, doc, pm, an, cdv, ct, osl, rfl, lk, hcd, dfl, _⟩ := F.ex
  have dn : dV = .none := dfl.elim (fun z => z.2) (fun z => absurd rfl z.1)
  subst dn
  refine ⟨fun s us ws _ l1 l2 => BindsTo.of_looks fun M => ?_, fun r1 r2 => r1.append r2⟩
  match us, ws, l1, l2 with
  | [u], [v], _, _ => exact PySem.W.Looks.of_pure rfl
end

end
section
end
end HC
namespace HC
open PyProof.Rows PySem L2 PySem.Spec

def endFx : List Tst := [fun K => propB K (He.ga K "Farm") "fields",
  fun K => gconB K (He.ga K "Farm") "MAX_FIELDS" (.int 6),
  fun K => gconB K (He.ga K "Farm") "MAX_STATES" (.int 4000),
  fun K => errB K (He.ga K "FarmError"),
  fun K => initB K (He.ga K "FarmError"),
  fun K => oexB K (He.ga K "DecodeError"),
  fun K => He.eqO (PySem.W.findIn K (.ref (He.ga K "DecodeError")) "__init__") (some (some (.ref (He.ma K (He.ga K "DecodeError") "__init__")))),
  fun K => decide (PySem.W.typeIn K (.ref (He.ma K (He.ga K "DecodeError") "__init__")) = some (.type "function"))]
def endFa : List He.Fa := [.free "len",
  .free "abs",
  .free "min",
  .free "max",
  .free "all",
  .free "any",
  .free "sum",
  .free "isinstance",
  .free "list",
  .free "tuple",
  .free "int",
  .free "str",
  .free "bool",
  .free "dict",
  .free "range",
  .free "enumerate",
  .free "zip",
  .free "sorted",
  .free "set",
  .free "ValueError",
  .str "LETTERS" "abcdefghijklmnopqrstuvwxyz",
  .int "MAX_LETTERS" 8,
  .int "MAX_LIMIT" 30,
  .int "TAG" 72,
  .int "MODULUS" 233,
  .glo "Farm",
  .cls "Farm",
  .glo "Decoder",
  .cls "Decoder",
  .glo "is_name",
  .glo "checksum",
  .glo "encode_farm",
  .glo "decode_farm",
  .glo "_law_random",
  .glo "_law_bytes",
  .glo "_law_farm",
  .glo "_law_below",
  .glo "_law_shuffled",
  .glo "_law_fields",
  .glo "_law_error_of",
  .glo "law",
  .glo "FarmError",
  .glo "InvalidCart",
  .glo "InvalidOperation",
  .glo "InvalidText",
  .glo "DecodeError",
  .glo "UnknownField",
  .glo "InvalidNumber",
  .glo "InvalidPlan",
  .noat "Farm" "rows",
  .noat "Decoder" "data",
  .noat "Decoder" "place",
  .meth "Farm" "__len__",
  .meth "Decoder" "take",
  .meth "Decoder" "take_field",
  .mkr "Farm",
  .mkr "Decoder"]
def endFn : List He5.DefA := [⟨fun K => He.ga K "is_name", "is_name", "is_name", defArgs s_is_name, defBody s_is_name, defScope s_is_name, [], []⟩,
  ⟨fun K => He.ga K "checksum", "checksum", "checksum", defArgs s_checksum, defBody s_checksum, defScope s_checksum, [], []⟩,
  ⟨fun K => He.ga K "encode_farm", "encode_farm", "encode_farm", defArgs s_encode_farm, defBody s_encode_farm, defScope s_encode_farm, [], []⟩,
  ⟨fun K => He.ga K "decode_farm", "decode_farm", "decode_farm", defArgs s_decode_farm, defBody s_decode_farm, defScope s_decode_farm, [], []⟩,
  ⟨fun K => He.ga K "_law_random", "_law_random", "_law_random", defArgs s_law_random, defBody s_law_random, defScope s_law_random, [], []⟩,
  ⟨fun K => He.ga K "_law_bytes", "_law_bytes", "_law_bytes", defArgs s_law_bytes, defBody s_law_bytes, defScope s_law_bytes, [], []⟩,
  ⟨fun K => He.ga K "_law_farm", "_law_farm", "_law_farm", defArgs s_law_farm, defBody s_law_farm, defScope s_law_farm, [], []⟩,
  ⟨fun K => He.ga K "_law_below", "_law_below", "_law_below", defArgs s_law_below, defBody s_law_below, defScope s_law_below, [], []⟩,
  ⟨fun K => He.ga K "_law_shuffled", "_law_shuffled", "_law_shuffled", defArgs s_law_shuffled, defBody s_law_shuffled, defScope s_law_shuffled, [], []⟩,
  ⟨fun K => He.ga K "_law_fields", "_law_fields", "_law_fields", defArgs s_law_fields, defBody s_law_fields, defScope s_law_fields, [], []⟩,
  ⟨fun K => He.ga K "_law_error_of", "_law_error_of", "_law_error_of", defArgs s_law_error_of, defBody s_law_error_of, defScope s_law_error_of, [], []⟩,
  ⟨fun K => He.ga K "law", "law", "law", defArgs s_law, defBody s_law, defScope s_law, [], []⟩,
  ⟨fun K => He.ma K (He.ga K "Farm") "__len__", "__len__", "Farm.__len__", defArgs s_Farm___len__, defBody s_Farm___len__, defScope s_Farm___len__, [], []⟩,
  ⟨fun K => He.ma K (He.ga K "Decoder") "take", "take", "Decoder.take", defArgs s_Decoder_take, defBody s_Decoder_take, defScope s_Decoder_take, [], []⟩,
  ⟨fun K => He.ma K (He.ga K "Decoder") "take_field", "take_field", "Decoder.take_field", defArgs s_Decoder_take_field, defBody s_Decoder_take_field, defScope s_Decoder_take_field, [], []⟩,
  ⟨fun K => He.ma K (He.ga K "Farm") "__init__", "__init__", "Farm.__init__", defArgs s_Farm___init__, defBody s_Farm___init__, defScope s_Farm___init__, [], []⟩,
  ⟨fun K => He.ma K (He.ga K "Decoder") "__init__", "__init__", "Decoder.__init__", defArgs s_Decoder___init__, defBody s_Decoder___init__, defScope s_Decoder___init__, [], []⟩,
  ⟨fun K => pgA K (He.ga K "Farm") "fields", "fields", "Farm.fields", defArgs s_Farm_fields, defBody s_Farm_fields, defScope s_Farm_fields, [], []⟩,
  ⟨fun K => He.ma K (He.ga K "DecodeError") "__init__", "__init__", "DecodeError.__init__", defArgs s_DecodeError___init__, defBody s_DecodeError___init__, defScope s_DecodeError___init__, [], []⟩]
def endTf : List He.Defn := [("law", none)]
abbrev endR : PySem.W.OpenRow := PySem.W.OpenLaw.row PySem.Challenge.rw_harvestcarts_k42_invalid_bytes
abbrev endHk : PySem.W.Hook := hookL 5 endFx endFa endFn endTf
def endOb (s : PySem.W.SharedT) : He.AlD × Bool := obsLG 5 endFx endFa endFn endTf (HandSHeadRun.getT s)
theorem endOb_eq (s : PySem.W.SharedT) : endOb s = endHk.obs s.abs := obsLG_eq (HandSHeadRun.getT_eq s)
def endNames0 : List Str := ["_wall", "FarmError", "InvalidFarm", "TooManyStates", "UnknownField", "InvalidPlan", "InvalidNumber", "InvalidCart", "InvalidOperation", "InvalidText", "DecodeError", "LETTERS", "MAX_LETTERS", "MAX_LIMIT", "is_name", "Farm", "TAG", "MODULUS", "checksum", "encode_farm"]
def endNames1 : List Str := ["Decoder", "decode_farm", "_law_random", "_law_bytes", "_law_farm", "_law_below", "_law_shuffled", "_law_fields", "_law_error_of"]
def endNames : List Str := endNames0 ++ endNames1
theorem endRun (w : World) : HandSHeadRun.RunEq endR (PySem.W.view endR.prog [33]) endHk endOb 40000 endNames w := by
  intro os
  kernel_rfl
theorem endFacts {P : Program} {w : World} {K : PySem.W.Frag} {h : Heap} {mg : Str → Option Value} {f : Addr} (X : K.In h) (G : h.Ns mainGlobals mg) (hfa : mg ("law" : Str) = some (.ref f)) (cc : SaysL endFx endFa endFn endTf h K) :
    ∃ fd : FuncData, (∀ (s : Shared) (v : Value), BindsTo s fd ⟨[v], []⟩ [("_law_script", v)]) ∧ ∀ base : Heap, K.In base → base.Ns mainGlobals mg → (∀ p ∈ endTf.map (He.cT K), LamX.TabB base mg p.1 p.2) → FnOk P w K mg base CX0 14 f fd ["_law_script"] (sp_law K (He.cT K ("law", none)).2) := by
  have c := cc.j
  have hB : Bts mg := ⟨He.free_ok X G (c.base.fact 0 rfl), He.free_ok X G (c.base.fact 1 rfl), He.free_ok X G (c.base.fact 2 rfl), He.free_ok X G (c.base.fact 3 rfl), He.free_ok X G (c.base.fact 4 rfl), He.free_ok X G (c.base.fact 5 rfl), He.free_ok X G (c.base.fact 6 rfl), He.free_ok X G (c.base.fact 7 rfl), He.free_ok X G (c.base.fact 8 rfl), He.free_ok X G (c.base.fact 9 rfl), He.free_ok X G (c.base.fact 10 rfl), He.free_ok X G (c.base.fact 11 rfl), He.free_ok X G (c.base.fact 12 rfl), He.free_ok X G (c.base.fact 13 rfl), He.free_ok X G (c.base.fact 14 rfl), He.free_ok X G (c.base.fact 15 rfl), He.free_ok X G (c.base.fact 16 rfl), He.free_ok X G (c.base.fact 17 rfl), He.free_ok X G (c.base.fact 18 rfl)⟩
  have g_Farm : mg "Farm" = some (.ref (He.ga K "Farm")) := He.glo_ok X G (c.base.fact 25 rfl)
  have g_Decoder : mg "Decoder" = some (.ref (He.ga K "Decoder")) := He.glo_ok X G (c.base.fact 27 rfl)
  have g_FarmError : mg "FarmError" = some (.ref (He.ga K "FarmError")) := He.glo_ok X G (c.base.fact 41 rfl)
  have g_InvalidCart : mg "InvalidCart" = some (.ref (He.ga K "InvalidCart")) := He.glo_ok X G (c.base.fact 42 rfl)
  have g_InvalidOperation : mg "InvalidOperation" = some (.ref (He.ga K "InvalidOperation")) := He.glo_ok X G (c.base.fact 43 rfl)
  have g_InvalidText : mg "InvalidText" = some (.ref (He.ga K "InvalidText")) := He.glo_ok X G (c.base.fact 44 rfl)
  have g_DecodeError : mg "DecodeError" = some (.ref (He.ga K "DecodeError")) := He.glo_ok X G (c.base.fact 45 rfl)
  have g_UnknownField : mg "UnknownField" = some (.ref (He.ga K "UnknownField")) := He.glo_ok X G (c.base.fact 46 rfl)
  have g_InvalidNumber : mg "InvalidNumber" = some (.ref (He.ga K "InvalidNumber")) := He.glo_ok X G (c.base.fact 47 rfl)
  have g_InvalidPlan : mg "InvalidPlan" = some (.ref (He.ga K "InvalidPlan")) := He.glo_ok X G (c.base.fact 48 rfl)
  have M : Md K mg := ⟨hB, He.str_ok X G (c.base.fact 20 rfl), He.int_ok X G (c.base.fact 21 rfl), He.int_ok X G (c.base.fact 22 rfl), He.int_ok X G (c.base.fact 23 rfl), He.int_ok X G (c.base.fact 24 rfl), gconB_ok g_Farm (c.more 1 rfl), gconB_ok g_Farm (c.more 2 rfl)⟩
  have cl_Farm : Cls K (He.ga K "Farm") := He.cls_ok (c.base.fact 26 rfl)
  have cl_Decoder : Cls K (He.ga K "Decoder") := He.cls_ok (c.base.fact 28 rfl)
  have na_Farm_rows : NoAttr K (He.ga K "Farm") "rows" := He.noat_ok (c.base.fact 49 rfl)
  have na_Decoder_data : NoAttr K (He.ga K "Decoder") "data" := He.noat_ok (c.base.fact 50 rfl)
  have na_Decoder_place : NoAttr K (He.ga K "Decoder") "place" := He.noat_ok (c.base.fact 51 rfl)
  have G_is_name : Gd K mg "is_name" s_is_name := by
    obtain ⟨fd, F⟩ := c.base.def_ 0 rfl
    exact ⟨_, fd, He.glo_ok X G (c.base.fact 29 rfl), F⟩
  have G_checksum : Gd K mg "checksum" s_checksum := by
    obtain ⟨fd, F⟩ := c.base.def_ 1 rfl
    exact ⟨_, fd, He.glo_ok X G (c.base.fact 30 rfl), F⟩
  have G_encode_farm : Gd K mg "encode_farm" s_encode_farm := by
    obtain ⟨fd, F⟩ := c.base.def_ 2 rfl
    exact ⟨_, fd, He.glo_ok X G (c.base.fact 31 rfl), F⟩
  have G_decode_farm : Gd K mg "decode_farm" s_decode_farm := by
    obtain ⟨fd, F⟩ := c.base.def_ 3 rfl
    exact ⟨_, fd, He.glo_ok X G (c.base.fact 32 rfl), F⟩
  have G_law_random : Gd K mg "_law_random" s_law_random := by
    obtain ⟨fd, F⟩ := c.base.def_ 4 rfl
    exact ⟨_, fd, He.glo_ok X G (c.base.fact 33 rfl), F⟩
  have G_law_bytes : Gd K mg "_law_bytes" s_law_bytes := by
    obtain ⟨fd, F⟩ := c.base.def_ 5 rfl
    exact ⟨_, fd, He.glo_ok X G (c.base.fact 34 rfl), F⟩
  have G_law_farm : Gd K mg "_law_farm" s_law_farm := by
    obtain ⟨fd, F⟩ := c.base.def_ 6 rfl
    exact ⟨_, fd, He.glo_ok X G (c.base.fact 35 rfl), F⟩
  have G_law_below : Gd K mg "_law_below" s_law_below := by
    obtain ⟨fd, F⟩ := c.base.def_ 7 rfl
    exact ⟨_, fd, He.glo_ok X G (c.base.fact 36 rfl), F⟩
  have G_law_shuffled : Gd K mg "_law_shuffled" s_law_shuffled := by
    obtain ⟨fd, F⟩ := c.base.def_ 8 rfl
    exact ⟨_, fd, He.glo_ok X G (c.base.fact 37 rfl), F⟩
  have G_law_fields : Gd K mg "_law_fields" s_law_fields := by
    obtain ⟨fd, F⟩ := c.base.def_ 9 rfl
    exact ⟨_, fd, He.glo_ok X G (c.base.fact 38 rfl), F⟩
  have G_law_error_of : Gd K mg "_law_error_of" s_law_error_of := by
    obtain ⟨fd, F⟩ := c.base.def_ 10 rfl
    exact ⟨_, fd, He.glo_ok X G (c.base.fact 39 rfl), F⟩
  have G_Farm___len__ : Gm K (He.ga K "Farm") "__len__" "Farm.__len__" s_Farm___len__ := by
    obtain ⟨fd, F⟩ := c.base.def_ 12 rfl
    exact ⟨cl_Farm, _, fd, He.meth_ok (c.base.fact 52 rfl), F⟩
  have G_Decoder_take : Gm K (He.ga K "Decoder") "take" "Decoder.take" s_Decoder_take := by
    obtain ⟨fd, F⟩ := c.base.def_ 13 rfl
    exact ⟨cl_Decoder, _, fd, He.meth_ok (c.base.fact 53 rfl), F⟩
  have G_Decoder_take_field : Gm K (He.ga K "Decoder") "take_field" "Decoder.take_field" s_Decoder_take_field := by
    obtain ⟨fd, F⟩ := c.base.def_ 14 rfl
    exact ⟨cl_Decoder, _, fd, He.meth_ok (c.base.fact 54 rfl), F⟩
  have G_Farm_init : Gk K mg "Farm" (He.ga K "Farm") "Farm.__init__" s_Farm___init__ := by
    obtain ⟨fd, F⟩ := c.base.def_ 15 rfl
    exact ⟨g_Farm, _, fd, He.mkr_ok (c.base.fact 55 rfl), F⟩
  have G_Decoder_init : Gk K mg "Decoder" (He.ga K "Decoder") "Decoder.__init__" s_Decoder___init__ := by
    obtain ⟨fd, F⟩ := c.base.def_ 16 rfl
    exact ⟨g_Decoder, _, fd, He.mkr_ok (c.base.fact 56 rfl), F⟩
  have G_Farm_fields : Gp K (He.ga K "Farm") "fields" "Farm.fields" s_Farm_fields := by
    obtain ⟨fd, F⟩ := c.base.def_ 17 rfl
    exact ⟨cl_Farm, _, _, fd, propB_ok (c.more 0 rfl), F⟩
  obtain ⟨fd, F⟩ := c.base.def_ 11 rfl
  have e := hfa.symm.trans (He.glo_ok X G (c.base.fact 40 rfl))
  cases e
  have b := FunD.bindsA (ps := ["_law_script"]) F fun _ _ _ _ _ _ us hl => match us, hl with | [_], _ => rfl
  refine ⟨fd, fun s v => b s [v] rfl, fun base _ _ tabs => ?_⟩
  have FC : FarmC K (He.ga K "Farm") := ⟨cl_Farm, na_Farm_rows⟩
  have DC : DecC K (He.ga K "Decoder") := ⟨cl_Decoder, na_Decoder_data, na_Decoder_place⟩
  have EF : ErrF K mg (errCs K) (He.ga K "FarmError") := errB_ok (c.more 3 rfl) g_FarmError (fun j => match j with | 0 => g_InvalidCart | 1 => g_InvalidOperation | 2 => g_InvalidText | 3 => g_DecodeError | 4 => g_UnknownField | 5 => g_InvalidNumber | 6 => g_InvalidPlan) (He.free_ok X G (c.base.fact 19 rfl))
  have IV : InitV K mg "FarmError" := initB_ok g_FarmError (c.more 4 rfl)
  obtain ⟨fdd, FD⟩ := c.base.def_ 18 rfl
  have RD : ExcR P w K mg base "DecodeError" (errCs K 3) 2 "offset" := ok_excD (oexB_ok (c.more 5 rfl)) EF.no3 IV g_DecodeError (He.eqO_ok (c.more 6 rfl)) (of_decide_eq_true (c.more 7 rfl)) FD
  have D1 : DefR P w K mg base "_law_below" 2 sp_law_below := ok_law_below M G_law_below
  have D2 : DefR P w K mg base "_law_random" 2 (sp_law_random K) := ok_law_random M G_law_random
  have D3 := ok_law_shuffled M G_law_shuffled D1
  have D4 := ok_law_fields M G_law_fields D1 D3
  have D5 : DefR P w K mg base "_law_bytes" 2 (sp_law_bytes K) := ok_law_bytes M G_law_bytes
  have D6 : DefR P w K mg base "checksum" 2 (sp_checksum K) := ok_checksum M G_checksum
  have D7 : DefR P w K mg base "is_name" 2 sp_is_name := ok_is_name M G_is_name
  have K1 := ok_farm_init M FC G_Farm_init D7
  have P1 : PropR P w K mg base (He.ga K "Farm") "fields" 2 (sp_farm_fields K (He.ga K "Farm")) := ok_farm_fields FC G_Farm_fields
  have M1 : MethR P w K mg base (He.ga K "Farm") "__len__" 2 (sp_farm_len K (He.ga K "Farm")) := ok_farm_len M FC G_Farm___len__
  have D8 := ok_encode_farm M G_encode_farm D6 P1 M1
  have K2 : MakeR P w K mg base "Decoder" (He.ga K "Decoder") 2 (sp_dec_init (He.ga K "Decoder")) := ok_dec_init DC G_Decoder_init
  have M2 : MethR P w K mg base (He.ga K "Decoder") "take" 2 (sp_take K (He.ga K "Decoder")) := ok_take M DC G_Decoder_take
  have M3 := ok_take_field M DC G_Decoder_take_field M2
  have D9 := ok_decode_farm M DC FC G_decode_farm D6 K2 K1 M2 M3
  have D10 := ok_law_farm M G_law_farm D5 D9
  have M4 := ok_takeE M DC RD G_Decoder_take
  have M5 := ok_take_fieldE M DC RD G_Decoder_take_field M4
  have DE := ok_decodeE M DC RD G_decode_farm D6 K2 K1 M4 M5
  obtain ⟨fo, fdo, at_err, F_err⟩ := G_law_error_of
  have B_err := F_err.bindsN (ps := ["_law_call"]) (fun _ _ _ _ _ _ us hl => match us, hl with | [_], _ => rfl)
  exact ok_law M F (tabs _ (List.mem_map.mpr ⟨("law", none), by simp [endTf], rfl⟩)) (code_at (p := ("law", none)) F) EF at_err F_err B_err D2 D1 D4 D5 D10 D8 D9 DE P1
end HC
open PySem PySem.W PySem.Calls PyProof.Rows in
set_option maxRecDepth 100000 in set_option maxHeartbeats 0 in
theorem PySem.Challenge.cw_harvestcarts_k42_invalid_bytes_holds : PySem.Challenge.rw_harvestcarts_k42_invalid_bytes.Holds := by
  w_on; o_law
  refine HandSHeadRun.head_any (r := OpenLaw.row PySem.Challenge.rw_harvestcarts_k42_invalid_bytes) (q := view (OpenLaw.row PySem.Challenge.rw_harvestcarts_k42_invalid_bytes).prog [33]) (H := HC.endHk) (ob := HC.endOb) (M := 40000) (loose := HC.endNames) (d := HandSHeadRun.topDef (OpenLaw.row PySem.Challenge.rw_harvestcarts_k42_invalid_bytes).prog 33) (kwd := []) HC.endOb_eq
    (by kernel_rfl) (fun s => by kernel_rfl) HC.endRun (by kernel_rfl) (by kernel_rfl) (by kernel_rfl) (by rfl) (by first | assumption | decide +kernel) (by decide +kernel) ⟨rfl, rfl, rfl, rfl, rfl, by decide +kernel⟩ ?hw ?hc
  case hw => w_witness2
  case hc =>
    refine LamX.walk_ofTsE (l := PySem.Challenge.rw_harvestcarts_k42_invalid_bytes) (n := 63) (k := 14) (x := "_law_script") (CX := fun _ => L2.CX0) rfl (by decide) (by kernel_rfl) ⟨rfl, by decide, by decide⟩ ?F (fun _ _ _ _ _ z => z)
    intro w mg fa h Y G hmg0
    obtain ⟨K, KX, c⟩ := Y
    have hmg : mg (PySem.Str.ofString "law") = some (.ref fa) := by
      have e : (HandSHeadRun.topDef (OpenLaw.row PySem.Challenge.rw_harvestcarts_k42_invalid_bytes).prog 33).name = ("law" : PySem.Str) := by kernel_rfl
      rw [← e]
      exact hmg0
    obtain ⟨fd, hb, hF⟩ := HC.endFacts (P := (PySem.Challenge.rw_harvestcarts_k42_invalid_bytes).prog) (w := w) KX G hmg c
    have back : ∀ {p : Addr × Addr}, p ∈ HC.endTf.map (He.cT K) → ∃ q ∈ HC.endTf, He.cT K q = p := fun hp => List.mem_map.mp hp
    refine ⟨K, KX, fd, HC.endTf.map (He.cT K), HC.sp_law K (He.cT K ("law", none)).2, fun p hp => ?_, fun p hp => ?_, fun p hp => ?_, hb, fun H a ns hl _ hTb hS => ⟨a, ns, rfl, hS, hl, hTb _ (List.mem_map.mpr ⟨("law", none), by simp [HC.endTf], rfl⟩), fun _ => rfl⟩, hF⟩
    · obtain ⟨q, hq, rfl⟩ := back hp; exact c.empty q hq
    · obtain ⟨q, hq, rfl⟩ := back hp; exact c.out q hq
    · obtain ⟨q, hq, rfl⟩ := back hp; exact codeHd_of_K KX (c.hd q hq)
namespace HC
section

end
end HC
